/- The functions that the law reaches, as plain Lean functions, each with the proof that the Go code comes to its answers; conditions: those that each theorem names. (printed by a program of this session) -/
import Derived.Test.YtegkplalnljgjaaProg
import Derived.Below
import Derived.Deep.Draws
import Derived.Deep.AppendLies
import Derived.Maps.AppendAt
import Derived.OwnWalk
import Derived.Laws.BytesArg
import Derived.Laws.MakeOwn
import Derived.Laws.OwnMore
import Derived.Deep.OwnRows
import Derived.Tactics
import Derived.Lib.ConvBytes
import Derived.Laws.Slices
import Derived.WalkKit
import Derived.KernelRfl
import Derived.RowKit3
import Derived.Deep.LoopGhost
import Derived.Deep.QuietTactic
import Derived.BigQuiet
import Derived.WideLaws
import Derived.Deep.DeepCutAuto
import Derived.Deep.CutBlock
import Derived.Deep.RegionHeld3
import Derived.Laws.Rows
import Derived.Lib.AppendStr
import Derived.ArgAppend
import Derived.Laws.IdiomCopy
import Derived.OrdersHeld
import Derived.Laws.BitsLemmas
import Derived.RowKit
import Derived.Lib.SliceRun
import Derived.Shelf.Spec.SlicesInsert
import Derived.Shelf.Spec.SlicesInsertGrow
import Derived.Test.YtegkplalnljgjaaVFnExactAcceptSeqWWords
import Derived.Test.YtegkplalnljgjaaVFnExactAcceptSeqWLast
import Derived.Test.YtegkplalnljgjaaVFnExactAcceptSeqWTab
import Derived.Test.YtegkplalnljgjaaVFnExactAcceptSeqWFour
import Derived.Test.YtegkplalnljgjaaVFnExactAcceptSeqWQPut
import Derived.Test.YtegkplalnljgjaaVFnExactAcceptSeqWApart
import Derived.Test.YtegkplalnljgjaaVFnExactAcceptSeqWArr
import Derived.Test.YtegkplalnljgjaaVFnExactAcceptSeqWZeros
import Derived.Test.YtegkplalnljgjaaVFnExactAcceptSeqWFoot
import Derived.Test.YtegkplalnljgjaaVFnExactAcceptSeqWKept
import Derived.Test.YtegkplalnljgjaaVFnExactAcceptSeqWShare
import Derived.Test.YtegkplalnljgjaaVFnExactAcceptSeqWN
import Derived.Test.YtegkplalnljgjaaVFnExactAcceptSeqWFootNe
import Derived.Test.YtegkplalnljgjaaVFnExactAcceptSeqWAt
import Derived.Test.YtegkplalnljgjaaVFnExactAcceptSeqWEqStruct
import Derived.Test.YtegkplalnljgjaaVFnExactAcceptSeqWRepsOne
import Derived.Test.YtegkplalnljgjaaVFnExactAcceptSeqWInv
import Derived.Test.YtegkplalnljgjaaVFnExactAcceptSeqWInvWords
import Derived.Test.YtegkplalnljgjaaVFnExactAcceptSeqWGuard
import Derived.Test.YtegkplalnljgjaaVFnExactAcceptSeqWNEv
import Derived.Test.YtegkplalnljgjaaVFnExactAcceptSeqWMore
namespace Go.Proofs.Ytegkplalnljgjaa.PFnExactAcceptSeq
open Go.RowKit Go.Proofs.YtegkplalnljgjaaW.PrintWords Go.Proofs.YtegkplalnljgjaaW.PrintLast Go.Proofs.YtegkplalnljgjaaW.PrintMore
attribute [local go_sem] max2_int min2_int max_two min_two max_three min_three max_four min_four   -- for this text's walks alone
set_option linter.unusedVariables false
set_option linter.unusedSimpArgs false



def errW : Option Int → Value
  | none => .nilIface
  | some c => .iface 0 (.int .i64 c)
theorem errW_none : errW none = .nilIface := rfl
theorem errW_some (c : Int) : errW (some c) = .iface 0 (.int .i64 c) := rfl

theorem info3 : (Try.prog.info? 3).map (fun i => (i.zero, i.size, i.bytes)) = some (some (.int .i64 0), 1, 8) := by kernel_rfl
-- the values' own types

end Go.Proofs.Ytegkplalnljgjaa.PFnExactAcceptSeq
