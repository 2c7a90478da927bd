/- The functions that the law reaches, as plain Lean functions, each with the proof that the Go code comes to its answers; conditions: those that each theorem names. (printed by a program of this session) -/
import Derived.Test.YtegkplalnljgjaaProg
import Derived.Below
import Derived.Deep.Draws
import Derived.Deep.AppendLies
import Derived.Maps.AppendAt
import Derived.OwnWalk
import Derived.Laws.BytesArg
import Derived.Laws.MakeOwn
import Derived.Laws.OwnMore
import Derived.Deep.OwnRows
import Derived.Tactics
import Derived.Lib.ConvBytes
import Derived.Laws.Slices
import Derived.WalkKit
import Derived.KernelRfl
import Derived.RowKit3
import Derived.Deep.LoopGhost
import Derived.Deep.QuietTactic
import Derived.BigQuiet
import Derived.WideLaws
import Derived.Deep.DeepCutAuto
import Derived.Deep.CutBlock
import Derived.Deep.RegionHeld3
import Derived.Laws.Rows
import Derived.Lib.AppendStr
import Derived.ArgAppend
import Derived.Laws.IdiomCopy
import Derived.OrdersHeld
import Derived.Laws.BitsLemmas
import Derived.RowKit
import Derived.Lib.SliceRun
import Derived.Shelf.Spec.SlicesInsert
import Derived.Shelf.Spec.SlicesInsertGrow
import Derived.Test.YtegkplalnljgjaaVFnExactAcceptAllWWords
import Derived.Test.YtegkplalnljgjaaVFnExactAcceptAllWLast
import Derived.Test.YtegkplalnljgjaaVFnExactAcceptAllWTab
import Derived.Test.YtegkplalnljgjaaVFnExactAcceptAllWFour
import Derived.Test.YtegkplalnljgjaaVFnExactAcceptAllWQPut
import Derived.Test.YtegkplalnljgjaaVFnExactAcceptAllWApart
import Derived.Test.YtegkplalnljgjaaVFnExactAcceptAllWArr
import Derived.Test.YtegkplalnljgjaaVFnExactAcceptAllWZeros
import Derived.Test.YtegkplalnljgjaaVFnExactAcceptAllWFoot
import Derived.Test.YtegkplalnljgjaaVFnExactAcceptAllWKept
import Derived.Test.YtegkplalnljgjaaVFnExactAcceptAllWShare
import Derived.Test.YtegkplalnljgjaaVFnExactAcceptAllWN
import Derived.Test.YtegkplalnljgjaaVFnExactAcceptAllWFootNe
import Derived.Test.YtegkplalnljgjaaVFnExactAcceptAllWAt
import Derived.Test.YtegkplalnljgjaaVFnExactAcceptAllWEqStruct
import Derived.Test.YtegkplalnljgjaaVFnExactAcceptAllWRepsOne
import Derived.Test.YtegkplalnljgjaaVFnExactAcceptAllWInv
import Derived.Test.YtegkplalnljgjaaVFnExactAcceptAllWInvWords
import Derived.Test.YtegkplalnljgjaaVFnExactAcceptAllWGuard
import Derived.Test.YtegkplalnljgjaaVFnExactAcceptAllWNEv
import Derived.Test.YtegkplalnljgjaaVFnExactAcceptAllWMore
namespace Go.Proofs.Ytegkplalnljgjaa.PFnExactAcceptAll
open Go.RowKit Go.Proofs.YtegkplalnljgjaaW.PrintWords Go.Proofs.YtegkplalnljgjaaW.PrintLast Go.Proofs.YtegkplalnljgjaaW.PrintMore
attribute [local go_sem] max2_int min2_int max_two min_two max_three min_three max_four min_four   -- for this text's walks alone
set_option linter.unusedVariables false
set_option linter.unusedSimpArgs false



def errW : Option Int → Value
  | none => .nilIface
  | some c => .iface 0 (.int .i64 c)
theorem errW_none : errW none = .nilIface := rfl
theorem errW_some (c : Int) : errW (some c) = .iface 0 (.int .i64 c) := rfl

theorem info3 : (Try.prog.info? 3).map (fun i => (i.zero, i.size, i.bytes)) = some (some (.int .i64 0), 1, 8) := by kernel_rfl
-- the values' own types

end Go.Proofs.Ytegkplalnljgjaa.PFnExactAcceptAll
