/- What is asked of the numbers inside the law's arguments: each is of its kind. No condition. -/
import Derived.Test.YtegkplalnljgjaaPFnExactAcceptSeqx7
namespace Go.Proofs.Ytegkplalnljgjaa.PureFnExactAcceptSeq
open Go.RowKit Go.Proofs.Ytegkplalnljgjaa.PFnExactAcceptSeq Go.Proofs.YtegkplalnljgjaaW.PrintWords Go.Proofs.YtegkplalnljgjaaW.PrintLast

/-- The pure statement. -/
def Stated : Prop := ∀ (a0_0 : Int) (a0_1 : Int) (l0_2 : List Int) (a1 : Int), (Lit.int .i64 a0_0).wf = true → (Lit.int .i64 a0_1).wf = true → (l0_2.length ≤ maxLen ∧ ∀ e_ ∈ l0_2, (Lit.int .i64 e_).wf = true) → (Lit.int .i64 a1).wf = true → ∃ k, laws_FnExactAcceptSeq.f k a0_0 a0_1 l0_2 a1 = some true
end Go.Proofs.Ytegkplalnljgjaa.PureFnExactAcceptSeq
