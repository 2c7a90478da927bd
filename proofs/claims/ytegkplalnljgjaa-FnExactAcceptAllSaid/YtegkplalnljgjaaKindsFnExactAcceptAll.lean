/- What is asked of the numbers inside the law's arguments: each is of its kind. No condition. -/
import Derived.Test.YtegkplalnljgjaaPFnExactAcceptAllx8
namespace Go.Proofs.Ytegkplalnljgjaa.PureFnExactAcceptAll
open Go.RowKit Go.Proofs.Ytegkplalnljgjaa.PFnExactAcceptAll Go.Proofs.YtegkplalnljgjaaW.PrintWords Go.Proofs.YtegkplalnljgjaaW.PrintLast

/-- The pure statement. -/
def Stated : Prop := ∀ (a0_0 : Int) (a0_1 : Int) (l0_2 : List Int) (l1 : List Int), (Lit.int .i64 a0_0).wf = true → (Lit.int .i64 a0_1).wf = true → (l0_2.length ≤ maxLen ∧ ∀ e_ ∈ l0_2, (Lit.int .i64 e_).wf = true) → (l1.length ≤ maxLen ∧ ∀ e_ ∈ l1, (Lit.int .i64 e_).wf = true) → ∃ k, laws_FnExactAcceptAll.f k a0_0 a0_1 l0_2 l1 = some true
end Go.Proofs.Ytegkplalnljgjaa.PureFnExactAcceptAll
