/- What is asked of the numbers inside the law's arguments: each is of its kind. No condition. -/
import Derived.Test.YtindlpkkapelhaaPFnExactIsWithinx5
namespace Go.Proofs.Ytindlpkkapelhaa.PureFnExactIsWithin
open Go.RowKit Go.Proofs.Ytindlpkkapelhaa.PFnExactIsWithin Go.Proofs.YtindlpkkapelhaaW.PrintWords Go.Proofs.YtindlpkkapelhaaW.PrintLast

/-- The pure statement. -/
def Stated : Prop := ∀ (l0_0 : List Int) (a1 : Int) (l2 : List Int), (l0_0.length ≤ maxLen ∧ ∀ e_ ∈ l0_0, (Lit.int .i64 e_).wf = true) → (Lit.int .i64 a1).wf = true → (l2.length ≤ maxLen ∧ ∀ e_ ∈ l2, (Lit.int .i64 e_).wf = true) → ∃ k, laws_FnExactIsWithin.f k l0_0 a1 l2 = some true
end Go.Proofs.Ytindlpkkapelhaa.PureFnExactIsWithin
