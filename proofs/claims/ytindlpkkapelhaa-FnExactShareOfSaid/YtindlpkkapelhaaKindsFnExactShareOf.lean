/- What is asked of the numbers inside the law's arguments: each is of its kind. No condition. -/
import Derived.Test.YtindlpkkapelhaaPFnExactShareOfx4
namespace Go.Proofs.Ytindlpkkapelhaa.PureFnExactShareOf
open Go.RowKit Go.Proofs.Ytindlpkkapelhaa.PFnExactShareOf Go.Proofs.YtindlpkkapelhaaW.PrintWords Go.Proofs.YtindlpkkapelhaaW.PrintLast

/-- The pure statement. -/
def Stated : Prop := ∀ (l0_0 : List Int) (a1 : Int) (a2 : Int), (l0_0.length ≤ maxLen ∧ ∀ e_ ∈ l0_0, (Lit.int .i64 e_).wf = true) → (Lit.int .i64 a1).wf = true → (Lit.int .i64 a2).wf = true → ∃ k, laws_FnExactShareOf.f k l0_0 a1 a2 = some true
end Go.Proofs.Ytindlpkkapelhaa.PureFnExactShareOf
