/- What is asked of the numbers inside the law's arguments: each is of its kind. No condition. -/
import Derived.Test.YtindlpkkapelhaaPFnExactIsSmoothx2
namespace Go.Proofs.Ytindlpkkapelhaa.PureFnExactIsSmooth
open Go.RowKit Go.Proofs.Ytindlpkkapelhaa.PFnExactIsSmooth Go.Proofs.YtindlpkkapelhaaW.PrintWords Go.Proofs.YtindlpkkapelhaaW.PrintLast

/-- The pure statement. -/
def Stated : Prop := ∀ (a0_0 : Int) (l0_1 : List Int) (l0_2 : List Int), (Lit.int .i64 a0_0).wf = true → (l0_1.length ≤ maxLen ∧ ∀ e_ ∈ l0_1, (Lit.int .i64 e_).wf = true) → (l0_2.length ≤ maxLen ∧ ∀ e_ ∈ l0_2, (Lit.int .i64 e_).wf = true) → ∃ k, laws_FnExactIsSmooth.f k a0_0 l0_1 l0_2 = some true
end Go.Proofs.Ytindlpkkapelhaa.PureFnExactIsSmooth
