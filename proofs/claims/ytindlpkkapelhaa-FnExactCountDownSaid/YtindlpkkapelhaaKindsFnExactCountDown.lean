/- What is asked of the numbers inside the law's arguments: each is of its kind. No condition. -/
import Derived.Test.YtindlpkkapelhaaPFnExactCountDownx3
namespace Go.Proofs.Ytindlpkkapelhaa.PureFnExactCountDown
open Go.RowKit Go.Proofs.Ytindlpkkapelhaa.PFnExactCountDown Go.Proofs.YtindlpkkapelhaaW.PrintWords Go.Proofs.YtindlpkkapelhaaW.PrintLast
def W118 (x : S118) : Prop := (Lit.int .i64 x.f0).wf = true ∧ (Lit.int .i64 x.f1).wf = true ∧ (Lit.int .i64 x.f2).wf = true ∧ (Lit.int .i64 x.f3).wf = true
/-- The pure statement. -/
def Stated : Prop := ∀ (l0 : List S118) (a1 : Int) (a2 : Int), (l0.length ≤ maxLen ∧ ∀ e_ ∈ l0, W118 e_) → (Lit.int .i64 a1).wf = true → (Lit.int .i64 a2).wf = true → ∃ k, laws_FnExactCountDown.f k l0 a1 a2 = some true
end Go.Proofs.Ytindlpkkapelhaa.PureFnExactCountDown
