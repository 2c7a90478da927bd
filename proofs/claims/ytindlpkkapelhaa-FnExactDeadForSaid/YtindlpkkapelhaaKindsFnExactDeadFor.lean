/- What is asked of the numbers inside the law's arguments: each is of its kind. No condition. -/
import Derived.Test.YtindlpkkapelhaaPFnExactDeadForx4
namespace Go.Proofs.Ytindlpkkapelhaa.PureFnExactDeadFor
open Go.RowKit Go.Proofs.Ytindlpkkapelhaa.PFnExactDeadFor Go.Proofs.YtindlpkkapelhaaW.PrintWords Go.Proofs.YtindlpkkapelhaaW.PrintLast
def W118 (x : S118) : Prop := (Lit.int .i64 x.f0).wf = true ∧ (Lit.int .i64 x.f1).wf = true ∧ (Lit.int .i64 x.f2).wf = true ∧ (Lit.int .i64 x.f3).wf = true
/-- The pure statement. -/
def Stated : Prop := ∀ (l0 : List S118) (a1 : Int) (a2 : Int) (a3 : Int), (l0.length ≤ maxLen ∧ ∀ e_ ∈ l0, W118 e_) → (Lit.int .i64 a1).wf = true → (Lit.int .i64 a2).wf = true → (Lit.int .i64 a3).wf = true → ∃ k, laws_FnExactDeadFor.f k l0 a1 a2 a3 = some true
end Go.Proofs.Ytindlpkkapelhaa.PureFnExactDeadFor
