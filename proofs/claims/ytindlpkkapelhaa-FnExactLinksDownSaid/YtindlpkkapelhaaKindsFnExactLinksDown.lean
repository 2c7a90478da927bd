/- What is asked of the numbers inside the law's arguments: each is of its kind. No condition. -/
import Derived.Test.YtindlpkkapelhaaPFnExactLinksDownx3
namespace Go.Proofs.Ytindlpkkapelhaa.PureFnExactLinksDown
open Go.RowKit Go.Proofs.Ytindlpkkapelhaa.PFnExactLinksDown Go.Proofs.YtindlpkkapelhaaW.PrintWords Go.Proofs.YtindlpkkapelhaaW.PrintLast
def W111 (x : S111) : Prop := (Lit.int .i64 x.f0).wf = true ∧ (Lit.int .i64 x.f1).wf = true
/-- The pure statement. -/
def Stated : Prop := ∀ (l0 : List S111) (l1 : List Int) (a2 : Int), (l0.length ≤ maxLen ∧ ∀ e_ ∈ l0, W111 e_) → (l1.length ≤ maxLen ∧ ∀ e_ ∈ l1, (Lit.int .i64 e_).wf = true) → (Lit.int .i64 a2).wf = true → ∃ k, laws_FnExactLinksDown.f k l0 l1 a2 = some true
end Go.Proofs.Ytindlpkkapelhaa.PureFnExactLinksDown
