/- What is asked of the numbers inside the law's arguments: each is of its kind. No condition. -/
import Derived.Test.YthkhjeklcmmjhaaPFnExactIsUpgradex3
namespace Go.Proofs.Ythkhjeklcmmjhaa.PureFnExactIsUpgrade
open Go.RowKit Go.Proofs.Ythkhjeklcmmjhaa.PFnExactIsUpgrade Go.Proofs.YthkhjeklcmmjhaaW.PrintWords Go.Proofs.YthkhjeklcmmjhaaW.PrintLast
def W89 (x : S89) : Prop := (Lit.int .i64 x.f0).wf = true ∧ (Lit.int .i64 x.f1).wf = true
/-- The pure statement. -/
def Stated : Prop := ∀ (l0 : List S89) (l1 : List Int), (l0.length ≤ maxLen ∧ ∀ e_ ∈ l0, W89 e_) → (l1.length ≤ maxLen ∧ ∀ e_ ∈ l1, (Lit.int .i64 e_).wf = true) → ∃ k, laws_FnExactIsUpgrade.f k l0 l1 = some true
end Go.Proofs.Ythkhjeklcmmjhaa.PureFnExactIsUpgrade
