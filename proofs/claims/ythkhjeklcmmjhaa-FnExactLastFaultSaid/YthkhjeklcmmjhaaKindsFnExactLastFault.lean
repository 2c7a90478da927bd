/- What is asked of the numbers inside the law's arguments: each is of its kind. No condition. -/
import Derived.Test.YthkhjeklcmmjhaaPFnExactLastFaultx2
namespace Go.Proofs.Ythkhjeklcmmjhaa.PureFnExactLastFault
open Go.RowKit Go.Proofs.Ythkhjeklcmmjhaa.PFnExactLastFault Go.Proofs.YthkhjeklcmmjhaaW.PrintWords Go.Proofs.YthkhjeklcmmjhaaW.PrintLast
def W29 (x : S29) : Prop := (Lit.int .i64 x.f0).wf = true ∧ (Lit.int .i64 x.f1).wf = true ∧ (Lit.int .i64 x.f2).wf = true ∧ (Lit.int .i64 x.f3).wf = true
/-- The pure statement. -/
def Stated : Prop := ∀ (l0 : List S29), (l0.length ≤ maxLen ∧ ∀ e_ ∈ l0, W29 e_) → ∃ k, laws_FnExactLastFault.f k l0 = some true
end Go.Proofs.Ythkhjeklcmmjhaa.PureFnExactLastFault
