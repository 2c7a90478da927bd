/- What is asked of the numbers inside the law's arguments: each is of its kind. No condition. -/
import Derived.Test.YthkhjeklcmmjhaaPFnExactIsContractx2
namespace Go.Proofs.Ythkhjeklcmmjhaa.PureFnExactIsContract
open Go.RowKit Go.Proofs.Ythkhjeklcmmjhaa.PFnExactIsContract Go.Proofs.YthkhjeklcmmjhaaW.PrintWords Go.Proofs.YthkhjeklcmmjhaaW.PrintLast

/-- The pure statement. -/
def Stated : Prop := ∀ (l0_0 : List Int), (l0_0.length ≤ maxLen ∧ ∀ e_ ∈ l0_0, (Lit.int .i64 e_).wf = true) → ∃ k, laws_FnExactIsContract.f k l0_0 = some true
end Go.Proofs.Ythkhjeklcmmjhaa.PureFnExactIsContract
