/- What is asked of the numbers inside the law's arguments: each is of its kind. No condition. -/
import Derived.Test.YthkhjeklcmmjhaaPFnExactLastRoundx1
namespace Go.Proofs.Ythkhjeklcmmjhaa.PureFnExactLastRound
open Go.RowKit Go.Proofs.Ythkhjeklcmmjhaa.PFnExactLastRound Go.Proofs.YthkhjeklcmmjhaaW.PrintWords Go.Proofs.YthkhjeklcmmjhaaW.PrintLast

/-- The pure statement. -/
def Stated : Prop := ∀ (l0 : List Int), (l0.length ≤ maxLen ∧ ∀ x ∈ l0, (Lit.int .i64 x).wf = true) → ∃ k, laws_FnExactLastRound.f k l0 = some true
end Go.Proofs.Ythkhjeklcmmjhaa.PureFnExactLastRound
