/- What is asked of the numbers inside the law's arguments: each is of its kind. No condition. -/
import Derived.Test.YthkhjeklcmmjhaaPFnExactInRoundx2
namespace Go.Proofs.Ythkhjeklcmmjhaa.PureFnExactInRound
open Go.RowKit Go.Proofs.Ythkhjeklcmmjhaa.PFnExactInRound Go.Proofs.YthkhjeklcmmjhaaW.PrintWords Go.Proofs.YthkhjeklcmmjhaaW.PrintLast

/-- The pure statement. -/
def Stated : Prop := ∀ (l0 : List Int) (a1 : Int), (l0.length ≤ maxLen ∧ ∀ x ∈ l0, (Lit.int .i64 x).wf = true) → (Lit.int .i64 a1).wf = true → ∃ k, laws_FnExactInRound.f k l0 a1 = some true
end Go.Proofs.Ythkhjeklcmmjhaa.PureFnExactInRound
