/- What is asked of the numbers inside the law's arguments: each is of its kind. No condition. -/
import Derived.Test.YthkhjeklcmmjhaaPFnExactIsStreamx3
namespace Go.Proofs.Ythkhjeklcmmjhaa.PureFnExactIsStream
open Go.RowKit Go.Proofs.Ythkhjeklcmmjhaa.PFnExactIsStream Go.Proofs.YthkhjeklcmmjhaaW.PrintWords Go.Proofs.YthkhjeklcmmjhaaW.PrintLast

/-- The pure statement. -/
def Stated : Prop := ∀ (a0_0 : Int) (a0_1 : Int) (l0_2 : List Int), (Lit.int .i64 a0_0).wf = true → (Lit.int .i64 a0_1).wf = true → (l0_2.length ≤ maxLen ∧ ∀ e_ ∈ l0_2, (Lit.int .i64 e_).wf = true) → ∃ k, laws_FnExactIsStream.f k a0_0 a0_1 l0_2 = some true
end Go.Proofs.Ythkhjeklcmmjhaa.PureFnExactIsStream
