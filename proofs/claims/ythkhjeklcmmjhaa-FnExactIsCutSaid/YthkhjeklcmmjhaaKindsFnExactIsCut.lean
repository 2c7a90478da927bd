/- What is asked of the numbers inside the law's arguments: each is of its kind. No condition. -/
import Derived.Test.YthkhjeklcmmjhaaPFnExactIsCutx3
namespace Go.Proofs.Ythkhjeklcmmjhaa.PureFnExactIsCut
open Go.RowKit Go.Proofs.Ythkhjeklcmmjhaa.PFnExactIsCut Go.Proofs.YthkhjeklcmmjhaaW.PrintWords Go.Proofs.YthkhjeklcmmjhaaW.PrintLast
def W29 (x : S29) : Prop := (Lit.int .i64 x.f0).wf = true ∧ (Lit.int .i64 x.f1).wf = true ∧ (Lit.int .i64 x.f2).wf = true ∧ (Lit.int .i64 x.f3).wf = true
/-- The pure statement. -/
def Stated : Prop := ∀ (l0 : List S29) (a1 : Int) (a2 : Int) (a3 : Int), (l0.length ≤ maxLen ∧ ∀ e_ ∈ l0, W29 e_) → (Lit.int .i64 a1).wf = true → (Lit.int .i64 a2).wf = true → (Lit.int .i64 a3).wf = true → ∃ k, laws_FnExactIsCut.f k l0 a1 a2 a3 = some true
end Go.Proofs.Ythkhjeklcmmjhaa.PureFnExactIsCut
