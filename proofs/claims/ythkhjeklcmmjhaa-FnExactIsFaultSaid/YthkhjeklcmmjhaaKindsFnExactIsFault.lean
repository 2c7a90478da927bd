/- What is asked of the numbers inside the law's arguments: each is of its kind. No condition. -/
import Derived.Test.YthkhjeklcmmjhaaPFnExactIsFaultx1
namespace Go.Proofs.Ythkhjeklcmmjhaa.PureFnExactIsFault
open Go.RowKit Go.Proofs.Ythkhjeklcmmjhaa.PFnExactIsFault Go.Proofs.YthkhjeklcmmjhaaW.PrintWords Go.Proofs.YthkhjeklcmmjhaaW.PrintLast

/-- The pure statement. -/
def Stated : Prop := ∀ (a0_0 : Int) (a0_1 : Int) (a0_2 : Int) (a0_3 : Int) (a1 : Int), (Lit.int .i64 a0_0).wf = true → (Lit.int .i64 a0_1).wf = true → (Lit.int .i64 a0_2).wf = true → (Lit.int .i64 a0_3).wf = true → (Lit.int .i64 a1).wf = true → laws_FnExactIsFault.f a0_0 a0_1 a0_2 a0_3 a1 = some true
end Go.Proofs.Ythkhjeklcmmjhaa.PureFnExactIsFault
