/- What is asked of the numbers inside the law's arguments: each is of its kind. No condition. -/
import Derived.Test.YtlogjmgghnifoaaPFnExactRoundsOfx5
namespace Go.Proofs.Ytlogjmgghnifoaa.PureFnExactRoundsOf
open Go.RowKit Go.Proofs.Ytlogjmgghnifoaa.PFnExactRoundsOf Go.Proofs.YtlogjmgghnifoaaW.PrintWords Go.Proofs.YtlogjmgghnifoaaW.PrintLast
def W168 (x : S168) : Prop := (Lit.int .i64 x.f0).wf = true ∧ (Lit.int .i64 x.f1).wf = true
/-- The pure statement. -/
def Stated : Prop := ∀ (l0 : List S168) (a1 : Int), (l0.length ≤ maxLen ∧ ∀ e_ ∈ l0, W168 e_) → (Lit.int .i64 a1).wf = true → ∃ k, laws_FnExactRoundsOf.f k l0 a1 = some true
end Go.Proofs.Ytlogjmgghnifoaa.PureFnExactRoundsOf
