/- What is asked of the numbers inside the law's arguments: each is of its kind. No condition. -/
import Derived.Test.YtlogjmgghnifoaaPFnHandoversx15
namespace Go.Proofs.Ytlogjmgghnifoaa.PureFnHandovers
open Go.RowKit Go.Proofs.Ytlogjmgghnifoaa.PFnHandovers Go.Proofs.YtlogjmgghnifoaaW.PrintWords Go.Proofs.YtlogjmgghnifoaaW.PrintLast

/-- The pure statement. -/
def Stated : Prop := ∀ (l0 : List Int), (l0.length ≤ maxLen ∧ ∀ e_ ∈ l0, (Lit.int .u8 e_).wf = true) → ∃ k, laws_FnHandovers.f k l0 = some true
end Go.Proofs.Ytlogjmgghnifoaa.PureFnHandovers
