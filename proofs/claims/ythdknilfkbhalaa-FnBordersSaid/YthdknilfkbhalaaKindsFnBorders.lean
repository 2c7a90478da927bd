/- What is asked of the numbers inside the law's arguments: each is of its kind. No condition. -/
import Derived.Test.YthdknilfkbhalaaPFnBordersx15
namespace Go.Proofs.Ythdknilfkbhalaa.PureFnBorders
open Go.RowKit Go.Proofs.Ythdknilfkbhalaa.PFnBorders Go.Proofs.YthdknilfkbhalaaW.PrintWords Go.Proofs.YthdknilfkbhalaaW.PrintLast

/-- The pure statement. -/
def Stated : Prop := ∀ (l0 : List Int), (l0.length ≤ maxLen ∧ ∀ e_ ∈ l0, (Lit.int .u8 e_).wf = true) → ∃ k, laws_FnBorders.f k l0 = some true
end Go.Proofs.Ythdknilfkbhalaa.PureFnBorders
