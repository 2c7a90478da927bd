/- What is asked of the numbers inside the law's arguments: each is of its kind. No condition. -/
import Derived.Test.YtindlpkkapelhaaPFnSharedx7
namespace Go.Proofs.Ytindlpkkapelhaa.PureFnShared
open Go.RowKit Go.Proofs.Ytindlpkkapelhaa.PFnShared Go.Proofs.YtindlpkkapelhaaW.PrintWords Go.Proofs.YtindlpkkapelhaaW.PrintLast

/-- The pure statement. -/
def Stated : Prop := ∀ (l0 : List Int), (l0.length ≤ maxLen ∧ ∀ e_ ∈ l0, (Lit.int .u8 e_).wf = true) → ∃ k, laws_FnShared.f k l0 = some true
end Go.Proofs.Ytindlpkkapelhaa.PureFnShared
