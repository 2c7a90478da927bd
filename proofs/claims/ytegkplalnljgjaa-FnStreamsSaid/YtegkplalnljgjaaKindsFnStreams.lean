/- What is asked of the numbers inside the law's arguments: each is of its kind. No condition. -/
import Derived.Test.YtegkplalnljgjaaPFnStreamsx7
namespace Go.Proofs.Ytegkplalnljgjaa.PureFnStreams
open Go.RowKit Go.Proofs.Ytegkplalnljgjaa.PFnStreams Go.Proofs.YtegkplalnljgjaaW.PrintWords Go.Proofs.YtegkplalnljgjaaW.PrintLast

/-- The pure statement. -/
def Stated : Prop := ∀ (l0 : List Int), (l0.length ≤ maxLen ∧ ∀ e_ ∈ l0, (Lit.int .u8 e_).wf = true) → ∃ k, laws_FnStreams.f k l0 = some true
end Go.Proofs.Ytegkplalnljgjaa.PureFnStreams
