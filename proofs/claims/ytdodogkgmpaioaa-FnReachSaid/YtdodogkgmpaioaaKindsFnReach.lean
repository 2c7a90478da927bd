/- What is asked of the numbers inside the law's arguments: each is of its kind. No condition. -/
import Derived.Test.YtdodogkgmpaioaaPFnReachx16
namespace Go.Proofs.Ytdodogkgmpaioaa.PureFnReach
open Go.RowKit Go.Proofs.Ytdodogkgmpaioaa.PFnReach Go.Proofs.YtdodogkgmpaioaaW.PrintWords Go.Proofs.YtdodogkgmpaioaaW.PrintLast

/-- The pure statement. -/
def Stated : Prop := ∀ (l0 : List Int), (l0.length ≤ maxLen ∧ ∀ e_ ∈ l0, (Lit.int .u8 e_).wf = true) → ∃ k, laws_FnReach.f k l0 = some true
end Go.Proofs.Ytdodogkgmpaioaa.PureFnReach
