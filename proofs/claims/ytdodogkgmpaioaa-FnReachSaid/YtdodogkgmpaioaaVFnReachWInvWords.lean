/- The words of the printed texts, those that this law names. Conditions: those that each theorem names. -/
import Derived.Test.YtdodogkgmpaioaaVFnReachWInv
import Derived.Test.YtdodogkgmpaioaaVFnReachWFootNe
namespace Go.Proofs.YtdodogkgmpaioaaW.PrintWords
open Go.RowKit
end Go.Proofs.YtdodogkgmpaioaaW.PrintWords
namespace Go.Proofs.YtdodogkgmpaioaaW.PrintLast
section
variable {ops : Array Oper} {a : Act} {o og : Oper} {g : Nat} {t : Tmp} {u : Bool}
end
end Go.Proofs.YtdodogkgmpaioaaW.PrintLast
