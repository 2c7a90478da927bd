/- The words of the printed texts, those that this law names. Conditions: those that each theorem names. -/
import Derived.Test.YthdknilfkbhalaaVFnBordersWInv
import Derived.Test.YthdknilfkbhalaaVFnBordersWFootNe
namespace Go.Proofs.YthdknilfkbhalaaW.PrintWords
open Go.RowKit
end Go.Proofs.YthdknilfkbhalaaW.PrintWords
namespace Go.Proofs.YthdknilfkbhalaaW.PrintLast
section
variable {ops : Array Oper} {a : Act} {o og : Oper} {g : Nat} {t : Tmp} {u : Bool}
end
end Go.Proofs.YthdknilfkbhalaaW.PrintLast
