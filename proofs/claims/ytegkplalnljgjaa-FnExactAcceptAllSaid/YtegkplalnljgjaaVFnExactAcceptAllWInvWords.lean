/- The words of the printed texts, those that this law names. Conditions: those that each theorem names. -/
import Derived.Test.YtegkplalnljgjaaVFnExactAcceptAllWInv
import Derived.Test.YtegkplalnljgjaaVFnExactAcceptAllWFootNe
namespace Go.Proofs.YtegkplalnljgjaaW.PrintWords
open Go.RowKit
end Go.Proofs.YtegkplalnljgjaaW.PrintWords
namespace Go.Proofs.YtegkplalnljgjaaW.PrintLast
section
variable {ops : Array Oper} {a : Act} {o og : Oper} {g : Nat} {t : Tmp} {u : Bool}
end
end Go.Proofs.YtegkplalnljgjaaW.PrintLast
