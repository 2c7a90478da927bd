/- The words of the printed texts, those that this law names. Conditions: those that each theorem names. -/
import Derived.Test.YtlogjmgghnifoaaVFnExactPacketPlacesWInv
import Derived.Test.YtlogjmgghnifoaaVFnExactPacketPlacesWFootNe
namespace Go.Proofs.YtlogjmgghnifoaaW.PrintWords
open Go.RowKit
end Go.Proofs.YtlogjmgghnifoaaW.PrintWords
namespace Go.Proofs.YtlogjmgghnifoaaW.PrintLast
section
variable {ops : Array Oper} {a : Act} {o og : Oper} {g : Nat} {t : Tmp} {u : Bool}
end
end Go.Proofs.YtlogjmgghnifoaaW.PrintLast
