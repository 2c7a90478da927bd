/- The words of the printed texts, those that this law names. Conditions: those that each theorem names. -/
import Derived.Test.YtlogjmgghnifoaaVFnExactPacketPlacesWTab
/-! ### 56. Four, five, six operations that may come up next, in any order -/
namespace Go.Proofs.YtlogjmgghnifoaaW.PrintLast
section
variable {P : Program} {ops : Array Oper} {Q : Exit → Act → World → Prop} {md : Region.Mode} {S : World → Prop} {ds : List Nat} {T : Bool × List (List Nat × List Nat)}
end
end Go.Proofs.YtlogjmgghnifoaaW.PrintLast
