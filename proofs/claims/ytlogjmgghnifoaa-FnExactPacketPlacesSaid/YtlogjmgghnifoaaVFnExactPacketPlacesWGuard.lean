/- The words of the printed texts, those that this law names. Conditions: those that each theorem names. -/
import Derived.Test.YtlogjmgghnifoaaVFnExactPacketPlacesWWords
/-! ### 58. A guarded operation whose guard is known to want it: the same goal without the guard -/
namespace Go.Proofs.YtlogjmgghnifoaaW.PrintWords
open Go.RowKit
section
variable {P : Program} {ops : Array Oper} {rest : List Oper} {o : Oper} {a : Act} {Q : Exit → Act → World → Prop} {W : World}
end
end Go.Proofs.YtlogjmgghnifoaaW.PrintWords
