/- The words of the printed texts, those that this law names. Conditions: those that each theorem names. -/
import Derived.Test.YtlogjmgghnifoaaVFnExactPacketPlacesWWords
import Derived.Laws.StructEq
/-! ### 53. '==' of structs as_ one Bool -/
namespace Go.Proofs.YtlogjmgghnifoaaW.PrintWords
open Go.RowKit
section
variable {P : Program} {d : Nat} {xs ys : Array Value} {f : Field} {fs : List Field} {a b : Value} {r s : Bool} {w : World}
end
end Go.Proofs.YtlogjmgghnifoaaW.PrintWords
