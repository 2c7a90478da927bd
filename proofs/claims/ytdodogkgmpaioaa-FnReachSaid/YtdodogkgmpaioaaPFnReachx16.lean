/- The functions that the law reaches, as plain Lean functions, each with the proof that the Go code comes to its answers; conditions: those that each theorem names. (printed by a program of this session) -/
import Derived.Test.YtdodogkgmpaioaaPFnReachx0
import Derived.Test.YtdodogkgmpaioaaPFnReachx2
import Derived.Test.YtdodogkgmpaioaaPFnReachx3
import Derived.Test.YtdodogkgmpaioaaPFnReachx4
import Derived.Test.YtdodogkgmpaioaaPFnReachx5
import Derived.Test.YtdodogkgmpaioaaPFnReachx6
import Derived.Test.YtdodogkgmpaioaaPFnReachx15
namespace Go.Proofs.Ytdodogkgmpaioaa.PFnReach
open Go.RowKit Go.Proofs.YtdodogkgmpaioaaW.PrintWords Go.Proofs.YtdodogkgmpaioaaW.PrintLast Go.Proofs.YtdodogkgmpaioaaW.PrintMore
attribute [local go_sem] max2_int min2_int max_two min_two max_three min_three max_four min_four   -- for this text's walks alone
set_option linter.unusedVariables false
set_option linter.unusedSimpArgs false

abbrev zb0_ : Array Bool := #[false, false, false, false, false, false, false, false, false, false, false, false, false, false, false, false, false, false, false, false, false, false, false, false, false, false, false, false, false, false, false, false, false, false, false, false]
abbrev zb1_ : Array Bool := #[false, true, false, false, false, false, false, false, false, false, false, false, false, false, false, false, false, false, false, false, false, false, false, false, false, false, false, false, false, false, false, false, false, false, false, false]
abbrev zb2_ : Array Bool := #[false, true, true, false, false, false, false, false, false, false, false, false, false, false, false, false, false, false, false, false, false, false, false, false, false, false, false, false, false, false, false, false, false, false, false, false]
abbrev zb3_ : Array Bool := #[false, true, true, true, false, false, false, false, false, false, false, false, false, false, false, false, false, false, false, false, false, false, false, false, false, false, false, false, false, false, false, false, false, false, false, false]
abbrev zb4_ : Array Bool := #[false, true, true, true, true, false, false, false, false, false, false, false, false, false, false, false, false, false, false, false, false, false, false, false, false, false, false, false, false, false, false, false, false, false, false, false]
abbrev zb5_ : Array Bool := #[false, true, true, true, true, false, true, false, false, false, false, false, false, false, false, false, false, false, false, false, false, false, false, false, false, false, false, false, false, false, false, false, false, false, false, false]
abbrev zb6_ : Array Bool := #[false, true, true, true, true, false, true, true, false, false, false, false, false, false, false, false, false, false, false, false, false, false, false, false, false, false, false, false, false, false, false, false, false, false, false, false]
abbrev zb7_ : Array Bool := #[false, true, true, true, true, false, true, true, true, false, false, false, false, false, false, false, false, false, false, false, false, false, false, false, false, false, false, false, false, false, false, false, false, false, false, false]
abbrev zb8_ : Array Bool := #[true, true, true, true, true, false, true, true, true, false, false, false, false, false, false, false, false, false, false, false, false, false, false, false, false, false, false, false, false, false, false, false, false, false, false, false]
abbrev zb9_ : Array Bool := #[true, true, true, true, true, false, true, true, true, true, false, false, false, false, false, false, false, false, false, false, false, false, false, false, false, false, false, false, false, false, false, false, false, false, false, false]
abbrev zb10_ : Array Bool := #[true, true, true, true, true, true, true, true, true, true, false, false, false, false, false, false, false, false, false, false, false, false, false, false, false, false, false, false, false, false, false, false, false, false, false, false]
abbrev zb11_ : Array Bool := #[true, true, true, true, true, true, true, true, true, true, true, false, false, false, false, false, false, false, false, false, false, false, false, false, false, false, false, false, false, false, false, false, false, false, false, false]
abbrev zb12_ : Array Bool := #[true, true, true, true, true, true, true, true, true, true, true, true, false, false, false, false, false, false, false, false, false, false, false, false, false, false, false, false, false, false, false, false, false, false, false, false]
abbrev zb13_ : Array Bool := #[true, true, true, true, true, true, true, true, true, true, true, true, true, false, false, false, false, false, false, false, false, false, false, false, false, false, false, false, false, false, false, false, false, false, false, false]
abbrev zb14_ : Array Bool := #[true, true, true, true, true, true, true, true, true, true, true, true, true, true, false, false, false, false, false, false, false, false, false, false, false, false, false, false, false, false, false, false, false, false, false, false]
abbrev zb15_ : Array Bool := #[true, true, true, true, true, true, true, true, true, true, true, true, true, true, true, false, false, false, false, false, false, false, false, false, false, false, false, false, false, false, false, false, false, false, false, false]
abbrev zb16_ : Array Bool := #[true, true, true, true, true, true, true, true, true, true, true, true, true, true, true, true, false, false, false, false, false, false, false, false, false, false, false, false, false, false, false, false, false, false, false, false]
abbrev zb17_ : Array Bool := #[true, true, true, true, true, true, true, true, true, true, true, true, true, true, true, true, true, false, false, false, false, false, false, false, false, false, false, false, false, false, false, false, false, false, false, false]
abbrev zb18_ : Array Bool := #[true, true, true, true, true, true, true, true, true, true, true, true, true, true, true, true, true, true, false, false, false, false, false, false, false, false, false, false, false, false, false, false, false, false, false, false]
abbrev zb19_ : Array Bool := #[true, true, true, true, true, true, true, true, true, true, true, true, true, true, true, true, true, true, true, false, false, false, false, false, false, false, false, false, false, false, false, false, false, false, false, false]
abbrev zb20_ : Array Bool := #[true, true, true, true, true, true, true, true, true, true, true, true, true, true, true, true, true, true, true, true, false, false, false, false, false, false, false, false, false, false, false, false, false, false, false, false]
abbrev zb21_ : Array Bool := #[true, true, true, true, true, true, true, true, true, true, true, true, true, true, true, true, true, true, true, true, true, false, false, false, false, false, false, false, false, false, false, false, false, false, false, false]
abbrev zb22_ : Array Bool := #[true, true, true, true, true, true, true, true, true, true, true, true, true, true, true, true, true, true, true, true, true, true, false, false, false, false, false, false, false, false, false, false, false, false, false, false]
abbrev zb23_ : Array Bool := #[true, true, true, true, true, true, true, true, true, true, true, true, true, true, true, true, true, true, true, true, true, true, true, false, false, false, false, false, false, false, false, false, false, false, false, false]
abbrev zb24_ : Array Bool := #[true, true, true, true, true, true, true, true, true, true, true, true, true, true, true, true, true, true, true, true, true, true, true, true, false, false, false, false, false, false, false, false, false, false, false, false]
abbrev zb25_ : Array Bool := #[true, true, true, true, true, true, true, true, true, true, true, true, true, true, true, true, true, true, true, true, true, true, true, true, true, false, false, false, false, false, false, false, false, false, false, false]
abbrev zb26_ : Array Bool := #[true, true, true, true, true, true, true, true, true, true, true, true, true, true, true, true, true, true, true, true, true, true, true, true, true, true, false, false, false, false, false, false, false, false, false, false]
abbrev zb27_ : Array Bool := #[true, true, true, true, true, true, true, true, true, true, true, true, true, true, true, true, true, true, true, true, true, true, true, true, true, true, true, false, false, false, false, false, false, false, false, false]
abbrev zb28_ : Array Bool := #[true, true, true, true, true, true, true, true, true, true, true, true, true, true, true, true, true, true, true, true, true, true, true, true, true, true, true, true, false, false, false, false, false, false, false, false]
abbrev zb29_ : Array Bool := #[true, true, true, true, true, true, true, true, true, true, true, true, true, true, true, true, true, true, true, true, true, true, true, true, true, true, true, true, true, true, true, true, false, false, false, false]
abbrev zb30_ : Array Bool := #[true, true, true, true, true, true, true, true, true, true, true, true, true, true, true, true, true, true, true, true, true, true, true, true, true, true, true, true, true, true, true, true, true, false, false, false]
abbrev zb31_ : Array Bool := #[true, true, true, true, true, true, true, true, true, true, true, true, true, true, true, true, true, true, true, true, true, true, true, true, true, true, true, true, true, true, true, true, true, true, false, false]
abbrev zb32_ : Array Bool := #[true, true, true, true, true, true, true, true, true, true, true, true, true, true, true, true, true, true, true, true, true, true, true, true, true, true, true, true, true, true, true, true, true, true, true, false]
abbrev zb33_ : Array Bool := #[true, true, true, true, true, true, true, true, true, true, true, true, true, true, true, true, true, true, true, true, true, true, true, true, true, true, true, true, true, true, true, true, true, true, true, true]
abbrev zb34_ : Array Bool := #[true, true, true, true, true, true, true, true, true, true, true, true, true, true, true, true, true, true, true, true, true, true, true, true, true, true, true, true, true, false, false, false, false, false, false, false]
abbrev zb35_ : Array Bool := #[true, true, true, true, true, true, true, true, true, true, true, true, true, true, true, true, true, true, true, true, true, true, true, true, true, true, true, true, true, true, false, false, false, false, false, false]
abbrev zb36_ : Array Bool := #[true, true, true, true, true, true, true, true, true, true, true, true, true, true, true, true, true, true, true, true, true, true, true, true, true, true, true, true, true, true, true, false, false, false, false, false]
abbrev zb37_ : Array Bool := #[false, false, false, false, false, false, false, false, false, false, false, false, false, false, false, false, false, false, false, false, false, false, false, false, false, false, false, false, false, false, false, false, false, false, false, false, false, false, false]
abbrev zb38_ : Array Bool := #[true, false, false, false, false, false, false, false, false, false, false, false, false, false, false, false, false, false, false, false, false, false, false, false, false, false, false, false, false, false, false, false, false, false, false, false, false, false, false]
abbrev zb39_ : Array Bool := #[true, true, false, false, false, false, false, false, false, false, false, false, false, false, false, false, false, false, false, false, false, false, false, false, false, false, false, false, false, false, false, false, false, false, false, false, false, false, false]
abbrev zb40_ : Array Bool := #[true, true, true, false, false, false, false, false, false, false, false, false, false, false, false, false, false, false, false, false, false, false, false, false, false, false, false, false, false, false, false, false, false, false, false, false, false, false, false]
abbrev zb41_ : Array Bool := #[true, true, true, true, false, false, false, false, false, false, false, false, false, false, false, false, false, false, false, false, false, false, false, false, false, false, false, false, false, false, false, false, false, false, false, false, false, false, false]
abbrev zb42_ : Array Bool := #[true, true, true, true, true, false, false, false, false, false, false, false, false, false, false, false, false, false, false, false, false, false, false, false, false, false, false, false, false, false, false, false, false, false, false, false, false, false, false]
abbrev zb43_ : Array Bool := #[true, true, true, true, true, true, false, false, false, false, false, false, false, false, false, false, false, false, false, false, false, false, false, false, false, false, false, false, false, false, false, false, false, false, false, false, false, false, false]
abbrev zb44_ : Array Bool := #[true, true, true, true, true, true, true, false, false, false, false, false, false, false, false, false, false, false, false, false, false, false, false, false, false, false, false, false, false, false, false, false, false, false, false, false, false, false, false]
abbrev zb45_ : Array Bool := #[true, true, true, true, true, true, true, true, false, false, false, false, false, false, false, false, false, false, false, false, false, false, false, false, false, false, false, false, false, false, false, false, false, false, false, false, false, false, false]
abbrev zb46_ : Array Bool := #[true, true, true, true, true, true, true, true, true, false, false, false, false, false, false, false, false, false, false, false, false, false, false, false, false, false, false, false, false, false, false, false, false, false, false, false, false, false, false]
abbrev zb47_ : Array Bool := #[true, true, true, true, true, true, true, true, true, false, true, false, false, false, false, false, false, false, false, false, false, false, false, false, false, false, false, false, false, false, false, false, false, false, false, false, false, false, false]
abbrev zb48_ : Array Bool := #[true, true, true, true, true, true, true, true, true, false, true, true, false, false, false, false, false, false, false, false, false, false, false, false, false, false, false, false, false, false, false, false, false, false, false, false, false, false, false]
abbrev zb49_ : Array Bool := #[true, true, true, true, true, true, true, true, true, false, true, true, true, false, false, false, false, false, false, false, false, false, false, false, false, false, false, false, false, false, false, false, false, false, false, false, false, false, false]
abbrev zb50_ : Array Bool := #[true, true, true, true, true, true, true, true, true, true, true, true, true, false, false, false, false, false, false, false, false, false, false, false, false, false, false, false, false, false, false, false, false, false, false, false, false, false, false]
abbrev zb51_ : Array Bool := #[true, true, true, true, true, true, true, true, true, true, true, true, true, true, false, false, false, false, false, false, false, false, false, false, false, false, false, false, false, false, false, false, false, false, false, false, false, false, false]
abbrev zb52_ : Array Bool := #[true, true, true, true, true, true, true, true, true, true, true, true, true, true, true, false, false, false, false, false, false, false, false, false, false, false, false, false, false, false, false, false, false, false, false, false, false, false, false]
abbrev zb53_ : Array Bool := #[true, true, true, true, true, true, true, true, true, true, true, true, true, true, true, true, false, false, false, false, false, false, false, false, false, false, false, false, false, false, false, false, false, false, false, false, false, false, false]
abbrev zb54_ : Array Bool := #[true, true, true, true, true, true, true, true, true, true, true, true, true, true, true, true, true, false, false, false, false, false, false, false, false, false, false, false, false, false, false, false, false, false, false, false, false, false, false]
abbrev zb55_ : Array Bool := #[true, true, true, true, true, true, true, true, true, true, true, true, true, true, true, true, true, true, false, false, false, false, false, false, false, false, false, false, false, false, false, false, false, false, false, false, false, false, false]
abbrev zb56_ : Array Bool := #[true, true, true, true, true, true, true, true, true, true, true, true, true, true, true, true, true, true, true, false, false, false, false, false, false, false, false, false, false, false, false, false, false, false, false, false, false, false, false]
abbrev zb57_ : Array Bool := #[true, true, true, true, true, true, true, true, true, true, true, true, true, true, true, true, true, true, true, true, false, false, false, false, false, false, false, false, false, false, false, false, false, false, false, false, false, false, false]
abbrev zb58_ : Array Bool := #[true, true, true, true, true, true, true, true, true, true, true, true, true, true, true, true, true, true, true, true, true, false, false, false, false, false, false, false, false, false, false, false, false, false, false, false, false, false, false]
abbrev zb59_ : Array Bool := #[true, true, true, true, true, true, true, true, true, true, true, true, true, true, true, true, true, true, true, true, true, true, false, false, false, false, false, false, false, false, false, false, false, false, false, false, false, false, false]
abbrev zb60_ : Array Bool := #[true, true, true, true, true, true, true, true, true, true, true, true, true, true, true, true, true, true, true, true, true, true, true, false, false, false, false, false, false, false, false, false, false, false, false, false, false, false, false]
abbrev zb61_ : Array Bool := #[true, true, true, true, true, true, true, true, true, true, true, true, true, true, true, true, true, true, true, true, true, true, true, true, false, false, false, false, false, false, false, false, false, false, false, false, false, false, false]
abbrev zb62_ : Array Bool := #[true, true, true, true, true, true, true, true, true, true, true, true, true, true, true, true, true, true, true, true, true, true, true, true, true, false, false, false, false, false, false, false, false, false, false, false, false, false, false]
abbrev zb63_ : Array Bool := #[true, true, true, true, true, true, true, true, true, true, true, true, true, true, true, true, true, true, true, true, true, true, true, true, true, true, false, false, false, false, false, false, false, false, false, false, false, false, false]
abbrev zb64_ : Array Bool := #[true, true, true, true, true, true, true, true, true, true, true, true, true, true, true, true, true, true, true, true, true, true, true, true, true, true, true, false, false, false, false, false, false, false, false, false, false, false, false]
abbrev zb65_ : Array Bool := #[true, true, true, true, true, true, true, true, true, true, true, true, true, true, true, true, true, true, true, true, true, true, true, true, true, true, true, true, false, false, false, false, false, false, false, false, false, false, false]
abbrev zb66_ : Array Bool := #[true, true, true, true, true, true, true, true, true, true, true, true, true, true, true, true, true, true, true, true, true, true, true, true, true, true, true, true, true, true, true, true, true, true, false, false, false, false, false]
abbrev zb67_ : Array Bool := #[true, true, true, true, true, true, true, true, true, true, true, true, true, true, true, true, true, true, true, true, true, true, true, true, true, true, true, true, true, true, true, true, true, true, true, false, false, false, false]
abbrev zb68_ : Array Bool := #[true, true, true, true, true, true, true, true, true, true, true, true, true, true, true, true, true, true, true, true, true, true, true, true, true, true, true, true, true, true, true, true, true, true, true, true, false, false, false]
abbrev zb69_ : Array Bool := #[true, true, true, true, true, true, true, true, true, true, true, true, true, true, true, true, true, true, true, true, true, true, true, true, true, true, true, true, true, true, true, true, true, true, true, true, true, false, false]
abbrev zb70_ : Array Bool := #[true, true, true, true, true, true, true, true, true, true, true, true, true, true, true, true, true, true, true, true, true, true, true, true, true, true, true, true, true, true, true, true, true, true, true, true, true, true, false]
abbrev zb71_ : Array Bool := #[true, true, true, true, true, true, true, true, true, true, true, true, true, true, true, true, true, true, true, true, true, true, true, true, true, true, true, true, true, true, true, true, true, true, true, true, true, true, true]
abbrev zb72_ : Array Bool := #[true, true, true, true, true, true, true, true, true, true, true, true, true, true, true, true, true, true, true, true, true, true, true, true, true, true, true, true, true, false, false, false, false, false, false, false, false, false, false]
abbrev zb73_ : Array Bool := #[true, true, true, true, true, true, true, true, true, true, true, true, true, true, true, true, true, true, true, true, true, true, true, true, true, true, true, true, true, true, false, false, false, false, false, false, false, false, false]
abbrev zb74_ : Array Bool := #[true, true, true, true, true, true, true, true, true, true, true, true, true, true, true, true, true, true, true, true, true, true, true, true, true, true, true, true, true, true, true, false, false, false, false, false, false, false, false]
abbrev zb75_ : Array Bool := #[true, true, true, true, true, true, true, true, true, true, true, true, true, true, true, true, true, true, true, true, true, true, true, true, true, true, true, true, true, true, true, true, false, false, false, false, false, false, false]
abbrev zb76_ : Array Bool := #[true, true, true, true, true, true, true, true, true, true, true, true, true, true, true, true, true, true, true, true, true, true, true, true, true, true, true, true, true, true, true, true, true, false, false, false, false, false, false]
/-! ### laws_FnReach: function 10 -/
mutual
def laws_FnReach.l0 : Nat → Int → Int → Int → List Int → List Int → Int → Int → Int → Int → List (S103) → Option (Bool)
  | 0, _, _, _, _, _, _, _, _, _, _ => none
  | k + 1, x4, x5, x6, x7, x8, x9, x445000, x445001, x445002, x445003 => if x9 < (x7.length : Int) then ((impl_ArrivalAt.f k x445000 x445001 x445002 x445003 x4 x9 x5 x6).bind fun t457 => (if 0 ≤ x9 then (if t457 = (rd x7 x9) then (if (x8.length : Int) = (x7.length : Int) then (if (rd x7 x9) ≥ 0 then (if x9 < (x8.length : Int) then (laws_FnReach.j1 k x4 x5 x6 x7 x8 x9 ((rd x8 x9) != (rd x7 x9)) x445000 x445001 x445002 x445003) else (none)) else (laws_FnReach.j1 k x4 x5 x6 x7 x8 x9 false x445000 x445001 x445002 x445003)) else (laws_FnReach.j1 k x4 x5 x6 x7 x8 x9 false x445000 x445001 x445002 x445003)) else (laws_FnReach.j1 k x4 x5 x6 x7 x8 x9 true x445000 x445001 x445002 x445003)) else (none))) else ((impl_ReachCount.f k x445000 x445001 x445002 x445003 x4 x5 x6).bind fun t454 => (if t454 ≤ (x7.length : Int) then ((impl_IsWhole.f k x445000 x445001 x445002 x445003 x5 x6).bind fun t455 => (if t455 = true then ((impl_ReachCount.f k x445000 x445001 x445002 x445003 x4 x5 x6).bind fun t456 => (some (t456 == (x7.length : Int)))) else (some true))) else (some false)))
def laws_FnReach.j1 : Nat → Int → Int → Int → List Int → List Int → Int → Bool → Int → Int → Int → List (S103) → Option (Bool)
  | 0, _, _, _, _, _, _, _, _, _, _, _ => none
  | k + 1, x4, x5, x6, x7, x8, x9, x82, x445000, x445001, x445002, x445003 => if x82 = true then (some false) else (if x9 = x4 then (if 0 ≤ x9 then (if x9 < (x7.length : Int) then (if (rd x7 x9) = x5 then (laws_FnReach.j2 k x4 x5 x6 x7 x8 x9 true x445000 x445001 x445002 x445003) else (laws_FnReach.j2 k x4 x5 x6 x7 x8 x9 (decide ((rd x7 x9) < 0)) x445000 x445001 x445002 x445003)) else (none)) else (none)) else (if 0 ≤ x9 then (if x9 < (x7.length : Int) then (laws_FnReach.j2 k x4 x5 x6 x7 x8 x9 (decide ((rd x7 x9) < 0)) x445000 x445001 x445002 x445003) else (none)) else (none)))
def laws_FnReach.j2 : Nat → Int → Int → Int → List Int → List Int → Int → Bool → Int → Int → Int → List (S103) → Option (Bool)
  | 0, _, _, _, _, _, _, _, _, _, _, _ => none
  | k + 1, x4, x5, x6, x7, x8, x9, x10, x445000, x445001, x445002, x445003 => laws_FnReach.l1 k x4 x5 x6 x7 x8 x9 x10 0 x445000 x445001 x445002 x445003
def laws_FnReach.l1 : Nat → Int → Int → Int → List Int → List Int → Int → Bool → Int → Int → Int → Int → List (S103) → Option (Bool)
  | 0, _, _, _, _, _, _, _, _, _, _, _, _ => none
  | k + 1, x4, x5, x6, x7, x8, x9, x10, x11, x445000, x445001, x445002, x445003 => if x11 < (x7.length : Int) then (if x10 = true then (laws_FnReach.l0 k x4 x5 x6 x7 x8 (wrap64 (x9 + 1)) x445000 x445001 x445002 x445003) else (if 0 ≤ x11 then (if (rd x7 x11) ≥ 0 then (if 0 ≤ x9 then (if x9 < (x7.length : Int) then (if (rd x7 x11) < (rd x7 x9) then (if x11 < x445001 then ((impl_IsLinked.f x445000 x445001 x445002 x445003 x11 x9 (wrap64 ((rd x7 x9) - 1))).bind fun t469 => (laws_FnReach.l1 k x4 x5 x6 x7 x8 x9 t469 (wrap64 (x11 + 1)) x445000 x445001 x445002 x445003)) else (if x11 = x4 then ((impl_IsLinked.f x445000 x445001 x445002 x445003 x11 x9 (wrap64 ((rd x7 x9) - 1))).bind fun t471 => (laws_FnReach.l1 k x4 x5 x6 x7 x8 x9 t471 (wrap64 (x11 + 1)) x445000 x445001 x445002 x445003)) else (laws_FnReach.l1 k x4 x5 x6 x7 x8 x9 false (wrap64 (x11 + 1)) x445000 x445001 x445002 x445003))) else (laws_FnReach.l1 k x4 x5 x6 x7 x8 x9 false (wrap64 (x11 + 1)) x445000 x445001 x445002 x445003)) else (none)) else (none)) else (laws_FnReach.l1 k x4 x5 x6 x7 x8 x9 false (wrap64 (x11 + 1)) x445000 x445001 x445002 x445003)) else (none))) else (if x10 = true then (laws_FnReach.l0 k x4 x5 x6 x7 x8 (wrap64 (x9 + 1)) x445000 x445001 x445002 x445003) else (some false))
end
def laws_FnReach.f (k : Nat) (l0 : List Int) : Option (Bool) := (laws_big.f l0).bind fun t434 => (if t434 = true then (some true) else ((spec_DrawReachFrom.f k l0).bind fun bt435 => ((impl_ReachFrom.f k bt435.1 bt435.2.1 bt435.2.2.1 bt435.2.2.2.1 bt435.2.2.2.2.1 bt435.2.2.2.2.2.1 bt435.2.2.2.2.2.2).bind fun t445 => ((spec_ReachFrom.f k bt435.1 bt435.2.1 bt435.2.2.1 bt435.2.2.2.1 bt435.2.2.2.2.1 bt435.2.2.2.2.2.1 bt435.2.2.2.2.2.2).bind fun t448 => (if (t445.length : Int) = (t448.length : Int) then ((impl_ReachFrom.f k bt435.1 bt435.2.1 bt435.2.2.1 bt435.2.2.2.1 bt435.2.2.2.2.1 bt435.2.2.2.2.2.1 (wrap64 (bt435.2.2.2.2.2.2 + 1))).bind fun t451 => (laws_FnReach.l0 k bt435.2.2.2.2.1 bt435.2.2.2.2.2.1 bt435.2.2.2.2.2.2 t445 t451 0 bt435.1 bt435.2.1 bt435.2.2.1 bt435.2.2.2.1)) else (some false))))))
def laws_FnReach.T11 : Bool × List (List Nat × List Nat) := (true, [([], []), ([], []), ([], []), ([], []), ([], []), ([0, 1, 2, 3, 4], [0, 1, 2, 3, 4]), ([], []), ([], []), ([6, 7], [6, 7]), ([8], [8]), ([5, 9], [5, 9]), ([10, 5], [10]), ([11], [11]), ([12, 11], [11, 12]), ([11], [11]), ([14, 11], [11, 14]), ([13, 15, 11], [11, 13, 15]), ([16, 11, 11], [11, 16]), ([17], [17]), ([17], [17]), ([18, 19, 17], [17, 18, 19]), ([20, 17], [17, 20]), ([21, 17], [17, 21]), ([17, 22, 11], [11, 17, 22]), ([23, 17, 11], [11, 23]), ([24], [24]), ([24], [24]), ([25, 26, 24], [24, 25, 26]), ([27, 24], [24, 27]), ([24], [24]), ([24], [24]), ([29, 30, 24], [24, 29, 30]), ([31, 24], [24, 31]), ([28, 32, 24], [24, 28, 32]), ([24, 33, 11], [11, 24, 33]), ([11, 34], [11, 34])])
def laws_FnReach.B11 : List Nat := [0, 0, 0, 0, 0, 31, 0, 0, 192, 448, 1023, 2047, 4095, 8191, 4095, 20479, 65535, 131071, 262143, 262143, 1048575, 2097151, 4194303, 8388607, 16777215, 33554431, 33554431, 134217727, 268435455, 33554431, 33554431, 1644167167, 3791650815, 8589934591, 17179869183, 34359738367]
theorem laws_FnReach.tab11 : rtab .any (opsOf Try.f10 11) = laws_FnReach.T11 := by kernel_rfl
theorem laws_FnReach.bits11 : waitsOk laws_FnReach.T11.2 laws_FnReach.B11 = true := by kernel_rfl
def laws_FnReach.T17 : Bool × List (List Nat × List Nat) := (true, [([], []), ([], []), ([0, 1], [0, 1]), ([2], [2]), ([3], [3]), ([4], [4]), ([5], [5]), ([5], [5]), ([6, 7, 5], [5, 6, 7]), ([8, 5], [5, 8]), ([5], [5]), ([5], [5]), ([10, 11, 5], [5, 10, 11]), ([12, 5], [5, 12]), ([9, 13, 5], [5, 9, 13]), ([5, 14], [5, 14]), ([15, 5], [15]), ([16], [16]), ([16], [16]), ([18, 16], [16, 18]), ([17, 19, 16], [16, 17, 19]), ([20, 16, 16], [16, 20]), ([21], [21]), ([21], [21]), ([22, 23, 21], [21, 22, 23]), ([21, 24, 16], [16, 21, 24]), ([16, 25], [16, 25]), ([26, 21], [26]), ([27], [27]), ([27], [27]), ([27], [27]), ([27], [27]), ([27], [27]), ([31, 32, 27], [27, 31, 32]), ([33, 27], [27, 33]), ([34, 27], [27, 34]), ([28, 29, 30, 35, 27, 27], [27, 28, 29, 30, 35]), ([27, 36], [27, 36]), ([37, 36, 0, 1, 2, 3, 4, 5, 6, 7, 8, 9, 10, 11, 12, 13, 14, 15, 16, 17, 18, 19, 20, 21, 22, 23, 24, 25, 26, 27, 28, 29, 30, 31, 32, 33, 34, 35, 36, 37], [37])])
def laws_FnReach.B17 : List Nat := [0, 0, 3, 7, 15, 31, 63, 63, 255, 511, 63, 63, 3135, 7231, 16383, 32767, 65535, 131071, 131071, 393215, 1048575, 2097151, 4194303, 4194303, 16777215, 33554431, 67108863, 134217727, 268435455, 268435455, 268435455, 268435455, 268435455, 6710886399, 15300820991, 32480690175, 68719476735, 137438953471, 274877906943]
theorem laws_FnReach.tab17 : rtab .any (opsOf Try.f10 17) = laws_FnReach.T17 := by kernel_rfl
theorem laws_FnReach.bits17 : waitsOk laws_FnReach.T17.2 laws_FnReach.B17 = true := by kernel_rfl
set_option maxHeartbeats 8000000 in
set_option maxRecDepth 100000 in
theorem laws_FnReach.calls (k : Nat) (A0 : Option Addr) (c0 : Nat) (l0 : List Int) (r : Bool) (w : World) (hr0 : Kd.C (Kd.int .u8) w A0 l0.length l0) (hc0 : l0.length ≤ c0) (hr_ : r = true) (h : laws_FnReach.f k l0 = some r) :
  Calls Try.prog 10 #[.slice A0 l0.length c0] w fun e w' => e = .returned (.bool r) ∧ Below w.heap.size w w' := by
 have hu31 := Try.underlying31; have HR0 := aM_ hr0; have HC0 := aM_ hc0; clear hr0 hc0; have HB := aM_ (Below.refl w.heap.size w)
 have H : ((laws_big.f l0).bind fun t434 => (if t434 = true then (some true) else ((spec_DrawReachFrom.f k l0).bind fun bt435 => ((impl_ReachFrom.f k bt435.1 bt435.2.1 bt435.2.2.1 bt435.2.2.2.1 bt435.2.2.2.2.1 bt435.2.2.2.2.2.1 bt435.2.2.2.2.2.2).bind fun t445 => ((spec_ReachFrom.f k bt435.1 bt435.2.1 bt435.2.2.1 bt435.2.2.2.1 bt435.2.2.2.2.1 bt435.2.2.2.2.2.1 bt435.2.2.2.2.2.2).bind fun t448 => (if (t445.length : Int) = (t448.length : Int) then ((impl_ReachFrom.f k bt435.1 bt435.2.1 bt435.2.2.1 bt435.2.2.2.1 bt435.2.2.2.2.1 bt435.2.2.2.2.2.1 (wrap64 (bt435.2.2.2.2.2.2 + 1))).bind fun t451 => (laws_FnReach.l0 k bt435.2.2.2.2.1 bt435.2.2.2.2.2.1 bt435.2.2.2.2.2.2 t445 t451 0 bt435.1 bt435.2.1 bt435.2.2.1 bt435.2.2.2.1)) else (some false))))))) = some r := h
 clear h; have HTRUE := aM_ hr_; clear hr_
 replace H := Option.bind_eq_some_iff.mp H
 obtain ⟨t434, A20, H⟩ := H
 (try dsimp only at H)
 have A2 := aM_ A20; clear A20
 by_cases c3 : t434 = true
 ·subst c3
  have H1 : (some true) = some r := by rw [if_pos rfl] at H; exact H
  clear H; have H := H1; clear H1
  obtain rfl := Option.some.inj H
  go_enter Try.func10, Try.ntmps10
  go_wp2_with (first | ((with_reducible refine gate_callee (f := 25) rfl ?_); refine goesL_ (some 13) rfl rfl Try.func25 (by kernel_rfl) rfl #[.slice A0 l0.length c0] rfl (by (try simp only [List.map_toArray, List.map_cons, List.map_nil]); first | done | rfl | (simp only [List.length_drop, List.length_take]; rfl)) ?_; (with_reducible refine (laws_big.calls _ _ l0 true _ ?side1 ?side2 A2.out).mono ?_); (case side1 => repeat (first | exact HR0.out | (with_reducible refine cA_ ?_ _) | (with_reducible refine cN_ ?_ _) | (with_reducible refine cD_ ?_))); (case side2 => exact HC0.out); rintro e w' ⟨rfl, ⟨nd, rfl⟩⟩; refine ⟨_, rfl, ?_⟩))
  go_ret
  exact ⟨by first | rfl | (simp [errW_none, errW_some] <;> rfl) | (simp [*, errW_none, errW_some] <;> rfl), bw_⟩
 ·replace c3 := Bool.eq_false_iff.mpr c3
  subst c3
  have H1 : ((spec_DrawReachFrom.f k l0).bind fun bt435 => ((impl_ReachFrom.f k bt435.1 bt435.2.1 bt435.2.2.1 bt435.2.2.2.1 bt435.2.2.2.2.1 bt435.2.2.2.2.2.1 bt435.2.2.2.2.2.2).bind fun t445 => ((spec_ReachFrom.f k bt435.1 bt435.2.1 bt435.2.2.1 bt435.2.2.2.1 bt435.2.2.2.2.1 bt435.2.2.2.2.2.1 bt435.2.2.2.2.2.2).bind fun t448 => (if (t445.length : Int) = (t448.length : Int) then ((impl_ReachFrom.f k bt435.1 bt435.2.1 bt435.2.2.1 bt435.2.2.2.1 bt435.2.2.2.2.1 bt435.2.2.2.2.2.1 (wrap64 (bt435.2.2.2.2.2.2 + 1))).bind fun t451 => (laws_FnReach.l0 k bt435.2.2.2.2.1 bt435.2.2.2.2.2.1 bt435.2.2.2.2.2.2 t445 t451 0 bt435.1 bt435.2.1 bt435.2.2.1 bt435.2.2.2.1)) else (some false))))) = some r := by rw [if_neg (show ¬ (false = true) by decide)] at H; exact H
  clear H; have H := H1; clear H1
  replace H := Option.bind_eq_some_iff.mp H
  obtain ⟨⟨t435, t436, t437, t438, t441, t442, t443⟩, A40, H⟩ := H
  (try dsimp only at H)
  have A4 := aM_ A40; clear A40
  replace H := Option.bind_eq_some_iff.mp H
  obtain ⟨t445, A50, H⟩ := H
  (try dsimp only at H)
  have A5 := aM_ A50; clear A50
  replace H := Option.bind_eq_some_iff.mp H
  obtain ⟨t448, A60, H⟩ := H
  (try dsimp only at H)
  have A6 := aM_ A60; clear A60
  by_cases c7 : (t445.length : Int) = (t448.length : Int)
  ·rw [if_pos c7] at H
   have c7b0 : ((t445.length : Int) == (t448.length : Int)) = true := beq_iff_eq.mpr c7
   have c7b1 : ((t445.length : Int) != (t448.length : Int)) = false := bne_eq_false_iff_eq.mpr c7
   have c7b2 : (t445.length == t448.length) = true := by first | simpa using c7 | (simp at c7 ⊢; omega)
   clear c7
   replace H := Option.bind_eq_some_iff.mp H
   obtain ⟨t451, A80, H⟩ := H
   (try dsimp only at H)
   have A8 := aM_ A80; clear A80
   have H' := aM_ H
   clear H
   go_enter Try.func10, Try.ntmps10
   go_wp2_with (first | ((with_reducible refine gate_callee (f := 25) rfl ?_); refine goesL_ (some 13) rfl rfl Try.func25 (by kernel_rfl) rfl #[.slice A0 l0.length c0] rfl (by (try simp only [List.map_toArray, List.map_cons, List.map_nil]); first | done | rfl | (simp only [List.length_drop, List.length_take]; rfl)) ?_; (with_reducible refine (laws_big.calls _ _ l0 false _ ?side1 ?side2 A2.out).mono ?_); (case side1 => repeat (first | exact HR0.out | (with_reducible refine cA_ ?_ _) | (with_reducible refine cN_ ?_ _) | (with_reducible refine cD_ ?_))); (case side2 => exact HC0.out); rintro e w' ⟨rfl, ⟨nd, rfl⟩⟩; refine ⟨_, rfl, ?_⟩) | ((with_reducible refine gate_callee (f := 40) rfl ?_); refine goesL_ (some 16) rfl rfl Try.func40 (by kernel_rfl) rfl #[.slice A0 l0.length c0] rfl (by (try simp only [List.map_toArray, List.map_cons, List.map_nil]); first | done | rfl | (simp only [List.length_drop, List.length_take]; rfl)) ?_; (with_reducible refine (spec_DrawReachFrom.calls k _ _ l0 t435 t436 t437 t438 t441 t442 t443 _ ?side1 ?side2 A4.out).mono ?_); (case side1 => repeat (first | exact HR0.out | (with_reducible refine cA_ ?_ _) | (with_reducible refine cN_ ?_ _) | (with_reducible refine cD_ ?_))); (case side2 => exact HC0.out); rintro e w9 ⟨v439, rfl, ho0, hb⟩; refine ⟨_, rfl, ?_⟩; have n0_ := aM_ (Kd.R_lower ho0 (sZ_ (bw_))); have n1_ := aM_ (wS_ (bw_) hb); clear HB; have HO440 := n0_; have HB := n1_; clear n0_ n1_; (try clear hb); (try clear hb2); (try clear hk); (try clear hi); (try clear ho0)) | ((with_reducible refine gate_dst (N := 3) rfl ?_); (try (refine gate_guard (by rfl) ?_; dsimp only)); refine box_event ?hg (N := 3) ?hd (cs := #[.int .i64 0, .int .i64 0, .int .i64 0, .slice none 0 0]) (t := 31) ?hr ?_; (case hd => rfl); (case hg => rfl); (case hr => first | (go_simp; done) | (go_simp; rfl)); intro gb444 hg w10 hbox hb; have n0_ := aM_ (rB_ (rb_ HO440.out) hb); have n1_ := aM_ (wS_ (bw_) hb); have n2_ := aM_ (hbox); have n3_ := aM_ ((by rw [hg]; exact (sZ_ (bw_)) : w.heap.size ≤ gb444)); have n4_ := aM_ ((by rw [hg]; exact (sZ_ (bw_)) : w.heap.size ≤ gb444)); clear HO440 HB; have HO440 := n0_; have HB := n1_; have BK444 := n2_; have GW444 := n3_; have GE444 := n4_; clear n0_ n1_ n2_ n3_ n4_ hb hbox hg; obtain ⟨hcz11_0, hcz11_1, hcz11_2, hcz11_3, hfz11_0, hfz11_1, hfz11_2, hfz11_3⟩ := bk4_ BK444.out; obtain ⟨Ao12, co12, eo12⟩ := Kd.R_slice HO440.out; subst eo12) | ((with_reducible refine gate_callee (f := 34) rfl ?_); refine goesL_ (some 25) rfl rfl Try.func34 (by kernel_rfl) rfl #[.agg #[.int .i64 t435, .int .i64 t436, .int .i64 t437, .slice Ao12 t438.length co12], .int .i64 t441, .int .i64 t442, .int .i64 t443] rfl (by (try simp only [List.map_toArray, List.map_cons, List.map_nil]); first | done | rfl | (simp only [List.length_drop, List.length_take]; rfl)) ?_; (with_reducible refine (impl_ReachFrom.calls k t435 t436 t437 _ _ t438 t441 t442 t443 t445 _ ?side1 ?side2 A5.out).mono ?_); (case side1 => refine (Kd.R_reads' (e := 103) (base := w.heap.size) (ok := fun k_ => True) (n := t438.length) (c := co12) ?_).2.2; exact (by (with_reducible repeat (first | apply rA_ | apply rN_ | apply rD_)); exact (Kd.R_mono (Kd.R_far (p := ⟨gb444, 3, none⟩) (Kd.R_far (p := ⟨gb444, 2, none⟩) (Kd.R_far (p := ⟨gb444, 1, none⟩) (Kd.R_far (p := ⟨gb444, 0, none⟩) (Kd.R_types HO440.out BK444.out (by decide)) (fun _ hk => hk.2) (.int .i64 t435)) (fun _ hk => hk.2) (.int .i64 t436)) (fun _ hk => hk.2) (.int .i64 t437)) (fun _ hk => hk.2) (.slice Ao12 t438.length co12)) (fun _ h_ => h_.1)))); (case side2 => exact (Kd.R_reads' HO440.out).2.1); rintro e w13 ⟨v446, rfl, ho0, hb⟩; refine ⟨_, rfl, ?_⟩; have n0_ := aM_ (Kd.R_elder' (by (with_reducible repeat (first | apply rA_ | apply rN_ | apply rD_)); exact (Kd.R_mono (Kd.R_far (p := ⟨gb444, 3, none⟩) (Kd.R_far (p := ⟨gb444, 2, none⟩) (Kd.R_far (p := ⟨gb444, 1, none⟩) (Kd.R_far (p := ⟨gb444, 0, none⟩) (Kd.R_types HO440.out BK444.out (by decide)) (fun _ hk => hk.2) (.int .i64 t435)) (fun _ hk => hk.2) (.int .i64 t436)) (fun _ hk => hk.2) (.int .i64 t437)) (fun _ hk => hk.2) (.slice Ao12 t438.length co12)) (fun _ h_ => h_.1))) (Kd.R_base ho0) hb); have n1_ := aM_ (Kd.R_lower ho0 (sZ_ (bw_))); have n2_ := aM_ (bB_ (g := gb444) (o := .cells #[.int .i64 t435, .int .i64 t436, .int .i64 t437, .slice Ao12 t438.length co12] 31 (0, 0)) (by (with_reducible repeat (first | refine bN_ ?_ _ | refine bD_ ?_ | refine bA_ ?_ _)); refine blk_put (cs := #[.int .i64 t435, .int .i64 t436, .int .i64 t437, .slice none 0 0]) ?_ 3 _ rfl; (with_reducible repeat (first | refine bN_ ?_ _ | refine bD_ ?_ | refine bA_ ?_ _)); refine blk_put (cs := #[.int .i64 t435, .int .i64 t436, .int .i64 0, .slice none 0 0]) ?_ 2 _ rfl; (with_reducible repeat (first | refine bN_ ?_ _ | refine bD_ ?_ | refine bA_ ?_ _)); refine blk_put (cs := #[.int .i64 t435, .int .i64 0, .int .i64 0, .slice none 0 0]) ?_ 1 _ rfl; (with_reducible repeat (first | refine bN_ ?_ _ | refine bD_ ?_ | refine bA_ ?_ _)); refine blk_put (cs := #[.int .i64 0, .int .i64 0, .int .i64 0, .slice none 0 0]) ?_ 0 _ rfl; (with_reducible repeat (first | refine bN_ ?_ _ | refine bD_ ?_ | refine bA_ ?_ _)); exact BK444.out) hb); have n3_ := aM_ (wS_ (bw_) hb); clear HO440 BK444 HB; have HO440 := n0_; have HO447 := n1_; have BK444 := n2_; have HB := n3_; clear n0_ n1_ n2_ n3_; (try clear hb); (try clear hb2); (try clear hk); (try clear hi); (try clear ho0); obtain ⟨Ao14, co14, eo14⟩ := Kd.R_slice HO447.out; subst eo14; obtain ⟨hcz15_0, hcz15_1, hcz15_2, hcz15_3, hfz15_0, hfz15_1, hfz15_2, hfz15_3⟩ := bk4_ BK444.out) | ((with_reducible refine gate_callee (f := 33) rfl ?_); refine goesL_ (some 32) rfl rfl Try.func33 (by kernel_rfl) rfl #[.agg #[.int .i64 t435, .int .i64 t436, .int .i64 t437, .slice Ao12 t438.length co12], .int .i64 t441, .int .i64 t442, .int .i64 t443] rfl (by (try simp only [List.map_toArray, List.map_cons, List.map_nil]); first | done | rfl | (simp only [List.length_drop, List.length_take]; rfl)) ?_; (with_reducible refine (spec_ReachFrom.calls k t435 t436 t437 _ _ t438 t441 t442 t443 t448 _ ?side1 ?side2 A6.out).mono ?_); (case side1 => repeat (first | exact (Kd.R_reads' HO440.out).2.2 | (with_reducible refine cA_ ?_ _) | (with_reducible refine cN_ ?_ _) | (with_reducible refine cD_ ?_))); (case side2 => exact (Kd.R_reads' HO440.out).2.1); rintro e w16 ⟨v449, rfl, ho0, hb⟩; refine ⟨_, rfl, ?_⟩; have n0_ := aM_ (Kd.R_elder' (rb_ HO440.out) (Kd.R_base ho0) hb); have n1_ := aM_ (Kd.R_elder' (rb_ HO447.out) (Kd.R_base ho0) hb); have n2_ := aM_ (Kd.R_lower (Kd.R_new' ho0 (Kd.R_lt (rb_ HO447.out))) (sZ_ (bw_))); have n3_ := aM_ (bB_ (kb_ BK444.out) hb); have n4_ := aM_ (wS_ (bw_) hb); clear HO440 HO447 BK444 HB; have HO440 := n0_; have HO447 := n1_; have HO450 := n2_; have BK444 := n3_; have HB := n4_; clear n0_ n1_ n2_ n3_ n4_; (try clear hb); (try clear hb2); (try clear hk); (try clear hi); (try clear ho0); obtain ⟨Ao17, co17, eo17⟩ := Kd.R_slice HO450.out; subst eo17; obtain ⟨hcz18_0, hcz18_1, hcz18_2, hcz18_3, hfz18_0, hfz18_1, hfz18_2, hfz18_3⟩ := bk4_ BK444.out) | ((with_reducible refine gate_callee (f := 34) rfl ?_); refine goesL_ (some 40) rfl rfl Try.func34 (by kernel_rfl) rfl #[.agg #[.int .i64 t435, .int .i64 t436, .int .i64 t437, .slice Ao12 t438.length co12], .int .i64 t441, .int .i64 t442, .int .i64 (wrap64 (t443 + 1))] rfl (by (try simp only [List.map_toArray, List.map_cons, List.map_nil]); first | done | rfl | (simp only [List.length_drop, List.length_take]; rfl)) ?_; (with_reducible refine (impl_ReachFrom.calls k t435 t436 t437 _ _ t438 t441 t442 (wrap64 (t443 + 1)) t451 _ ?side1 ?side2 A8.out).mono ?_); (case side1 => repeat (first | exact (Kd.R_reads' HO440.out).2.2 | (with_reducible refine cA_ ?_ _) | (with_reducible refine cN_ ?_ _) | (with_reducible refine cD_ ?_))); (case side2 => exact (Kd.R_reads' HO440.out).2.1); rintro e w19 ⟨v452, rfl, ho0, hb⟩; refine ⟨_, rfl, ?_⟩; have n0_ := aM_ (Kd.R_elder' (rb_ HO440.out) (Kd.R_base ho0) hb); have n1_ := aM_ (Kd.R_elder' (rb_ HO447.out) (Kd.R_base ho0) hb); have n2_ := aM_ (Kd.R_elder' (rb_ HO450.out) (Kd.R_base ho0) hb); have n3_ := aM_ (Kd.R_lower (Kd.R_new' (Kd.R_new' ho0 (Kd.R_lt (rb_ HO447.out))) (Kd.R_lt (rb_ HO450.out))) (sZ_ (bw_))); have n4_ := aM_ (bB_ (kb_ BK444.out) hb); have n5_ := aM_ (wS_ (bw_) hb); clear HO440 HO447 HO450 BK444 HB; have HO440 := n0_; have HO447 := n1_; have HO450 := n2_; have HO453 := n3_; have BK444 := n4_; have HB := n5_; clear n0_ n1_ n2_ n3_ n4_ n5_; (try clear hb); (try clear hb2); (try clear hk); (try clear hi); (try clear ho0)))
   go_loopg [9] k (fun kq v9 w' => ∃ (x9_1 : Int), v9 = .int .i64 x9_1 ∧ Aside0 (laws_FnReach.l0 kq t441 t442 t443 t445 t451 x9_1 t435 t436 t437 t438 = some r) ∧ Aside0 (kq ≤ k) ∧ Aside0 (Kd.R (Kd.int .i64) 3 w' w.heap.size (fun k_ => some k_ ≠ (v452 : Value).ownBlock) (.slice Ao14 t445.length co14) t445) ∧ Aside0 (Kd.R (Kd.int .i64) 3 w' w.heap.size (fun k_ => some k_ ≠ ((.slice Ao14 t445.length co14) : Value).ownBlock) v452 t451) ∧ Aside0 (Kd.R k103 103 w' w.heap.size (fun k_ => some k_ ≠ ((.slice Ao14 t445.length co14) : Value).ownBlock ∧ some k_ ≠ (v452 : Value).ownBlock) (.slice Ao12 t438.length co12) t438) ∧ Aside0 (w'.heap[gb444]? = some (.cells #[.int .i64 t435, .int .i64 t436, .int .i64 t437, (.slice Ao12 t438.length co12)] 31 (0, 0))) ∧ Aside0 (Below w.heap.size w w'))
   case atStart => exact ⟨(0), (by first | rfl | (simp; done) | (simp [*]; done)), H', ⟨Nat.le_refl _⟩, ⟨by (with_reducible repeat (first | apply rA_ | apply rN_ | apply rD_)); exact Kd.R_mono HO447.out (fun _ hk => hk.2)⟩, ⟨by (with_reducible repeat (first | apply rA_ | apply rN_ | apply rD_)); exact Kd.R_mono HO453.out (fun _ hk => hk.1.2)⟩, ⟨by (with_reducible repeat (first | apply rA_ | apply rN_ | apply rD_)); exact Kd.R_mono HO440.out (fun _ hk => ⟨hk.1.1.2, hk.2⟩)⟩, ⟨by (with_reducible repeat (first | refine bN_ ?_ _ | refine bD_ ?_ | refine bA_ ?_ _)); exact BK444.out⟩, ⟨bw_⟩⟩
   case round =>
    clear H'
    try clear c7b0
    try clear c7b1
    try clear c7b2
    try clear hcz11_0
    try clear hcz11_1
    try clear hcz11_2
    try clear hcz11_3
    try clear hcz15_0
    try clear hcz15_1
    try clear hcz15_2
    try clear hcz15_3
    try clear hcz18_0
    try clear hcz18_1
    try clear hcz18_2
    try clear hcz18_3
    try clear hfz11_0
    try clear hfz11_1
    try clear hfz11_2
    try clear hfz11_3
    try clear hfz15_0
    try clear hfz15_1
    try clear hfz15_2
    try clear hfz15_3
    try clear hfz18_0
    try clear hfz18_1
    try clear hfz18_2
    try clear hfz18_3
    obtain ⟨x9_1, rfl, HA, HK1, HO_7, HO_8, HO_445003, BK444, HB⟩ := hrel
    cases gk with
    | zero => exact absurd HA.out (by simp [laws_FnReach.l0])
    | succ k1 =>
     have H := HA.out; clear HA
     simp only [laws_FnReach.l0] at H
     by_cases c20 : x9_1 < (t445.length : Int)
     ·rw [if_pos c20] at H
      have c20b0 : decide (x9_1 < (t445.length : Int)) = true := decide_eq_true c20
      clear c20; have HC21 := aM_ H; clear H
      go_upto_region 11 with (fail)
      go_cut [82] (fun v82 wc => ∃ (kq : Nat) (x82_20 : Bool), v82 = .bool x82_20 ∧ Aside0 (laws_FnReach.j1 kq t441 t442 t443 t445 t451 x9_1 x82_20 t435 t436 t437 t438 = some r) ∧ Aside0 (kq ≤ k1) ∧ Aside0 (Kd.R (Kd.int .i64) 3 wc w.heap.size (fun k_ => some k_ ≠ (v452 : Value).ownBlock) (.slice Ao14 t445.length co14) t445) ∧ Aside0 (Kd.R (Kd.int .i64) 3 wc w.heap.size (fun k_ => some k_ ≠ ((.slice Ao14 t445.length co14) : Value).ownBlock) v452 t451) ∧ Aside0 (Kd.R k103 103 wc w.heap.size (fun k_ => some k_ ≠ ((.slice Ao14 t445.length co14) : Value).ownBlock ∧ some k_ ≠ (v452 : Value).ownBlock) (.slice Ao12 t438.length co12) t438) ∧ Aside0 (wc.heap[gb444]? = some (.cells #[.int .i64 t435, .int .i64 t436, .int .i64 t437, (.slice Ao12 t438.length co12)] 31 (0, 0))) ∧ Aside0 (Below w.heap.size w wc))
      case first =>
       have H := HC21.out; clear HC21
       replace H := Option.bind_eq_some_iff.mp H
       obtain ⟨t457, A220, H⟩ := H
       (try dsimp only at H)
       have A22 := aM_ A220; clear A220
       by_cases c23 : 0 ≤ x9_1
       ·rw [if_pos c23] at H
        have c23b0 : decide (0 ≤ x9_1) = true := decide_eq_true c23
        clear c23
        (first | rw [c23b0] | (simp only [i64_w, i32_w]; rw [c23b0]) | skip)
        by_cases c24 : t457 = (rd t445 x9_1)
        ·rw [if_pos c24] at H
         have c24b0 : (t457 == (rd t445 x9_1)) = true := beq_iff_eq.mpr c24
         have c24b1 : (t457 != (rd t445 x9_1)) = false := bne_eq_false_iff_eq.mpr c24
         clear c24
         by_cases c25 : (t451.length : Int) = (t445.length : Int)
         ·rw [if_pos c25] at H
          have c25b0 : ((t451.length : Int) == (t445.length : Int)) = true := beq_iff_eq.mpr c25
          have c25b1 : ((t451.length : Int) != (t445.length : Int)) = false := bne_eq_false_iff_eq.mpr c25
          have c25b2 : (t451.length == t445.length) = true := by first | simpa using c25 | (simp at c25 ⊢; omega)
          clear c25
          by_cases c26 : (rd t445 x9_1) ≥ 0
          ·rw [if_pos c26] at H
           have c26b0 : decide (0 ≤ (rd t445 x9_1)) = true := decide_eq_true c26
           clear c26
           by_cases c27 : x9_1 < (t451.length : Int)
           ·rw [if_pos c27] at H
            have c27b0 : decide (x9_1 < (t451.length : Int)) = true := decide_eq_true c27
            clear c27
            have H' := aM_ H
            clear H
            try go_wp2
            have n0_ := aM_ (rD_ HO_7.out); have n1_ := aM_ (rD_ HO_8.out); have n2_ := aM_ (rD_ HO_445003.out); have n3_ := aM_ (bD_ BK444.out); have n4_ := aM_ (wD_ HB.out); clear HO_7 HO_8 HO_445003 BK444 HB; have HO_7 := n0_; have HO_8 := n1_; have HO_445003 := n2_; have BK444 := n3_; have HB := n4_; clear n0_ n1_ n2_ n3_ n4_
            have p458 : 0 ≤ (x9_1 : Int) := dT_
            have q458 : x9_1 < (t445.length : Int) := dT_
            obtain ⟨ad458, e458, hx458_0⟩ := Kd.at_int (Kd.R_reads' HO_7.out).2.2 x9_1 p458 q458
            cases e458
            replace p458 := eq_true p458; replace q458 := eq_true q458
            have p459 : 0 ≤ (x9_1 : Int) := dT_
            have q459 : x9_1 < (t445.length : Int) := dT_
            obtain ⟨ad459, e459, hx459_0⟩ := Kd.at_int (Kd.R_reads' HO_7.out).2.2 x9_1 p459 q459
            obtain rfl : ad458 = ad459 := (by injection e459)
            replace p459 := eq_true p459; replace q459 := eq_true q459
            have p460 : 0 ≤ (x9_1 : Int) := dT_
            have q460 : x9_1 < (t451.length : Int) := dT_
            obtain ⟨Ao30, co30, eo30⟩ := Kd.R_slice HO_8.out
            (first | subst eo30 | (injection eo30 with f1_ f2_ f3_; have f4_ := f1_.symm; have f5_ := f3_.symm; clear f1_ f2_ f3_; subst f4_; subst f5_))
            obtain ⟨ad460, e460, hx460_0⟩ := Kd.at_int (Kd.R_reads' HO_8.out).2.2 x9_1 p460 q460
            cases e460
            replace p460 := eq_true p460; replace q460 := eq_true q460
            have p461 : 0 ≤ (x9_1 : Int) := dT_
            have q461 : x9_1 < (t445.length : Int) := dT_
            obtain ⟨ad461, e461, hx461_0⟩ := Kd.at_int (Kd.R_reads' HO_7.out).2.2 x9_1 p461 q461
            obtain rfl : ad458 = ad461 := (by injection e461)
            replace p461 := eq_true p461; replace q461 := eq_true q461
            refine start_ (n := 36) (S := fun w' => w'.cell? ⟨gb444, 0, none⟩ = some (.int .i64 t435) ∧ w'.cell? ⟨gb444, 1, none⟩ = some (.int .i64 t436) ∧ w'.cell? ⟨gb444, 2, none⟩ = some (.int .i64 t437) ∧ w'.cell? ⟨gb444, 3, none⟩ = some (.slice Ao12 t438.length co12) ∧ w'.cell? (ad458.add (x9_1).toNat) = some (.int .i64 (rd t445 x9_1)) ∧ w'.cell? (ad458.add (x9_1).toNat) = some (.int .i64 (rd t445 x9_1)) ∧ w'.cell? (ad460.add (x9_1).toNat) = some (.int .i64 (rd t451 x9_1)) ∧ w'.cell? (ad458.add (x9_1).toNat) = some (.int .i64 (rd t445 x9_1))) (ds := []) zb0_ (by kernel_rfl) rfl rfl ⟨(blk_cell BK444.out 0).trans rfl, (blk_cell BK444.out 1).trans rfl, (blk_cell BK444.out 2).trans rfl, (blk_cell BK444.out 3).trans rfl, hx458_0, hx459_0, hx460_0, hx461_0⟩ (fun hHeld => ?_); refine with_tabW laws_FnReach.tab11 laws_FnReach.bits11 (fun HT_ HW_ => ?_)
            generalize wr.drew = w28 at HO_7 HO_8 HO_445003 BK444 HB hx458_0 hx459_0 hx460_0 hx461_0 hHeld ⊢
            refine pu_ 1 (some 48) zb1_ rfl rfl ?_
            refine pu_ 2 (some 49) zb2_ rfl rfl ?_
            refine pu_ 3 (some 50) zb3_ rfl rfl ?_
            refine pu_ 4 (some 51) zb4_ rfl rfl ?_
            refine pu_ 6 (some 53) zb5_ rfl rfl ?_
            refine pu_ 7 (some 54) zb6_ rfl rfl ?_
            refine pu_ 8 (some 55) zb7_ rfl rfl ?_
            refine tk8_ 0 (some 47) zb8_ rfl rfl ?_
            refine tk8_ 9 (some 56) zb9_ rfl rfl ?_
            refine one_ (i := 5) (N := some 52) zb10_ rfl rfl (one_of HT_.out (by kernel_rfl)) (by decide) (fun K hK => ?_)
            refine goes_ Try.func30 (by kernel_rfl) rfl #[.agg #[.int .i64 t435, .int .i64 t436, .int .i64 t437, .slice Ao12 t438.length co12], .int .i64 t441, .int .i64 x9_1, .int .i64 t442, .int .i64 t443] (by rfl) rfl rfl (by (try simp only [List.map_toArray, List.map_cons, List.map_nil]); first | done | rfl | (simp only [List.length_drop, List.length_take]; rfl)) ?_
            with_reducible refine (impl_ArrivalAt.calls k1 t435 t436 t437 _ _ t438 t441 x9_1 t442 t443 t457 _ ?side1 ?side2 A22.out).mono ?_
            (case side1 => repeat (first | exact (Kd.R_reads' HO_445003.out).2.2 | (with_reducible refine cA_ ?_ _) | (with_reducible refine cN_ ?_ _) | (with_reducible refine cD_ ?_)))
            (case side2 => exact (Kd.R_reads' HO_445003.out).2.1)
            rintro e w29 ⟨rfl, hb⟩
            have HS4_ := (hb.cell (World.block_lt_of_cell? _ _ (hHeld.2.2.2.2.1))).trans (hHeld.2.2.2.2.1); have HS5_ := (hb.cell (World.block_lt_of_cell? _ _ (hHeld.2.2.2.2.2.1))).trans (hHeld.2.2.2.2.2.1); have HS6_ := (hb.cell (World.block_lt_of_cell? _ _ (hHeld.2.2.2.2.2.2.1))).trans (hHeld.2.2.2.2.2.2.1); have HS7_ := (hb.cell (World.block_lt_of_cell? _ _ (hHeld.2.2.2.2.2.2.2))).trans (hHeld.2.2.2.2.2.2.2)
            refine ⟨_, rfl, ?_⟩
            have n0_ := aM_ (rB_ (rb_ HO_7.out) hb); have n1_ := aM_ (rB_ (rb_ HO_8.out) hb); have n2_ := aM_ (rB_ (rb_ HO_445003.out) hb); have n3_ := aM_ (bB_ (kb_ BK444.out) hb); have n4_ := aM_ (wS_ (bw_) hb); clear HO_7 HO_8 HO_445003 BK444 HB; have HO_7 := n0_; have HO_8 := n1_; have HO_445003 := n2_; have BK444 := n3_; have HB := n4_; clear n0_ n1_ n2_ n3_ n4_; (try clear hb); (try clear hb2); (try clear hk); (try clear hi)
            refine hK.out _ _ ⟨(blk_cell BK444.out 0).trans rfl, (blk_cell BK444.out 1).trans rfl, (blk_cell BK444.out 2).trans rfl, (blk_cell BK444.out 3).trans rfl, HS4_, HS5_, HS6_, HS7_⟩ (fun hHeld => ?_)
            clear hK K
            refine norm_ (a' := ?_) ?_ ?_
            rotate_left
            ·show Act.put _ (some 52) _ = _
             simp only [Act.put, List.setIfInBounds_toArray, List.set_cons_zero, List.set_cons_succ, i64_w, i32_w]
             rfl
            refine pu_ 10 (some 57) zb11_ rfl rfl ?_
            refine pu_ 11 (some 58) zb12_ rfl rfl ?_
            refine pu_ 12 (some 59) zb13_ rfl rfl ?_
            refine pu_ 13 (some 60) zb14_ rfl rfl ?_
            refine pu_ 14 (some 61) zb15_ rfl rfl ?_
            refine pu_ 15 (some 62) zb16_ rfl rfl ?_
            refine pu_ 16 (some 63) zb17_ rfl rfl ?_
            refine pu_ 17 (some 64) zb18_ rfl rfl ?_
            refine pu_ 18 (some 65) zb19_ rfl rfl ?_
            refine pu_ 19 (some 66) zb20_ rfl rfl ?_
            refine pu_ 20 (some 67) zb21_ rfl rfl ?_
            refine tk8_ 21 (some 68) zb22_ rfl rfl ?_
            refine pu_ 22 (some 69) zb23_ rfl rfl ?_
            refine pu_ 23 (some 70) zb24_ rfl rfl ?_
            refine pu_ 24 (some 71) zb25_ rfl rfl ?_
            refine pu_ 25 (some 72) zb26_ rfl rfl ?_
            refine pu_ 26 (some 73) zb27_ rfl rfl ?_
            refine pu_ 27 (some 74) zb28_ rfl rfl ?_
            refine pu_ 29 (some 76) #[true, true, true, true, true, true, true, true, true, true, true, true, true, true, true, true, true, true, true, true, true, true, true, true, true, true, true, true, false, true, false, false, false, false, false, false] rfl rfl ?_
            refine pu_ 30 (some 77) #[true, true, true, true, true, true, true, true, true, true, true, true, true, true, true, true, true, true, true, true, true, true, true, true, true, true, true, true, false, true, true, false, false, false, false, false] rfl rfl ?_
            refine pu_ 31 (some 78) #[true, true, true, true, true, true, true, true, true, true, true, true, true, true, true, true, true, true, true, true, true, true, true, true, true, true, true, true, false, true, true, true, false, false, false, false] rfl rfl ?_
            refine tk8_ 28 (some 75) zb29_ rfl rfl ?_
            refine tk8_ 32 (some 79) zb30_ rfl rfl ?_
            refine pu_ 33 (some 80) zb31_ rfl rfl ?_
            refine pu_ 34 (some 81) zb32_ rfl rfl ?_
            refine pu_ 35 (some 82) zb33_ rfl rfl ?_
            refine done_ (done_of HT_.out (by kernel_rfl)) ?_
            try go_wp2
            go_meet
            case rel => exact ⟨_, (((rd t451 x9_1) != (rd t445 x9_1))), (by first | rfl | (simp; done) | (simp [*]; done)), H', ⟨by have := HK1.out; first | omega | exact Nat.le_refl _⟩, ⟨by (with_reducible repeat (first | apply rA_ | apply rN_ | apply rD_)); exact HO_7.out⟩, ⟨by (with_reducible repeat (first | apply rA_ | apply rN_ | apply rD_)); exact HO_8.out⟩, ⟨by (with_reducible repeat (first | apply rA_ | apply rN_ | apply rD_)); exact HO_445003.out⟩, ⟨by (with_reducible repeat (first | refine bN_ ?_ _ | refine bD_ ?_ | refine bA_ ?_ _)); exact BK444.out⟩, ⟨bw_⟩⟩
           ·rw [if_neg c27] at H
            exact absurd H (by simp)
          ·rw [if_neg c26] at H
           have c26b0 : decide (0 ≤ (rd t445 x9_1)) = false := decide_eq_false c26
           clear c26
           have H' := aM_ H
           clear H
           try go_wp2
           have n0_ := aM_ (rD_ HO_7.out); have n1_ := aM_ (rD_ HO_8.out); have n2_ := aM_ (rD_ HO_445003.out); have n3_ := aM_ (bD_ BK444.out); have n4_ := aM_ (wD_ HB.out); clear HO_7 HO_8 HO_445003 BK444 HB; have HO_7 := n0_; have HO_8 := n1_; have HO_445003 := n2_; have BK444 := n3_; have HB := n4_; clear n0_ n1_ n2_ n3_ n4_
           have p458 : 0 ≤ (x9_1 : Int) := dT_
           have q458 : x9_1 < (t445.length : Int) := dT_
           obtain ⟨ad458, e458, hx458_0⟩ := Kd.at_int (Kd.R_reads' HO_7.out).2.2 x9_1 p458 q458
           cases e458
           replace p458 := eq_true p458; replace q458 := eq_true q458
           have p459 : 0 ≤ (x9_1 : Int) := dT_
           have q459 : x9_1 < (t445.length : Int) := dT_
           obtain ⟨ad459, e459, hx459_0⟩ := Kd.at_int (Kd.R_reads' HO_7.out).2.2 x9_1 p459 q459
           obtain rfl : ad458 = ad459 := (by injection e459)
           replace p459 := eq_true p459; replace q459 := eq_true q459
           refine start_ (n := 36) (S := fun w' => w'.cell? ⟨gb444, 0, none⟩ = some (.int .i64 t435) ∧ w'.cell? ⟨gb444, 1, none⟩ = some (.int .i64 t436) ∧ w'.cell? ⟨gb444, 2, none⟩ = some (.int .i64 t437) ∧ w'.cell? ⟨gb444, 3, none⟩ = some (.slice Ao12 t438.length co12) ∧ w'.cell? (ad458.add (x9_1).toNat) = some (.int .i64 (rd t445 x9_1)) ∧ w'.cell? (ad458.add (x9_1).toNat) = some (.int .i64 (rd t445 x9_1))) (ds := []) zb0_ (by kernel_rfl) rfl rfl ⟨(blk_cell BK444.out 0).trans rfl, (blk_cell BK444.out 1).trans rfl, (blk_cell BK444.out 2).trans rfl, (blk_cell BK444.out 3).trans rfl, hx458_0, hx459_0⟩ (fun hHeld => ?_); refine with_tabW laws_FnReach.tab11 laws_FnReach.bits11 (fun HT_ HW_ => ?_)
           generalize wr.drew = w31 at HO_7 HO_8 HO_445003 BK444 HB hx458_0 hx459_0 hHeld ⊢
           refine pu_ 1 (some 48) zb1_ rfl rfl ?_
           refine pu_ 2 (some 49) zb2_ rfl rfl ?_
           refine pu_ 3 (some 50) zb3_ rfl rfl ?_
           refine pu_ 4 (some 51) zb4_ rfl rfl ?_
           refine pu_ 6 (some 53) zb5_ rfl rfl ?_
           refine pu_ 7 (some 54) zb6_ rfl rfl ?_
           refine pu_ 8 (some 55) zb7_ rfl rfl ?_
           refine tk6_ 0 (some 47) zb8_ rfl rfl ?_
           refine tk6_ 9 (some 56) zb9_ rfl rfl ?_
           refine one_ (i := 5) (N := some 52) zb10_ rfl rfl (one_of HT_.out (by kernel_rfl)) (by decide) (fun K hK => ?_)
           refine goes_ Try.func30 (by kernel_rfl) rfl #[.agg #[.int .i64 t435, .int .i64 t436, .int .i64 t437, .slice Ao12 t438.length co12], .int .i64 t441, .int .i64 x9_1, .int .i64 t442, .int .i64 t443] (by rfl) rfl rfl (by (try simp only [List.map_toArray, List.map_cons, List.map_nil]); first | done | rfl | (simp only [List.length_drop, List.length_take]; rfl)) ?_
           with_reducible refine (impl_ArrivalAt.calls k1 t435 t436 t437 _ _ t438 t441 x9_1 t442 t443 t457 _ ?side1 ?side2 A22.out).mono ?_
           (case side1 => repeat (first | exact (Kd.R_reads' HO_445003.out).2.2 | (with_reducible refine cA_ ?_ _) | (with_reducible refine cN_ ?_ _) | (with_reducible refine cD_ ?_)))
           (case side2 => exact (Kd.R_reads' HO_445003.out).2.1)
           rintro e w32 ⟨rfl, hb⟩
           have HS4_ := (hb.cell (World.block_lt_of_cell? _ _ (hHeld.2.2.2.2.1))).trans (hHeld.2.2.2.2.1); have HS5_ := (hb.cell (World.block_lt_of_cell? _ _ (hHeld.2.2.2.2.2))).trans (hHeld.2.2.2.2.2)
           refine ⟨_, rfl, ?_⟩
           have n0_ := aM_ (rB_ (rb_ HO_7.out) hb); have n1_ := aM_ (rB_ (rb_ HO_8.out) hb); have n2_ := aM_ (rB_ (rb_ HO_445003.out) hb); have n3_ := aM_ (bB_ (kb_ BK444.out) hb); have n4_ := aM_ (wS_ (bw_) hb); clear HO_7 HO_8 HO_445003 BK444 HB; have HO_7 := n0_; have HO_8 := n1_; have HO_445003 := n2_; have BK444 := n3_; have HB := n4_; clear n0_ n1_ n2_ n3_ n4_; (try clear hb); (try clear hb2); (try clear hk); (try clear hi)
           obtain ⟨Ao33, co33, eo33⟩ := Kd.R_slice HO_8.out
           (first | subst eo33 | (injection eo33 with f1_ f2_ f3_; have f4_ := f1_.symm; have f5_ := f3_.symm; clear f1_ f2_ f3_; subst f4_; subst f5_))
           refine hK.out _ _ ⟨(blk_cell BK444.out 0).trans rfl, (blk_cell BK444.out 1).trans rfl, (blk_cell BK444.out 2).trans rfl, (blk_cell BK444.out 3).trans rfl, HS4_, HS5_⟩ (fun hHeld => ?_)
           clear hK K
           refine norm_ (a' := ?_) ?_ ?_
           rotate_left
           ·show Act.put _ (some 52) _ = _
            simp only [Act.put, List.setIfInBounds_toArray, List.set_cons_zero, List.set_cons_succ, i64_w, i32_w]
            rfl
           refine pu_ 10 (some 57) zb11_ rfl rfl ?_
           refine pu_ 11 (some 58) zb12_ rfl rfl ?_
           refine pu_ 12 (some 59) zb13_ rfl rfl ?_
           refine pu_ 13 (some 60) zb14_ rfl rfl ?_
           refine pu_ 14 (some 61) zb15_ rfl rfl ?_
           refine pu_ 15 (some 62) zb16_ rfl rfl ?_
           refine pu_ 16 (some 63) zb17_ rfl rfl ?_
           refine pu_ 17 (some 64) zb18_ rfl rfl ?_
           refine pu_ 18 (some 65) zb19_ rfl rfl ?_
           refine pu_ 19 (some 66) zb20_ rfl rfl ?_
           refine pu_ 20 (some 67) zb21_ rfl rfl ?_
           refine tk6_ 21 (some 68) zb22_ rfl rfl ?_
           refine pu_ 22 (some 69) zb23_ rfl rfl ?_
           refine pu_ 23 (some 70) zb24_ rfl rfl ?_
           refine pu_ 24 (some 71) zb25_ rfl rfl ?_
           refine pn_ 25 (some 72) zb26_ rfl rfl ?_
           refine pn_ 26 (some 73) zb27_ rfl rfl ?_
           refine pn_ 27 (some 74) zb28_ rfl rfl ?_
           refine pn_ 28 (some 75) zb34_ rfl rfl ?_
           refine pn_ 29 (some 76) zb35_ rfl rfl ?_
           refine pn_ 30 (some 77) zb36_ rfl rfl ?_
           refine pn_ 31 (some 78) zb29_ rfl rfl ?_
           refine pn_ 32 (some 79) zb30_ rfl rfl ?_
           refine pn_ 33 (some 80) zb31_ rfl rfl ?_
           refine pu_ 34 (some 81) zb32_ rfl rfl ?_
           refine pu_ 35 (some 82) zb33_ rfl rfl ?_
           refine done_ (done_of HT_.out (by kernel_rfl)) ?_
           try go_wp2
           go_meet
           case rel => exact ⟨_, (false), (by first | rfl | (simp; done) | (simp [*]; done)), H', ⟨by have := HK1.out; first | omega | exact Nat.le_refl _⟩, ⟨by (with_reducible repeat (first | apply rA_ | apply rN_ | apply rD_)); exact HO_7.out⟩, ⟨by (with_reducible repeat (first | apply rA_ | apply rN_ | apply rD_)); exact HO_8.out⟩, ⟨by (with_reducible repeat (first | apply rA_ | apply rN_ | apply rD_)); exact HO_445003.out⟩, ⟨by (with_reducible repeat (first | refine bN_ ?_ _ | refine bD_ ?_ | refine bA_ ?_ _)); exact BK444.out⟩, ⟨bw_⟩⟩
         ·rw [if_neg c25] at H
          have c25b0 : ((t451.length : Int) == (t445.length : Int)) = false := beq_eq_false_iff_ne.mpr c25
          have c25b1 : ((t451.length : Int) != (t445.length : Int)) = true := bne_iff_ne.mpr c25
          have c25b2 : (t451.length == t445.length) = false := by first | simpa using c25 | (simp at c25 ⊢; omega)
          have H' := aM_ H
          clear H
          try go_wp2
          have n0_ := aM_ (rD_ HO_7.out); have n1_ := aM_ (rD_ HO_8.out); have n2_ := aM_ (rD_ HO_445003.out); have n3_ := aM_ (bD_ BK444.out); have n4_ := aM_ (wD_ HB.out); clear HO_7 HO_8 HO_445003 BK444 HB; have HO_7 := n0_; have HO_8 := n1_; have HO_445003 := n2_; have BK444 := n3_; have HB := n4_; clear n0_ n1_ n2_ n3_ n4_
          have p458 : 0 ≤ (x9_1 : Int) := dT_
          have q458 : x9_1 < (t445.length : Int) := dT_
          obtain ⟨ad458, e458, hx458_0⟩ := Kd.at_int (Kd.R_reads' HO_7.out).2.2 x9_1 p458 q458
          cases e458
          replace p458 := eq_true p458; replace q458 := eq_true q458
          refine start_ (n := 36) (S := fun w' => w'.cell? ⟨gb444, 0, none⟩ = some (.int .i64 t435) ∧ w'.cell? ⟨gb444, 1, none⟩ = some (.int .i64 t436) ∧ w'.cell? ⟨gb444, 2, none⟩ = some (.int .i64 t437) ∧ w'.cell? ⟨gb444, 3, none⟩ = some (.slice Ao12 t438.length co12) ∧ w'.cell? (ad458.add (x9_1).toNat) = some (.int .i64 (rd t445 x9_1))) (ds := []) zb0_ (by kernel_rfl) rfl rfl ⟨(blk_cell BK444.out 0).trans rfl, (blk_cell BK444.out 1).trans rfl, (blk_cell BK444.out 2).trans rfl, (blk_cell BK444.out 3).trans rfl, hx458_0⟩ (fun hHeld => ?_); refine with_tabW laws_FnReach.tab11 laws_FnReach.bits11 (fun HT_ HW_ => ?_)
          generalize wr.drew = w34 at HO_7 HO_8 HO_445003 BK444 HB hx458_0 hHeld ⊢
          refine pu_ 1 (some 48) zb1_ rfl rfl ?_
          refine pu_ 2 (some 49) zb2_ rfl rfl ?_
          refine pu_ 3 (some 50) zb3_ rfl rfl ?_
          refine pu_ 4 (some 51) zb4_ rfl rfl ?_
          refine pu_ 6 (some 53) zb5_ rfl rfl ?_
          refine pu_ 7 (some 54) zb6_ rfl rfl ?_
          refine pu_ 8 (some 55) zb7_ rfl rfl ?_
          refine tk5_ 0 (some 47) zb8_ rfl rfl ?_
          refine tk5_ 9 (some 56) zb9_ rfl rfl ?_
          refine one_ (i := 5) (N := some 52) zb10_ rfl rfl (one_of HT_.out (by kernel_rfl)) (by decide) (fun K hK => ?_)
          refine goes_ Try.func30 (by kernel_rfl) rfl #[.agg #[.int .i64 t435, .int .i64 t436, .int .i64 t437, .slice Ao12 t438.length co12], .int .i64 t441, .int .i64 x9_1, .int .i64 t442, .int .i64 t443] (by rfl) rfl rfl (by (try simp only [List.map_toArray, List.map_cons, List.map_nil]); first | done | rfl | (simp only [List.length_drop, List.length_take]; rfl)) ?_
          with_reducible refine (impl_ArrivalAt.calls k1 t435 t436 t437 _ _ t438 t441 x9_1 t442 t443 t457 _ ?side1 ?side2 A22.out).mono ?_
          (case side1 => repeat (first | exact (Kd.R_reads' HO_445003.out).2.2 | (with_reducible refine cA_ ?_ _) | (with_reducible refine cN_ ?_ _) | (with_reducible refine cD_ ?_)))
          (case side2 => exact (Kd.R_reads' HO_445003.out).2.1)
          rintro e w35 ⟨rfl, hb⟩
          have HS4_ := (hb.cell (World.block_lt_of_cell? _ _ (hHeld.2.2.2.2))).trans (hHeld.2.2.2.2)
          refine ⟨_, rfl, ?_⟩
          have n0_ := aM_ (rB_ (rb_ HO_7.out) hb); have n1_ := aM_ (rB_ (rb_ HO_8.out) hb); have n2_ := aM_ (rB_ (rb_ HO_445003.out) hb); have n3_ := aM_ (bB_ (kb_ BK444.out) hb); have n4_ := aM_ (wS_ (bw_) hb); clear HO_7 HO_8 HO_445003 BK444 HB; have HO_7 := n0_; have HO_8 := n1_; have HO_445003 := n2_; have BK444 := n3_; have HB := n4_; clear n0_ n1_ n2_ n3_ n4_; (try clear hb); (try clear hb2); (try clear hk); (try clear hi)
          obtain ⟨Ao36, co36, eo36⟩ := Kd.R_slice HO_8.out
          (first | subst eo36 | (injection eo36 with f1_ f2_ f3_; have f4_ := f1_.symm; have f5_ := f3_.symm; clear f1_ f2_ f3_; subst f4_; subst f5_))
          refine hK.out _ _ ⟨(blk_cell BK444.out 0).trans rfl, (blk_cell BK444.out 1).trans rfl, (blk_cell BK444.out 2).trans rfl, (blk_cell BK444.out 3).trans rfl, HS4_⟩ (fun hHeld => ?_)
          clear hK K
          refine norm_ (a' := ?_) ?_ ?_
          rotate_left
          ·show Act.put _ (some 52) _ = _
           simp only [Act.put, List.setIfInBounds_toArray, List.set_cons_zero, List.set_cons_succ, i64_w, i32_w]
           rfl
          refine pu_ 10 (some 57) zb11_ rfl rfl ?_
          refine pu_ 11 (some 58) zb12_ rfl rfl ?_
          refine pu_ 12 (some 59) zb13_ rfl rfl ?_
          refine pu_ 13 (some 60) zb14_ rfl rfl ?_
          refine pu_ 14 (some 61) zb15_ rfl rfl ?_
          refine pu_ 15 (some 62) zb16_ rfl rfl ?_
          refine pu_ 16 (some 63) zb17_ rfl rfl ?_
          refine pu_ 17 (some 64) zb18_ rfl rfl ?_
          refine pn_ 18 (some 65) zb19_ rfl rfl ?_
          refine pn_ 19 (some 66) zb20_ rfl rfl ?_
          refine pn_ 20 (some 67) zb21_ rfl rfl ?_
          refine pn_ 21 (some 68) zb22_ rfl rfl ?_
          refine pn_ 22 (some 69) zb23_ rfl rfl ?_
          refine pu_ 23 (some 70) zb24_ rfl rfl ?_
          refine pu_ 24 (some 71) zb25_ rfl rfl ?_
          refine pn_ 25 (some 72) zb26_ rfl rfl ?_
          refine pn_ 26 (some 73) zb27_ rfl rfl ?_
          refine pn_ 27 (some 74) zb28_ rfl rfl ?_
          refine pn_ 28 (some 75) zb34_ rfl rfl ?_
          refine pn_ 29 (some 76) zb35_ rfl rfl ?_
          refine pn_ 30 (some 77) zb36_ rfl rfl ?_
          refine pn_ 31 (some 78) zb29_ rfl rfl ?_
          refine pn_ 32 (some 79) zb30_ rfl rfl ?_
          refine pn_ 33 (some 80) zb31_ rfl rfl ?_
          refine pu_ 34 (some 81) zb32_ rfl rfl ?_
          refine pu_ 35 (some 82) zb33_ rfl rfl ?_
          refine done_ (done_of HT_.out (by kernel_rfl)) ?_
          try go_wp2
          go_meet
          case rel => exact ⟨_, (false), (by first | rfl | (simp; done) | (simp [*]; done)), H', ⟨by have := HK1.out; first | omega | exact Nat.le_refl _⟩, ⟨by (with_reducible repeat (first | apply rA_ | apply rN_ | apply rD_)); exact HO_7.out⟩, ⟨by (with_reducible repeat (first | apply rA_ | apply rN_ | apply rD_)); exact HO_8.out⟩, ⟨by (with_reducible repeat (first | apply rA_ | apply rN_ | apply rD_)); exact HO_445003.out⟩, ⟨by (with_reducible repeat (first | refine bN_ ?_ _ | refine bD_ ?_ | refine bA_ ?_ _)); exact BK444.out⟩, ⟨bw_⟩⟩
        ·rw [if_neg c24] at H
         have c24b0 : (t457 == (rd t445 x9_1)) = false := beq_eq_false_iff_ne.mpr c24
         have c24b1 : (t457 != (rd t445 x9_1)) = true := bne_iff_ne.mpr c24
         have H' := aM_ H
         clear H
         try go_wp2
         have n0_ := aM_ (rD_ HO_7.out); have n1_ := aM_ (rD_ HO_8.out); have n2_ := aM_ (rD_ HO_445003.out); have n3_ := aM_ (bD_ BK444.out); have n4_ := aM_ (wD_ HB.out); clear HO_7 HO_8 HO_445003 BK444 HB; have HO_7 := n0_; have HO_8 := n1_; have HO_445003 := n2_; have BK444 := n3_; have HB := n4_; clear n0_ n1_ n2_ n3_ n4_
         have p458 : 0 ≤ (x9_1 : Int) := dT_
         have q458 : x9_1 < (t445.length : Int) := dT_
         obtain ⟨ad458, e458, hx458_0⟩ := Kd.at_int (Kd.R_reads' HO_7.out).2.2 x9_1 p458 q458
         cases e458
         replace p458 := eq_true p458; replace q458 := eq_true q458
         refine start_ (n := 36) (S := fun w' => w'.cell? ⟨gb444, 0, none⟩ = some (.int .i64 t435) ∧ w'.cell? ⟨gb444, 1, none⟩ = some (.int .i64 t436) ∧ w'.cell? ⟨gb444, 2, none⟩ = some (.int .i64 t437) ∧ w'.cell? ⟨gb444, 3, none⟩ = some (.slice Ao12 t438.length co12) ∧ w'.cell? (ad458.add (x9_1).toNat) = some (.int .i64 (rd t445 x9_1))) (ds := []) zb0_ (by kernel_rfl) rfl rfl ⟨(blk_cell BK444.out 0).trans rfl, (blk_cell BK444.out 1).trans rfl, (blk_cell BK444.out 2).trans rfl, (blk_cell BK444.out 3).trans rfl, hx458_0⟩ (fun hHeld => ?_); refine with_tabW laws_FnReach.tab11 laws_FnReach.bits11 (fun HT_ HW_ => ?_)
         generalize wr.drew = w37 at HO_7 HO_8 HO_445003 BK444 HB hx458_0 hHeld ⊢
         refine pu_ 1 (some 48) zb1_ rfl rfl ?_
         refine pu_ 2 (some 49) zb2_ rfl rfl ?_
         refine pu_ 3 (some 50) zb3_ rfl rfl ?_
         refine pu_ 4 (some 51) zb4_ rfl rfl ?_
         refine pu_ 6 (some 53) zb5_ rfl rfl ?_
         refine pu_ 7 (some 54) zb6_ rfl rfl ?_
         refine pu_ 8 (some 55) zb7_ rfl rfl ?_
         refine tk5_ 0 (some 47) zb8_ rfl rfl ?_
         refine tk5_ 9 (some 56) zb9_ rfl rfl ?_
         refine one_ (i := 5) (N := some 52) zb10_ rfl rfl (one_of HT_.out (by kernel_rfl)) (by decide) (fun K hK => ?_)
         refine goes_ Try.func30 (by kernel_rfl) rfl #[.agg #[.int .i64 t435, .int .i64 t436, .int .i64 t437, .slice Ao12 t438.length co12], .int .i64 t441, .int .i64 x9_1, .int .i64 t442, .int .i64 t443] (by rfl) rfl rfl (by (try simp only [List.map_toArray, List.map_cons, List.map_nil]); first | done | rfl | (simp only [List.length_drop, List.length_take]; rfl)) ?_
         with_reducible refine (impl_ArrivalAt.calls k1 t435 t436 t437 _ _ t438 t441 x9_1 t442 t443 t457 _ ?side1 ?side2 A22.out).mono ?_
         (case side1 => repeat (first | exact (Kd.R_reads' HO_445003.out).2.2 | (with_reducible refine cA_ ?_ _) | (with_reducible refine cN_ ?_ _) | (with_reducible refine cD_ ?_)))
         (case side2 => exact (Kd.R_reads' HO_445003.out).2.1)
         rintro e w38 ⟨rfl, hb⟩
         have HS4_ := (hb.cell (World.block_lt_of_cell? _ _ (hHeld.2.2.2.2))).trans (hHeld.2.2.2.2)
         refine ⟨_, rfl, ?_⟩
         have n0_ := aM_ (rB_ (rb_ HO_7.out) hb); have n1_ := aM_ (rB_ (rb_ HO_8.out) hb); have n2_ := aM_ (rB_ (rb_ HO_445003.out) hb); have n3_ := aM_ (bB_ (kb_ BK444.out) hb); have n4_ := aM_ (wS_ (bw_) hb); clear HO_7 HO_8 HO_445003 BK444 HB; have HO_7 := n0_; have HO_8 := n1_; have HO_445003 := n2_; have BK444 := n3_; have HB := n4_; clear n0_ n1_ n2_ n3_ n4_; (try clear hb); (try clear hb2); (try clear hk); (try clear hi)
         refine hK.out _ _ ⟨(blk_cell BK444.out 0).trans rfl, (blk_cell BK444.out 1).trans rfl, (blk_cell BK444.out 2).trans rfl, (blk_cell BK444.out 3).trans rfl, HS4_⟩ (fun hHeld => ?_)
         clear hK K
         refine norm_ (a' := ?_) ?_ ?_
         rotate_left
         ·show Act.put _ (some 52) _ = _
          simp only [Act.put, List.setIfInBounds_toArray, List.set_cons_zero, List.set_cons_succ, i64_w, i32_w]
          rfl
         refine pu_ 10 (some 57) zb11_ rfl rfl ?_
         refine pu_ 11 (some 58) zb12_ rfl rfl ?_
         refine pn_ 12 (some 59) zb13_ rfl rfl ?_
         refine pn_ 13 (some 60) zb14_ rfl rfl ?_
         refine pn_ 14 (some 61) zb15_ rfl rfl ?_
         refine pn_ 15 (some 62) zb16_ rfl rfl ?_
         refine pn_ 16 (some 63) zb17_ rfl rfl ?_
         refine pn_ 17 (some 64) zb18_ rfl rfl ?_
         refine pn_ 18 (some 65) zb19_ rfl rfl ?_
         refine pn_ 19 (some 66) zb20_ rfl rfl ?_
         refine pn_ 20 (some 67) zb21_ rfl rfl ?_
         refine pn_ 21 (some 68) zb22_ rfl rfl ?_
         refine pn_ 22 (some 69) zb23_ rfl rfl ?_
         refine pn_ 23 (some 70) zb24_ rfl rfl ?_
         refine pn_ 24 (some 71) zb25_ rfl rfl ?_
         refine pn_ 25 (some 72) zb26_ rfl rfl ?_
         refine pn_ 26 (some 73) zb27_ rfl rfl ?_
         refine pn_ 27 (some 74) zb28_ rfl rfl ?_
         refine pn_ 28 (some 75) zb34_ rfl rfl ?_
         refine pn_ 29 (some 76) zb35_ rfl rfl ?_
         refine pn_ 30 (some 77) zb36_ rfl rfl ?_
         refine pn_ 31 (some 78) zb29_ rfl rfl ?_
         refine pn_ 32 (some 79) zb30_ rfl rfl ?_
         refine pn_ 33 (some 80) zb31_ rfl rfl ?_
         refine pn_ 34 (some 81) zb32_ rfl rfl ?_
         refine pu_ 35 (some 82) zb33_ rfl rfl ?_
         refine done_ (done_of HT_.out (by kernel_rfl)) ?_
         try go_wp2
         go_meet
         case rel => exact ⟨_, (true), (by first | rfl | (simp; done) | (simp [*]; done)), H', ⟨by have := HK1.out; first | omega | exact Nat.le_refl _⟩, ⟨by (with_reducible repeat (first | apply rA_ | apply rN_ | apply rD_)); exact HO_7.out⟩, ⟨by (with_reducible repeat (first | apply rA_ | apply rN_ | apply rD_)); exact HO_8.out⟩, ⟨by (with_reducible repeat (first | apply rA_ | apply rN_ | apply rD_)); exact HO_445003.out⟩, ⟨by (with_reducible repeat (first | refine bN_ ?_ _ | refine bD_ ?_ | refine bA_ ?_ _)); exact BK444.out⟩, ⟨bw_⟩⟩
       ·rw [if_neg c23] at H
        exact absurd H (by simp)
      case rest =>
       clear HC21
       try clear hx4
       try clear c24b0
       try clear c24b1
       try clear c25b0
       try clear c25b1
       try clear c25b2
       try clear hx458_0
       obtain ⟨kq, x82_20, rfl, HA, HJ20, HO_7, HO_8, HO_445003, BK444, HB⟩ := hcut
       cases kq with
       | zero => exact absurd HA.out (by simp [laws_FnReach.j1])
       | succ kj20 =>
        have H := HA.out; clear HA
        simp only [laws_FnReach.j1] at H
        by_cases c39 : x82_20 = true
        ·subst c39
         have H1 : (some false) = some r := by rw [if_pos rfl] at H; exact H
         clear H; have H := H1; clear H1
         exact absurd ((Option.some.inj H).trans HTRUE.out) (by decide)
        ·replace c39 := Bool.eq_false_iff.mpr c39
         subst c39
         have H1 : (if x9_1 = t441 then (if 0 ≤ x9_1 then (if x9_1 < (t445.length : Int) then (if (rd t445 x9_1) = t442 then (laws_FnReach.j2 kj20 t441 t442 t443 t445 t451 x9_1 true t435 t436 t437 t438) else (laws_FnReach.j2 kj20 t441 t442 t443 t445 t451 x9_1 (decide ((rd t445 x9_1) < 0)) t435 t436 t437 t438)) else (none)) else (none)) else (if 0 ≤ x9_1 then (if x9_1 < (t445.length : Int) then (laws_FnReach.j2 kj20 t441 t442 t443 t445 t451 x9_1 (decide ((rd t445 x9_1) < 0)) t435 t436 t437 t438) else (none)) else (none))) = some r := by rw [if_neg (show ¬ (false = true) by decide)] at H; exact H
         clear H; have H := H1; clear H1; have HC40 := aM_ H; clear H
         go_upto_region 13 with (fail)
         go_cut [10] (fun v10 wc => ∃ (kq : Nat) (x10_39 : Bool), v10 = .bool x10_39 ∧ Aside0 (laws_FnReach.j2 kq t441 t442 t443 t445 t451 x9_1 x10_39 t435 t436 t437 t438 = some r) ∧ Aside0 (kq ≤ kj20) ∧ Aside0 (Kd.R (Kd.int .i64) 3 wc w.heap.size (fun k_ => some k_ ≠ (v452 : Value).ownBlock) (.slice Ao14 t445.length co14) t445) ∧ Aside0 (Kd.R (Kd.int .i64) 3 wc w.heap.size (fun k_ => some k_ ≠ ((.slice Ao14 t445.length co14) : Value).ownBlock) v452 t451) ∧ Aside0 (Kd.R k103 103 wc w.heap.size (fun k_ => some k_ ≠ ((.slice Ao14 t445.length co14) : Value).ownBlock ∧ some k_ ≠ (v452 : Value).ownBlock) (.slice Ao12 t438.length co12) t438) ∧ Aside0 (wc.heap[gb444]? = some (.cells #[.int .i64 t435, .int .i64 t436, .int .i64 t437, (.slice Ao12 t438.length co12)] 31 (0, 0))) ∧ Aside0 (Below w.heap.size w wc))
         case first =>
          have H := HC40.out; clear HC40
          by_cases c41 : x9_1 = t441
          ·rw [if_pos c41] at H
           have c41b0 : (x9_1 == t441) = true := beq_iff_eq.mpr c41
           have c41b1 : (x9_1 != t441) = false := bne_eq_false_iff_eq.mpr c41
           clear c41
           (first | rw [c41b0] | (simp only [i64_w, i32_w]; rw [c41b0]) | skip)
           by_cases c42 : 0 ≤ x9_1
           ·rw [if_pos c42] at H
            have c42b0 : decide (0 ≤ x9_1) = true := decide_eq_true c42
            clear c42
            by_cases c43 : x9_1 < (t445.length : Int)
            ·rw [if_pos c43] at H
             have c43b0 : decide (x9_1 < (t445.length : Int)) = true := decide_eq_true c43
             clear c43
             by_cases c44 : (rd t445 x9_1) = t442
             ·rw [if_pos c44] at H
              have c44b0 : ((rd t445 x9_1) == t442) = true := beq_iff_eq.mpr c44
              have c44b1 : ((rd t445 x9_1) != t442) = false := bne_eq_false_iff_eq.mpr c44
              clear c44
              have H' := aM_ H
              clear H
              have p462 : 0 ≤ (x9_1 : Int) := dT_
              have q462 : x9_1 < (t445.length : Int) := dT_
              obtain ⟨ad462, e462, hx462_0⟩ := Kd.at_int (Kd.R_reads' HO_7.out).2.2 x9_1 p462 q462
              cases e462
              replace p462 := eq_true p462; replace q462 := eq_true q462
              go_wp2
              go_meet
              case rel => exact ⟨_, (true), (by first | rfl | (simp; done) | (simp [*]; done)), H', ⟨by have := HK1.out; have := HJ20.out; first | omega | exact Nat.le_refl _⟩, ⟨by (with_reducible repeat (first | apply rA_ | apply rN_ | apply rD_)); exact HO_7.out⟩, ⟨by (with_reducible repeat (first | apply rA_ | apply rN_ | apply rD_)); exact HO_8.out⟩, ⟨by (with_reducible repeat (first | apply rA_ | apply rN_ | apply rD_)); exact HO_445003.out⟩, ⟨by (with_reducible repeat (first | refine bN_ ?_ _ | refine bD_ ?_ | refine bA_ ?_ _)); exact BK444.out⟩, ⟨bw_⟩⟩
             ·rw [if_neg c44] at H
              have c44b0 : ((rd t445 x9_1) == t442) = false := beq_eq_false_iff_ne.mpr c44
              have c44b1 : ((rd t445 x9_1) != t442) = true := bne_iff_ne.mpr c44
              have H' := aM_ H
              clear H
              have p462 : 0 ≤ (x9_1 : Int) := dT_
              have q462 : x9_1 < (t445.length : Int) := dT_
              obtain ⟨ad462, e462, hx462_0⟩ := Kd.at_int (Kd.R_reads' HO_7.out).2.2 x9_1 p462 q462
              cases e462
              replace p462 := eq_true p462; replace q462 := eq_true q462
              have p463 : 0 ≤ (x9_1 : Int) := dT_
              have q463 : x9_1 < (t445.length : Int) := dT_
              obtain ⟨ad463, e463, hx463_0⟩ := Kd.at_int (Kd.R_reads' HO_7.out).2.2 x9_1 p463 q463
              obtain rfl : ad462 = ad463 := (by injection e463)
              replace p463 := eq_true p463; replace q463 := eq_true q463
              go_wp2
              go_meet
              case rel => exact ⟨_, (decide ((rd t445 x9_1) < 0)), (by first | rfl | (simp; done) | (simp [*]; done)), H', ⟨by have := HK1.out; have := HJ20.out; first | omega | exact Nat.le_refl _⟩, ⟨by (with_reducible repeat (first | apply rA_ | apply rN_ | apply rD_)); exact HO_7.out⟩, ⟨by (with_reducible repeat (first | apply rA_ | apply rN_ | apply rD_)); exact HO_8.out⟩, ⟨by (with_reducible repeat (first | apply rA_ | apply rN_ | apply rD_)); exact HO_445003.out⟩, ⟨by (with_reducible repeat (first | refine bN_ ?_ _ | refine bD_ ?_ | refine bA_ ?_ _)); exact BK444.out⟩, ⟨bw_⟩⟩
            ·rw [if_neg c43] at H
             exact absurd H (by simp)
           ·rw [if_neg c42] at H
            exact absurd H (by simp)
          ·rw [if_neg c41] at H
           have c41b0 : (x9_1 == t441) = false := beq_eq_false_iff_ne.mpr c41
           have c41b1 : (x9_1 != t441) = true := bne_iff_ne.mpr c41
           (first | rw [c41b0] | (simp only [i64_w, i32_w]; rw [c41b0]) | skip)
           by_cases c45 : 0 ≤ x9_1
           ·rw [if_pos c45] at H
            have c45b0 : decide (0 ≤ x9_1) = true := decide_eq_true c45
            clear c45
            by_cases c46 : x9_1 < (t445.length : Int)
            ·rw [if_pos c46] at H
             have c46b0 : decide (x9_1 < (t445.length : Int)) = true := decide_eq_true c46
             clear c46
             have H' := aM_ H
             clear H
             have p464 : 0 ≤ (x9_1 : Int) := dT_
             have q464 : x9_1 < (t445.length : Int) := dT_
             obtain ⟨ad464, e464, hx464_0⟩ := Kd.at_int (Kd.R_reads' HO_7.out).2.2 x9_1 p464 q464
             cases e464
             replace p464 := eq_true p464; replace q464 := eq_true q464
             go_wp2
             go_meet
             case rel => exact ⟨_, (decide ((rd t445 x9_1) < 0)), (by first | rfl | (simp; done) | (simp [*]; done)), H', ⟨by have := HK1.out; have := HJ20.out; first | omega | exact Nat.le_refl _⟩, ⟨by (with_reducible repeat (first | apply rA_ | apply rN_ | apply rD_)); exact HO_7.out⟩, ⟨by (with_reducible repeat (first | apply rA_ | apply rN_ | apply rD_)); exact HO_8.out⟩, ⟨by (with_reducible repeat (first | apply rA_ | apply rN_ | apply rD_)); exact HO_445003.out⟩, ⟨by (with_reducible repeat (first | refine bN_ ?_ _ | refine bD_ ?_ | refine bA_ ?_ _)); exact BK444.out⟩, ⟨bw_⟩⟩
            ·rw [if_neg c46] at H
             exact absurd H (by simp)
           ·rw [if_neg c45] at H
            exact absurd H (by simp)
         case rest =>
          clear HC40
          try clear hx4
          try clear c24b0
          try clear c24b1
          try clear c25b0
          try clear c25b1
          try clear c25b2
          try clear c41b0
          try clear c41b1
          try clear c42b0
          try clear c43b0
          try clear c44b0
          try clear c44b1
          try clear c45b0
          try clear hx45
          try clear c46b0
          try clear hx46
          try clear hx458_0
          try clear hx462_0
          try clear hx463_0
          try clear hx464_0
          obtain ⟨kq, x10_39, rfl, HA, HJ39, HO_7, HO_8, HO_445003, BK444, HB⟩ := hcut
          cases kq with
          | zero => exact absurd HA.out (by simp [laws_FnReach.j2])
          | succ kj39 =>
           have H := HA.out; clear HA
           simp only [laws_FnReach.j2] at H
           have H' := aM_ H
           clear H
           go_wp2
           go_loopg [10, 11] kj39 (fun kq v10 v11 w' => ∃ (x10_4 : Bool) (x11_4 : Int), v10 = .bool x10_4 ∧ v11 = .int .i64 x11_4 ∧ Aside0 (laws_FnReach.l1 kq t441 t442 t443 t445 t451 x9_1 x10_4 x11_4 t435 t436 t437 t438 = some r) ∧ Aside0 (kq ≤ kj39) ∧ Aside0 (Kd.R (Kd.int .i64) 3 w' w.heap.size (fun k_ => some k_ ≠ (v452 : Value).ownBlock) (.slice Ao14 t445.length co14) t445) ∧ Aside0 (Kd.R (Kd.int .i64) 3 w' w.heap.size (fun k_ => some k_ ≠ ((.slice Ao14 t445.length co14) : Value).ownBlock) v452 t451) ∧ Aside0 (Kd.R k103 103 w' w.heap.size (fun k_ => some k_ ≠ ((.slice Ao14 t445.length co14) : Value).ownBlock ∧ some k_ ≠ (v452 : Value).ownBlock) (.slice Ao12 t438.length co12) t438) ∧ Aside0 (w'.heap[gb444]? = some (.cells #[.int .i64 t435, .int .i64 t436, .int .i64 t437, (.slice Ao12 t438.length co12)] 31 (0, 0))) ∧ Aside0 (Below w.heap.size w w'))
           case atStart => exact ⟨(x10_39), (0), (by first | rfl | (simp; done) | (simp [*]; done)), (by first | rfl | (simp; done) | (simp [*]; done)), H', ⟨Nat.le_refl _⟩, ⟨by (with_reducible repeat (first | apply rA_ | apply rN_ | apply rD_)); exact HO_7.out⟩, ⟨by (with_reducible repeat (first | apply rA_ | apply rN_ | apply rD_)); exact HO_8.out⟩, ⟨by (with_reducible repeat (first | apply rA_ | apply rN_ | apply rD_)); exact HO_445003.out⟩, ⟨by (with_reducible repeat (first | refine bN_ ?_ _ | refine bD_ ?_ | refine bA_ ?_ _)); exact BK444.out⟩, ⟨bw_⟩⟩
           case round =>
            clear H'
            try clear hx4
            try clear c24b0
            try clear c24b1
            try clear c25b0
            try clear c25b1
            try clear c25b2
            try clear c41b0
            try clear c41b1
            try clear c42b0
            try clear c43b0
            try clear c44b0
            try clear c44b1
            try clear c45b0
            try clear hx45
            try clear c46b0
            try clear hx46
            try clear hx458_0
            try clear hx462_0
            try clear hx463_0
            try clear hx464_0
            obtain ⟨x10_4, x11_4, rfl, rfl, HA, HK4, HO_7, HO_8, HO_445003, BK444, HB⟩ := hrel
            cases gk with
            | zero => exact absurd HA.out (by simp [laws_FnReach.l1])
            | succ k4 =>
             have H := HA.out; clear HA
             simp only [laws_FnReach.l1] at H
             by_cases c47 : x11_4 < (t445.length : Int)
             ·rw [if_pos c47] at H
              have c47b0 : decide (x11_4 < (t445.length : Int)) = true := decide_eq_true c47
              clear c47
              by_cases c48 : x10_4 = true
              ·subst c48
               have H1 : (laws_FnReach.l0 k4 t441 t442 t443 t445 t451 (wrap64 (x9_1 + 1)) t435 t436 t437 t438) = some r := by rw [if_pos rfl] at H; exact H
               clear H; have H := H1; clear H1
               have H' := aM_ H
               clear H
               go_wp2
               go_roundg k4
               case measure => have := HK1.out; have := HJ20.out; have := HJ39.out; have := HK4.out; omega
               case rel => exact ⟨(wrap64 (x9_1 + 1)), (by first | rfl | (simp; done) | (simp [*]; done)), H', ⟨by have := HK1.out; have := HJ20.out; have := HJ39.out; have := HK4.out; omega⟩, ⟨by (with_reducible repeat (first | apply rA_ | apply rN_ | apply rD_)); exact HO_7.out⟩, ⟨by (with_reducible repeat (first | apply rA_ | apply rN_ | apply rD_)); exact HO_8.out⟩, ⟨by (with_reducible repeat (first | apply rA_ | apply rN_ | apply rD_)); exact HO_445003.out⟩, ⟨by (with_reducible repeat (first | refine bN_ ?_ _ | refine bD_ ?_ | refine bA_ ?_ _)); exact BK444.out⟩, ⟨bw_⟩⟩
              ·replace c48 := Bool.eq_false_iff.mpr c48
               subst c48
               have H1 : (if 0 ≤ x11_4 then (if (rd t445 x11_4) ≥ 0 then (if 0 ≤ x9_1 then (if x9_1 < (t445.length : Int) then (if (rd t445 x11_4) < (rd t445 x9_1) then (if x11_4 < t436 then ((impl_IsLinked.f t435 t436 t437 t438 x11_4 x9_1 (wrap64 ((rd t445 x9_1) - 1))).bind fun t469 => (laws_FnReach.l1 k4 t441 t442 t443 t445 t451 x9_1 t469 (wrap64 (x11_4 + 1)) t435 t436 t437 t438)) else (if x11_4 = t441 then ((impl_IsLinked.f t435 t436 t437 t438 x11_4 x9_1 (wrap64 ((rd t445 x9_1) - 1))).bind fun t471 => (laws_FnReach.l1 k4 t441 t442 t443 t445 t451 x9_1 t471 (wrap64 (x11_4 + 1)) t435 t436 t437 t438)) else (laws_FnReach.l1 k4 t441 t442 t443 t445 t451 x9_1 false (wrap64 (x11_4 + 1)) t435 t436 t437 t438))) else (laws_FnReach.l1 k4 t441 t442 t443 t445 t451 x9_1 false (wrap64 (x11_4 + 1)) t435 t436 t437 t438)) else (none)) else (none)) else (laws_FnReach.l1 k4 t441 t442 t443 t445 t451 x9_1 false (wrap64 (x11_4 + 1)) t435 t436 t437 t438)) else (none)) = some r := by rw [if_neg (show ¬ (false = true) by decide)] at H; exact H
               clear H; have H := H1; clear H1
               by_cases c49 : 0 ≤ x11_4
               ·rw [if_pos c49] at H
                have c49b0 : decide (0 ≤ x11_4) = true := decide_eq_true c49
                clear c49
                by_cases c50 : (rd t445 x11_4) ≥ 0
                ·rw [if_pos c50] at H
                 have c50b0 : decide (0 ≤ (rd t445 x11_4)) = true := decide_eq_true c50
                 clear c50
                 by_cases c51 : 0 ≤ x9_1
                 ·rw [if_pos c51] at H
                  have c51b0 : decide (0 ≤ x9_1) = true := decide_eq_true c51
                  clear c51
                  by_cases c52 : x9_1 < (t445.length : Int)
                  ·rw [if_pos c52] at H
                   have c52b0 : decide (x9_1 < (t445.length : Int)) = true := decide_eq_true c52
                   clear c52
                   by_cases c53 : (rd t445 x11_4) < (rd t445 x9_1)
                   ·rw [if_pos c53] at H
                    have c53b0 : decide ((rd t445 x11_4) < (rd t445 x9_1)) = true := decide_eq_true c53
                    clear c53
                    by_cases c54 : x11_4 < t436
                    ·rw [if_pos c54] at H
                     have c54b0 : decide (x11_4 < t436) = true := decide_eq_true c54
                     clear c54
                     replace H := Option.bind_eq_some_iff.mp H
                     obtain ⟨t469, A550, H⟩ := H
                     (try dsimp only at H)
                     have A55 := aM_ A550; clear A550
                     have H' := aM_ H
                     clear H
                     try go_wp2
                     have n0_ := aM_ (rD_ HO_7.out); have n1_ := aM_ (rD_ HO_8.out); have n2_ := aM_ (rD_ HO_445003.out); have n3_ := aM_ (bD_ BK444.out); have n4_ := aM_ (wD_ HB.out); clear HO_7 HO_8 HO_445003 BK444 HB; have HO_7 := n0_; have HO_8 := n1_; have HO_445003 := n2_; have BK444 := n3_; have HB := n4_; clear n0_ n1_ n2_ n3_ n4_
                     have p465 : 0 ≤ (x11_4 : Int) := dT_
                     have q465 : x11_4 < (t445.length : Int) := dT_
                     obtain ⟨ad465, e465, hx465_0⟩ := Kd.at_int (Kd.R_reads' HO_7.out).2.2 x11_4 p465 q465
                     cases e465
                     replace p465 := eq_true p465; replace q465 := eq_true q465
                     have p466 : 0 ≤ (x11_4 : Int) := dT_
                     have q466 : x11_4 < (t445.length : Int) := dT_
                     obtain ⟨ad466, e466, hx466_0⟩ := Kd.at_int (Kd.R_reads' HO_7.out).2.2 x11_4 p466 q466
                     obtain rfl : ad465 = ad466 := (by injection e466)
                     replace p466 := eq_true p466; replace q466 := eq_true q466
                     have p467 : 0 ≤ (x9_1 : Int) := dT_
                     have q467 : x9_1 < (t445.length : Int) := dT_
                     obtain ⟨ad467, e467, hx467_0⟩ := Kd.at_int (Kd.R_reads' HO_7.out).2.2 x9_1 p467 q467
                     obtain rfl : ad465 = ad467 := (by injection e467)
                     replace p467 := eq_true p467; replace q467 := eq_true q467
                     have p468 : 0 ≤ (x9_1 : Int) := dT_
                     have q468 : x9_1 < (t445.length : Int) := dT_
                     obtain ⟨ad468, e468, hx468_0⟩ := Kd.at_int (Kd.R_reads' HO_7.out).2.2 x9_1 p468 q468
                     obtain rfl : ad465 = ad468 := (by injection e468)
                     replace p468 := eq_true p468; replace q468 := eq_true q468
                     refine start_ (n := 39) (S := fun w' => w'.cell? ⟨gb444, 0, none⟩ = some (.int .i64 t435) ∧ w'.cell? ⟨gb444, 1, none⟩ = some (.int .i64 t436) ∧ w'.cell? ⟨gb444, 2, none⟩ = some (.int .i64 t437) ∧ w'.cell? ⟨gb444, 3, none⟩ = some (.slice Ao12 t438.length co12) ∧ w'.cell? (ad465.add (x11_4).toNat) = some (.int .i64 (rd t445 x11_4)) ∧ w'.cell? (ad465.add (x11_4).toNat) = some (.int .i64 (rd t445 x11_4)) ∧ w'.cell? (ad465.add (x9_1).toNat) = some (.int .i64 (rd t445 x9_1)) ∧ w'.cell? (ad465.add (x9_1).toNat) = some (.int .i64 (rd t445 x9_1))) (ds := []) zb37_ (by kernel_rfl) rfl rfl ⟨(blk_cell BK444.out 0).trans rfl, (blk_cell BK444.out 1).trans rfl, (blk_cell BK444.out 2).trans rfl, (blk_cell BK444.out 3).trans rfl, hx465_0, hx466_0, hx467_0, hx468_0⟩ (fun hHeld => ?_); refine with_tabW laws_FnReach.tab17 laws_FnReach.bits17 (fun HT_ HW_ => ?_)
                     generalize wr.drew = w56 at HO_7 HO_8 HO_445003 BK444 HB hx465_0 hx466_0 hx467_0 hx468_0 hHeld ⊢
                     refine pu_ 0 (some 111) zb38_ rfl rfl ?_
                     refine pu_ 1 (some 112) zb39_ rfl rfl ?_
                     refine pu_ 2 (some 113) zb40_ rfl rfl ?_
                     refine tk8_ 3 (some 114) zb41_ rfl rfl ?_
                     refine pu_ 4 (some 115) zb42_ rfl rfl ?_
                     refine pu_ 5 (some 116) zb43_ rfl rfl ?_
                     refine pu_ 6 (some 117) zb44_ rfl rfl ?_
                     refine pu_ 7 (some 118) zb45_ rfl rfl ?_
                     refine pu_ 8 (some 119) zb46_ rfl rfl ?_
                     refine pu_ 10 (some 121) zb47_ rfl rfl ?_
                     refine pu_ 11 (some 122) zb48_ rfl rfl ?_
                     refine pu_ 12 (some 123) zb49_ rfl rfl ?_
                     refine tk8_ 9 (some 120) zb50_ rfl rfl ?_
                     refine tk8_ 13 (some 124) zb51_ rfl rfl ?_
                     refine pu_ 14 (some 125) zb52_ rfl rfl ?_
                     refine pu_ 15 (some 126) zb53_ rfl rfl ?_
                     refine pu_ 16 (some 127) zb54_ rfl rfl ?_
                     refine pu_ 17 (some 128) zb55_ rfl rfl ?_
                     refine pu_ 18 (some 129) zb56_ rfl rfl ?_
                     refine tk8_ 19 (some 130) zb57_ rfl rfl ?_
                     refine pu_ 20 (some 131) zb58_ rfl rfl ?_
                     refine pu_ 21 (some 132) zb59_ rfl rfl ?_
                     refine pn_ 22 (some 133) zb60_ rfl rfl ?_
                     refine pn_ 23 (some 134) zb61_ rfl rfl ?_
                     refine pn_ 24 (some 135) zb62_ rfl rfl ?_
                     refine pu_ 25 (some 136) zb63_ rfl rfl ?_
                     refine pu_ 26 (some 137) zb64_ rfl rfl ?_
                     refine pu_ 27 (some 138) zb65_ rfl rfl ?_
                     refine pu_ 29 (some 140) #[true, true, true, true, true, true, true, true, true, true, true, true, true, true, true, true, true, true, true, true, true, true, true, true, true, true, true, true, false, true, false, false, false, false, false, false, false, false, false] rfl rfl ?_
                     refine pu_ 30 (some 141) #[true, true, true, true, true, true, true, true, true, true, true, true, true, true, true, true, true, true, true, true, true, true, true, true, true, true, true, true, false, true, true, false, false, false, false, false, false, false, false] rfl rfl ?_
                     refine pu_ 31 (some 142) #[true, true, true, true, true, true, true, true, true, true, true, true, true, true, true, true, true, true, true, true, true, true, true, true, true, true, true, true, false, true, true, true, false, false, false, false, false, false, false] rfl rfl ?_
                     refine pu_ 32 (some 143) #[true, true, true, true, true, true, true, true, true, true, true, true, true, true, true, true, true, true, true, true, true, true, true, true, true, true, true, true, false, true, true, true, true, false, false, false, false, false, false] rfl rfl ?_
                     refine pu_ 33 (some 144) #[true, true, true, true, true, true, true, true, true, true, true, true, true, true, true, true, true, true, true, true, true, true, true, true, true, true, true, true, false, true, true, true, true, true, false, false, false, false, false] rfl rfl ?_
                     refine tk8_ 28 (some 139) zb66_ rfl rfl ?_
                     refine tk8_ 34 (some 145) zb67_ rfl rfl ?_
                     refine pu_ 35 (some 146) zb68_ rfl rfl ?_
                     refine one_ (i := 36) (N := some 147) zb69_ rfl rfl (one_of HT_.out (by kernel_rfl)) (by decide) (fun K hK => ?_)
                     refine goes_ Try.func41 (by kernel_rfl) rfl #[.agg #[.int .i64 t435, .int .i64 t436, .int .i64 t437, .slice Ao12 t438.length co12], .int .i64 x11_4, .int .i64 x9_1, .int .i64 (wrap64 ((rd t445 x9_1) - 1))] (by rfl) rfl rfl (by (try simp only [List.map_toArray, List.map_cons, List.map_nil]); first | done | rfl | (simp only [List.length_drop, List.length_take]; rfl)) ?_
                     with_reducible refine (impl_IsLinked.calls t435 t436 t437 _ _ t438 x11_4 x9_1 (wrap64 ((rd t445 x9_1) - 1)) t469 _ ?side1 ?side2 A55.out).mono ?_
                     (case side1 => repeat (first | exact (Kd.R_reads' HO_445003.out).2.2 | (with_reducible refine cA_ ?_ _) | (with_reducible refine cN_ ?_ _) | (with_reducible refine cD_ ?_)))
                     (case side2 => exact (Kd.R_reads' HO_445003.out).2.1)
                     rintro e w57 ⟨rfl, hb⟩
                     have HS4_ := (hb.cell (World.block_lt_of_cell? _ _ (hHeld.2.2.2.2.1))).trans (hHeld.2.2.2.2.1); have HS5_ := (hb.cell (World.block_lt_of_cell? _ _ (hHeld.2.2.2.2.2.1))).trans (hHeld.2.2.2.2.2.1); have HS6_ := (hb.cell (World.block_lt_of_cell? _ _ (hHeld.2.2.2.2.2.2.1))).trans (hHeld.2.2.2.2.2.2.1); have HS7_ := (hb.cell (World.block_lt_of_cell? _ _ (hHeld.2.2.2.2.2.2.2))).trans (hHeld.2.2.2.2.2.2.2)
                     refine ⟨_, rfl, ?_⟩
                     have n0_ := aM_ (rB_ (rb_ HO_7.out) hb); have n1_ := aM_ (rB_ (rb_ HO_8.out) hb); have n2_ := aM_ (rB_ (rb_ HO_445003.out) hb); have n3_ := aM_ (bB_ (kb_ BK444.out) hb); have n4_ := aM_ (wS_ (bw_) hb); clear HO_7 HO_8 HO_445003 BK444 HB; have HO_7 := n0_; have HO_8 := n1_; have HO_445003 := n2_; have BK444 := n3_; have HB := n4_; clear n0_ n1_ n2_ n3_ n4_; (try clear hb); (try clear hb2); (try clear hk); (try clear hi)
                     refine hK.out _ _ ⟨(blk_cell BK444.out 0).trans rfl, (blk_cell BK444.out 1).trans rfl, (blk_cell BK444.out 2).trans rfl, (blk_cell BK444.out 3).trans rfl, HS4_, HS5_, HS6_, HS7_⟩ (fun hHeld => ?_)
                     clear hK K
                     refine norm_ (a' := ?_) ?_ ?_
                     rotate_left
                     ·show Act.put _ (some 147) _ = _
                      simp only [Act.put, List.setIfInBounds_toArray, List.set_cons_zero, List.set_cons_succ, i64_w, i32_w]
                      rfl
                     refine pu_ 37 (some 148) zb70_ rfl rfl ?_
                     refine pu_ 38 (some 10) zb71_ rfl rfl ?_
                     refine done_ (done_of HT_.out (by kernel_rfl)) ?_
                     try go_wp2
                     go_roundg k4
                     case measure => have := HK1.out; have := HJ20.out; have := HJ39.out; have := HK4.out; omega
                     case rel => exact ⟨(t469), (wrap64 (x11_4 + 1)), (by first | rfl | (simp; done) | (simp [*]; done)), (by first | rfl | (simp; done) | (simp [*]; done)), H', ⟨by have := HK1.out; have := HJ20.out; have := HJ39.out; have := HK4.out; omega⟩, ⟨by (with_reducible repeat (first | apply rA_ | apply rN_ | apply rD_)); exact HO_7.out⟩, ⟨by (with_reducible repeat (first | apply rA_ | apply rN_ | apply rD_)); exact HO_8.out⟩, ⟨by (with_reducible repeat (first | apply rA_ | apply rN_ | apply rD_)); exact HO_445003.out⟩, ⟨by (with_reducible repeat (first | refine bN_ ?_ _ | refine bD_ ?_ | refine bA_ ?_ _)); exact BK444.out⟩, ⟨bw_⟩⟩
                    ·rw [if_neg c54] at H
                     have c54b0 : decide (x11_4 < t436) = false := decide_eq_false c54
                     clear c54
                     by_cases c58 : x11_4 = t441
                     ·rw [if_pos c58] at H
                      have c58b0 : (x11_4 == t441) = true := beq_iff_eq.mpr c58
                      have c58b1 : (x11_4 != t441) = false := bne_eq_false_iff_eq.mpr c58
                      clear c58
                      replace H := Option.bind_eq_some_iff.mp H
                      obtain ⟨t471, A590, H⟩ := H
                      (try dsimp only at H)
                      have A59 := aM_ A590; clear A590
                      have H' := aM_ H
                      clear H
                      try go_wp2
                      have n0_ := aM_ (rD_ HO_7.out); have n1_ := aM_ (rD_ HO_8.out); have n2_ := aM_ (rD_ HO_445003.out); have n3_ := aM_ (bD_ BK444.out); have n4_ := aM_ (wD_ HB.out); clear HO_7 HO_8 HO_445003 BK444 HB; have HO_7 := n0_; have HO_8 := n1_; have HO_445003 := n2_; have BK444 := n3_; have HB := n4_; clear n0_ n1_ n2_ n3_ n4_
                      have p465 : 0 ≤ (x11_4 : Int) := dT_
                      have q465 : x11_4 < (t445.length : Int) := dT_
                      obtain ⟨ad465, e465, hx465_0⟩ := Kd.at_int (Kd.R_reads' HO_7.out).2.2 x11_4 p465 q465
                      cases e465
                      replace p465 := eq_true p465; replace q465 := eq_true q465
                      have p466 : 0 ≤ (x11_4 : Int) := dT_
                      have q466 : x11_4 < (t445.length : Int) := dT_
                      obtain ⟨ad466, e466, hx466_0⟩ := Kd.at_int (Kd.R_reads' HO_7.out).2.2 x11_4 p466 q466
                      obtain rfl : ad465 = ad466 := (by injection e466)
                      replace p466 := eq_true p466; replace q466 := eq_true q466
                      have p467 : 0 ≤ (x9_1 : Int) := dT_
                      have q467 : x9_1 < (t445.length : Int) := dT_
                      obtain ⟨ad467, e467, hx467_0⟩ := Kd.at_int (Kd.R_reads' HO_7.out).2.2 x9_1 p467 q467
                      obtain rfl : ad465 = ad467 := (by injection e467)
                      replace p467 := eq_true p467; replace q467 := eq_true q467
                      have p470 : 0 ≤ (x9_1 : Int) := dT_
                      have q470 : x9_1 < (t445.length : Int) := dT_
                      obtain ⟨ad470, e470, hx470_0⟩ := Kd.at_int (Kd.R_reads' HO_7.out).2.2 x9_1 p470 q470
                      obtain rfl : ad465 = ad470 := (by injection e470)
                      replace p470 := eq_true p470; replace q470 := eq_true q470
                      refine start_ (n := 39) (S := fun w' => w'.cell? ⟨gb444, 0, none⟩ = some (.int .i64 t435) ∧ w'.cell? ⟨gb444, 1, none⟩ = some (.int .i64 t436) ∧ w'.cell? ⟨gb444, 2, none⟩ = some (.int .i64 t437) ∧ w'.cell? ⟨gb444, 3, none⟩ = some (.slice Ao12 t438.length co12) ∧ w'.cell? (ad465.add (x11_4).toNat) = some (.int .i64 (rd t445 x11_4)) ∧ w'.cell? (ad465.add (x11_4).toNat) = some (.int .i64 (rd t445 x11_4)) ∧ w'.cell? (ad465.add (x9_1).toNat) = some (.int .i64 (rd t445 x9_1)) ∧ w'.cell? (ad465.add (x9_1).toNat) = some (.int .i64 (rd t445 x9_1))) (ds := []) zb37_ (by kernel_rfl) rfl rfl ⟨(blk_cell BK444.out 0).trans rfl, (blk_cell BK444.out 1).trans rfl, (blk_cell BK444.out 2).trans rfl, (blk_cell BK444.out 3).trans rfl, hx465_0, hx466_0, hx467_0, hx470_0⟩ (fun hHeld => ?_); refine with_tabW laws_FnReach.tab17 laws_FnReach.bits17 (fun HT_ HW_ => ?_)
                      generalize wr.drew = w60 at HO_7 HO_8 HO_445003 BK444 HB hx465_0 hx466_0 hx467_0 hx470_0 hHeld ⊢
                      refine pu_ 0 (some 111) zb38_ rfl rfl ?_
                      refine pu_ 1 (some 112) zb39_ rfl rfl ?_
                      refine pu_ 2 (some 113) zb40_ rfl rfl ?_
                      refine tk8_ 3 (some 114) zb41_ rfl rfl ?_
                      refine pu_ 4 (some 115) zb42_ rfl rfl ?_
                      refine pu_ 5 (some 116) zb43_ rfl rfl ?_
                      refine pu_ 6 (some 117) zb44_ rfl rfl ?_
                      refine pu_ 7 (some 118) zb45_ rfl rfl ?_
                      refine pu_ 8 (some 119) zb46_ rfl rfl ?_
                      refine pu_ 10 (some 121) zb47_ rfl rfl ?_
                      refine pu_ 11 (some 122) zb48_ rfl rfl ?_
                      refine pu_ 12 (some 123) zb49_ rfl rfl ?_
                      refine tk8_ 9 (some 120) zb50_ rfl rfl ?_
                      refine tk8_ 13 (some 124) zb51_ rfl rfl ?_
                      refine pu_ 14 (some 125) zb52_ rfl rfl ?_
                      refine pu_ 15 (some 126) zb53_ rfl rfl ?_
                      refine pu_ 16 (some 127) zb54_ rfl rfl ?_
                      refine pu_ 17 (some 128) zb55_ rfl rfl ?_
                      refine pu_ 18 (some 129) zb56_ rfl rfl ?_
                      refine tk8_ 19 (some 130) zb57_ rfl rfl ?_
                      refine pu_ 20 (some 131) zb58_ rfl rfl ?_
                      refine pu_ 21 (some 132) zb59_ rfl rfl ?_
                      refine pu_ 22 (some 133) zb60_ rfl rfl ?_
                      refine pu_ 23 (some 134) zb61_ rfl rfl ?_
                      refine pu_ 24 (some 135) zb62_ rfl rfl ?_
                      refine pu_ 25 (some 136) zb63_ rfl rfl ?_
                      refine pu_ 26 (some 137) zb64_ rfl rfl ?_
                      refine pu_ 27 (some 138) zb65_ rfl rfl ?_
                      refine pu_ 29 (some 140) #[true, true, true, true, true, true, true, true, true, true, true, true, true, true, true, true, true, true, true, true, true, true, true, true, true, true, true, true, false, true, false, false, false, false, false, false, false, false, false] rfl rfl ?_
                      refine pu_ 30 (some 141) #[true, true, true, true, true, true, true, true, true, true, true, true, true, true, true, true, true, true, true, true, true, true, true, true, true, true, true, true, false, true, true, false, false, false, false, false, false, false, false] rfl rfl ?_
                      refine pu_ 31 (some 142) #[true, true, true, true, true, true, true, true, true, true, true, true, true, true, true, true, true, true, true, true, true, true, true, true, true, true, true, true, false, true, true, true, false, false, false, false, false, false, false] rfl rfl ?_
                      refine pu_ 32 (some 143) #[true, true, true, true, true, true, true, true, true, true, true, true, true, true, true, true, true, true, true, true, true, true, true, true, true, true, true, true, false, true, true, true, true, false, false, false, false, false, false] rfl rfl ?_
                      refine pu_ 33 (some 144) #[true, true, true, true, true, true, true, true, true, true, true, true, true, true, true, true, true, true, true, true, true, true, true, true, true, true, true, true, false, true, true, true, true, true, false, false, false, false, false] rfl rfl ?_
                      refine tk8_ 28 (some 139) zb66_ rfl rfl ?_
                      refine tk8_ 34 (some 145) zb67_ rfl rfl ?_
                      refine pu_ 35 (some 146) zb68_ rfl rfl ?_
                      refine one_ (i := 36) (N := some 147) zb69_ rfl rfl (one_of HT_.out (by kernel_rfl)) (by decide) (fun K hK => ?_)
                      refine goes_ Try.func41 (by kernel_rfl) rfl #[.agg #[.int .i64 t435, .int .i64 t436, .int .i64 t437, .slice Ao12 t438.length co12], .int .i64 x11_4, .int .i64 x9_1, .int .i64 (wrap64 ((rd t445 x9_1) - 1))] (by rfl) rfl rfl (by (try simp only [List.map_toArray, List.map_cons, List.map_nil]); first | done | rfl | (simp only [List.length_drop, List.length_take]; rfl)) ?_
                      with_reducible refine (impl_IsLinked.calls t435 t436 t437 _ _ t438 x11_4 x9_1 (wrap64 ((rd t445 x9_1) - 1)) t471 _ ?side1 ?side2 A59.out).mono ?_
                      (case side1 => repeat (first | exact (Kd.R_reads' HO_445003.out).2.2 | (with_reducible refine cA_ ?_ _) | (with_reducible refine cN_ ?_ _) | (with_reducible refine cD_ ?_)))
                      (case side2 => exact (Kd.R_reads' HO_445003.out).2.1)
                      rintro e w61 ⟨rfl, hb⟩
                      have HS4_ := (hb.cell (World.block_lt_of_cell? _ _ (hHeld.2.2.2.2.1))).trans (hHeld.2.2.2.2.1); have HS5_ := (hb.cell (World.block_lt_of_cell? _ _ (hHeld.2.2.2.2.2.1))).trans (hHeld.2.2.2.2.2.1); have HS6_ := (hb.cell (World.block_lt_of_cell? _ _ (hHeld.2.2.2.2.2.2.1))).trans (hHeld.2.2.2.2.2.2.1); have HS7_ := (hb.cell (World.block_lt_of_cell? _ _ (hHeld.2.2.2.2.2.2.2))).trans (hHeld.2.2.2.2.2.2.2)
                      refine ⟨_, rfl, ?_⟩
                      have n0_ := aM_ (rB_ (rb_ HO_7.out) hb); have n1_ := aM_ (rB_ (rb_ HO_8.out) hb); have n2_ := aM_ (rB_ (rb_ HO_445003.out) hb); have n3_ := aM_ (bB_ (kb_ BK444.out) hb); have n4_ := aM_ (wS_ (bw_) hb); clear HO_7 HO_8 HO_445003 BK444 HB; have HO_7 := n0_; have HO_8 := n1_; have HO_445003 := n2_; have BK444 := n3_; have HB := n4_; clear n0_ n1_ n2_ n3_ n4_; (try clear hb); (try clear hb2); (try clear hk); (try clear hi)
                      refine hK.out _ _ ⟨(blk_cell BK444.out 0).trans rfl, (blk_cell BK444.out 1).trans rfl, (blk_cell BK444.out 2).trans rfl, (blk_cell BK444.out 3).trans rfl, HS4_, HS5_, HS6_, HS7_⟩ (fun hHeld => ?_)
                      clear hK K
                      refine norm_ (a' := ?_) ?_ ?_
                      rotate_left
                      ·show Act.put _ (some 147) _ = _
                       simp only [Act.put, List.setIfInBounds_toArray, List.set_cons_zero, List.set_cons_succ, i64_w, i32_w]
                       rfl
                      refine pu_ 37 (some 148) zb70_ rfl rfl ?_
                      refine pu_ 38 (some 10) zb71_ rfl rfl ?_
                      refine done_ (done_of HT_.out (by kernel_rfl)) ?_
                      try go_wp2
                      go_roundg k4
                      case measure => have := HK1.out; have := HJ20.out; have := HJ39.out; have := HK4.out; omega
                      case rel => exact ⟨(t471), (wrap64 (x11_4 + 1)), (by first | rfl | (simp; done) | (simp [*]; done)), (by first | rfl | (simp; done) | (simp [*]; done)), H', ⟨by have := HK1.out; have := HJ20.out; have := HJ39.out; have := HK4.out; omega⟩, ⟨by (with_reducible repeat (first | apply rA_ | apply rN_ | apply rD_)); exact HO_7.out⟩, ⟨by (with_reducible repeat (first | apply rA_ | apply rN_ | apply rD_)); exact HO_8.out⟩, ⟨by (with_reducible repeat (first | apply rA_ | apply rN_ | apply rD_)); exact HO_445003.out⟩, ⟨by (with_reducible repeat (first | refine bN_ ?_ _ | refine bD_ ?_ | refine bA_ ?_ _)); exact BK444.out⟩, ⟨bw_⟩⟩
                     ·rw [if_neg c58] at H
                      have c58b0 : (x11_4 == t441) = false := beq_eq_false_iff_ne.mpr c58
                      have c58b1 : (x11_4 != t441) = true := bne_iff_ne.mpr c58
                      have H' := aM_ H
                      clear H
                      try go_wp2
                      have n0_ := aM_ (rD_ HO_7.out); have n1_ := aM_ (rD_ HO_8.out); have n2_ := aM_ (rD_ HO_445003.out); have n3_ := aM_ (bD_ BK444.out); have n4_ := aM_ (wD_ HB.out); clear HO_7 HO_8 HO_445003 BK444 HB; have HO_7 := n0_; have HO_8 := n1_; have HO_445003 := n2_; have BK444 := n3_; have HB := n4_; clear n0_ n1_ n2_ n3_ n4_
                      have p465 : 0 ≤ (x11_4 : Int) := dT_
                      have q465 : x11_4 < (t445.length : Int) := dT_
                      obtain ⟨ad465, e465, hx465_0⟩ := Kd.at_int (Kd.R_reads' HO_7.out).2.2 x11_4 p465 q465
                      cases e465
                      replace p465 := eq_true p465; replace q465 := eq_true q465
                      have p466 : 0 ≤ (x11_4 : Int) := dT_
                      have q466 : x11_4 < (t445.length : Int) := dT_
                      obtain ⟨ad466, e466, hx466_0⟩ := Kd.at_int (Kd.R_reads' HO_7.out).2.2 x11_4 p466 q466
                      obtain rfl : ad465 = ad466 := (by injection e466)
                      replace p466 := eq_true p466; replace q466 := eq_true q466
                      have p467 : 0 ≤ (x9_1 : Int) := dT_
                      have q467 : x9_1 < (t445.length : Int) := dT_
                      obtain ⟨ad467, e467, hx467_0⟩ := Kd.at_int (Kd.R_reads' HO_7.out).2.2 x9_1 p467 q467
                      obtain rfl : ad465 = ad467 := (by injection e467)
                      replace p467 := eq_true p467; replace q467 := eq_true q467
                      refine start_ (n := 39) (S := fun w' => w'.cell? ⟨gb444, 0, none⟩ = some (.int .i64 t435) ∧ w'.cell? ⟨gb444, 1, none⟩ = some (.int .i64 t436) ∧ w'.cell? ⟨gb444, 2, none⟩ = some (.int .i64 t437) ∧ w'.cell? ⟨gb444, 3, none⟩ = some (.slice Ao12 t438.length co12) ∧ w'.cell? (ad465.add (x11_4).toNat) = some (.int .i64 (rd t445 x11_4)) ∧ w'.cell? (ad465.add (x11_4).toNat) = some (.int .i64 (rd t445 x11_4)) ∧ w'.cell? (ad465.add (x9_1).toNat) = some (.int .i64 (rd t445 x9_1))) (ds := []) zb37_ (by kernel_rfl) rfl rfl ⟨(blk_cell BK444.out 0).trans rfl, (blk_cell BK444.out 1).trans rfl, (blk_cell BK444.out 2).trans rfl, (blk_cell BK444.out 3).trans rfl, hx465_0, hx466_0, hx467_0⟩ (fun hHeld => ?_); refine with_tabW laws_FnReach.tab17 laws_FnReach.bits17 (fun HT_ HW_ => ?_)
                      generalize wr.drew = w62 at HO_7 HO_8 HO_445003 BK444 HB hx465_0 hx466_0 hx467_0 hHeld ⊢
                      refine pu_ 0 (some 111) zb38_ rfl rfl ?_
                      refine pu_ 1 (some 112) zb39_ rfl rfl ?_
                      refine pu_ 2 (some 113) zb40_ rfl rfl ?_
                      refine tk7_ 3 (some 114) zb41_ rfl rfl ?_
                      refine pu_ 4 (some 115) zb42_ rfl rfl ?_
                      refine pu_ 5 (some 116) zb43_ rfl rfl ?_
                      refine pu_ 6 (some 117) zb44_ rfl rfl ?_
                      refine pu_ 7 (some 118) zb45_ rfl rfl ?_
                      refine pu_ 8 (some 119) zb46_ rfl rfl ?_
                      refine pu_ 10 (some 121) zb47_ rfl rfl ?_
                      refine pu_ 11 (some 122) zb48_ rfl rfl ?_
                      refine pu_ 12 (some 123) zb49_ rfl rfl ?_
                      refine tk7_ 9 (some 120) zb50_ rfl rfl ?_
                      refine tk7_ 13 (some 124) zb51_ rfl rfl ?_
                      refine pu_ 14 (some 125) zb52_ rfl rfl ?_
                      refine pu_ 15 (some 126) zb53_ rfl rfl ?_
                      refine pu_ 16 (some 127) zb54_ rfl rfl ?_
                      refine pu_ 17 (some 128) zb55_ rfl rfl ?_
                      refine pu_ 18 (some 129) zb56_ rfl rfl ?_
                      refine tk7_ 19 (some 130) zb57_ rfl rfl ?_
                      refine pu_ 20 (some 131) zb58_ rfl rfl ?_
                      refine pu_ 21 (some 132) zb59_ rfl rfl ?_
                      refine pu_ 22 (some 133) zb60_ rfl rfl ?_
                      refine pu_ 23 (some 134) zb61_ rfl rfl ?_
                      refine pu_ 24 (some 135) zb62_ rfl rfl ?_
                      refine pu_ 25 (some 136) zb63_ rfl rfl ?_
                      refine pu_ 26 (some 137) zb64_ rfl rfl ?_
                      refine pu_ 27 (some 138) zb65_ rfl rfl ?_
                      refine pn_ 28 (some 139) zb72_ rfl rfl ?_
                      refine pn_ 29 (some 140) zb73_ rfl rfl ?_
                      refine pn_ 30 (some 141) zb74_ rfl rfl ?_
                      refine pn_ 31 (some 142) zb75_ rfl rfl ?_
                      refine pn_ 32 (some 143) zb76_ rfl rfl ?_
                      refine pn_ 33 (some 144) zb66_ rfl rfl ?_
                      refine pn_ 34 (some 145) zb67_ rfl rfl ?_
                      refine pn_ 35 (some 146) zb68_ rfl rfl ?_
                      refine pn_ 36 (some 147) zb69_ rfl rfl ?_
                      refine pu_ 37 (some 148) zb70_ rfl rfl ?_
                      refine pu_ 38 (some 10) zb71_ rfl rfl ?_
                      refine done_ (done_of HT_.out (by kernel_rfl)) ?_
                      try go_wp2
                      go_roundg k4
                      case measure => have := HK1.out; have := HJ20.out; have := HJ39.out; have := HK4.out; omega
                      case rel => exact ⟨(false), (wrap64 (x11_4 + 1)), (by first | rfl | (simp; done) | (simp [*]; done)), (by first | rfl | (simp; done) | (simp [*]; done)), H', ⟨by have := HK1.out; have := HJ20.out; have := HJ39.out; have := HK4.out; omega⟩, ⟨by (with_reducible repeat (first | apply rA_ | apply rN_ | apply rD_)); exact HO_7.out⟩, ⟨by (with_reducible repeat (first | apply rA_ | apply rN_ | apply rD_)); exact HO_8.out⟩, ⟨by (with_reducible repeat (first | apply rA_ | apply rN_ | apply rD_)); exact HO_445003.out⟩, ⟨by (with_reducible repeat (first | refine bN_ ?_ _ | refine bD_ ?_ | refine bA_ ?_ _)); exact BK444.out⟩, ⟨bw_⟩⟩
                   ·rw [if_neg c53] at H
                    have c53b0 : decide ((rd t445 x11_4) < (rd t445 x9_1)) = false := decide_eq_false c53
                    clear c53
                    have H' := aM_ H
                    clear H
                    try go_wp2
                    have n0_ := aM_ (rD_ HO_7.out); have n1_ := aM_ (rD_ HO_8.out); have n2_ := aM_ (rD_ HO_445003.out); have n3_ := aM_ (bD_ BK444.out); have n4_ := aM_ (wD_ HB.out); clear HO_7 HO_8 HO_445003 BK444 HB; have HO_7 := n0_; have HO_8 := n1_; have HO_445003 := n2_; have BK444 := n3_; have HB := n4_; clear n0_ n1_ n2_ n3_ n4_
                    have p465 : 0 ≤ (x11_4 : Int) := dT_
                    have q465 : x11_4 < (t445.length : Int) := dT_
                    obtain ⟨ad465, e465, hx465_0⟩ := Kd.at_int (Kd.R_reads' HO_7.out).2.2 x11_4 p465 q465
                    cases e465
                    replace p465 := eq_true p465; replace q465 := eq_true q465
                    have p466 : 0 ≤ (x11_4 : Int) := dT_
                    have q466 : x11_4 < (t445.length : Int) := dT_
                    obtain ⟨ad466, e466, hx466_0⟩ := Kd.at_int (Kd.R_reads' HO_7.out).2.2 x11_4 p466 q466
                    obtain rfl : ad465 = ad466 := (by injection e466)
                    replace p466 := eq_true p466; replace q466 := eq_true q466
                    have p467 : 0 ≤ (x9_1 : Int) := dT_
                    have q467 : x9_1 < (t445.length : Int) := dT_
                    obtain ⟨ad467, e467, hx467_0⟩ := Kd.at_int (Kd.R_reads' HO_7.out).2.2 x9_1 p467 q467
                    obtain rfl : ad465 = ad467 := (by injection e467)
                    replace p467 := eq_true p467; replace q467 := eq_true q467
                    refine start_ (n := 39) (S := fun w' => w'.cell? (ad465.add (x11_4).toNat) = some (.int .i64 (rd t445 x11_4)) ∧ w'.cell? (ad465.add (x11_4).toNat) = some (.int .i64 (rd t445 x11_4)) ∧ w'.cell? (ad465.add (x9_1).toNat) = some (.int .i64 (rd t445 x9_1))) (ds := []) zb37_ (by kernel_rfl) rfl rfl ⟨hx465_0, hx466_0, hx467_0⟩ (fun hHeld => ?_); refine with_tabW laws_FnReach.tab17 laws_FnReach.bits17 (fun HT_ HW_ => ?_)
                    generalize wr.drew = w63 at HO_7 HO_8 HO_445003 BK444 HB hx465_0 hx466_0 hx467_0 hHeld ⊢
                    refine pu_ 0 (some 111) zb38_ rfl rfl ?_
                    refine pu_ 1 (some 112) zb39_ rfl rfl ?_
                    refine pu_ 2 (some 113) zb40_ rfl rfl ?_
                    refine tk3_ 3 (some 114) zb41_ rfl rfl ?_
                    refine pu_ 4 (some 115) zb42_ rfl rfl ?_
                    refine pu_ 5 (some 116) zb43_ rfl rfl ?_
                    refine pu_ 6 (some 117) zb44_ rfl rfl ?_
                    refine pu_ 7 (some 118) zb45_ rfl rfl ?_
                    refine pu_ 8 (some 119) zb46_ rfl rfl ?_
                    refine pu_ 10 (some 121) zb47_ rfl rfl ?_
                    refine pu_ 11 (some 122) zb48_ rfl rfl ?_
                    refine pu_ 12 (some 123) zb49_ rfl rfl ?_
                    refine tk3_ 9 (some 120) zb50_ rfl rfl ?_
                    refine tk3_ 13 (some 124) zb51_ rfl rfl ?_
                    refine pu_ 14 (some 125) zb52_ rfl rfl ?_
                    refine pu_ 15 (some 126) zb53_ rfl rfl ?_
                    refine pu_ 16 (some 127) zb54_ rfl rfl ?_
                    refine pn_ 17 (some 128) zb55_ rfl rfl ?_
                    refine pn_ 18 (some 129) zb56_ rfl rfl ?_
                    refine pn_ 19 (some 130) zb57_ rfl rfl ?_
                    refine pn_ 20 (some 131) zb58_ rfl rfl ?_
                    refine pn_ 21 (some 132) zb59_ rfl rfl ?_
                    refine pn_ 22 (some 133) zb60_ rfl rfl ?_
                    refine pn_ 23 (some 134) zb61_ rfl rfl ?_
                    refine pn_ 24 (some 135) zb62_ rfl rfl ?_
                    refine pn_ 25 (some 136) zb63_ rfl rfl ?_
                    refine pu_ 26 (some 137) zb64_ rfl rfl ?_
                    refine pu_ 27 (some 138) zb65_ rfl rfl ?_
                    refine pn_ 28 (some 139) zb72_ rfl rfl ?_
                    refine pn_ 29 (some 140) zb73_ rfl rfl ?_
                    refine pn_ 30 (some 141) zb74_ rfl rfl ?_
                    refine pn_ 31 (some 142) zb75_ rfl rfl ?_
                    refine pn_ 32 (some 143) zb76_ rfl rfl ?_
                    refine pn_ 33 (some 144) zb66_ rfl rfl ?_
                    refine pn_ 34 (some 145) zb67_ rfl rfl ?_
                    refine pn_ 35 (some 146) zb68_ rfl rfl ?_
                    refine pn_ 36 (some 147) zb69_ rfl rfl ?_
                    refine pu_ 37 (some 148) zb70_ rfl rfl ?_
                    refine pu_ 38 (some 10) zb71_ rfl rfl ?_
                    refine done_ (done_of HT_.out (by kernel_rfl)) ?_
                    try go_wp2
                    go_roundg k4
                    case measure => have := HK1.out; have := HJ20.out; have := HJ39.out; have := HK4.out; omega
                    case rel => exact ⟨(false), (wrap64 (x11_4 + 1)), (by first | rfl | (simp; done) | (simp [*]; done)), (by first | rfl | (simp; done) | (simp [*]; done)), H', ⟨by have := HK1.out; have := HJ20.out; have := HJ39.out; have := HK4.out; omega⟩, ⟨by (with_reducible repeat (first | apply rA_ | apply rN_ | apply rD_)); exact HO_7.out⟩, ⟨by (with_reducible repeat (first | apply rA_ | apply rN_ | apply rD_)); exact HO_8.out⟩, ⟨by (with_reducible repeat (first | apply rA_ | apply rN_ | apply rD_)); exact HO_445003.out⟩, ⟨by (with_reducible repeat (first | refine bN_ ?_ _ | refine bD_ ?_ | refine bA_ ?_ _)); exact BK444.out⟩, ⟨bw_⟩⟩
                  ·rw [if_neg c52] at H
                   exact absurd H (by simp)
                 ·rw [if_neg c51] at H
                  exact absurd H (by simp)
                ·rw [if_neg c50] at H
                 have c50b0 : decide (0 ≤ (rd t445 x11_4)) = false := decide_eq_false c50
                 clear c50
                 have H' := aM_ H
                 clear H
                 try go_wp2
                 have n0_ := aM_ (rD_ HO_7.out); have n1_ := aM_ (rD_ HO_8.out); have n2_ := aM_ (rD_ HO_445003.out); have n3_ := aM_ (bD_ BK444.out); have n4_ := aM_ (wD_ HB.out); clear HO_7 HO_8 HO_445003 BK444 HB; have HO_7 := n0_; have HO_8 := n1_; have HO_445003 := n2_; have BK444 := n3_; have HB := n4_; clear n0_ n1_ n2_ n3_ n4_
                 have p465 : 0 ≤ (x11_4 : Int) := dT_
                 have q465 : x11_4 < (t445.length : Int) := dT_
                 obtain ⟨ad465, e465, hx465_0⟩ := Kd.at_int (Kd.R_reads' HO_7.out).2.2 x11_4 p465 q465
                 cases e465
                 replace p465 := eq_true p465; replace q465 := eq_true q465
                 refine start_ (n := 39) (S := fun w' => w'.cell? (ad465.add (x11_4).toNat) = some (.int .i64 (rd t445 x11_4))) (ds := []) zb37_ (by kernel_rfl) rfl rfl (hx465_0) (fun hHeld => ?_); refine with_tabW laws_FnReach.tab17 laws_FnReach.bits17 (fun HT_ HW_ => ?_)
                 generalize wr.drew = w64 at HO_7 HO_8 HO_445003 BK444 HB hx465_0 hHeld ⊢
                 refine pu_ 0 (some 111) zb38_ rfl rfl ?_
                 refine pu_ 1 (some 112) zb39_ rfl rfl ?_
                 refine pu_ 2 (some 113) zb40_ rfl rfl ?_
                 refine tk1_ 3 (some 114) zb41_ rfl rfl ?_
                 refine pu_ 4 (some 115) zb42_ rfl rfl ?_
                 refine pu_ 5 (some 116) zb43_ rfl rfl ?_
                 refine pn_ 6 (some 117) zb44_ rfl rfl ?_
                 refine pn_ 7 (some 118) zb45_ rfl rfl ?_
                 refine pn_ 8 (some 119) zb46_ rfl rfl ?_
                 refine pn_ 9 (some 120) #[true, true, true, true, true, true, true, true, true, true, false, false, false, false, false, false, false, false, false, false, false, false, false, false, false, false, false, false, false, false, false, false, false, false, false, false, false, false, false] rfl rfl ?_
                 refine pn_ 10 (some 121) #[true, true, true, true, true, true, true, true, true, true, true, false, false, false, false, false, false, false, false, false, false, false, false, false, false, false, false, false, false, false, false, false, false, false, false, false, false, false, false] rfl rfl ?_
                 refine pn_ 11 (some 122) #[true, true, true, true, true, true, true, true, true, true, true, true, false, false, false, false, false, false, false, false, false, false, false, false, false, false, false, false, false, false, false, false, false, false, false, false, false, false, false] rfl rfl ?_
                 refine pn_ 12 (some 123) zb50_ rfl rfl ?_
                 refine pn_ 13 (some 124) zb51_ rfl rfl ?_
                 refine pn_ 14 (some 125) zb52_ rfl rfl ?_
                 refine pu_ 15 (some 126) zb53_ rfl rfl ?_
                 refine pu_ 16 (some 127) zb54_ rfl rfl ?_
                 refine pn_ 17 (some 128) zb55_ rfl rfl ?_
                 refine pn_ 18 (some 129) zb56_ rfl rfl ?_
                 refine pn_ 19 (some 130) zb57_ rfl rfl ?_
                 refine pn_ 20 (some 131) zb58_ rfl rfl ?_
                 refine pn_ 21 (some 132) zb59_ rfl rfl ?_
                 refine pn_ 22 (some 133) zb60_ rfl rfl ?_
                 refine pn_ 23 (some 134) zb61_ rfl rfl ?_
                 refine pn_ 24 (some 135) zb62_ rfl rfl ?_
                 refine pn_ 25 (some 136) zb63_ rfl rfl ?_
                 refine pu_ 26 (some 137) zb64_ rfl rfl ?_
                 refine pu_ 27 (some 138) zb65_ rfl rfl ?_
                 refine pn_ 28 (some 139) zb72_ rfl rfl ?_
                 refine pn_ 29 (some 140) zb73_ rfl rfl ?_
                 refine pn_ 30 (some 141) zb74_ rfl rfl ?_
                 refine pn_ 31 (some 142) zb75_ rfl rfl ?_
                 refine pn_ 32 (some 143) zb76_ rfl rfl ?_
                 refine pn_ 33 (some 144) zb66_ rfl rfl ?_
                 refine pn_ 34 (some 145) zb67_ rfl rfl ?_
                 refine pn_ 35 (some 146) zb68_ rfl rfl ?_
                 refine pn_ 36 (some 147) zb69_ rfl rfl ?_
                 refine pu_ 37 (some 148) zb70_ rfl rfl ?_
                 refine pu_ 38 (some 10) zb71_ rfl rfl ?_
                 refine done_ (done_of HT_.out (by kernel_rfl)) ?_
                 try go_wp2
                 go_roundg k4
                 case measure => have := HK1.out; have := HJ20.out; have := HJ39.out; have := HK4.out; omega
                 case rel => exact ⟨(false), (wrap64 (x11_4 + 1)), (by first | rfl | (simp; done) | (simp [*]; done)), (by first | rfl | (simp; done) | (simp [*]; done)), H', ⟨by have := HK1.out; have := HJ20.out; have := HJ39.out; have := HK4.out; omega⟩, ⟨by (with_reducible repeat (first | apply rA_ | apply rN_ | apply rD_)); exact HO_7.out⟩, ⟨by (with_reducible repeat (first | apply rA_ | apply rN_ | apply rD_)); exact HO_8.out⟩, ⟨by (with_reducible repeat (first | apply rA_ | apply rN_ | apply rD_)); exact HO_445003.out⟩, ⟨by (with_reducible repeat (first | refine bN_ ?_ _ | refine bD_ ?_ | refine bA_ ?_ _)); exact BK444.out⟩, ⟨bw_⟩⟩
               ·rw [if_neg c49] at H
                exact absurd H (by simp)
             ·rw [if_neg c47] at H
              have c47b0 : decide (x11_4 < (t445.length : Int)) = false := decide_eq_false c47
              clear c47
              by_cases c65 : x10_4 = true
              ·subst c65
               have H1 : (laws_FnReach.l0 k4 t441 t442 t443 t445 t451 (wrap64 (x9_1 + 1)) t435 t436 t437 t438) = some r := by rw [if_pos rfl] at H; exact H
               clear H; have H := H1; clear H1
               have H' := aM_ H
               clear H
               go_wp2
               go_roundg k4
               case measure => have := HK1.out; have := HJ20.out; have := HJ39.out; have := HK4.out; omega
               case rel => exact ⟨(wrap64 (x9_1 + 1)), (by first | rfl | (simp; done) | (simp [*]; done)), H', ⟨by have := HK1.out; have := HJ20.out; have := HJ39.out; have := HK4.out; omega⟩, ⟨by (with_reducible repeat (first | apply rA_ | apply rN_ | apply rD_)); exact HO_7.out⟩, ⟨by (with_reducible repeat (first | apply rA_ | apply rN_ | apply rD_)); exact HO_8.out⟩, ⟨by (with_reducible repeat (first | apply rA_ | apply rN_ | apply rD_)); exact HO_445003.out⟩, ⟨by (with_reducible repeat (first | refine bN_ ?_ _ | refine bD_ ?_ | refine bA_ ?_ _)); exact BK444.out⟩, ⟨bw_⟩⟩
              ·replace c65 := Bool.eq_false_iff.mpr c65
               subst c65
               have H1 : (some false) = some r := by rw [if_neg (show ¬ (false = true) by decide)] at H; exact H
               clear H; have H := H1; clear H1
               exact absurd ((Option.some.inj H).trans HTRUE.out) (by decide)
     ·rw [if_neg c20] at H
      have c20b0 : decide (x9_1 < (t445.length : Int)) = false := decide_eq_false c20
      clear c20
      replace H := Option.bind_eq_some_iff.mp H
      obtain ⟨t454, A660, H⟩ := H
      (try dsimp only at H)
      have A66 := aM_ A660; clear A660
      by_cases c67 : t454 ≤ (t445.length : Int)
      ·rw [if_pos c67] at H
       have c67b0 : decide (t454 ≤ (t445.length : Int)) = true := decide_eq_true c67
       clear c67
       replace H := Option.bind_eq_some_iff.mp H
       obtain ⟨t455, A680, H⟩ := H
       (try dsimp only at H)
       have A68 := aM_ A680; clear A680
       by_cases c69 : t455 = true
       ·subst c69
        have H1 : ((impl_ReachCount.f k1 t435 t436 t437 t438 t441 t442 t443).bind fun t456 => (some (t456 == (t445.length : Int)))) = some r := by rw [if_pos rfl] at H; exact H
        clear H; have H := H1; clear H1
        replace H := Option.bind_eq_some_iff.mp H
        obtain ⟨t456, A700, H⟩ := H
        (try dsimp only at H)
        have A70 := aM_ A700; clear A700
        obtain rfl := Option.some.inj H
        have hcz71_0 : wr.cell? ⟨gb444, 0, none⟩ = some (.int .i64 t435) := (blk_cell BK444.out 0).trans rfl
        have hcz71_1 : wr.cell? ⟨gb444, 1, none⟩ = some (.int .i64 t436) := (blk_cell BK444.out 1).trans rfl
        have hcz71_2 : wr.cell? ⟨gb444, 2, none⟩ = some (.int .i64 t437) := (blk_cell BK444.out 2).trans rfl
        have hcz71_3 : wr.cell? ⟨gb444, 3, none⟩ = some (.slice Ao12 t438.length co12) := (blk_cell BK444.out 3).trans rfl
        have hfz71_0 := blk_frozen BK444.out 0; have hfz71_1 := blk_frozen BK444.out 1; have hfz71_2 := blk_frozen BK444.out 2; have hfz71_3 := blk_frozen BK444.out 3
        go_wp2_with (first | ((with_reducible refine gate_callee (f := 32) rfl ?_); refine goesL_ (some 155) rfl rfl Try.func32 (by kernel_rfl) rfl #[.agg #[.int .i64 t435, .int .i64 t436, .int .i64 t437, .slice Ao12 t438.length co12], .int .i64 t441, .int .i64 t442, .int .i64 t443] rfl (by (try simp only [List.map_toArray, List.map_cons, List.map_nil]); first | done | rfl | (simp only [List.length_drop, List.length_take]; rfl)) ?_; (with_reducible refine (impl_ReachCount.calls k1 t435 t436 t437 _ _ t438 t441 t442 t443 t454 _ ?side1 ?side2 A66.out).mono ?_); (case side1 => repeat (first | exact (Kd.R_reads' HO_445003.out).2.2 | (with_reducible refine cA_ ?_ _) | (with_reducible refine cN_ ?_ _) | (with_reducible refine cD_ ?_))); (case side2 => exact (Kd.R_reads' HO_445003.out).2.1); rintro e w72 ⟨rfl, hb⟩; refine ⟨_, rfl, ?_⟩; have n0_ := aM_ (rB_ (rb_ HO_7.out) hb); have n1_ := aM_ (rB_ (rb_ HO_8.out) hb); have n2_ := aM_ (rB_ (rb_ HO_445003.out) hb); have n3_ := aM_ (bB_ (kb_ BK444.out) hb); have n4_ := aM_ (wS_ (bw_) hb); clear HO_7 HO_8 HO_445003 BK444 HB; have HO_7 := n0_; have HO_8 := n1_; have HO_445003 := n2_; have BK444 := n3_; have HB := n4_; clear n0_ n1_ n2_ n3_ n4_; (try clear hb); (try clear hb2); (try clear hk); (try clear hi); obtain ⟨hcz73_0, hcz73_1, hcz73_2, hcz73_3, hfz73_0, hfz73_1, hfz73_2, hfz73_3⟩ := bk4_ BK444.out) | (go_at_call 39; (with_reducible refine (impl_IsWhole.calls k1 t435 t436 t437 _ _ t438 t442 t443 true _ ?side1 ?side2 A68.out).mono ?_); (case side1 => repeat (first | exact (Kd.R_reads' HO_445003.out).2.2 | (with_reducible refine cA_ ?_ _) | (with_reducible refine cN_ ?_ _) | (with_reducible refine cD_ ?_))); (case side2 => exact (Kd.R_reads' HO_445003.out).2.1); rintro e w74 ⟨rfl, hb⟩; have n0_ := aM_ (rB_ (rb_ HO_7.out) hb); have n1_ := aM_ (rB_ (rb_ HO_8.out) hb); have n2_ := aM_ (rB_ (rb_ HO_445003.out) hb); have n3_ := aM_ (bB_ (kb_ BK444.out) hb); have n4_ := aM_ (wS_ (bw_) hb); clear HO_7 HO_8 HO_445003 BK444 HB; have HO_7 := n0_; have HO_8 := n1_; have HO_445003 := n2_; have BK444 := n3_; have HB := n4_; clear n0_ n1_ n2_ n3_ n4_; (try clear hb); (try clear hb2); (try clear hk); (try clear hi); obtain ⟨hcz75_0, hcz75_1, hcz75_2, hcz75_3, hfz75_0, hfz75_1, hfz75_2, hfz75_3⟩ := bk4_ BK444.out) | (go_at_call 32; (with_reducible refine (impl_ReachCount.calls k1 t435 t436 t437 _ _ t438 t441 t442 t443 t456 _ ?side1 ?side2 A70.out).mono ?_); (case side1 => repeat (first | exact (Kd.R_reads' HO_445003.out).2.2 | (with_reducible refine cA_ ?_ _) | (with_reducible refine cN_ ?_ _) | (with_reducible refine cD_ ?_))); (case side2 => exact (Kd.R_reads' HO_445003.out).2.1); rintro e w76 ⟨rfl, hb⟩; have n0_ := aM_ (rB_ (rb_ HO_7.out) hb); have n1_ := aM_ (rB_ (rb_ HO_8.out) hb); have n2_ := aM_ (rB_ (rb_ HO_445003.out) hb); have n3_ := aM_ (bB_ (kb_ BK444.out) hb); have n4_ := aM_ (wS_ (bw_) hb); clear HO_7 HO_8 HO_445003 BK444 HB; have HO_7 := n0_; have HO_8 := n1_; have HO_445003 := n2_; have BK444 := n3_; have HB := n4_; clear n0_ n1_ n2_ n3_ n4_; (try clear hb); (try clear hb2); (try clear hk); (try clear hi)))
        go_ret
        exact ⟨by first | rfl | (rw [Option.some.inj (A70.out.symm.trans A66.out)] <;> rfl) | (simp [errW_none, errW_some] <;> rfl) | (simp [*, errW_none, errW_some] <;> rfl), bw_⟩
       ·replace c69 := Bool.eq_false_iff.mpr c69
        subst c69
        have H1 : (some true) = some r := by rw [if_neg (show ¬ (false = true) by decide)] at H; exact H
        clear H; have H := H1; clear H1
        obtain rfl := Option.some.inj H
        have hcz77_0 : wr.cell? ⟨gb444, 0, none⟩ = some (.int .i64 t435) := (blk_cell BK444.out 0).trans rfl
        have hcz77_1 : wr.cell? ⟨gb444, 1, none⟩ = some (.int .i64 t436) := (blk_cell BK444.out 1).trans rfl
        have hcz77_2 : wr.cell? ⟨gb444, 2, none⟩ = some (.int .i64 t437) := (blk_cell BK444.out 2).trans rfl
        have hcz77_3 : wr.cell? ⟨gb444, 3, none⟩ = some (.slice Ao12 t438.length co12) := (blk_cell BK444.out 3).trans rfl
        have hfz77_0 := blk_frozen BK444.out 0; have hfz77_1 := blk_frozen BK444.out 1; have hfz77_2 := blk_frozen BK444.out 2; have hfz77_3 := blk_frozen BK444.out 3
        go_wp2_with (first | ((with_reducible refine gate_callee (f := 32) rfl ?_); refine goesL_ (some 155) rfl rfl Try.func32 (by kernel_rfl) rfl #[.agg #[.int .i64 t435, .int .i64 t436, .int .i64 t437, .slice Ao12 t438.length co12], .int .i64 t441, .int .i64 t442, .int .i64 t443] rfl (by (try simp only [List.map_toArray, List.map_cons, List.map_nil]); first | done | rfl | (simp only [List.length_drop, List.length_take]; rfl)) ?_; (with_reducible refine (impl_ReachCount.calls k1 t435 t436 t437 _ _ t438 t441 t442 t443 t454 _ ?side1 ?side2 A66.out).mono ?_); (case side1 => repeat (first | exact (Kd.R_reads' HO_445003.out).2.2 | (with_reducible refine cA_ ?_ _) | (with_reducible refine cN_ ?_ _) | (with_reducible refine cD_ ?_))); (case side2 => exact (Kd.R_reads' HO_445003.out).2.1); rintro e w78 ⟨rfl, hb⟩; refine ⟨_, rfl, ?_⟩; have n0_ := aM_ (rB_ (rb_ HO_7.out) hb); have n1_ := aM_ (rB_ (rb_ HO_8.out) hb); have n2_ := aM_ (rB_ (rb_ HO_445003.out) hb); have n3_ := aM_ (bB_ (kb_ BK444.out) hb); have n4_ := aM_ (wS_ (bw_) hb); clear HO_7 HO_8 HO_445003 BK444 HB; have HO_7 := n0_; have HO_8 := n1_; have HO_445003 := n2_; have BK444 := n3_; have HB := n4_; clear n0_ n1_ n2_ n3_ n4_; (try clear hb); (try clear hb2); (try clear hk); (try clear hi); obtain ⟨hcz79_0, hcz79_1, hcz79_2, hcz79_3, hfz79_0, hfz79_1, hfz79_2, hfz79_3⟩ := bk4_ BK444.out) | (go_at_call 39; (with_reducible refine (impl_IsWhole.calls k1 t435 t436 t437 _ _ t438 t442 t443 false _ ?side1 ?side2 A68.out).mono ?_); (case side1 => repeat (first | exact (Kd.R_reads' HO_445003.out).2.2 | (with_reducible refine cA_ ?_ _) | (with_reducible refine cN_ ?_ _) | (with_reducible refine cD_ ?_))); (case side2 => exact (Kd.R_reads' HO_445003.out).2.1); rintro e w80 ⟨rfl, hb⟩; have n0_ := aM_ (rB_ (rb_ HO_7.out) hb); have n1_ := aM_ (rB_ (rb_ HO_8.out) hb); have n2_ := aM_ (rB_ (rb_ HO_445003.out) hb); have n3_ := aM_ (bB_ (kb_ BK444.out) hb); have n4_ := aM_ (wS_ (bw_) hb); clear HO_7 HO_8 HO_445003 BK444 HB; have HO_7 := n0_; have HO_8 := n1_; have HO_445003 := n2_; have BK444 := n3_; have HB := n4_; clear n0_ n1_ n2_ n3_ n4_; (try clear hb); (try clear hb2); (try clear hk); (try clear hi)))
        go_ret
        exact ⟨by first | rfl | (simp [errW_none, errW_some] <;> rfl) | (simp [*, errW_none, errW_some] <;> rfl), bw_⟩
      ·rw [if_neg c67] at H
       have c67b0 : decide (t454 ≤ (t445.length : Int)) = false := decide_eq_false c67
       clear c67
       exact absurd ((Option.some.inj H).trans HTRUE.out) (by decide)
  ·rw [if_neg c7] at H
   have c7b0 : ((t445.length : Int) == (t448.length : Int)) = false := beq_eq_false_iff_ne.mpr c7
   have c7b1 : ((t445.length : Int) != (t448.length : Int)) = true := bne_iff_ne.mpr c7
   have c7b2 : (t445.length == t448.length) = false := by first | simpa using c7 | (simp at c7 ⊢; omega)
   exact absurd ((Option.some.inj H).trans HTRUE.out) (by decide)

/-- THE ONE PURE STATEMENT of laws_FnReach: yours. -/
def laws_FnReach.Pure : Prop := ∀ (l0 : List Int), l0.length ≤ maxLen → l0.length * 1 ≤ 140737488351232 → (∀ x ∈ l0, (Lit.int .u8 x).wf = true) → ∃ k, laws_FnReach.f k l0 = some true
theorem laws_FnReach.walk (P : laws_FnReach.Pure) (a0 : Option Addr) (len0 cap0 : Nat) (z0 : List Int) (w : World) (w0 : (a0 = none ∧ len0 = 0 ∧ cap0 = 0 ∧ z0 = []) ∨ ∃ x, a0 = some x ∧ len0 ≤ cap0 ∧ cap0 ≤ maxLen ∧ z0.length = cap0 ∧ (∀ i, i < z0.length → w.cell? (x.add i) = some (.int .u8 (z0.getD i 0))) ∧ ∀ n ∈ z0, (Lit.int .u8 n).wf = true) (y0 : len0 * 1 ≤ 140737488351232) :
    Calls Try.prog 10 #[.slice a0 len0 cap0] w fun e w' => e = .returned (.bool true) ∧ Below w.heap.size w w' := by
  obtain ⟨l0, rfl, hr0, hm0, hw0, hc0⟩ := ReadsInt.ofRowC w0
  obtain ⟨k, h⟩ := P l0 hm0 y0 hw0
  refine (laws_FnReach.calls k _ _ l0 true w (Kd.C_of_reads (d := (0 : Int)) (h1 := fun _ => rfl) hr0) hc0 rfl h).mono ?_
  rintro e w' ⟨rfl, hd⟩
  exact ⟨rfl, hd⟩

end Go.Proofs.Ytdodogkgmpaioaa.PFnReach
