/- The functions that the law reaches, as plain Lean functions, each with the proof that the Go code comes to its answers; conditions: those that each theorem names. (printed by a program of this session) -/
import Derived.Test.YtlogjmgghnifoaaPFnHandoversx0
import Derived.Test.YtlogjmgghnifoaaPFnHandoversx2
import Derived.Test.YtlogjmgghnifoaaPFnHandoversx3
import Derived.Test.YtlogjmgghnifoaaPFnHandoversx13
import Derived.Test.YtlogjmgghnifoaaPFnHandoversx14
namespace Go.Proofs.Ytlogjmgghnifoaa.PFnHandovers
open Go.RowKit Go.Proofs.YtlogjmgghnifoaaW.PrintWords Go.Proofs.YtlogjmgghnifoaaW.PrintLast Go.Proofs.YtlogjmgghnifoaaW.PrintMore
attribute [local go_sem] max2_int min2_int max_two min_two max_three min_three max_four min_four   -- for this text's walks alone
set_option linter.unusedVariables false
set_option linter.unusedSimpArgs false

abbrev zb0_ : Array Bool := #[false, false, false, false, false, false, false, false, false, false, false, false, false, false, false, false, false, false, false, false, false, false, false, false, false, false, false, false, false, false, false, false, false, false, false, false, false, false, false, false, false, false, false, false]
abbrev zb1_ : Array Bool := #[true, false, false, false, false, false, false, false, false, false, false, false, false, false, false, false, false, false, false, false, false, false, false, false, false, false, false, false, false, false, false, false, false, false, false, false, false, false, false, false, false, false, false, false]
abbrev zb2_ : Array Bool := #[true, true, false, false, false, false, false, false, false, false, false, false, false, false, false, false, false, false, false, false, false, false, false, false, false, false, false, false, false, false, false, false, false, false, false, false, false, false, false, false, false, false, false, false]
abbrev zb3_ : Array Bool := #[true, true, true, false, false, false, false, false, false, false, false, false, false, false, false, false, false, false, false, false, false, false, false, false, false, false, false, false, false, false, false, false, false, false, false, false, false, false, false, false, false, false, false, false]
abbrev zb4_ : Array Bool := #[true, true, true, true, false, false, false, false, false, false, false, false, false, false, false, false, false, false, false, false, false, false, false, false, false, false, false, false, false, false, false, false, false, false, false, false, false, false, false, false, false, false, false, false]
abbrev zb5_ : Array Bool := #[true, true, true, true, false, true, false, false, false, false, false, false, false, false, false, false, false, false, false, false, false, false, false, false, false, false, false, false, false, false, false, false, false, false, false, false, false, false, false, false, false, false, false, false]
abbrev zb6_ : Array Bool := #[true, true, true, true, false, true, true, false, false, false, false, false, false, false, false, false, false, false, false, false, false, false, false, false, false, false, false, false, false, false, false, false, false, false, false, false, false, false, false, false, false, false, false, false]
abbrev zb7_ : Array Bool := #[true, true, true, true, false, true, true, true, false, false, false, false, false, false, false, false, false, false, false, false, false, false, false, false, false, false, false, false, false, false, false, false, false, false, false, false, false, false, false, false, false, false, false, false]
abbrev zb8_ : Array Bool := #[true, true, true, true, false, true, true, true, true, false, false, false, false, false, false, false, false, false, false, false, false, false, false, false, false, false, false, false, false, false, false, false, false, false, false, false, false, false, false, false, false, false, false, false]
abbrev zb9_ : Array Bool := #[true, true, true, true, true, true, true, true, true, false, false, false, false, false, false, false, false, false, false, false, false, false, false, false, false, false, false, false, false, false, false, false, false, false, false, false, false, false, false, false, false, false, false, false]
abbrev zb10_ : Array Bool := #[true, true, true, true, true, true, true, true, true, true, false, false, false, false, false, false, false, false, false, false, false, false, false, false, false, false, false, false, false, false, false, false, false, false, false, false, false, false, false, false, false, false, false, false]
abbrev zb11_ : Array Bool := #[true, true, true, true, true, true, true, true, true, true, true, false, false, false, false, false, false, false, false, false, false, false, false, false, false, false, false, false, false, false, false, false, false, false, false, false, false, false, false, false, false, false, false, false]
abbrev zb12_ : Array Bool := #[true, true, true, true, true, true, true, true, true, true, true, true, false, false, false, false, false, false, false, false, false, false, false, false, false, false, false, false, false, false, false, false, false, false, false, false, false, false, false, false, false, false, false, false]
abbrev zb13_ : Array Bool := #[true, true, true, true, true, true, true, true, true, true, true, true, true, false, false, false, false, false, false, false, false, false, false, false, false, false, false, false, false, false, false, false, false, false, false, false, false, false, false, false, false, false, false, false]
abbrev zb14_ : Array Bool := #[true, true, true, true, true, true, true, true, true, true, true, true, true, true, false, false, false, false, false, false, false, false, false, false, false, false, false, false, false, false, false, false, false, false, false, false, false, false, false, false, false, false, false, false]
abbrev zb15_ : Array Bool := #[true, true, true, true, true, true, true, true, true, true, true, true, true, true, true, false, false, false, false, false, false, false, false, false, false, false, false, false, false, false, false, false, false, false, false, false, false, false, false, false, false, false, false, false]
abbrev zb16_ : Array Bool := #[true, true, true, true, true, true, true, true, true, true, true, true, true, true, true, true, false, false, false, false, false, false, false, false, false, false, false, false, false, false, false, false, false, false, false, false, false, false, false, false, false, false, false, false]
abbrev zb17_ : Array Bool := #[true, true, true, true, true, true, true, true, true, true, true, true, true, true, true, true, true, false, false, false, false, false, false, false, false, false, false, false, false, false, false, false, false, false, false, false, false, false, false, false, false, false, false, false]
abbrev zb18_ : Array Bool := #[true, true, true, true, true, true, true, true, true, true, true, true, true, true, true, true, true, true, false, false, false, false, false, false, false, false, false, false, false, false, false, false, false, false, false, false, false, false, false, false, false, false, false, false]
abbrev zb19_ : Array Bool := #[true, true, true, true, true, true, true, true, true, true, true, true, true, true, true, true, true, true, true, false, false, false, false, false, false, false, false, false, false, false, false, false, false, false, false, false, false, false, false, false, false, false, false, false]
abbrev zb20_ : Array Bool := #[true, true, true, true, true, true, true, true, true, true, true, true, true, true, true, true, true, true, true, true, false, false, false, false, false, false, false, false, false, false, false, false, false, false, false, false, false, false, false, false, false, false, false, false]
abbrev zb21_ : Array Bool := #[true, true, true, true, true, true, true, true, true, true, true, true, true, true, true, true, true, true, true, true, true, true, true, true, true, false, false, false, false, false, false, false, false, false, false, false, false, false, false, false, false, false, false, false]
abbrev zb22_ : Array Bool := #[true, true, true, true, true, true, true, true, true, true, true, true, true, true, true, true, true, true, true, true, true, true, true, true, true, true, false, false, false, false, false, false, false, false, false, false, false, false, false, false, false, false, false, false]
abbrev zb23_ : Array Bool := #[true, true, true, true, true, true, true, true, true, true, true, true, true, true, true, true, true, true, true, true, true, true, true, true, true, true, true, false, false, false, false, false, false, false, false, false, false, false, false, false, false, false, false, false]
abbrev zb24_ : Array Bool := #[true, true, true, true, true, true, true, true, true, true, true, true, true, true, true, true, true, true, true, true, true, true, true, true, true, true, true, true, false, false, false, false, false, false, false, false, false, false, false, false, false, false, false, false]
abbrev zb25_ : Array Bool := #[true, true, true, true, true, true, true, true, true, true, true, true, true, true, true, true, true, true, true, true, true, true, true, true, true, true, true, true, true, false, false, false, false, false, false, false, false, false, false, false, false, false, false, false]
abbrev zb26_ : Array Bool := #[true, true, true, true, true, true, true, true, true, true, true, true, true, true, true, true, true, true, true, true, true, true, true, true, true, true, true, true, true, true, false, false, false, false, false, false, false, false, false, false, false, false, false, false]
abbrev zb27_ : Array Bool := #[true, true, true, true, true, true, true, true, true, true, true, true, true, true, true, true, true, true, true, true, true, true, true, true, true, true, true, true, true, true, true, false, false, false, false, false, false, false, false, false, false, false, false, false]
abbrev zb28_ : Array Bool := #[true, true, true, true, true, true, true, true, true, true, true, true, true, true, true, true, true, true, true, true, true, true, true, true, true, true, true, true, true, true, true, true, false, false, false, false, false, false, false, false, false, false, false, false]
abbrev zb29_ : Array Bool := #[true, true, true, true, true, true, true, true, true, true, true, true, true, true, true, true, true, true, true, true, true, true, true, true, true, true, true, true, true, true, true, true, true, false, false, false, false, false, false, false, false, false, false, false]
abbrev zb30_ : Array Bool := #[true, true, true, true, true, true, true, true, true, true, true, true, true, true, true, true, true, true, true, true, true, true, true, true, true, true, true, true, true, true, true, true, true, true, false, false, false, false, false, false, false, false, false, false]
abbrev zb31_ : Array Bool := #[true, true, true, true, true, true, true, true, true, true, true, true, true, true, true, true, true, true, true, true, true, true, true, true, true, true, true, true, true, true, true, true, true, true, true, false, false, false, false, false, false, false, false, false]
abbrev zb32_ : Array Bool := #[true, true, true, true, true, true, true, true, true, true, true, true, true, true, true, true, true, true, true, true, true, true, true, true, true, true, true, true, true, true, true, true, true, true, true, true, false, false, false, false, false, false, false, false]
abbrev zb33_ : Array Bool := #[true, true, true, true, true, true, true, true, true, true, true, true, true, true, true, true, true, true, true, true, true, true, true, true, true, true, true, true, true, true, true, true, true, true, true, true, true, false, false, false, false, false, false, false]
abbrev zb34_ : Array Bool := #[true, true, true, true, true, true, true, true, true, true, true, true, true, true, true, true, true, true, true, true, true, true, true, true, true, true, true, true, true, true, true, true, true, true, true, true, true, true, false, false, false, false, false, false]
abbrev zb35_ : Array Bool := #[true, true, true, true, true, true, true, true, true, true, true, true, true, true, true, true, true, true, true, true, true, true, true, true, true, true, true, true, true, true, true, true, true, true, true, true, true, true, true, false, false, false, false, false]
abbrev zb36_ : Array Bool := #[true, true, true, true, true, true, true, true, true, true, true, true, true, true, true, true, true, true, true, true, true, true, true, true, true, true, true, true, true, true, true, true, true, true, true, true, true, true, true, true, false, false, false, false]
abbrev zb37_ : Array Bool := #[true, true, true, true, true, true, true, true, true, true, true, true, true, true, true, true, true, true, true, true, true, true, true, true, true, true, true, true, true, true, true, true, true, true, true, true, true, true, true, true, true, false, false, false]
abbrev zb38_ : Array Bool := #[true, true, true, true, true, true, true, true, true, true, true, true, true, true, true, true, true, true, true, true, true, true, true, true, true, true, true, true, true, true, true, true, true, true, true, true, true, true, true, true, true, true, false, false]
abbrev zb39_ : Array Bool := #[true, true, true, true, true, true, true, true, true, true, true, true, true, true, true, true, true, true, true, true, true, true, true, true, true, true, true, true, true, true, true, true, true, true, true, true, true, true, true, true, true, true, true, false]
abbrev zb40_ : Array Bool := #[true, true, true, true, true, true, true, true, true, true, true, true, true, true, true, true, true, true, true, true, true, true, true, true, true, true, true, true, true, true, true, true, true, true, true, true, true, true, true, true, true, true, true, true]
/-! ### laws_FnHandovers: function 7 -/
mutual
def laws_FnHandovers.l0 : Nat → Int → List (S87) → List (S109) → Int → Int → Int → Int → List (S112) → Option (Bool)
  | 0, _, _, _, _, _, _, _, _ => none
  | k + 1, x4, x5, x6, x7, x431000, x431001, x431002, x431003 => if x7 < 24 then ((impl_PieceAt.f x431000 x431001 x431002 x431003 x7).bind fun t437 => ((impl_ServersIn.f k x431000 x431001 x431002 x431003 t437 x4).bind fun t438 => ((impl_InSpans.f k x6 x7).bind fun t441 => (if t437 ≥ 0 then (laws_FnHandovers.j1 k x4 x5 x6 x7 t438 (t441 != ((t438.length : Int) == 0)) x431000 x431001 x431002 x431003) else (laws_FnHandovers.j1 k x4 x5 x6 x7 t438 (t441 != false) x431000 x431001 x431002 x431003))))) else (laws_FnHandovers.l2 k x4 x5 x6 0 x431000 x431001 x431002 x431003)
def laws_FnHandovers.j1 : Nat → Int → List (S87) → List (S109) → Int → List Int → Bool → Int → Int → Int → List (S112) → Option (Bool)
  | 0, _, _, _, _, _, _, _, _, _, _ => none
  | k + 1, x4, x5, x6, x7, x9, x46, x431000, x431001, x431002, x431003 => if x46 = true then (some false) else (laws_FnHandovers.l1 k x4 x5 x6 x7 x9 0 x431000 x431001 x431002 x431003)
def laws_FnHandovers.l1 : Nat → Int → List (S87) → List (S109) → Int → List Int → Int → Int → Int → Int → List (S112) → Option (Bool)
  | 0, _, _, _, _, _, _, _, _, _, _ => none
  | k + 1, x4, x5, x6, x7, x9, x10, x431000, x431001, x431002, x431003 => if x10 < (x9.length : Int) then (if 0 ≤ x10 then ((impl_ServiceOf.f k x431000 x431001 x431002 x431003 x4 (rd x9 x10)).bind fun t443 => ((impl_InSpans.f k t443 x7).bind fun t446 => (if t446 = true then (laws_FnHandovers.l1 k x4 x5 x6 x7 x9 (wrap64 (x10 + 1)) x431000 x431001 x431002 x431003) else (some false)))) else (none)) else (laws_FnHandovers.l0 k x4 x5 x6 (wrap64 (x7 + 1)) x431000 x431001 x431002 x431003)
def laws_FnHandovers.l2 : Nat → Int → List (S87) → List (S109) → Int → Int → Int → Int → List (S112) → Option (Bool)
  | 0, _, _, _, _, _, _, _, _ => none
  | k + 1, x4, x5, x6, x11, x431000, x431001, x431002, x431003 => if x11 < (x5.length : Int) then (if 0 ≤ x11 then ((impl_EqualInts.f k ((rd_T87 x5 x11).f1) ((rd_T87 x5 x11).f2)).bind fun t451 => (if t451 = true then (laws_FnHandovers.j4 k x4 x5 x6 x11 true x431000 x431001 x431002 x431003) else (if x11 > 0 then (if 0 ≤ (wrap64 (x11 - 1)) then (if (wrap64 (x11 - 1)) < (x5.length : Int) then (if ((rd_T87 x5 (wrap64 (x11 - 1))).f0) ≥ ((rd_T87 x5 x11).f0) then (laws_FnHandovers.j4 k x4 x5 x6 x11 true x431000 x431001 x431002 x431003) else ((impl_EqualInts.f k ((rd_T87 x5 (wrap64 (x11 - 1))).f2) ((rd_T87 x5 x11).f1)).bind fun t456 => (laws_FnHandovers.j4 k x4 x5 x6 x11 (!t456) x431000 x431001 x431002 x431003))) else (none)) else (none)) else (laws_FnHandovers.j4 k x4 x5 x6 x11 false x431000 x431001 x431002 x431003)))) else (none)) else ((impl_LongestGap.f k x431000 x431001 x431002 x431003 x4).bind fun t447 => ((impl_TicksOf.f k x6).bind fun t448 => (some (decide (t447 ≤ t448)))))
def laws_FnHandovers.j4 : Nat → Int → List (S87) → List (S109) → Int → Bool → Int → Int → Int → List (S112) → Option (Bool)
  | 0, _, _, _, _, _, _, _, _, _ => none
  | k + 1, x4, x5, x6, x11, x112, x431000, x431001, x431002, x431003 => if x112 = true then (some false) else (if 0 ≤ x11 then (if x11 < (x5.length : Int) then ((impl_IsSmooth.f ((rd_T87 x5 x11).f0) ((rd_T87 x5 x11).f1) ((rd_T87 x5 x11).f2)).bind fun t458 => (if t458 = true then (if (((rd_T87 x5 x11).f1).length : Int) = 0 then (some false) else (if (((rd_T87 x5 x11).f2).length : Int) = 0 then (some false) else (laws_FnHandovers.l2 k x4 x5 x6 (wrap64 (x11 + 1)) x431000 x431001 x431002 x431003))) else (laws_FnHandovers.l2 k x4 x5 x6 (wrap64 (x11 + 1)) x431000 x431001 x431002 x431003))) else (none)) else (none))
end
def laws_FnHandovers.f (k : Nat) (l0 : List Int) : Option (Bool) := (laws_big.f l0).bind fun t422 => (if t422 = true then (some true) else ((spec_DrawHandoversOf.f k l0).bind fun bt423 => ((impl_HandoversOf.f k bt423.1 bt423.2.1 bt423.2.2.1 bt423.2.2.2.1 bt423.2.2.2.2).bind fun t431 => ((impl_GapsOf.f k bt423.1 bt423.2.1 bt423.2.2.1 bt423.2.2.2.1 bt423.2.2.2.2).bind fun t434 => (laws_FnHandovers.l0 k bt423.2.2.2.2 t431 t434 0 bt423.1 bt423.2.1 bt423.2.2.1 bt423.2.2.2.1)))))
def laws_FnHandovers.T16 : Bool × List (List Nat × List Nat) := (true, [([], []), ([], []), ([], []), ([], []), ([2, 3], [2, 3]), ([4], [4]), ([0, 1, 5], [0, 1, 5]), ([], []), ([6, 7, 6], [6, 7]), ([8], [8])])
def laws_FnHandovers.B16 : List Nat := [0, 0, 0, 0, 12, 28, 63, 0, 255, 511]
theorem laws_FnHandovers.tab16 : rtab .any (opsOf Try.f7 16) = laws_FnHandovers.T16 := by kernel_rfl
theorem laws_FnHandovers.bits16 : waitsOk laws_FnHandovers.T16.2 laws_FnHandovers.B16 = true := by kernel_rfl
def laws_FnHandovers.T21 : Bool × List (List Nat × List Nat) := (true, [([], []), ([], []), ([0, 1], [0, 1]), ([2], [2]), ([3], [3]), ([], []), ([], []), ([5, 6], [5, 6]), ([7], [7]), ([8], [8]), ([4, 9], [4, 9]), ([10, 10], [10]), ([11], [11]), ([12, 11], [11, 12]), ([13, 11, 11], [11, 13]), ([14], [14]), ([14], [14]), ([16, 14], [14, 16]), ([15, 17, 14], [14, 15, 17]), ([18, 14], [14, 18]), ([19, 14], [14, 19]), ([14], [14]), ([14], [14]), ([21, 22, 14], [14, 21, 22]), ([23, 14], [14, 23]), ([24, 14], [14, 24]), ([20, 25, 14], [14, 20, 25]), ([26, 14, 14], [14, 26]), ([27], [27]), ([27], [27]), ([29, 27], [27, 29]), ([28, 30, 27], [27, 28, 30]), ([31, 27], [27, 31]), ([32, 27], [27, 32]), ([27], [27]), ([27], [27]), ([34, 35, 27], [27, 34, 35]), ([36, 27], [27, 36]), ([37, 27], [27, 37]), ([33, 38, 27, 27], [27, 33, 38]), ([39, 27], [27, 39]), ([27, 40, 14], [14, 27, 40]), ([14, 41, 11], [11, 14, 41]), ([11, 42], [11, 42])])
def laws_FnHandovers.B21 : List Nat := [0, 0, 3, 7, 15, 0, 0, 96, 224, 480, 1023, 2047, 4095, 8191, 16383, 32767, 32767, 98303, 262143, 524287, 1048575, 32767, 32767, 6324223, 14712831, 31490047, 67108863, 134217727, 268435455, 268435455, 805306367, 2147483647, 4294967295, 8589934591, 268435455, 268435455, 51808043007, 120527519743, 257966473215, 549755813887, 1099511627775, 2199023255551, 4398046511103, 8796093022207]
theorem laws_FnHandovers.tab21 : rtab .any (opsOf Try.f7 21) = laws_FnHandovers.T21 := by kernel_rfl
theorem laws_FnHandovers.bits21 : waitsOk laws_FnHandovers.T21.2 laws_FnHandovers.B21 = true := by kernel_rfl
set_option maxHeartbeats 8000000 in
set_option maxRecDepth 100000 in
theorem laws_FnHandovers.calls (k : Nat) (A0 : Option Addr) (c0 : Nat) (l0 : List Int) (r : Bool) (w : World) (hr0 : Kd.C (Kd.int .u8) w A0 l0.length l0) (hc0 : l0.length ≤ c0) (hr_ : r = true) (h : laws_FnHandovers.f k l0 = some r) :
  Calls Try.prog 7 #[.slice A0 l0.length c0] w fun e w' => e = .returned (.bool r) ∧ Below w.heap.size w w' := by
 have hu30 := Try.underlying30; have hu87 := Try.underlying87; have HR0 := aM_ hr0; have HC0 := aM_ hc0; clear hr0 hc0; have HB := aM_ (Below.refl w.heap.size w)
 have H : ((laws_big.f l0).bind fun t422 => (if t422 = true then (some true) else ((spec_DrawHandoversOf.f k l0).bind fun bt423 => ((impl_HandoversOf.f k bt423.1 bt423.2.1 bt423.2.2.1 bt423.2.2.2.1 bt423.2.2.2.2).bind fun t431 => ((impl_GapsOf.f k bt423.1 bt423.2.1 bt423.2.2.1 bt423.2.2.2.1 bt423.2.2.2.2).bind fun t434 => (laws_FnHandovers.l0 k bt423.2.2.2.2 t431 t434 0 bt423.1 bt423.2.1 bt423.2.2.1 bt423.2.2.2.1)))))) = some r := h
 clear h; have HTRUE := aM_ hr_; clear hr_
 replace H := Option.bind_eq_some_iff.mp H
 obtain ⟨t422, A20, H⟩ := H
 (try dsimp only at H)
 have A2 := aM_ A20; clear A20
 by_cases c3 : t422 = true
 ·subst c3
  have H1 : (some true) = some r := by rw [if_pos rfl] at H; exact H
  clear H; have H := H1; clear H1
  obtain rfl := Option.some.inj H
  go_enter Try.func7, Try.ntmps7
  go_wp2_with (first | ((with_reducible refine gate_callee (f := 33) rfl ?_); refine goesL_ (some 13) rfl rfl Try.func33 (by kernel_rfl) rfl #[.slice A0 l0.length c0] rfl (by (try simp only [List.map_toArray, List.map_cons, List.map_nil]); first | done | rfl | (simp only [List.length_drop, List.length_take]; rfl)) ?_; (with_reducible refine (laws_big.calls _ _ l0 true _ ?side1 ?side2 A2.out).mono ?_); (case side1 => repeat (first | exact HR0.out | (with_reducible refine cA_ ?_ _) | (with_reducible refine cN_ ?_ _) | (with_reducible refine cD_ ?_))); (case side2 => exact HC0.out); rintro e w' ⟨rfl, ⟨nd, rfl⟩⟩; refine ⟨_, rfl, ?_⟩))
  go_ret
  exact ⟨by first | rfl | (simp [errW_none, errW_some] <;> rfl) | (simp [*, errW_none, errW_some] <;> rfl), bw_⟩
 ·replace c3 := Bool.eq_false_iff.mpr c3
  subst c3
  have H1 : ((spec_DrawHandoversOf.f k l0).bind fun bt423 => ((impl_HandoversOf.f k bt423.1 bt423.2.1 bt423.2.2.1 bt423.2.2.2.1 bt423.2.2.2.2).bind fun t431 => ((impl_GapsOf.f k bt423.1 bt423.2.1 bt423.2.2.1 bt423.2.2.2.1 bt423.2.2.2.2).bind fun t434 => (laws_FnHandovers.l0 k bt423.2.2.2.2 t431 t434 0 bt423.1 bt423.2.1 bt423.2.2.1 bt423.2.2.2.1)))) = some r := by rw [if_neg (show ¬ (false = true) by decide)] at H; exact H
  clear H; have H := H1; clear H1
  replace H := Option.bind_eq_some_iff.mp H
  obtain ⟨⟨t423, t424, t425, t426, t429⟩, A40, H⟩ := H
  (try dsimp only at H)
  have A4 := aM_ A40; clear A40
  replace H := Option.bind_eq_some_iff.mp H
  obtain ⟨t431, A50, H⟩ := H
  (try dsimp only at H)
  have A5 := aM_ A50; clear A50
  replace H := Option.bind_eq_some_iff.mp H
  obtain ⟨t434, A60, H⟩ := H
  (try dsimp only at H)
  have A6 := aM_ A60; clear A60
  have H' := aM_ H
  clear H
  go_enter Try.func7, Try.ntmps7
  go_wp2_with (first | ((with_reducible refine gate_callee (f := 33) rfl ?_); refine goesL_ (some 13) rfl rfl Try.func33 (by kernel_rfl) rfl #[.slice A0 l0.length c0] rfl (by (try simp only [List.map_toArray, List.map_cons, List.map_nil]); first | done | rfl | (simp only [List.length_drop, List.length_take]; rfl)) ?_; (with_reducible refine (laws_big.calls _ _ l0 false _ ?side1 ?side2 A2.out).mono ?_); (case side1 => repeat (first | exact HR0.out | (with_reducible refine cA_ ?_ _) | (with_reducible refine cN_ ?_ _) | (with_reducible refine cD_ ?_))); (case side2 => exact HC0.out); rintro e w' ⟨rfl, ⟨nd, rfl⟩⟩; refine ⟨_, rfl, ?_⟩) | ((with_reducible refine gate_callee (f := 34) rfl ?_); refine goesL_ (some 16) rfl rfl Try.func34 (by kernel_rfl) rfl #[.slice A0 l0.length c0] rfl (by (try simp only [List.map_toArray, List.map_cons, List.map_nil]); first | done | rfl | (simp only [List.length_drop, List.length_take]; rfl)) ?_; (with_reducible refine (spec_DrawHandoversOf.calls k _ _ l0 t423 t424 t425 t426 t429 _ ?side1 ?side2 A4.out).mono ?_); (case side1 => repeat (first | exact HR0.out | (with_reducible refine cA_ ?_ _) | (with_reducible refine cN_ ?_ _) | (with_reducible refine cD_ ?_))); (case side2 => exact HC0.out); rintro e w7 ⟨v427, rfl, ho0, hb⟩; refine ⟨_, rfl, ?_⟩; have n0_ := aM_ (Kd.R_lower ho0 (sZ_ (bw_))); have n1_ := aM_ (wS_ (bw_) hb); clear HB; have HO428 := n0_; have HB := n1_; clear n0_ n1_; (try clear hb); (try clear hb2); (try clear hk); (try clear hi); (try clear ho0)) | ((with_reducible refine gate_dst (N := 3) rfl ?_); (try (refine gate_guard (by rfl) ?_; dsimp only)); refine box_event ?hg (N := 3) ?hd (cs := #[.int .i64 0, .int .i64 0, .int .i64 0, .slice none 0 0]) (t := 30) ?hr ?_; (case hd => rfl); (case hg => rfl); (case hr => first | (go_simp; done) | (go_simp; rfl)); intro gb430 hg w8 hbox hb; have n0_ := aM_ (rB_ (rb_ HO428.out) hb); have n1_ := aM_ (wS_ (bw_) hb); have n2_ := aM_ (hbox); have n3_ := aM_ ((by rw [hg]; exact (sZ_ (bw_)) : w.heap.size ≤ gb430)); have n4_ := aM_ ((by rw [hg]; exact (sZ_ (bw_)) : w.heap.size ≤ gb430)); clear HO428 HB; have HO428 := n0_; have HB := n1_; have BK430 := n2_; have GW430 := n3_; have GE430 := n4_; clear n0_ n1_ n2_ n3_ n4_ hb hbox hg; obtain ⟨hcz9_0, hcz9_1, hcz9_2, hcz9_3, hfz9_0, hfz9_1, hfz9_2, hfz9_3⟩ := bk4_ BK430.out; obtain ⟨Ao10, co10, eo10⟩ := Kd.R_slice HO428.out; subst eo10) | ((with_reducible refine gate_callee (f := 35) rfl ?_); refine goesL_ (some 21) rfl rfl Try.func35 (by kernel_rfl) rfl #[.agg #[.int .i64 t423, .int .i64 t424, .int .i64 t425, .slice Ao10 t426.length co10], .int .i64 t429] rfl (by (try simp only [List.map_toArray, List.map_cons, List.map_nil]); first | done | rfl | (simp only [List.length_drop, List.length_take]; rfl)) ?_; (with_reducible refine (impl_HandoversOf.calls k t423 t424 t425 _ _ t426 t429 t431 _ ?side1 ?side2 A5.out).mono ?_); (case side1 => refine (Kd.R_reads' (e := 112) (base := w.heap.size) (ok := fun k_ => True) (n := t426.length) (c := co10) ?_).2.2; exact (by (with_reducible repeat (first | apply rA_ | apply rN_ | apply rD_)); exact (Kd.R_mono (Kd.R_far (p := ⟨gb430, 3, none⟩) (Kd.R_far (p := ⟨gb430, 2, none⟩) (Kd.R_far (p := ⟨gb430, 1, none⟩) (Kd.R_far (p := ⟨gb430, 0, none⟩) (Kd.R_types HO428.out BK430.out (by decide)) (fun _ hk => hk.2) (.int .i64 t423)) (fun _ hk => hk.2) (.int .i64 t424)) (fun _ hk => hk.2) (.int .i64 t425)) (fun _ hk => hk.2) (.slice Ao10 t426.length co10)) (fun _ h_ => h_.1)))); (case side2 => exact (Kd.R_reads' HO428.out).2.1); rintro e w11 ⟨v432, rfl, ho0, hb⟩; refine ⟨_, rfl, ?_⟩; have n0_ := aM_ (rB_ (by (with_reducible repeat (first | apply rA_ | apply rN_ | apply rD_)); exact (Kd.R_mono (Kd.R_far (p := ⟨gb430, 3, none⟩) (Kd.R_far (p := ⟨gb430, 2, none⟩) (Kd.R_far (p := ⟨gb430, 1, none⟩) (Kd.R_far (p := ⟨gb430, 0, none⟩) (Kd.R_types HO428.out BK430.out (by decide)) (fun _ hk => hk.2) (.int .i64 t423)) (fun _ hk => hk.2) (.int .i64 t424)) (fun _ hk => hk.2) (.int .i64 t425)) (fun _ hk => hk.2) (.slice Ao10 t426.length co10)) (fun _ h_ => h_.1))) hb); have n1_ := aM_ (Kd.S_lower ho0 (sZ_ (bw_))); have n2_ := aM_ (bB_ (g := gb430) (o := .cells #[.int .i64 t423, .int .i64 t424, .int .i64 t425, .slice Ao10 t426.length co10] 30 (0, 0)) (by (with_reducible repeat (first | refine bN_ ?_ _ | refine bD_ ?_ | refine bA_ ?_ _)); refine blk_put (cs := #[.int .i64 t423, .int .i64 t424, .int .i64 t425, .slice none 0 0]) ?_ 3 _ rfl; (with_reducible repeat (first | refine bN_ ?_ _ | refine bD_ ?_ | refine bA_ ?_ _)); refine blk_put (cs := #[.int .i64 t423, .int .i64 t424, .int .i64 0, .slice none 0 0]) ?_ 2 _ rfl; (with_reducible repeat (first | refine bN_ ?_ _ | refine bD_ ?_ | refine bA_ ?_ _)); refine blk_put (cs := #[.int .i64 t423, .int .i64 0, .int .i64 0, .slice none 0 0]) ?_ 1 _ rfl; (with_reducible repeat (first | refine bN_ ?_ _ | refine bD_ ?_ | refine bA_ ?_ _)); refine blk_put (cs := #[.int .i64 0, .int .i64 0, .int .i64 0, .slice none 0 0]) ?_ 0 _ rfl; (with_reducible repeat (first | refine bN_ ?_ _ | refine bD_ ?_ | refine bA_ ?_ _)); exact BK430.out) hb); have n3_ := aM_ (wS_ (bw_) hb); clear HO428 BK430 HB; have HO428 := n0_; have HO433 := n1_; have BK430 := n2_; have HB := n3_; clear n0_ n1_ n2_ n3_; (try clear hb); (try clear hb2); (try clear hk); (try clear hi); (try clear ho0); obtain ⟨hcz12_0, hcz12_1, hcz12_2, hcz12_3, hfz12_0, hfz12_1, hfz12_2, hfz12_3⟩ := bk4_ BK430.out) | ((with_reducible refine gate_callee (f := 15) rfl ?_); refine goesL_ (some 24) rfl rfl Try.func15 (by kernel_rfl) rfl #[.agg #[.int .i64 t423, .int .i64 t424, .int .i64 t425, .slice Ao10 t426.length co10], .int .i64 t429] rfl (by (try simp only [List.map_toArray, List.map_cons, List.map_nil]); first | done | rfl | (simp only [List.length_drop, List.length_take]; rfl)) ?_; (with_reducible refine (impl_GapsOf.calls k t423 t424 t425 _ _ t426 t429 t434 _ ?side1 ?side2 A6.out).mono ?_); (case side1 => repeat (first | exact (Kd.R_reads' HO428.out).2.2 | (with_reducible refine cA_ ?_ _) | (with_reducible refine cN_ ?_ _) | (with_reducible refine cD_ ?_))); (case side2 => exact (Kd.R_reads' HO428.out).2.1); rintro e w13 ⟨v435, rfl, ho0, hb⟩; refine ⟨_, rfl, ?_⟩; have n0_ := aM_ (rB_ (rb_ HO428.out) hb); have n1_ := aM_ (Kd.S_below (by (with_reducible repeat (first | apply Kd.S_alloc | apply Kd.S_drewN | apply Kd.S_drew)); exact HO433.out) hb); have n2_ := aM_ (Kd.R_lower ho0 (sZ_ (bw_))); have n3_ := aM_ (bB_ (kb_ BK430.out) hb); have n4_ := aM_ (wS_ (bw_) hb); clear HO428 HO433 BK430 HB; have HO428 := n0_; have HO433 := n1_; have HO436 := n2_; have BK430 := n3_; have HB := n4_; clear n0_ n1_ n2_ n3_ n4_; (try clear hb); (try clear hb2); (try clear hk); (try clear hi); (try clear ho0)))
  go_loopg [7] k (fun kq v7 w' => ∃ (x7_1 : Int), v7 = .int .i64 x7_1 ∧ Aside0 (laws_FnHandovers.l0 kq t429 t431 t434 x7_1 t423 t424 t425 t426 = some r) ∧ Aside0 (kq ≤ k) ∧ Aside0 (Kd.S k87 87 w' w.heap.size (fun _ => True) v432 t431) ∧ Aside0 (Kd.R k109 109 w' w.heap.size (fun _ => True) v435 t434) ∧ Aside0 (Kd.R k112 112 w' w.heap.size (fun _ => True) (.slice Ao10 t426.length co10) t426) ∧ Aside0 (w'.heap[gb430]? = some (.cells #[.int .i64 t423, .int .i64 t424, .int .i64 t425, (.slice Ao10 t426.length co10)] 30 (0, 0))) ∧ Aside0 (Below w.heap.size w w'))
  case atStart => exact ⟨(0), (by first | rfl | (simp; done) | (simp [*]; done)), H', ⟨Nat.le_refl _⟩, ⟨by (with_reducible repeat (first | apply Kd.S_alloc | apply Kd.S_drewN | apply Kd.S_drew)); exact HO433.out⟩, ⟨by (with_reducible repeat (first | apply rA_ | apply rN_ | apply rD_)); exact HO436.out⟩, ⟨by (with_reducible repeat (first | apply rA_ | apply rN_ | apply rD_)); exact HO428.out⟩, ⟨by (with_reducible repeat (first | refine bN_ ?_ _ | refine bD_ ?_ | refine bA_ ?_ _)); exact BK430.out⟩, ⟨bw_⟩⟩
  case round =>
   clear H'
   try clear hcz12_0
   try clear hcz12_1
   try clear hcz12_2
   try clear hcz12_3
   try clear hcz9_0
   try clear hcz9_1
   try clear hcz9_2
   try clear hcz9_3
   try clear hfz12_0
   try clear hfz12_1
   try clear hfz12_2
   try clear hfz12_3
   try clear hfz9_0
   try clear hfz9_1
   try clear hfz9_2
   try clear hfz9_3
   obtain ⟨x7_1, rfl, HA, HK1, HO_5, HO_6, HO_431003, BK430, HB⟩ := hrel
   cases gk with
   | zero => exact absurd HA.out (by simp [laws_FnHandovers.l0])
   | succ k1 =>
    have H := HA.out; clear HA
    simp only [laws_FnHandovers.l0] at H
    by_cases c14 : x7_1 < 24
    ·rw [if_pos c14] at H
     have c14b0 : decide (x7_1 < 24) = true := decide_eq_true c14
     clear c14
     replace H := Option.bind_eq_some_iff.mp H
     obtain ⟨t437, A150, H⟩ := H
     (try dsimp only at H)
     have A15 := aM_ A150; clear A150
     replace H := Option.bind_eq_some_iff.mp H
     obtain ⟨t438, A160, H⟩ := H
     (try dsimp only at H)
     have A16 := aM_ A160; clear A160; have HC17 := aM_ H; clear H
     have hcz18_0 : wr.cell? ⟨gb430, 0, none⟩ = some (.int .i64 t423) := (blk_cell BK430.out 0).trans rfl
     have hcz18_1 : wr.cell? ⟨gb430, 1, none⟩ = some (.int .i64 t424) := (blk_cell BK430.out 1).trans rfl
     have hcz18_2 : wr.cell? ⟨gb430, 2, none⟩ = some (.int .i64 t425) := (blk_cell BK430.out 2).trans rfl
     have hcz18_3 : wr.cell? ⟨gb430, 3, none⟩ = some (.slice Ao10 t426.length co10) := (blk_cell BK430.out 3).trans rfl
     have hfz18_0 := blk_frozen BK430.out 0; have hfz18_1 := blk_frozen BK430.out 1; have hfz18_2 := blk_frozen BK430.out 2; have hfz18_3 := blk_frozen BK430.out 3
     go_upto_region 11 with (first | ((with_reducible refine gate_callee (f := 36) rfl ?_); refine goesL_ (some 31) rfl rfl Try.func36 (by kernel_rfl) rfl #[.agg #[.int .i64 t423, .int .i64 t424, .int .i64 t425, .slice Ao10 t426.length co10], .int .i64 x7_1] rfl (by (try simp only [List.map_toArray, List.map_cons, List.map_nil]); first | done | rfl | (simp only [List.length_drop, List.length_take]; rfl)) ?_; (with_reducible refine (impl_PieceAt.calls t423 t424 t425 _ _ t426 x7_1 t437 _ ?side1 ?side2 A15.out).mono ?_); (case side1 => repeat (first | exact (Kd.R_reads' HO_431003.out).2.2 | (with_reducible refine cA_ ?_ _) | (with_reducible refine cN_ ?_ _) | (with_reducible refine cD_ ?_))); (case side2 => exact (Kd.R_reads' HO_431003.out).2.1); rintro e w19 ⟨rfl, hb⟩; refine ⟨_, rfl, ?_⟩; have n0_ := aM_ (Kd.S_below (by (with_reducible repeat (first | apply Kd.S_alloc | apply Kd.S_drewN | apply Kd.S_drew)); exact HO_5.out) hb); have n1_ := aM_ (rB_ (rb_ HO_6.out) hb); have n2_ := aM_ (rB_ (rb_ HO_431003.out) hb); have n3_ := aM_ (bB_ (kb_ BK430.out) hb); have n4_ := aM_ (wS_ (bw_) hb); clear HO_5 HO_6 HO_431003 BK430 HB; have HO_5 := n0_; have HO_6 := n1_; have HO_431003 := n2_; have BK430 := n3_; have HB := n4_; clear n0_ n1_ n2_ n3_ n4_; (try clear hb); (try clear hb2); (try clear hk); (try clear hi); obtain ⟨hcz20_0, hcz20_1, hcz20_2, hcz20_3, hfz20_0, hfz20_1, hfz20_2, hfz20_3⟩ := bk4_ BK430.out) | ((with_reducible refine gate_callee (f := 29) rfl ?_); refine goesL_ (some 35) rfl rfl Try.func29 (by kernel_rfl) rfl #[.agg #[.int .i64 t423, .int .i64 t424, .int .i64 t425, .slice Ao10 t426.length co10], .int .i64 t437, .int .i64 t429] rfl (by (try simp only [List.map_toArray, List.map_cons, List.map_nil]); first | done | rfl | (simp only [List.length_drop, List.length_take]; rfl)) ?_; (with_reducible refine (impl_ServersIn.calls k1 t423 t424 t425 _ _ t426 t437 t429 t438 _ ?side1 ?side2 A16.out).mono ?_); (case side1 => repeat (first | exact (Kd.R_reads' HO_431003.out).2.2 | (with_reducible refine cA_ ?_ _) | (with_reducible refine cN_ ?_ _) | (with_reducible refine cD_ ?_))); (case side2 => exact (Kd.R_reads' HO_431003.out).2.1); rintro e w21 ⟨v439, rfl, ho0, hb⟩; refine ⟨_, rfl, ?_⟩; have n0_ := aM_ (Kd.S_elder' (by (with_reducible repeat (first | apply Kd.S_alloc | apply Kd.S_drewN | apply Kd.S_drew)); exact HO_5.out) (Kd.R_base ho0) hb); have n1_ := aM_ (rB_ (rb_ HO_6.out) hb); have n2_ := aM_ (Kd.R_elder' (rb_ HO_431003.out) (Kd.R_base ho0) hb); have n3_ := aM_ (Kd.R_lower ho0 (sZ_ (bw_))); have n4_ := aM_ (bB_ (kb_ BK430.out) hb); have n5_ := aM_ (wS_ (bw_) hb); clear HO_5 HO_6 HO_431003 BK430 HB; have HO_5 := n0_; have HO_6 := n1_; have HO_431003 := n2_; have HO440 := n3_; have BK430 := n4_; have HB := n5_; clear n0_ n1_ n2_ n3_ n4_ n5_; (try clear hb); (try clear hb2); (try clear hk); (try clear hi); (try clear ho0)))
     (try simp only [Act.put, List.setIfInBounds_toArray, List.set_cons_zero, List.set_cons_succ])
     go_cut [46] (fun v46 wc => ∃ (kq : Nat) (x46_16 : Bool), v46 = .bool x46_16 ∧ Aside0 (laws_FnHandovers.j1 kq t429 t431 t434 x7_1 t438 x46_16 t423 t424 t425 t426 = some r) ∧ Aside0 (kq ≤ k1) ∧ Aside0 (Kd.S k87 87 wc w.heap.size (fun k_ => some k_ ≠ (v439 : Value).ownBlock) v432 t431) ∧ Aside0 (Kd.R k109 109 wc w.heap.size (fun _ => True) v435 t434) ∧ Aside0 (Kd.R (Kd.int .i64) 3 wc w.heap.size (fun _ => True) v439 t438) ∧ Aside0 (Kd.R k112 112 wc w.heap.size (fun k_ => some k_ ≠ (v439 : Value).ownBlock) (.slice Ao10 t426.length co10) t426) ∧ Aside0 (wc.heap[gb430]? = some (.cells #[.int .i64 t423, .int .i64 t424, .int .i64 t425, (.slice Ao10 t426.length co10)] 30 (0, 0))) ∧ Aside0 (Below w.heap.size w wc))
     case first =>
      have H := HC17.out; clear HC17
      replace H := Option.bind_eq_some_iff.mp H
      obtain ⟨t441, A220, H⟩ := H
      (try dsimp only at H)
      have A22 := aM_ A220; clear A220
      by_cases c23 : t437 ≥ 0
      ·rw [if_pos c23] at H
       have c23b0 : decide (0 ≤ t437) = true := decide_eq_true c23
       clear c23
       (first | rw [c23b0] | (simp only [i64_w, i32_w]; rw [c23b0]) | skip)
       have H' := aM_ H
       clear H
       obtain ⟨Ao24, co24, eo24⟩ := Kd.R_slice HO_6.out
       subst eo24
       go_wp2_with (first | ((with_reducible refine gate_callee (f := 37) rfl ?_); refine goesL_ (some 38) rfl rfl Try.func37 (by kernel_rfl) rfl #[.slice Ao24 t434.length co24, .int .i64 x7_1] rfl (by (try simp only [List.map_toArray, List.map_cons, List.map_nil]); first | done | rfl | (simp only [List.length_drop, List.length_take]; rfl)) ?_; (with_reducible refine (impl_InSpans.calls k1 _ _ t434 x7_1 t441 _ ?side1 ?side2 A22.out).mono ?_); (case side1 => repeat (first | exact (Kd.R_reads' HO_6.out).2.2 | (with_reducible refine cA_ ?_ _) | (with_reducible refine cN_ ?_ _) | (with_reducible refine cD_ ?_))); (case side2 => exact (Kd.R_reads' HO_6.out).2.1); rintro e w25 ⟨rfl, hb⟩; refine ⟨_, rfl, ?_⟩; have n0_ := aM_ (Kd.S_below (by (with_reducible repeat (first | apply Kd.S_alloc | apply Kd.S_drewN | apply Kd.S_drew)); exact HO_5.out) hb); have n1_ := aM_ (rB_ (rb_ HO_6.out) hb); have n2_ := aM_ (rB_ (rb_ HO_431003.out) hb); have n3_ := aM_ (rB_ (rb_ HO440.out) hb); have n4_ := aM_ (bB_ (kb_ BK430.out) hb); have n5_ := aM_ (wS_ (bw_) hb); clear HO_5 HO_6 HO_431003 HO440 BK430 HB; have HO_5 := n0_; have HO_6 := n1_; have HO_431003 := n2_; have HO440 := n3_; have BK430 := n4_; have HB := n5_; clear n0_ n1_ n2_ n3_ n4_ n5_; (try clear hb); (try clear hb2); (try clear hk); (try clear hi); obtain ⟨Ao26, co26, eo26⟩ := Kd.R_slice HO440.out; subst eo26))
       go_meet
       case rel => exact ⟨_, ((t441 != ((t438.length : Int) == 0))), (by first | rfl | (simp; done) | (simp [*]; done)), H', ⟨by have := HK1.out; first | omega | exact Nat.le_refl _⟩, ⟨by (with_reducible repeat (first | apply Kd.S_alloc | apply Kd.S_drewN | apply Kd.S_drew)); exact Kd.S_mono HO_5.out (fun _ hk => hk.2)⟩, ⟨by (with_reducible repeat (first | apply rA_ | apply rN_ | apply rD_)); exact HO_6.out⟩, ⟨by (with_reducible repeat (first | apply rA_ | apply rN_ | apply rD_)); exact HO440.out⟩, ⟨by (with_reducible repeat (first | apply rA_ | apply rN_ | apply rD_)); exact Kd.R_mono HO_431003.out (fun _ hk => hk.2)⟩, ⟨by (with_reducible repeat (first | refine bN_ ?_ _ | refine bD_ ?_ | refine bA_ ?_ _)); exact BK430.out⟩, ⟨bw_⟩⟩
      ·rw [if_neg c23] at H
       have c23b0 : decide (0 ≤ t437) = false := decide_eq_false c23
       clear c23
       (first | rw [c23b0] | (simp only [i64_w, i32_w]; rw [c23b0]) | skip)
       have H' := aM_ H
       clear H
       obtain ⟨Ao27, co27, eo27⟩ := Kd.R_slice HO_6.out
       subst eo27
       go_wp2_with (first | ((with_reducible refine gate_callee (f := 37) rfl ?_); refine goesL_ (some 38) rfl rfl Try.func37 (by kernel_rfl) rfl #[.slice Ao27 t434.length co27, .int .i64 x7_1] rfl (by (try simp only [List.map_toArray, List.map_cons, List.map_nil]); first | done | rfl | (simp only [List.length_drop, List.length_take]; rfl)) ?_; (with_reducible refine (impl_InSpans.calls k1 _ _ t434 x7_1 t441 _ ?side1 ?side2 A22.out).mono ?_); (case side1 => repeat (first | exact (Kd.R_reads' HO_6.out).2.2 | (with_reducible refine cA_ ?_ _) | (with_reducible refine cN_ ?_ _) | (with_reducible refine cD_ ?_))); (case side2 => exact (Kd.R_reads' HO_6.out).2.1); rintro e w28 ⟨rfl, hb⟩; refine ⟨_, rfl, ?_⟩; have n0_ := aM_ (Kd.S_below (by (with_reducible repeat (first | apply Kd.S_alloc | apply Kd.S_drewN | apply Kd.S_drew)); exact HO_5.out) hb); have n1_ := aM_ (rB_ (rb_ HO_6.out) hb); have n2_ := aM_ (rB_ (rb_ HO_431003.out) hb); have n3_ := aM_ (rB_ (rb_ HO440.out) hb); have n4_ := aM_ (bB_ (kb_ BK430.out) hb); have n5_ := aM_ (wS_ (bw_) hb); clear HO_5 HO_6 HO_431003 HO440 BK430 HB; have HO_5 := n0_; have HO_6 := n1_; have HO_431003 := n2_; have HO440 := n3_; have BK430 := n4_; have HB := n5_; clear n0_ n1_ n2_ n3_ n4_ n5_; (try clear hb); (try clear hb2); (try clear hk); (try clear hi)))
       go_meet
       case rel => exact ⟨_, ((t441 != false)), (by first | rfl | (simp; done) | (simp [*]; done)), H', ⟨by have := HK1.out; first | omega | exact Nat.le_refl _⟩, ⟨by (with_reducible repeat (first | apply Kd.S_alloc | apply Kd.S_drewN | apply Kd.S_drew)); exact Kd.S_mono HO_5.out (fun _ hk => hk.2)⟩, ⟨by (with_reducible repeat (first | apply rA_ | apply rN_ | apply rD_)); exact HO_6.out⟩, ⟨by (with_reducible repeat (first | apply rA_ | apply rN_ | apply rD_)); exact HO440.out⟩, ⟨by (with_reducible repeat (first | apply rA_ | apply rN_ | apply rD_)); exact Kd.R_mono HO_431003.out (fun _ hk => hk.2)⟩, ⟨by (with_reducible repeat (first | refine bN_ ?_ _ | refine bD_ ?_ | refine bA_ ?_ _)); exact BK430.out⟩, ⟨bw_⟩⟩
     case rest =>
      clear HC17
      try clear c14b0
      try clear c23b0
      try clear hcz12_0
      try clear hcz12_1
      try clear hcz12_2
      try clear hcz12_3
      try clear hcz18_0
      try clear hcz18_1
      try clear hcz18_2
      try clear hcz18_3
      try clear hcz20_0
      try clear hcz20_1
      try clear hcz20_2
      try clear hcz20_3
      try clear hcz9_0
      try clear hcz9_1
      try clear hcz9_2
      try clear hcz9_3
      try clear hfz12_0
      try clear hfz12_1
      try clear hfz12_2
      try clear hfz12_3
      try clear hfz18_0
      try clear hfz18_1
      try clear hfz18_2
      try clear hfz18_3
      try clear hfz20_0
      try clear hfz20_1
      try clear hfz20_2
      try clear hfz20_3
      try clear hfz9_0
      try clear hfz9_1
      try clear hfz9_2
      try clear hfz9_3
      obtain ⟨kq, x46_16, rfl, HA, HJ16, HO_5, HO_6, HO_9, HO_431003, BK430, HB⟩ := hcut
      cases kq with
      | zero => exact absurd HA.out (by simp [laws_FnHandovers.j1])
      | succ kj16 =>
       have H := HA.out; clear HA
       simp only [laws_FnHandovers.j1] at H
       by_cases c29 : x46_16 = true
       ·subst c29
        have H1 : (some false) = some r := by rw [if_pos rfl] at H; exact H
        clear H; have H := H1; clear H1
        exact absurd ((Option.some.inj H).trans HTRUE.out) (by decide)
       ·replace c29 := Bool.eq_false_iff.mpr c29
        subst c29
        have H1 : (laws_FnHandovers.l1 kj16 t429 t431 t434 x7_1 t438 0 t423 t424 t425 t426) = some r := by rw [if_neg (show ¬ (false = true) by decide)] at H; exact H
        clear H; have H := H1; clear H1
        have H' := aM_ H
        clear H
        go_wp2
        go_loopg [10] kj16 (fun kq v10 w' => ∃ (x10_3 : Int), v10 = .int .i64 x10_3 ∧ Aside0 (laws_FnHandovers.l1 kq t429 t431 t434 x7_1 t438 x10_3 t423 t424 t425 t426 = some r) ∧ Aside0 (kq ≤ kj16) ∧ Aside0 (Kd.S k87 87 w' w.heap.size (fun k_ => some k_ ≠ (v439 : Value).ownBlock) v432 t431) ∧ Aside0 (Kd.R k109 109 w' w.heap.size (fun _ => True) v435 t434) ∧ Aside0 (Kd.R (Kd.int .i64) 3 w' w.heap.size (fun _ => True) v439 t438) ∧ Aside0 (Kd.R k112 112 w' w.heap.size (fun k_ => some k_ ≠ (v439 : Value).ownBlock) (.slice Ao10 t426.length co10) t426) ∧ Aside0 (w'.heap[gb430]? = some (.cells #[.int .i64 t423, .int .i64 t424, .int .i64 t425, (.slice Ao10 t426.length co10)] 30 (0, 0))) ∧ Aside0 (Below w.heap.size w w'))
        case atStart => exact ⟨(0), (by first | rfl | (simp; done) | (simp [*]; done)), H', ⟨Nat.le_refl _⟩, ⟨by (with_reducible repeat (first | apply Kd.S_alloc | apply Kd.S_drewN | apply Kd.S_drew)); exact HO_5.out⟩, ⟨by (with_reducible repeat (first | apply rA_ | apply rN_ | apply rD_)); exact HO_6.out⟩, ⟨by (with_reducible repeat (first | apply rA_ | apply rN_ | apply rD_)); exact HO_9.out⟩, ⟨by (with_reducible repeat (first | apply rA_ | apply rN_ | apply rD_)); exact HO_431003.out⟩, ⟨by (with_reducible repeat (first | refine bN_ ?_ _ | refine bD_ ?_ | refine bA_ ?_ _)); exact BK430.out⟩, ⟨bw_⟩⟩
        case round =>
         clear H'
         try clear c14b0
         try clear c23b0
         try clear hcz12_0
         try clear hcz12_1
         try clear hcz12_2
         try clear hcz12_3
         try clear hcz18_0
         try clear hcz18_1
         try clear hcz18_2
         try clear hcz18_3
         try clear hcz20_0
         try clear hcz20_1
         try clear hcz20_2
         try clear hcz20_3
         try clear hcz9_0
         try clear hcz9_1
         try clear hcz9_2
         try clear hcz9_3
         try clear hfz12_0
         try clear hfz12_1
         try clear hfz12_2
         try clear hfz12_3
         try clear hfz18_0
         try clear hfz18_1
         try clear hfz18_2
         try clear hfz18_3
         try clear hfz20_0
         try clear hfz20_1
         try clear hfz20_2
         try clear hfz20_3
         try clear hfz9_0
         try clear hfz9_1
         try clear hfz9_2
         try clear hfz9_3
         obtain ⟨x10_3, rfl, HA, HK3, HO_5, HO_6, HO_9, HO_431003, BK430, HB⟩ := hrel
         cases gk with
         | zero => exact absurd HA.out (by simp [laws_FnHandovers.l1])
         | succ k3 =>
          have H := HA.out; clear HA
          simp only [laws_FnHandovers.l1] at H
          by_cases c30 : x10_3 < (t438.length : Int)
          ·rw [if_pos c30] at H
           have c30b0 : decide (x10_3 < (t438.length : Int)) = true := decide_eq_true c30
           clear c30
           by_cases c31 : 0 ≤ x10_3
           ·rw [if_pos c31] at H
            have c31b0 : decide (0 ≤ x10_3) = true := decide_eq_true c31
            clear c31
            replace H := Option.bind_eq_some_iff.mp H
            obtain ⟨t443, A320, H⟩ := H
            (try dsimp only at H)
            have A32 := aM_ A320; clear A320
            replace H := Option.bind_eq_some_iff.mp H
            obtain ⟨t446, A330, H⟩ := H
            (try dsimp only at H)
            have A33 := aM_ A330; clear A330
            by_cases c34 : t446 = true
            ·subst c34
             have H1 : (laws_FnHandovers.l1 k3 t429 t431 t434 x7_1 t438 (wrap64 (x10_3 + 1)) t423 t424 t425 t426) = some r := by rw [if_pos rfl] at H; exact H
             clear H; have H := H1; clear H1
             have H' := aM_ H
             clear H
             obtain ⟨Ao35, co35, eo35⟩ := Kd.R_slice HO_9.out
             subst eo35
             try go_wp2
             have n0_ := aM_ (Kd.S_drew HO_5.out); have n1_ := aM_ (rD_ HO_6.out); have n2_ := aM_ (rD_ HO_9.out); have n3_ := aM_ (rD_ HO_431003.out); have n4_ := aM_ (bD_ BK430.out); have n5_ := aM_ (wD_ HB.out); clear HO_5 HO_6 HO_9 HO_431003 BK430 HB; have HO_5 := n0_; have HO_6 := n1_; have HO_9 := n2_; have HO_431003 := n3_; have BK430 := n4_; have HB := n5_; clear n0_ n1_ n2_ n3_ n4_ n5_
             have p442 : 0 ≤ (x10_3 : Int) := dT_
             have q442 : x10_3 < (t438.length : Int) := dT_
             obtain ⟨ad442, e442, hx442_0⟩ := Kd.at_int (Kd.R_reads' HO_9.out).2.2 x10_3 p442 q442
             cases e442
             replace p442 := eq_true p442; replace q442 := eq_true q442
             refine start_ (n := 10) (S := fun w' => w'.cell? ⟨gb430, 0, none⟩ = some (.int .i64 t423) ∧ w'.cell? ⟨gb430, 1, none⟩ = some (.int .i64 t424) ∧ w'.cell? ⟨gb430, 2, none⟩ = some (.int .i64 t425) ∧ w'.cell? ⟨gb430, 3, none⟩ = some (.slice Ao10 t426.length co10) ∧ w'.cell? (ad442.add (x10_3).toNat) = some (.int .i64 (rd t438 x10_3))) (ds := []) #[false, false, false, false, false, false, false, false, false, false] (by kernel_rfl) rfl rfl ⟨(blk_cell BK430.out 0).trans rfl, (blk_cell BK430.out 1).trans rfl, (blk_cell BK430.out 2).trans rfl, (blk_cell BK430.out 3).trans rfl, hx442_0⟩ (fun hHeld => ?_); refine with_tabW laws_FnHandovers.tab16 laws_FnHandovers.bits16 (fun HT_ HW_ => ?_)
             generalize wr.drew = w36 at HO_5 HO_6 HO_9 HO_431003 BK430 HB hx442_0 hHeld ⊢
             refine pu_ 1 (some 54) #[false, true, false, false, false, false, false, false, false, false] rfl rfl ?_
             refine pu_ 2 (some 55) #[false, true, true, false, false, false, false, false, false, false] rfl rfl ?_
             refine pu_ 3 (some 56) #[false, true, true, true, false, false, false, false, false, false] rfl rfl ?_
             refine pu_ 4 (some 57) #[false, true, true, true, true, false, false, false, false, false] rfl rfl ?_
             refine pu_ 7 (some 60) #[false, true, true, true, true, false, false, true, false, false] rfl rfl ?_
             refine tk5_ 0 (some 53) #[true, true, true, true, true, false, false, true, false, false] rfl rfl ?_
             refine tk5_ 5 (some 58) #[true, true, true, true, true, true, false, true, false, false] rfl rfl ?_
             refine one_ (i := 6) (N := some 59) #[true, true, true, true, true, true, true, true, false, false] rfl rfl (one_of HT_.out (by kernel_rfl)) (by decide) (fun K hK => ?_)
             refine goes_ Try.func22 (by kernel_rfl) rfl #[.agg #[.int .i64 t423, .int .i64 t424, .int .i64 t425, .slice Ao10 t426.length co10], .int .i64 t429, .int .i64 (rd t438 x10_3)] (by rfl) rfl rfl (by (try simp only [List.map_toArray, List.map_cons, List.map_nil]); first | done | rfl | (simp only [List.length_drop, List.length_take]; rfl)) ?_
             with_reducible refine (impl_ServiceOf.calls k3 t423 t424 t425 _ _ t426 t429 (rd t438 x10_3) t443 _ ?side1 ?side2 A32.out).mono ?_
             (case side1 => repeat (first | exact (Kd.R_reads' HO_431003.out).2.2 | (with_reducible refine cA_ ?_ _) | (with_reducible refine cN_ ?_ _) | (with_reducible refine cD_ ?_)))
             (case side2 => exact (Kd.R_reads' HO_431003.out).2.1)
             rintro e w37 ⟨v444, rfl, ho0, hb⟩
             have HS4_ := (hb.cell (World.block_lt_of_cell? _ _ (hHeld.2.2.2.2))).trans (hHeld.2.2.2.2)
             refine ⟨_, rfl, ?_⟩
             have n0_ := aM_ (Kd.S_below (by (with_reducible repeat (first | apply Kd.S_alloc | apply Kd.S_drewN | apply Kd.S_drew)); exact HO_5.out) hb); have n1_ := aM_ (Kd.R_elder' (rb_ HO_6.out) (Kd.R_base ho0) hb); have n2_ := aM_ (rB_ (rb_ HO_9.out) hb); have n3_ := aM_ (rB_ (rb_ HO_431003.out) hb); have n4_ := aM_ (Kd.R_lower (Kd.R_new' ho0 (Kd.R_lt (rb_ HO_6.out))) (sZ_ (bw_))); have n5_ := aM_ (bB_ (kb_ BK430.out) hb); have n6_ := aM_ (wS_ (bw_) hb); clear HO_5 HO_6 HO_9 HO_431003 BK430 HB; have HO_5 := n0_; have HO_6 := n1_; have HO_9 := n2_; have HO_431003 := n3_; have HO445 := n4_; have BK430 := n5_; have HB := n6_; clear n0_ n1_ n2_ n3_ n4_ n5_ n6_; (try clear hb); (try clear hb2); (try clear hk); (try clear hi); (try clear ho0)
             obtain ⟨Ao38, co38, eo38⟩ := Kd.R_slice HO445.out
             (first | subst eo38 | (injection eo38 with f1_ f2_ f3_; have f4_ := f1_.symm; have f5_ := f3_.symm; clear f1_ f2_ f3_; subst f4_; subst f5_))
             refine hK.out _ _ ⟨(blk_cell BK430.out 0).trans rfl, (blk_cell BK430.out 1).trans rfl, (blk_cell BK430.out 2).trans rfl, (blk_cell BK430.out 3).trans rfl, HS4_⟩ (fun hHeld => ?_)
             clear hK K
             refine norm_ (a' := ?_) ?_ ?_
             rotate_left
             ·show Act.put _ (some 59) _ = _
              simp only [Act.put, List.setIfInBounds_toArray, List.set_cons_zero, List.set_cons_succ, i64_w, i32_w]
              rfl
             refine one_ (i := 8) (N := some 61) #[true, true, true, true, true, true, true, true, true, false] rfl rfl (one_of HT_.out (by kernel_rfl)) (by decide) (fun K hK => ?_)
             refine goes_ Try.func37 (by kernel_rfl) rfl #[.slice Ao38 t443.length co38, .int .i64 x7_1] (by rfl) rfl rfl (by (try simp only [List.map_toArray, List.map_cons, List.map_nil]); first | done | rfl | (simp only [List.length_drop, List.length_take]; rfl)) ?_
             with_reducible refine (impl_InSpans.calls k3 _ _ t443 x7_1 true _ ?side1 ?side2 A33.out).mono ?_
             (case side1 => repeat (first | exact (Kd.R_reads' HO445.out).2.2 | (with_reducible refine cA_ ?_ _) | (with_reducible refine cN_ ?_ _) | (with_reducible refine cD_ ?_)))
             (case side2 => exact (Kd.R_reads' HO445.out).2.1)
             rintro e w39 ⟨rfl, hb⟩
             have HS4_ := (hb.cell (World.block_lt_of_cell? _ _ (hHeld.2.2.2.2))).trans (hHeld.2.2.2.2)
             refine ⟨_, rfl, ?_⟩
             have n0_ := aM_ (Kd.S_below (by (with_reducible repeat (first | apply Kd.S_alloc | apply Kd.S_drewN | apply Kd.S_drew)); exact HO_5.out) hb); have n1_ := aM_ (rB_ (rb_ HO_6.out) hb); have n2_ := aM_ (rB_ (rb_ HO_9.out) hb); have n3_ := aM_ (rB_ (rb_ HO_431003.out) hb); have n4_ := aM_ (rB_ (rb_ HO445.out) hb); have n5_ := aM_ (bB_ (kb_ BK430.out) hb); have n6_ := aM_ (wS_ (bw_) hb); clear HO_5 HO_6 HO_9 HO_431003 HO445 BK430 HB; have HO_5 := n0_; have HO_6 := n1_; have HO_9 := n2_; have HO_431003 := n3_; have HO445 := n4_; have BK430 := n5_; have HB := n6_; clear n0_ n1_ n2_ n3_ n4_ n5_ n6_; (try clear hb); (try clear hb2); (try clear hk); (try clear hi)
             refine hK.out _ _ ⟨(blk_cell BK430.out 0).trans rfl, (blk_cell BK430.out 1).trans rfl, (blk_cell BK430.out 2).trans rfl, (blk_cell BK430.out 3).trans rfl, HS4_⟩ (fun hHeld => ?_)
             clear hK K
             refine norm_ (a' := ?_) ?_ ?_
             rotate_left
             ·show Act.put _ (some 61) _ = _
              simp only [Act.put, List.setIfInBounds_toArray, List.set_cons_zero, List.set_cons_succ, i64_w, i32_w]
              rfl
             refine pu_ 9 (some 62) #[true, true, true, true, true, true, true, true, true, true] rfl rfl ?_
             refine done_ (done_of HT_.out (by kernel_rfl)) ?_
             try go_wp2
             go_roundg k3
             case measure => have := HK1.out; have := HJ16.out; have := HK3.out; omega
             case rel => exact ⟨(wrap64 (x10_3 + 1)), (by first | rfl | (simp; done) | (simp [*]; done)), H', ⟨by have := HK1.out; have := HJ16.out; have := HK3.out; omega⟩, ⟨by (with_reducible repeat (first | apply Kd.S_alloc | apply Kd.S_drewN | apply Kd.S_drew)); exact HO_5.out⟩, ⟨by (with_reducible repeat (first | apply rA_ | apply rN_ | apply rD_)); exact Kd.R_mono HO_6.out (fun _ hk => trivial)⟩, ⟨by (with_reducible repeat (first | apply rA_ | apply rN_ | apply rD_)); exact HO_9.out⟩, ⟨by (with_reducible repeat (first | apply rA_ | apply rN_ | apply rD_)); exact HO_431003.out⟩, ⟨by (with_reducible repeat (first | refine bN_ ?_ _ | refine bD_ ?_ | refine bA_ ?_ _)); exact BK430.out⟩, ⟨bw_⟩⟩
            ·replace c34 := Bool.eq_false_iff.mpr c34
             subst c34
             have H1 : (some false) = some r := by rw [if_neg (show ¬ (false = true) by decide)] at H; exact H
             clear H; have H := H1; clear H1
             exact absurd ((Option.some.inj H).trans HTRUE.out) (by decide)
           ·rw [if_neg c31] at H
            exact absurd H (by simp)
          ·rw [if_neg c30] at H
           have c30b0 : decide (x10_3 < (t438.length : Int)) = false := decide_eq_false c30
           clear c30
           have H' := aM_ H
           clear H
           obtain ⟨Ao40, co40, eo40⟩ := Kd.R_slice HO_9.out
           subst eo40
           go_wp2
           go_roundg k3
           case measure => have := HK1.out; have := HJ16.out; have := HK3.out; omega
           case rel => exact ⟨(wrap64 (x7_1 + 1)), (by first | rfl | (simp; done) | (simp [*]; done)), H', ⟨by have := HK1.out; have := HJ16.out; have := HK3.out; omega⟩, ⟨by (with_reducible repeat (first | apply Kd.S_alloc | apply Kd.S_drewN | apply Kd.S_drew)); exact Kd.S_mono HO_5.out (fun _ hk => trivial)⟩, ⟨by (with_reducible repeat (first | apply rA_ | apply rN_ | apply rD_)); exact HO_6.out⟩, ⟨by (with_reducible repeat (first | apply rA_ | apply rN_ | apply rD_)); exact Kd.R_mono HO_431003.out (fun _ hk => trivial)⟩, ⟨by (with_reducible repeat (first | refine bN_ ?_ _ | refine bD_ ?_ | refine bA_ ?_ _)); exact BK430.out⟩, ⟨bw_⟩⟩
    ·rw [if_neg c14] at H
     have c14b0 : decide (x7_1 < 24) = false := decide_eq_false c14
     clear c14
     have H' := aM_ H
     clear H
     go_wp2
     go_loopg [11] k1 (fun kq v11 w' => ∃ (x11_2 : Int), v11 = .int .i64 x11_2 ∧ Aside0 (laws_FnHandovers.l2 kq t429 t431 t434 x11_2 t423 t424 t425 t426 = some r) ∧ Aside0 (kq ≤ k1) ∧ Aside0 (Kd.S k87 87 w' w.heap.size (fun _ => True) v432 t431) ∧ Aside0 (Kd.R k109 109 w' w.heap.size (fun _ => True) v435 t434) ∧ Aside0 (Kd.R k112 112 w' w.heap.size (fun _ => True) (.slice Ao10 t426.length co10) t426) ∧ Aside0 (w'.heap[gb430]? = some (.cells #[.int .i64 t423, .int .i64 t424, .int .i64 t425, (.slice Ao10 t426.length co10)] 30 (0, 0))) ∧ Aside0 (Below w.heap.size w w'))
     case atStart => exact ⟨(0), (by first | rfl | (simp; done) | (simp [*]; done)), H', ⟨Nat.le_refl _⟩, ⟨by (with_reducible repeat (first | apply Kd.S_alloc | apply Kd.S_drewN | apply Kd.S_drew)); exact HO_5.out⟩, ⟨by (with_reducible repeat (first | apply rA_ | apply rN_ | apply rD_)); exact HO_6.out⟩, ⟨by (with_reducible repeat (first | apply rA_ | apply rN_ | apply rD_)); exact HO_431003.out⟩, ⟨by (with_reducible repeat (first | refine bN_ ?_ _ | refine bD_ ?_ | refine bA_ ?_ _)); exact BK430.out⟩, ⟨bw_⟩⟩
     case round =>
      clear H'
      try clear hx4
      try clear c14b0
      try clear c23b0
      try clear c30b0
      try clear c31b0
      try clear hcz12_0
      try clear hcz12_1
      try clear hcz12_2
      try clear hcz12_3
      try clear hcz18_0
      try clear hcz18_1
      try clear hcz18_2
      try clear hcz18_3
      try clear hcz20_0
      try clear hcz20_1
      try clear hcz20_2
      try clear hcz20_3
      try clear hcz9_0
      try clear hcz9_1
      try clear hcz9_2
      try clear hcz9_3
      try clear hfz12_0
      try clear hfz12_1
      try clear hfz12_2
      try clear hfz12_3
      try clear hfz18_0
      try clear hfz18_1
      try clear hfz18_2
      try clear hfz18_3
      try clear hfz20_0
      try clear hfz20_1
      try clear hfz20_2
      try clear hfz20_3
      try clear hfz9_0
      try clear hfz9_1
      try clear hfz9_2
      try clear hfz9_3
      try clear hx442_0
      obtain ⟨x11_2, rfl, HA, HK2, HO_5, HO_6, HO_431003, BK430, HB⟩ := hrel
      cases gk with
      | zero => exact absurd HA.out (by simp [laws_FnHandovers.l2])
      | succ k2 =>
       have H := HA.out; clear HA
       simp only [laws_FnHandovers.l2] at H
       by_cases c41 : x11_2 < (t431.length : Int)
       ·rw [if_pos c41] at H
        have c41b0 : decide (x11_2 < (t431.length : Int)) = true := decide_eq_true c41
        clear c41; have HC42 := aM_ H; clear H
        obtain ⟨Ao43, co43, eo43⟩ := Kd.S_slice HO_5.out
        subst eo43
        go_upto_region 21 with (fail)
        go_cut [112] (fun v112 wc => ∃ (kq : Nat) (x112_41 : Bool), v112 = .bool x112_41 ∧ Aside0 (laws_FnHandovers.j4 kq t429 t431 t434 x11_2 x112_41 t423 t424 t425 t426 = some r) ∧ Aside0 (kq ≤ k2) ∧ Aside0 (Kd.S k87 87 wc w.heap.size (fun _ => True) (.slice Ao43 t431.length co43) t431) ∧ Aside0 (Kd.R k109 109 wc w.heap.size (fun _ => True) v435 t434) ∧ Aside0 (Kd.R k112 112 wc w.heap.size (fun _ => True) (.slice Ao10 t426.length co10) t426) ∧ Aside0 (wc.heap[gb430]? = some (.cells #[.int .i64 t423, .int .i64 t424, .int .i64 t425, (.slice Ao10 t426.length co10)] 30 (0, 0))) ∧ Aside0 (Below w.heap.size w wc))
        case first =>
         have H := HC42.out; clear HC42
         by_cases c44 : 0 ≤ x11_2
         ·rw [if_pos c44] at H
          have c44b0 : decide (0 ≤ x11_2) = true := decide_eq_true c44
          clear c44
          (first | rw [c44b0] | (simp only [i64_w, i32_w]; rw [c44b0]) | skip)
          replace H := Option.bind_eq_some_iff.mp H
          obtain ⟨t451, A450, H⟩ := H
          (try dsimp only at H)
          have A45 := aM_ A450; clear A450
          by_cases c46 : t451 = true
          ·subst c46
           have H1 : (laws_FnHandovers.j4 k2 t429 t431 t434 x11_2 true t423 t424 t425 t426) = some r := by rw [if_pos rfl] at H; exact H
           clear H; have H := H1; clear H1
           have H' := aM_ H
           clear H
           try go_wp2
           have n0_ := aM_ (Kd.S_drew HO_5.out); have n1_ := aM_ (rD_ HO_6.out); have n2_ := aM_ (rD_ HO_431003.out); have n3_ := aM_ (bD_ BK430.out); have n4_ := aM_ (wD_ HB.out); clear HO_5 HO_6 HO_431003 BK430 HB; have HO_5 := n0_; have HO_6 := n1_; have HO_431003 := n2_; have BK430 := n3_; have HB := n4_; clear n0_ n1_ n2_ n3_ n4_
           have p449 : 0 ≤ (x11_2 : Int) := dT_
           have q449 : x11_2 < (t431.length : Int) := dT_
           obtain ⟨ad449, A449_1, c449_1, A449_2, c449_2, e449, hx449_0, hx449_1, hx449_2, hl449_1, hi449_1, hl449_2, hi449_2⟩ := at_T87 (Kd.S_reads' HO_5.out).2.2 x11_2 p449 q449
           cases e449
           obtain ⟨ce449, hce449, hMe449, hcc449⟩ := Kd.S_get HO_5.out z87 x11_2 p449 (by first | exact q449 | exact dT_ | (have e_ := (Kd.S_reads' HO_5.out).1; omega))
           obtain ⟨ve449_1, ve449_2, rfl, ge449_1, ge449_2⟩ := k87_openM hMe449
           have hv449_1 := hcc449 1 _ rfl
           rw [add_field _ _ 1 (by omega)] at hv449_1
           replace hv449_1 := Option.some.inj (hv449_1.symm.trans hx449_1)
           rw [hv449_1] at ge449_1
           have HL449_1 := aM_ (show Kd.R (Kd.int .i64) 3 _ _ _ _ ((rd_T87 t431 x11_2).f1) from ge449_1); clear hv449_1 ge449_1; have hv449_2 := hcc449 2 _ rfl
           rw [add_field _ _ 2 (by omega)] at hv449_2
           replace hv449_2 := Option.some.inj (hv449_2.symm.trans hx449_2)
           rw [hv449_2] at ge449_2
           have HL449_2 := aM_ (show Kd.R (Kd.int .i64) 3 _ _ _ _ ((rd_T87 t431 x11_2).f2) from ge449_2); clear hv449_2 ge449_2 hcc449 hce449; have HR449_1 := aM_ hi449_1; have HC449_1 := aM_ hl449_1; clear hi449_1 hl449_1; have HR449_2 := aM_ hi449_2; have HC449_2 := aM_ hl449_2; clear hi449_2 hl449_2; replace p449 := eq_true p449; replace q449 := eq_true q449
           have p450 : 0 ≤ (x11_2 : Int) := dT_
           have q450 : x11_2 < (t431.length : Int) := dT_
           obtain ⟨ad450, A450_1, c450_1, A450_2, c450_2, e450, hx450_0, hx450_1, hx450_2, hl450_1, hi450_1, hl450_2, hi450_2⟩ := at_T87 (Kd.S_reads' HO_5.out).2.2 x11_2 p450 q450
           obtain rfl : ad449 = ad450 := (by injection e450)
           obtain ⟨ce450, hce450, hMe450, hcc450⟩ := Kd.S_get HO_5.out z87 x11_2 p450 (by first | exact q450 | exact dT_ | (have e_ := (Kd.S_reads' HO_5.out).1; omega))
           obtain ⟨ve450_1, ve450_2, rfl, ge450_1, ge450_2⟩ := k87_openM hMe450
           have hv450_1 := hcc450 1 _ rfl
           rw [add_field _ _ 1 (by omega)] at hv450_1
           replace hv450_1 := Option.some.inj (hv450_1.symm.trans hx450_1)
           rw [hv450_1] at ge450_1
           have HL450_1 := aM_ (show Kd.R (Kd.int .i64) 3 _ _ _ _ ((rd_T87 t431 x11_2).f1) from ge450_1); clear hv450_1 ge450_1; have hv450_2 := hcc450 2 _ rfl
           rw [add_field _ _ 2 (by omega)] at hv450_2
           replace hv450_2 := Option.some.inj (hv450_2.symm.trans hx450_2)
           rw [hv450_2] at ge450_2
           have HL450_2 := aM_ (show Kd.R (Kd.int .i64) 3 _ _ _ _ ((rd_T87 t431 x11_2).f2) from ge450_2); clear hv450_2 ge450_2 hcc450 hce450; have HR450_1 := aM_ hi450_1; have HC450_1 := aM_ hl450_1; clear hi450_1 hl450_1; have HR450_2 := aM_ hi450_2; have HC450_2 := aM_ hl450_2; clear hi450_2 hl450_2; replace p450 := eq_true p450; replace q450 := eq_true q450; have ea_ := Option.some.inj (hx449_1.symm.trans hx450_1)
           injection ea_ with ea_ en_ ec_
           subst ea_
           subst ec_
           clear en_; have ea_ := Option.some.inj (hx449_2.symm.trans hx450_2)
           injection ea_ with ea_ en_ ec_
           subst ea_
           subst ec_
           clear en_
           refine start_ (n := 44) (S := fun w' => w'.cell? (ad449.add ((x11_2).toNat * 3)) = some (.int .i64 ((rd_T87 t431 x11_2).f0)) ∧ w'.cell? ⟨(ad449.add ((x11_2).toNat * 3)).block, (ad449.add ((x11_2).toNat * 3)).off + 1, none⟩ = some (.slice A449_1 ((rd_T87 t431 x11_2).f1).length c449_1) ∧ w'.cell? ⟨(ad449.add ((x11_2).toNat * 3)).block, (ad449.add ((x11_2).toNat * 3)).off + 2, none⟩ = some (.slice A449_2 ((rd_T87 t431 x11_2).f2).length c449_2) ∧ w'.cell? (ad449.add ((x11_2).toNat * 3)) = some (.int .i64 ((rd_T87 t431 x11_2).f0)) ∧ w'.cell? ⟨(ad449.add ((x11_2).toNat * 3)).block, (ad449.add ((x11_2).toNat * 3)).off + 1, none⟩ = some (.slice A449_1 ((rd_T87 t431 x11_2).f1).length c449_1) ∧ w'.cell? ⟨(ad449.add ((x11_2).toNat * 3)).block, (ad449.add ((x11_2).toNat * 3)).off + 2, none⟩ = some (.slice A449_2 ((rd_T87 t431 x11_2).f2).length c449_2)) (ds := []) zb0_ (by kernel_rfl) rfl rfl ⟨hx449_0, hx449_1, hx449_2, hx450_0, hx450_1, hx450_2⟩ (fun hHeld => ?_); refine with_tabW laws_FnHandovers.tab21 laws_FnHandovers.bits21 (fun HT_ HW_ => ?_)
           generalize wr.drew = w47 at HO_5 HO_6 HO_431003 BK430 HB HL449_1 HL449_2 HL450_1 HL450_2 HR449_1 HR449_2 HR450_1 HR450_2 hx449_0 hx449_1 hx449_2 hx450_0 hx450_1 hx450_2 hHeld ⊢
           refine pu_ 0 (some 69) zb1_ rfl rfl ?_
           refine pu_ 1 (some 70) zb2_ rfl rfl ?_
           refine pu_ 2 (some 71) zb3_ rfl rfl ?_
           refine pu_ 3 (some 72) zb4_ rfl rfl ?_
           refine pu_ 5 (some 74) zb5_ rfl rfl ?_
           refine pu_ 6 (some 75) zb6_ rfl rfl ?_
           refine pu_ 7 (some 76) zb7_ rfl rfl ?_
           refine pu_ 8 (some 77) zb8_ rfl rfl ?_
           refine tk6_ 4 (some 73) zb9_ rfl rfl ?_
           refine tk6_ 9 (some 78) zb10_ rfl rfl ?_
           refine one_ (i := 10) (N := some 79) zb11_ rfl rfl (one_of HT_.out (by kernel_rfl)) (by decide) (fun K hK => ?_)
           refine goes_ Try.func38 (by kernel_rfl) rfl #[.slice A449_1 ((rd_T87 t431 x11_2).f1).length c449_1, .slice A449_2 ((rd_T87 t431 x11_2).f2).length c449_2] (by rfl) rfl rfl (by (try simp only [List.map_toArray, List.map_cons, List.map_nil]); first | done | rfl | (simp only [List.length_drop, List.length_take]; rfl)) ?_
           with_reducible refine (impl_EqualInts.calls k2 _ _ ((rd_T87 t431 x11_2).f1) _ _ ((rd_T87 t431 x11_2).f2) true _ ?side1 ?side2 ?side3 ?side4 A45.out).mono ?_
           (case side1 => repeat (first | exact (by repeat (first | (with_reducible exact HR449_1.out) | (with_reducible refine cA_ ?_ _) | (with_reducible refine cN_ ?_ _) | (with_reducible refine cD_ ?_) | exact HR449_1.out)) | (with_reducible refine cA_ ?_ _) | (with_reducible refine cN_ ?_ _) | (with_reducible refine cD_ ?_)))
           (case side2 => exact HC449_1.out)
           (case side3 => repeat (first | exact (by repeat (first | (with_reducible exact HR450_2.out) | (with_reducible refine cA_ ?_ _) | (with_reducible refine cN_ ?_ _) | (with_reducible refine cD_ ?_) | exact HR450_2.out)) | (with_reducible refine cA_ ?_ _) | (with_reducible refine cN_ ?_ _) | (with_reducible refine cD_ ?_)))
           (case side4 => exact HC450_2.out)
           rintro e w' ⟨rfl, ⟨nd, rfl⟩⟩
           refine ⟨_, rfl, ?_⟩
           refine hK.out _ _ ⟨hHeld.1, hHeld.2.1, hHeld.2.2.1, hHeld.2.2.2.1, hHeld.2.2.2.2.1, hHeld.2.2.2.2.2⟩ (fun hHeld => ?_)
           clear hK K
           refine norm_ (a' := ?_) ?_ ?_
           rotate_left
           ·show Act.put _ (some 79) _ = _
            simp only [Act.put, List.setIfInBounds_toArray, List.set_cons_zero, List.set_cons_succ, i64_w, i32_w]
            rfl
           refine pu_ 11 (some 80) zb12_ rfl rfl ?_
           refine pn_ 12 (some 81) zb13_ rfl rfl ?_
           refine pn_ 13 (some 82) zb14_ rfl rfl ?_
           refine pn_ 14 (some 83) zb15_ rfl rfl ?_
           refine pn_ 15 (some 84) zb16_ rfl rfl ?_
           refine pn_ 16 (some 85) zb17_ rfl rfl ?_
           refine pn_ 17 (some 86) zb18_ rfl rfl ?_
           refine pn_ 18 (some 87) zb19_ rfl rfl ?_
           refine pn_ 19 (some 88) zb20_ rfl rfl ?_
           refine pn_ 20 (some 89) #[true, true, true, true, true, true, true, true, true, true, true, true, true, true, true, true, true, true, true, true, true, false, false, false, false, false, false, false, false, false, false, false, false, false, false, false, false, false, false, false, false, false, false, false] rfl rfl ?_
           refine pn_ 21 (some 90) #[true, true, true, true, true, true, true, true, true, true, true, true, true, true, true, true, true, true, true, true, true, true, false, false, false, false, false, false, false, false, false, false, false, false, false, false, false, false, false, false, false, false, false, false] rfl rfl ?_
           refine pn_ 22 (some 91) #[true, true, true, true, true, true, true, true, true, true, true, true, true, true, true, true, true, true, true, true, true, true, true, false, false, false, false, false, false, false, false, false, false, false, false, false, false, false, false, false, false, false, false, false] rfl rfl ?_
           refine pn_ 23 (some 92) #[true, true, true, true, true, true, true, true, true, true, true, true, true, true, true, true, true, true, true, true, true, true, true, true, false, false, false, false, false, false, false, false, false, false, false, false, false, false, false, false, false, false, false, false] rfl rfl ?_
           refine pn_ 24 (some 93) zb21_ rfl rfl ?_
           refine pn_ 25 (some 94) zb22_ rfl rfl ?_
           refine pn_ 26 (some 95) zb23_ rfl rfl ?_
           refine pn_ 27 (some 96) zb24_ rfl rfl ?_
           refine pn_ 28 (some 97) zb25_ rfl rfl ?_
           refine pn_ 29 (some 98) zb26_ rfl rfl ?_
           refine pn_ 30 (some 99) zb27_ rfl rfl ?_
           refine pn_ 31 (some 100) zb28_ rfl rfl ?_
           refine pn_ 32 (some 101) zb29_ rfl rfl ?_
           refine pn_ 33 (some 102) zb30_ rfl rfl ?_
           refine pn_ 34 (some 103) zb31_ rfl rfl ?_
           refine pn_ 35 (some 104) zb32_ rfl rfl ?_
           refine pn_ 36 (some 105) zb33_ rfl rfl ?_
           refine pn_ 37 (some 106) zb34_ rfl rfl ?_
           refine pn_ 38 (some 107) zb35_ rfl rfl ?_
           refine pn_ 39 (some 108) zb36_ rfl rfl ?_
           refine pn_ 40 (some 109) zb37_ rfl rfl ?_
           refine pn_ 41 (some 110) zb38_ rfl rfl ?_
           refine pn_ 42 (some 111) zb39_ rfl rfl ?_
           refine pu_ 43 (some 112) zb40_ rfl rfl ?_
           refine done_ (done_of HT_.out (by kernel_rfl)) ?_
           try go_wp2
           go_meet
           case rel => exact ⟨_, (true), (by first | rfl | (simp; done) | (simp [*]; done)), H', ⟨by have := HK1.out; have := HK2.out; first | omega | exact Nat.le_refl _⟩, ⟨by (with_reducible repeat (first | apply Kd.S_alloc | apply Kd.S_drewN | apply Kd.S_drew)); exact HO_5.out⟩, ⟨by (with_reducible repeat (first | apply rA_ | apply rN_ | apply rD_)); exact HO_6.out⟩, ⟨by (with_reducible repeat (first | apply rA_ | apply rN_ | apply rD_)); exact HO_431003.out⟩, ⟨by (with_reducible repeat (first | refine bN_ ?_ _ | refine bD_ ?_ | refine bA_ ?_ _)); exact BK430.out⟩, ⟨bw_⟩⟩
          ·replace c46 := Bool.eq_false_iff.mpr c46
           subst c46
           have H1 : (if x11_2 > 0 then (if 0 ≤ (wrap64 (x11_2 - 1)) then (if (wrap64 (x11_2 - 1)) < (t431.length : Int) then (if ((rd_T87 t431 (wrap64 (x11_2 - 1))).f0) ≥ ((rd_T87 t431 x11_2).f0) then (laws_FnHandovers.j4 k2 t429 t431 t434 x11_2 true t423 t424 t425 t426) else ((impl_EqualInts.f k2 ((rd_T87 t431 (wrap64 (x11_2 - 1))).f2) ((rd_T87 t431 x11_2).f1)).bind fun t456 => (laws_FnHandovers.j4 k2 t429 t431 t434 x11_2 (!t456) t423 t424 t425 t426))) else (none)) else (none)) else (laws_FnHandovers.j4 k2 t429 t431 t434 x11_2 false t423 t424 t425 t426)) = some r := by rw [if_neg (show ¬ (false = true) by decide)] at H; exact H
           clear H; have H := H1; clear H1
           by_cases c48 : x11_2 > 0
           ·rw [if_pos c48] at H
            have c48b0 : decide (0 < x11_2) = true := decide_eq_true c48
            clear c48
            obtain ⟨ji49, hji49⟩ : ∃ j_ : Int, (wrap64 (x11_2 - 1)) = j_ := ⟨_, rfl⟩
            replace H : (if 0 ≤ (ji49) then (if (ji49) < (t431.length : Int) then (if ((rd_T87 t431 (ji49)).f0) ≥ ((rd_T87 t431 x11_2).f0) then (laws_FnHandovers.j4 k2 t429 t431 t434 x11_2 true t423 t424 t425 t426) else ((impl_EqualInts.f k2 ((rd_T87 t431 (ji49)).f2) ((rd_T87 t431 x11_2).f1)).bind fun t456 => (laws_FnHandovers.j4 k2 t429 t431 t434 x11_2 (!t456) t423 t424 t425 t426))) else (none)) else (none)) = some r := by first | (rw [hji49] at H; exact H) | (simp only [hji49] at H ⊢; exact H)
            (try rw [hji49] at A45)
            have hji49w : (IntKind.i64.wrap (x11_2 - 1)) = ji49 := (i64_w _).trans hji49
            by_cases c50 : 0 ≤ (ji49)
            ·rw [if_pos c50] at H
             have c50b0 : decide (0 ≤ (ji49)) = true := decide_eq_true c50
             clear c50
             by_cases c51 : (ji49) < (t431.length : Int)
             ·rw [if_pos c51] at H
              have c51b0 : decide ((ji49) < (t431.length : Int)) = true := decide_eq_true c51
              clear c51
              by_cases c52 : ((rd_T87 t431 (ji49)).f0) ≥ ((rd_T87 t431 x11_2).f0)
              ·rw [if_pos c52] at H
               have c52b0 : decide (((rd_T87 t431 x11_2).f0) ≤ ((rd_T87 t431 (ji49)).f0)) = true := decide_eq_true c52
               clear c52
               have H' := aM_ H
               clear H
               try go_wp2
               have n0_ := aM_ (Kd.S_drew HO_5.out); have n1_ := aM_ (rD_ HO_6.out); have n2_ := aM_ (rD_ HO_431003.out); have n3_ := aM_ (bD_ BK430.out); have n4_ := aM_ (wD_ HB.out); clear HO_5 HO_6 HO_431003 BK430 HB; have HO_5 := n0_; have HO_6 := n1_; have HO_431003 := n2_; have BK430 := n3_; have HB := n4_; clear n0_ n1_ n2_ n3_ n4_
               have p449 : 0 ≤ (x11_2 : Int) := dT_
               have q449 : x11_2 < (t431.length : Int) := dT_
               obtain ⟨ad449, A449_1, c449_1, A449_2, c449_2, e449, hx449_0, hx449_1, hx449_2, hl449_1, hi449_1, hl449_2, hi449_2⟩ := at_T87 (Kd.S_reads' HO_5.out).2.2 x11_2 p449 q449
               cases e449
               obtain ⟨ce449, hce449, hMe449, hcc449⟩ := Kd.S_get HO_5.out z87 x11_2 p449 (by first | exact q449 | exact dT_ | (have e_ := (Kd.S_reads' HO_5.out).1; omega))
               obtain ⟨ve449_1, ve449_2, rfl, ge449_1, ge449_2⟩ := k87_openM hMe449
               have hv449_1 := hcc449 1 _ rfl
               rw [add_field _ _ 1 (by omega)] at hv449_1
               replace hv449_1 := Option.some.inj (hv449_1.symm.trans hx449_1)
               rw [hv449_1] at ge449_1
               have HL449_1 := aM_ (show Kd.R (Kd.int .i64) 3 _ _ _ _ ((rd_T87 t431 x11_2).f1) from ge449_1); clear hv449_1 ge449_1; have hv449_2 := hcc449 2 _ rfl
               rw [add_field _ _ 2 (by omega)] at hv449_2
               replace hv449_2 := Option.some.inj (hv449_2.symm.trans hx449_2)
               rw [hv449_2] at ge449_2
               have HL449_2 := aM_ (show Kd.R (Kd.int .i64) 3 _ _ _ _ ((rd_T87 t431 x11_2).f2) from ge449_2); clear hv449_2 ge449_2 hcc449 hce449; have HR449_1 := aM_ hi449_1; have HC449_1 := aM_ hl449_1; clear hi449_1 hl449_1; have HR449_2 := aM_ hi449_2; have HC449_2 := aM_ hl449_2; clear hi449_2 hl449_2; replace p449 := eq_true p449; replace q449 := eq_true q449
               have p450 : 0 ≤ (x11_2 : Int) := dT_
               have q450 : x11_2 < (t431.length : Int) := dT_
               obtain ⟨ad450, A450_1, c450_1, A450_2, c450_2, e450, hx450_0, hx450_1, hx450_2, hl450_1, hi450_1, hl450_2, hi450_2⟩ := at_T87 (Kd.S_reads' HO_5.out).2.2 x11_2 p450 q450
               obtain rfl : ad449 = ad450 := (by injection e450)
               obtain ⟨ce450, hce450, hMe450, hcc450⟩ := Kd.S_get HO_5.out z87 x11_2 p450 (by first | exact q450 | exact dT_ | (have e_ := (Kd.S_reads' HO_5.out).1; omega))
               obtain ⟨ve450_1, ve450_2, rfl, ge450_1, ge450_2⟩ := k87_openM hMe450
               have hv450_1 := hcc450 1 _ rfl
               rw [add_field _ _ 1 (by omega)] at hv450_1
               replace hv450_1 := Option.some.inj (hv450_1.symm.trans hx450_1)
               rw [hv450_1] at ge450_1
               have HL450_1 := aM_ (show Kd.R (Kd.int .i64) 3 _ _ _ _ ((rd_T87 t431 x11_2).f1) from ge450_1); clear hv450_1 ge450_1; have hv450_2 := hcc450 2 _ rfl
               rw [add_field _ _ 2 (by omega)] at hv450_2
               replace hv450_2 := Option.some.inj (hv450_2.symm.trans hx450_2)
               rw [hv450_2] at ge450_2
               have HL450_2 := aM_ (show Kd.R (Kd.int .i64) 3 _ _ _ _ ((rd_T87 t431 x11_2).f2) from ge450_2); clear hv450_2 ge450_2 hcc450 hce450; have HR450_1 := aM_ hi450_1; have HC450_1 := aM_ hl450_1; clear hi450_1 hl450_1; have HR450_2 := aM_ hi450_2; have HC450_2 := aM_ hl450_2; clear hi450_2 hl450_2; replace p450 := eq_true p450; replace q450 := eq_true q450; have ea_ := Option.some.inj (hx449_1.symm.trans hx450_1)
               injection ea_ with ea_ en_ ec_
               subst ea_
               subst ec_
               clear en_; have ea_ := Option.some.inj (hx449_2.symm.trans hx450_2)
               injection ea_ with ea_ en_ ec_
               subst ea_
               subst ec_
               clear en_
               have p452 : 0 ≤ ((ji49) : Int) := dT_
               have q452 : (ji49) < (t431.length : Int) := dT_
               obtain ⟨ad452, A452_1, c452_1, A452_2, c452_2, e452, hx452_0, hx452_1, hx452_2, hl452_1, hi452_1, hl452_2, hi452_2⟩ := at_T87 (Kd.S_reads' HO_5.out).2.2 (ji49) p452 q452
               obtain rfl : ad449 = ad452 := (by injection e452)
               obtain ⟨ce452, hce452, hMe452, hcc452⟩ := Kd.S_get HO_5.out z87 (ji49) p452 (by first | exact q452 | exact dT_ | (have e_ := (Kd.S_reads' HO_5.out).1; omega))
               obtain ⟨ve452_1, ve452_2, rfl, ge452_1, ge452_2⟩ := k87_openM hMe452
               have hv452_1 := hcc452 1 _ rfl
               rw [add_field _ _ 1 (by omega)] at hv452_1
               replace hv452_1 := Option.some.inj (hv452_1.symm.trans hx452_1)
               rw [hv452_1] at ge452_1
               have HL452_1 := aM_ (show Kd.R (Kd.int .i64) 3 _ _ _ _ ((rd_T87 t431 (ji49)).f1) from ge452_1); clear hv452_1 ge452_1; have hv452_2 := hcc452 2 _ rfl
               rw [add_field _ _ 2 (by omega)] at hv452_2
               replace hv452_2 := Option.some.inj (hv452_2.symm.trans hx452_2)
               rw [hv452_2] at ge452_2
               have HL452_2 := aM_ (show Kd.R (Kd.int .i64) 3 _ _ _ _ ((rd_T87 t431 (ji49)).f2) from ge452_2); clear hv452_2 ge452_2 hcc452 hce452; have HR452_1 := aM_ hi452_1; have HC452_1 := aM_ hl452_1; clear hi452_1 hl452_1; have HR452_2 := aM_ hi452_2; have HC452_2 := aM_ hl452_2; clear hi452_2 hl452_2; replace p452 := eq_true p452; replace q452 := eq_true q452
               have p453 : 0 ≤ (x11_2 : Int) := dT_
               have q453 : x11_2 < (t431.length : Int) := dT_
               obtain ⟨ad453, A453_1, c453_1, A453_2, c453_2, e453, hx453_0, hx453_1, hx453_2, hl453_1, hi453_1, hl453_2, hi453_2⟩ := at_T87 (Kd.S_reads' HO_5.out).2.2 x11_2 p453 q453
               obtain rfl : ad449 = ad453 := (by injection e453)
               obtain ⟨ce453, hce453, hMe453, hcc453⟩ := Kd.S_get HO_5.out z87 x11_2 p453 (by first | exact q453 | exact dT_ | (have e_ := (Kd.S_reads' HO_5.out).1; omega))
               obtain ⟨ve453_1, ve453_2, rfl, ge453_1, ge453_2⟩ := k87_openM hMe453
               have hv453_1 := hcc453 1 _ rfl
               rw [add_field _ _ 1 (by omega)] at hv453_1
               replace hv453_1 := Option.some.inj (hv453_1.symm.trans hx453_1)
               rw [hv453_1] at ge453_1
               have HL453_1 := aM_ (show Kd.R (Kd.int .i64) 3 _ _ _ _ ((rd_T87 t431 x11_2).f1) from ge453_1); clear hv453_1 ge453_1; have hv453_2 := hcc453 2 _ rfl
               rw [add_field _ _ 2 (by omega)] at hv453_2
               replace hv453_2 := Option.some.inj (hv453_2.symm.trans hx453_2)
               rw [hv453_2] at ge453_2
               have HL453_2 := aM_ (show Kd.R (Kd.int .i64) 3 _ _ _ _ ((rd_T87 t431 x11_2).f2) from ge453_2); clear hv453_2 ge453_2 hcc453 hce453; have HR453_1 := aM_ hi453_1; have HC453_1 := aM_ hl453_1; clear hi453_1 hl453_1; have HR453_2 := aM_ hi453_2; have HC453_2 := aM_ hl453_2; clear hi453_2 hl453_2; replace p453 := eq_true p453; replace q453 := eq_true q453; have ea_ := Option.some.inj (hx449_1.symm.trans hx453_1)
               injection ea_ with ea_ en_ ec_
               subst ea_
               subst ec_
               clear en_; have ea_ := Option.some.inj (hx449_2.symm.trans hx453_2)
               injection ea_ with ea_ en_ ec_
               subst ea_
               subst ec_
               clear en_
               refine start_ (n := 44) (S := fun w' => w'.cell? (ad449.add ((x11_2).toNat * 3)) = some (.int .i64 ((rd_T87 t431 x11_2).f0)) ∧ w'.cell? ⟨(ad449.add ((x11_2).toNat * 3)).block, (ad449.add ((x11_2).toNat * 3)).off + 1, none⟩ = some (.slice A449_1 ((rd_T87 t431 x11_2).f1).length c449_1) ∧ w'.cell? ⟨(ad449.add ((x11_2).toNat * 3)).block, (ad449.add ((x11_2).toNat * 3)).off + 2, none⟩ = some (.slice A449_2 ((rd_T87 t431 x11_2).f2).length c449_2) ∧ w'.cell? (ad449.add ((x11_2).toNat * 3)) = some (.int .i64 ((rd_T87 t431 x11_2).f0)) ∧ w'.cell? ⟨(ad449.add ((x11_2).toNat * 3)).block, (ad449.add ((x11_2).toNat * 3)).off + 1, none⟩ = some (.slice A449_1 ((rd_T87 t431 x11_2).f1).length c449_1) ∧ w'.cell? ⟨(ad449.add ((x11_2).toNat * 3)).block, (ad449.add ((x11_2).toNat * 3)).off + 2, none⟩ = some (.slice A449_2 ((rd_T87 t431 x11_2).f2).length c449_2) ∧ w'.cell? (ad449.add (((ji49)).toNat * 3)) = some (.int .i64 ((rd_T87 t431 (ji49)).f0)) ∧ w'.cell? ⟨(ad449.add (((ji49)).toNat * 3)).block, (ad449.add (((ji49)).toNat * 3)).off + 1, none⟩ = some (.slice A452_1 ((rd_T87 t431 (ji49)).f1).length c452_1) ∧ w'.cell? ⟨(ad449.add (((ji49)).toNat * 3)).block, (ad449.add (((ji49)).toNat * 3)).off + 2, none⟩ = some (.slice A452_2 ((rd_T87 t431 (ji49)).f2).length c452_2) ∧ w'.cell? (ad449.add ((x11_2).toNat * 3)) = some (.int .i64 ((rd_T87 t431 x11_2).f0)) ∧ w'.cell? ⟨(ad449.add ((x11_2).toNat * 3)).block, (ad449.add ((x11_2).toNat * 3)).off + 1, none⟩ = some (.slice A449_1 ((rd_T87 t431 x11_2).f1).length c449_1) ∧ w'.cell? ⟨(ad449.add ((x11_2).toNat * 3)).block, (ad449.add ((x11_2).toNat * 3)).off + 2, none⟩ = some (.slice A449_2 ((rd_T87 t431 x11_2).f2).length c449_2)) (ds := []) zb0_ (by kernel_rfl) rfl rfl ⟨hx449_0, hx449_1, hx449_2, hx450_0, hx450_1, hx450_2, hx452_0, hx452_1, hx452_2, hx453_0, hx453_1, hx453_2⟩ (fun hHeld => ?_); refine with_tabW laws_FnHandovers.tab21 laws_FnHandovers.bits21 (fun HT_ HW_ => ?_)
               generalize wr.drew = w53 at HO_5 HO_6 HO_431003 BK430 HB HL449_1 HL449_2 HL450_1 HL450_2 HL452_1 HL452_2 HL453_1 HL453_2 HR449_1 HR449_2 HR450_1 HR450_2 HR452_1 HR452_2 HR453_1 HR453_2 hx449_0 hx449_1 hx449_2 hx450_0 hx450_1 hx450_2 hx452_0 hx452_1 hx452_2 hx453_0 hx453_1 hx453_2 hHeld ⊢
               refine pu_ 0 (some 69) zb1_ rfl rfl ?_
               refine pu_ 1 (some 70) zb2_ rfl rfl ?_
               refine pu_ 2 (some 71) zb3_ rfl rfl ?_
               refine pu_ 3 (some 72) zb4_ rfl rfl ?_
               refine pu_ 5 (some 74) zb5_ rfl rfl ?_
               refine pu_ 6 (some 75) zb6_ rfl rfl ?_
               refine pu_ 7 (some 76) zb7_ rfl rfl ?_
               refine pu_ 8 (some 77) zb8_ rfl rfl ?_
               refine tk12_ 4 (some 73) zb9_ rfl rfl ?_
               refine tk12_ 9 (some 78) zb10_ rfl rfl ?_
               refine one_ (i := 10) (N := some 79) zb11_ rfl rfl (one_of HT_.out (by kernel_rfl)) (by decide) (fun K hK => ?_)
               refine goes_ Try.func38 (by kernel_rfl) rfl #[.slice A449_1 ((rd_T87 t431 x11_2).f1).length c449_1, .slice A449_2 ((rd_T87 t431 x11_2).f2).length c449_2] (by rfl) rfl rfl (by (try simp only [List.map_toArray, List.map_cons, List.map_nil]); first | done | rfl | (simp only [List.length_drop, List.length_take]; rfl)) ?_
               with_reducible refine (impl_EqualInts.calls k2 _ _ ((rd_T87 t431 x11_2).f1) _ _ ((rd_T87 t431 x11_2).f2) false _ ?side1 ?side2 ?side3 ?side4 A45.out).mono ?_
               (case side1 => repeat (first | exact (by repeat (first | (with_reducible exact HR449_1.out) | (with_reducible refine cA_ ?_ _) | (with_reducible refine cN_ ?_ _) | (with_reducible refine cD_ ?_) | exact HR449_1.out)) | (with_reducible refine cA_ ?_ _) | (with_reducible refine cN_ ?_ _) | (with_reducible refine cD_ ?_)))
               (case side2 => exact HC449_1.out)
               (case side3 => repeat (first | exact (by repeat (first | (with_reducible exact HR450_2.out) | (with_reducible refine cA_ ?_ _) | (with_reducible refine cN_ ?_ _) | (with_reducible refine cD_ ?_) | exact HR450_2.out)) | (with_reducible refine cA_ ?_ _) | (with_reducible refine cN_ ?_ _) | (with_reducible refine cD_ ?_)))
               (case side4 => exact HC450_2.out)
               rintro e w' ⟨rfl, ⟨nd, rfl⟩⟩
               refine ⟨_, rfl, ?_⟩
               refine hK.out _ _ ⟨hHeld.1, hHeld.2.1, hHeld.2.2.1, hHeld.2.2.2.1, hHeld.2.2.2.2.1, hHeld.2.2.2.2.2.1, hHeld.2.2.2.2.2.2.1, hHeld.2.2.2.2.2.2.2.1, hHeld.2.2.2.2.2.2.2.2.1, hHeld.2.2.2.2.2.2.2.2.2.1, hHeld.2.2.2.2.2.2.2.2.2.2.1, hHeld.2.2.2.2.2.2.2.2.2.2.2⟩ (fun hHeld => ?_)
               clear hK K
               refine norm_ (a' := ?_) ?_ ?_
               rotate_left
               ·show Act.put _ (some 79) _ = _
                simp only [Act.put, List.setIfInBounds_toArray, List.set_cons_zero, List.set_cons_succ, i64_w, i32_w]
                rfl
               refine pu_ 11 (some 80) zb12_ rfl rfl ?_
               refine pu_ 12 (some 81) zb13_ rfl rfl ?_
               refine pu_ 13 (some 82) zb14_ rfl rfl ?_
               refine pu_ 14 (some 83) zb15_ rfl rfl ?_
               refine pu_ 15 (some 84) zb16_ rfl rfl ?_
               refine pu_ 16 (some 85) zb17_ rfl rfl ?_
               refine pu_ 17 (some 86) zb18_ rfl rfl ?_
               refine pu_ 18 (some 87) zb19_ rfl rfl ?_
               refine pu_ 19 (some 88) zb20_ rfl rfl ?_
               refine pu_ 21 (some 90) #[true, true, true, true, true, true, true, true, true, true, true, true, true, true, true, true, true, true, true, true, false, true, false, false, false, false, false, false, false, false, false, false, false, false, false, false, false, false, false, false, false, false, false, false] rfl rfl ?_
               refine pu_ 22 (some 91) #[true, true, true, true, true, true, true, true, true, true, true, true, true, true, true, true, true, true, true, true, false, true, true, false, false, false, false, false, false, false, false, false, false, false, false, false, false, false, false, false, false, false, false, false] rfl rfl ?_
               refine pu_ 23 (some 92) #[true, true, true, true, true, true, true, true, true, true, true, true, true, true, true, true, true, true, true, true, false, true, true, true, false, false, false, false, false, false, false, false, false, false, false, false, false, false, false, false, false, false, false, false] rfl rfl ?_
               refine pu_ 24 (some 93) #[true, true, true, true, true, true, true, true, true, true, true, true, true, true, true, true, true, true, true, true, false, true, true, true, true, false, false, false, false, false, false, false, false, false, false, false, false, false, false, false, false, false, false, false] rfl rfl ?_
               refine tk12_ 20 (some 89) zb21_ rfl rfl ?_
               refine tk12_ 25 (some 94) zb22_ rfl rfl ?_
               refine pu_ 26 (some 95) zb23_ rfl rfl ?_
               refine pu_ 27 (some 96) zb24_ rfl rfl ?_
               refine pn_ 28 (some 97) zb25_ rfl rfl ?_
               refine pn_ 29 (some 98) zb26_ rfl rfl ?_
               refine pn_ 30 (some 99) zb27_ rfl rfl ?_
               refine pn_ 31 (some 100) zb28_ rfl rfl ?_
               refine pn_ 32 (some 101) zb29_ rfl rfl ?_
               refine pn_ 33 (some 102) zb30_ rfl rfl ?_
               refine pn_ 34 (some 103) zb31_ rfl rfl ?_
               refine pn_ 35 (some 104) zb32_ rfl rfl ?_
               refine pn_ 36 (some 105) zb33_ rfl rfl ?_
               refine pn_ 37 (some 106) zb34_ rfl rfl ?_
               refine pn_ 38 (some 107) zb35_ rfl rfl ?_
               refine pn_ 39 (some 108) zb36_ rfl rfl ?_
               refine pn_ 40 (some 109) zb37_ rfl rfl ?_
               refine pu_ 41 (some 110) zb38_ rfl rfl ?_
               refine pu_ 42 (some 111) zb39_ rfl rfl ?_
               refine pu_ 43 (some 112) zb40_ rfl rfl ?_
               refine done_ (done_of HT_.out (by kernel_rfl)) ?_
               try go_wp2
               go_meet
               case rel => exact ⟨_, (true), (by first | rfl | (simp; done) | (simp [*]; done)), H', ⟨by have := HK1.out; have := HK2.out; first | omega | exact Nat.le_refl _⟩, ⟨by (with_reducible repeat (first | apply Kd.S_alloc | apply Kd.S_drewN | apply Kd.S_drew)); exact HO_5.out⟩, ⟨by (with_reducible repeat (first | apply rA_ | apply rN_ | apply rD_)); exact HO_6.out⟩, ⟨by (with_reducible repeat (first | apply rA_ | apply rN_ | apply rD_)); exact HO_431003.out⟩, ⟨by (with_reducible repeat (first | refine bN_ ?_ _ | refine bD_ ?_ | refine bA_ ?_ _)); exact BK430.out⟩, ⟨bw_⟩⟩
              ·rw [if_neg c52] at H
               have c52b0 : decide (((rd_T87 t431 x11_2).f0) ≤ ((rd_T87 t431 (ji49)).f0)) = false := decide_eq_false c52
               clear c52
               replace H := Option.bind_eq_some_iff.mp H
               obtain ⟨t456, A540, H⟩ := H
               (try dsimp only at H)
               have A54 := aM_ A540; clear A540
               have H' := aM_ H
               clear H
               try go_wp2
               have n0_ := aM_ (Kd.S_drew HO_5.out); have n1_ := aM_ (rD_ HO_6.out); have n2_ := aM_ (rD_ HO_431003.out); have n3_ := aM_ (bD_ BK430.out); have n4_ := aM_ (wD_ HB.out); clear HO_5 HO_6 HO_431003 BK430 HB; have HO_5 := n0_; have HO_6 := n1_; have HO_431003 := n2_; have BK430 := n3_; have HB := n4_; clear n0_ n1_ n2_ n3_ n4_
               have p449 : 0 ≤ (x11_2 : Int) := dT_
               have q449 : x11_2 < (t431.length : Int) := dT_
               obtain ⟨ad449, A449_1, c449_1, A449_2, c449_2, e449, hx449_0, hx449_1, hx449_2, hl449_1, hi449_1, hl449_2, hi449_2⟩ := at_T87 (Kd.S_reads' HO_5.out).2.2 x11_2 p449 q449
               cases e449
               obtain ⟨ce449, hce449, hMe449, hcc449⟩ := Kd.S_get HO_5.out z87 x11_2 p449 (by first | exact q449 | exact dT_ | (have e_ := (Kd.S_reads' HO_5.out).1; omega))
               obtain ⟨ve449_1, ve449_2, rfl, ge449_1, ge449_2⟩ := k87_openM hMe449
               have hv449_1 := hcc449 1 _ rfl
               rw [add_field _ _ 1 (by omega)] at hv449_1
               replace hv449_1 := Option.some.inj (hv449_1.symm.trans hx449_1)
               rw [hv449_1] at ge449_1
               have HL449_1 := aM_ (show Kd.R (Kd.int .i64) 3 _ _ _ _ ((rd_T87 t431 x11_2).f1) from ge449_1); clear hv449_1 ge449_1; have hv449_2 := hcc449 2 _ rfl
               rw [add_field _ _ 2 (by omega)] at hv449_2
               replace hv449_2 := Option.some.inj (hv449_2.symm.trans hx449_2)
               rw [hv449_2] at ge449_2
               have HL449_2 := aM_ (show Kd.R (Kd.int .i64) 3 _ _ _ _ ((rd_T87 t431 x11_2).f2) from ge449_2); clear hv449_2 ge449_2 hcc449 hce449; have HR449_1 := aM_ hi449_1; have HC449_1 := aM_ hl449_1; clear hi449_1 hl449_1; have HR449_2 := aM_ hi449_2; have HC449_2 := aM_ hl449_2; clear hi449_2 hl449_2; replace p449 := eq_true p449; replace q449 := eq_true q449
               have p450 : 0 ≤ (x11_2 : Int) := dT_
               have q450 : x11_2 < (t431.length : Int) := dT_
               obtain ⟨ad450, A450_1, c450_1, A450_2, c450_2, e450, hx450_0, hx450_1, hx450_2, hl450_1, hi450_1, hl450_2, hi450_2⟩ := at_T87 (Kd.S_reads' HO_5.out).2.2 x11_2 p450 q450
               obtain rfl : ad449 = ad450 := (by injection e450)
               obtain ⟨ce450, hce450, hMe450, hcc450⟩ := Kd.S_get HO_5.out z87 x11_2 p450 (by first | exact q450 | exact dT_ | (have e_ := (Kd.S_reads' HO_5.out).1; omega))
               obtain ⟨ve450_1, ve450_2, rfl, ge450_1, ge450_2⟩ := k87_openM hMe450
               have hv450_1 := hcc450 1 _ rfl
               rw [add_field _ _ 1 (by omega)] at hv450_1
               replace hv450_1 := Option.some.inj (hv450_1.symm.trans hx450_1)
               rw [hv450_1] at ge450_1
               have HL450_1 := aM_ (show Kd.R (Kd.int .i64) 3 _ _ _ _ ((rd_T87 t431 x11_2).f1) from ge450_1); clear hv450_1 ge450_1; have hv450_2 := hcc450 2 _ rfl
               rw [add_field _ _ 2 (by omega)] at hv450_2
               replace hv450_2 := Option.some.inj (hv450_2.symm.trans hx450_2)
               rw [hv450_2] at ge450_2
               have HL450_2 := aM_ (show Kd.R (Kd.int .i64) 3 _ _ _ _ ((rd_T87 t431 x11_2).f2) from ge450_2); clear hv450_2 ge450_2 hcc450 hce450; have HR450_1 := aM_ hi450_1; have HC450_1 := aM_ hl450_1; clear hi450_1 hl450_1; have HR450_2 := aM_ hi450_2; have HC450_2 := aM_ hl450_2; clear hi450_2 hl450_2; replace p450 := eq_true p450; replace q450 := eq_true q450; have ea_ := Option.some.inj (hx449_1.symm.trans hx450_1)
               injection ea_ with ea_ en_ ec_
               subst ea_
               subst ec_
               clear en_; have ea_ := Option.some.inj (hx449_2.symm.trans hx450_2)
               injection ea_ with ea_ en_ ec_
               subst ea_
               subst ec_
               clear en_
               have p452 : 0 ≤ ((ji49) : Int) := dT_
               have q452 : (ji49) < (t431.length : Int) := dT_
               obtain ⟨ad452, A452_1, c452_1, A452_2, c452_2, e452, hx452_0, hx452_1, hx452_2, hl452_1, hi452_1, hl452_2, hi452_2⟩ := at_T87 (Kd.S_reads' HO_5.out).2.2 (ji49) p452 q452
               obtain rfl : ad449 = ad452 := (by injection e452)
               obtain ⟨ce452, hce452, hMe452, hcc452⟩ := Kd.S_get HO_5.out z87 (ji49) p452 (by first | exact q452 | exact dT_ | (have e_ := (Kd.S_reads' HO_5.out).1; omega))
               obtain ⟨ve452_1, ve452_2, rfl, ge452_1, ge452_2⟩ := k87_openM hMe452
               have hv452_1 := hcc452 1 _ rfl
               rw [add_field _ _ 1 (by omega)] at hv452_1
               replace hv452_1 := Option.some.inj (hv452_1.symm.trans hx452_1)
               rw [hv452_1] at ge452_1
               have HL452_1 := aM_ (show Kd.R (Kd.int .i64) 3 _ _ _ _ ((rd_T87 t431 (ji49)).f1) from ge452_1); clear hv452_1 ge452_1; have hv452_2 := hcc452 2 _ rfl
               rw [add_field _ _ 2 (by omega)] at hv452_2
               replace hv452_2 := Option.some.inj (hv452_2.symm.trans hx452_2)
               rw [hv452_2] at ge452_2
               have HL452_2 := aM_ (show Kd.R (Kd.int .i64) 3 _ _ _ _ ((rd_T87 t431 (ji49)).f2) from ge452_2); clear hv452_2 ge452_2 hcc452 hce452; have HR452_1 := aM_ hi452_1; have HC452_1 := aM_ hl452_1; clear hi452_1 hl452_1; have HR452_2 := aM_ hi452_2; have HC452_2 := aM_ hl452_2; clear hi452_2 hl452_2; replace p452 := eq_true p452; replace q452 := eq_true q452
               have p453 : 0 ≤ (x11_2 : Int) := dT_
               have q453 : x11_2 < (t431.length : Int) := dT_
               obtain ⟨ad453, A453_1, c453_1, A453_2, c453_2, e453, hx453_0, hx453_1, hx453_2, hl453_1, hi453_1, hl453_2, hi453_2⟩ := at_T87 (Kd.S_reads' HO_5.out).2.2 x11_2 p453 q453
               obtain rfl : ad449 = ad453 := (by injection e453)
               obtain ⟨ce453, hce453, hMe453, hcc453⟩ := Kd.S_get HO_5.out z87 x11_2 p453 (by first | exact q453 | exact dT_ | (have e_ := (Kd.S_reads' HO_5.out).1; omega))
               obtain ⟨ve453_1, ve453_2, rfl, ge453_1, ge453_2⟩ := k87_openM hMe453
               have hv453_1 := hcc453 1 _ rfl
               rw [add_field _ _ 1 (by omega)] at hv453_1
               replace hv453_1 := Option.some.inj (hv453_1.symm.trans hx453_1)
               rw [hv453_1] at ge453_1
               have HL453_1 := aM_ (show Kd.R (Kd.int .i64) 3 _ _ _ _ ((rd_T87 t431 x11_2).f1) from ge453_1); clear hv453_1 ge453_1; have hv453_2 := hcc453 2 _ rfl
               rw [add_field _ _ 2 (by omega)] at hv453_2
               replace hv453_2 := Option.some.inj (hv453_2.symm.trans hx453_2)
               rw [hv453_2] at ge453_2
               have HL453_2 := aM_ (show Kd.R (Kd.int .i64) 3 _ _ _ _ ((rd_T87 t431 x11_2).f2) from ge453_2); clear hv453_2 ge453_2 hcc453 hce453; have HR453_1 := aM_ hi453_1; have HC453_1 := aM_ hl453_1; clear hi453_1 hl453_1; have HR453_2 := aM_ hi453_2; have HC453_2 := aM_ hl453_2; clear hi453_2 hl453_2; replace p453 := eq_true p453; replace q453 := eq_true q453; have ea_ := Option.some.inj (hx449_1.symm.trans hx453_1)
               injection ea_ with ea_ en_ ec_
               subst ea_
               subst ec_
               clear en_; have ea_ := Option.some.inj (hx449_2.symm.trans hx453_2)
               injection ea_ with ea_ en_ ec_
               subst ea_
               subst ec_
               clear en_
               have p454 : 0 ≤ ((ji49) : Int) := dT_
               have q454 : (ji49) < (t431.length : Int) := dT_
               obtain ⟨ad454, A454_1, c454_1, A454_2, c454_2, e454, hx454_0, hx454_1, hx454_2, hl454_1, hi454_1, hl454_2, hi454_2⟩ := at_T87 (Kd.S_reads' HO_5.out).2.2 (ji49) p454 q454
               obtain rfl : ad449 = ad454 := (by injection e454)
               obtain ⟨ce454, hce454, hMe454, hcc454⟩ := Kd.S_get HO_5.out z87 (ji49) p454 (by first | exact q454 | exact dT_ | (have e_ := (Kd.S_reads' HO_5.out).1; omega))
               obtain ⟨ve454_1, ve454_2, rfl, ge454_1, ge454_2⟩ := k87_openM hMe454
               have hv454_1 := hcc454 1 _ rfl
               rw [add_field _ _ 1 (by omega)] at hv454_1
               replace hv454_1 := Option.some.inj (hv454_1.symm.trans hx454_1)
               rw [hv454_1] at ge454_1
               have HL454_1 := aM_ (show Kd.R (Kd.int .i64) 3 _ _ _ _ ((rd_T87 t431 (ji49)).f1) from ge454_1); clear hv454_1 ge454_1; have hv454_2 := hcc454 2 _ rfl
               rw [add_field _ _ 2 (by omega)] at hv454_2
               replace hv454_2 := Option.some.inj (hv454_2.symm.trans hx454_2)
               rw [hv454_2] at ge454_2
               have HL454_2 := aM_ (show Kd.R (Kd.int .i64) 3 _ _ _ _ ((rd_T87 t431 (ji49)).f2) from ge454_2); clear hv454_2 ge454_2 hcc454 hce454; have HR454_1 := aM_ hi454_1; have HC454_1 := aM_ hl454_1; clear hi454_1 hl454_1; have HR454_2 := aM_ hi454_2; have HC454_2 := aM_ hl454_2; clear hi454_2 hl454_2; replace p454 := eq_true p454; replace q454 := eq_true q454; have ea_ := Option.some.inj (hx452_1.symm.trans hx454_1)
               injection ea_ with ea_ en_ ec_
               subst ea_
               subst ec_
               clear en_; have ea_ := Option.some.inj (hx452_2.symm.trans hx454_2)
               injection ea_ with ea_ en_ ec_
               subst ea_
               subst ec_
               clear en_
               have p455 : 0 ≤ (x11_2 : Int) := dT_
               have q455 : x11_2 < (t431.length : Int) := dT_
               obtain ⟨ad455, A455_1, c455_1, A455_2, c455_2, e455, hx455_0, hx455_1, hx455_2, hl455_1, hi455_1, hl455_2, hi455_2⟩ := at_T87 (Kd.S_reads' HO_5.out).2.2 x11_2 p455 q455
               obtain rfl : ad449 = ad455 := (by injection e455)
               obtain ⟨ce455, hce455, hMe455, hcc455⟩ := Kd.S_get HO_5.out z87 x11_2 p455 (by first | exact q455 | exact dT_ | (have e_ := (Kd.S_reads' HO_5.out).1; omega))
               obtain ⟨ve455_1, ve455_2, rfl, ge455_1, ge455_2⟩ := k87_openM hMe455
               have hv455_1 := hcc455 1 _ rfl
               rw [add_field _ _ 1 (by omega)] at hv455_1
               replace hv455_1 := Option.some.inj (hv455_1.symm.trans hx455_1)
               rw [hv455_1] at ge455_1
               have HL455_1 := aM_ (show Kd.R (Kd.int .i64) 3 _ _ _ _ ((rd_T87 t431 x11_2).f1) from ge455_1); clear hv455_1 ge455_1; have hv455_2 := hcc455 2 _ rfl
               rw [add_field _ _ 2 (by omega)] at hv455_2
               replace hv455_2 := Option.some.inj (hv455_2.symm.trans hx455_2)
               rw [hv455_2] at ge455_2
               have HL455_2 := aM_ (show Kd.R (Kd.int .i64) 3 _ _ _ _ ((rd_T87 t431 x11_2).f2) from ge455_2); clear hv455_2 ge455_2 hcc455 hce455; have HR455_1 := aM_ hi455_1; have HC455_1 := aM_ hl455_1; clear hi455_1 hl455_1; have HR455_2 := aM_ hi455_2; have HC455_2 := aM_ hl455_2; clear hi455_2 hl455_2; replace p455 := eq_true p455; replace q455 := eq_true q455; have ea_ := Option.some.inj (hx449_1.symm.trans hx455_1)
               injection ea_ with ea_ en_ ec_
               subst ea_
               subst ec_
               clear en_; have ea_ := Option.some.inj (hx449_2.symm.trans hx455_2)
               injection ea_ with ea_ en_ ec_
               subst ea_
               subst ec_
               clear en_
               refine start_ (n := 44) (S := fun w' => w'.cell? (ad449.add ((x11_2).toNat * 3)) = some (.int .i64 ((rd_T87 t431 x11_2).f0)) ∧ w'.cell? ⟨(ad449.add ((x11_2).toNat * 3)).block, (ad449.add ((x11_2).toNat * 3)).off + 1, none⟩ = some (.slice A449_1 ((rd_T87 t431 x11_2).f1).length c449_1) ∧ w'.cell? ⟨(ad449.add ((x11_2).toNat * 3)).block, (ad449.add ((x11_2).toNat * 3)).off + 2, none⟩ = some (.slice A449_2 ((rd_T87 t431 x11_2).f2).length c449_2) ∧ w'.cell? (ad449.add ((x11_2).toNat * 3)) = some (.int .i64 ((rd_T87 t431 x11_2).f0)) ∧ w'.cell? ⟨(ad449.add ((x11_2).toNat * 3)).block, (ad449.add ((x11_2).toNat * 3)).off + 1, none⟩ = some (.slice A449_1 ((rd_T87 t431 x11_2).f1).length c449_1) ∧ w'.cell? ⟨(ad449.add ((x11_2).toNat * 3)).block, (ad449.add ((x11_2).toNat * 3)).off + 2, none⟩ = some (.slice A449_2 ((rd_T87 t431 x11_2).f2).length c449_2) ∧ w'.cell? (ad449.add (((ji49)).toNat * 3)) = some (.int .i64 ((rd_T87 t431 (ji49)).f0)) ∧ w'.cell? ⟨(ad449.add (((ji49)).toNat * 3)).block, (ad449.add (((ji49)).toNat * 3)).off + 1, none⟩ = some (.slice A452_1 ((rd_T87 t431 (ji49)).f1).length c452_1) ∧ w'.cell? ⟨(ad449.add (((ji49)).toNat * 3)).block, (ad449.add (((ji49)).toNat * 3)).off + 2, none⟩ = some (.slice A452_2 ((rd_T87 t431 (ji49)).f2).length c452_2) ∧ w'.cell? (ad449.add ((x11_2).toNat * 3)) = some (.int .i64 ((rd_T87 t431 x11_2).f0)) ∧ w'.cell? ⟨(ad449.add ((x11_2).toNat * 3)).block, (ad449.add ((x11_2).toNat * 3)).off + 1, none⟩ = some (.slice A449_1 ((rd_T87 t431 x11_2).f1).length c449_1) ∧ w'.cell? ⟨(ad449.add ((x11_2).toNat * 3)).block, (ad449.add ((x11_2).toNat * 3)).off + 2, none⟩ = some (.slice A449_2 ((rd_T87 t431 x11_2).f2).length c449_2) ∧ w'.cell? (ad449.add (((ji49)).toNat * 3)) = some (.int .i64 ((rd_T87 t431 (ji49)).f0)) ∧ w'.cell? ⟨(ad449.add (((ji49)).toNat * 3)).block, (ad449.add (((ji49)).toNat * 3)).off + 1, none⟩ = some (.slice A452_1 ((rd_T87 t431 (ji49)).f1).length c452_1) ∧ w'.cell? ⟨(ad449.add (((ji49)).toNat * 3)).block, (ad449.add (((ji49)).toNat * 3)).off + 2, none⟩ = some (.slice A452_2 ((rd_T87 t431 (ji49)).f2).length c452_2) ∧ w'.cell? (ad449.add ((x11_2).toNat * 3)) = some (.int .i64 ((rd_T87 t431 x11_2).f0)) ∧ w'.cell? ⟨(ad449.add ((x11_2).toNat * 3)).block, (ad449.add ((x11_2).toNat * 3)).off + 1, none⟩ = some (.slice A449_1 ((rd_T87 t431 x11_2).f1).length c449_1) ∧ w'.cell? ⟨(ad449.add ((x11_2).toNat * 3)).block, (ad449.add ((x11_2).toNat * 3)).off + 2, none⟩ = some (.slice A449_2 ((rd_T87 t431 x11_2).f2).length c449_2)) (ds := []) zb0_ (by kernel_rfl) rfl rfl ⟨hx449_0, hx449_1, hx449_2, hx450_0, hx450_1, hx450_2, hx452_0, hx452_1, hx452_2, hx453_0, hx453_1, hx453_2, hx454_0, hx454_1, hx454_2, hx455_0, hx455_1, hx455_2⟩ (fun hHeld => ?_); refine with_tabW laws_FnHandovers.tab21 laws_FnHandovers.bits21 (fun HT_ HW_ => ?_)
               generalize wr.drew = w55 at HO_5 HO_6 HO_431003 BK430 HB HL449_1 HL449_2 HL450_1 HL450_2 HL452_1 HL452_2 HL453_1 HL453_2 HL454_1 HL454_2 HL455_1 HL455_2 HR449_1 HR449_2 HR450_1 HR450_2 HR452_1 HR452_2 HR453_1 HR453_2 HR454_1 HR454_2 HR455_1 HR455_2 hx449_0 hx449_1 hx449_2 hx450_0 hx450_1 hx450_2 hx452_0 hx452_1 hx452_2 hx453_0 hx453_1 hx453_2 hx454_0 hx454_1 hx454_2 hx455_0 hx455_1 hx455_2 hHeld ⊢
               refine pu_ 0 (some 69) zb1_ rfl rfl ?_
               refine pu_ 1 (some 70) zb2_ rfl rfl ?_
               refine pu_ 2 (some 71) zb3_ rfl rfl ?_
               refine pu_ 3 (some 72) zb4_ rfl rfl ?_
               refine pu_ 5 (some 74) zb5_ rfl rfl ?_
               refine pu_ 6 (some 75) zb6_ rfl rfl ?_
               refine pu_ 7 (some 76) zb7_ rfl rfl ?_
               refine pu_ 8 (some 77) zb8_ rfl rfl ?_
               refine tk18_ 4 (some 73) zb9_ rfl rfl ?_
               refine tk18_ 9 (some 78) zb10_ rfl rfl ?_
               refine one_ (i := 10) (N := some 79) zb11_ rfl rfl (one_of HT_.out (by kernel_rfl)) (by decide) (fun K hK => ?_)
               refine goes_ Try.func38 (by kernel_rfl) rfl #[.slice A449_1 ((rd_T87 t431 x11_2).f1).length c449_1, .slice A449_2 ((rd_T87 t431 x11_2).f2).length c449_2] (by rfl) rfl rfl (by (try simp only [List.map_toArray, List.map_cons, List.map_nil]); first | done | rfl | (simp only [List.length_drop, List.length_take]; rfl)) ?_
               with_reducible refine (impl_EqualInts.calls k2 _ _ ((rd_T87 t431 x11_2).f1) _ _ ((rd_T87 t431 x11_2).f2) false _ ?side1 ?side2 ?side3 ?side4 A45.out).mono ?_
               (case side1 => repeat (first | exact (by repeat (first | (with_reducible exact HR449_1.out) | (with_reducible refine cA_ ?_ _) | (with_reducible refine cN_ ?_ _) | (with_reducible refine cD_ ?_) | exact HR449_1.out)) | (with_reducible refine cA_ ?_ _) | (with_reducible refine cN_ ?_ _) | (with_reducible refine cD_ ?_)))
               (case side2 => exact HC449_1.out)
               (case side3 => repeat (first | exact (by repeat (first | (with_reducible exact HR450_2.out) | (with_reducible refine cA_ ?_ _) | (with_reducible refine cN_ ?_ _) | (with_reducible refine cD_ ?_) | exact HR450_2.out)) | (with_reducible refine cA_ ?_ _) | (with_reducible refine cN_ ?_ _) | (with_reducible refine cD_ ?_)))
               (case side4 => exact HC450_2.out)
               rintro e w' ⟨rfl, ⟨nd, rfl⟩⟩
               refine ⟨_, rfl, ?_⟩
               refine hK.out _ _ ⟨hHeld.1, hHeld.2.1, hHeld.2.2.1, hHeld.2.2.2.1, hHeld.2.2.2.2.1, hHeld.2.2.2.2.2.1, hHeld.2.2.2.2.2.2.1, hHeld.2.2.2.2.2.2.2.1, hHeld.2.2.2.2.2.2.2.2.1, hHeld.2.2.2.2.2.2.2.2.2.1, hHeld.2.2.2.2.2.2.2.2.2.2.1, hHeld.2.2.2.2.2.2.2.2.2.2.2.1, hHeld.2.2.2.2.2.2.2.2.2.2.2.2.1, hHeld.2.2.2.2.2.2.2.2.2.2.2.2.2.1, hHeld.2.2.2.2.2.2.2.2.2.2.2.2.2.2.1, hHeld.2.2.2.2.2.2.2.2.2.2.2.2.2.2.2.1, hHeld.2.2.2.2.2.2.2.2.2.2.2.2.2.2.2.2.1, hHeld.2.2.2.2.2.2.2.2.2.2.2.2.2.2.2.2.2⟩ (fun hHeld => ?_)
               clear hK K
               refine norm_ (a' := ?_) ?_ ?_
               rotate_left
               ·show Act.put _ (some 79) _ = _
                simp only [Act.put, List.setIfInBounds_toArray, List.set_cons_zero, List.set_cons_succ, i64_w, i32_w]
                rfl
               refine pu_ 11 (some 80) zb12_ rfl rfl ?_
               refine pu_ 12 (some 81) zb13_ rfl rfl ?_
               refine pu_ 13 (some 82) zb14_ rfl rfl ?_
               refine pu_ 14 (some 83) zb15_ rfl rfl ?_
               refine pu_ 15 (some 84) zb16_ rfl rfl ?_
               refine pu_ 16 (some 85) zb17_ rfl rfl ?_
               refine pu_ 17 (some 86) zb18_ rfl rfl ?_
               refine pu_ 18 (some 87) zb19_ rfl rfl ?_
               refine pu_ 19 (some 88) zb20_ rfl rfl ?_
               refine pu_ 21 (some 90) #[true, true, true, true, true, true, true, true, true, true, true, true, true, true, true, true, true, true, true, true, false, true, false, false, false, false, false, false, false, false, false, false, false, false, false, false, false, false, false, false, false, false, false, false] rfl rfl ?_
               refine pu_ 22 (some 91) #[true, true, true, true, true, true, true, true, true, true, true, true, true, true, true, true, true, true, true, true, false, true, true, false, false, false, false, false, false, false, false, false, false, false, false, false, false, false, false, false, false, false, false, false] rfl rfl ?_
               refine pu_ 23 (some 92) #[true, true, true, true, true, true, true, true, true, true, true, true, true, true, true, true, true, true, true, true, false, true, true, true, false, false, false, false, false, false, false, false, false, false, false, false, false, false, false, false, false, false, false, false] rfl rfl ?_
               refine pu_ 24 (some 93) #[true, true, true, true, true, true, true, true, true, true, true, true, true, true, true, true, true, true, true, true, false, true, true, true, true, false, false, false, false, false, false, false, false, false, false, false, false, false, false, false, false, false, false, false] rfl rfl ?_
               refine tk18_ 20 (some 89) zb21_ rfl rfl ?_
               refine tk18_ 25 (some 94) zb22_ rfl rfl ?_
               refine pu_ 26 (some 95) zb23_ rfl rfl ?_
               refine pu_ 27 (some 96) zb24_ rfl rfl ?_
               refine pu_ 28 (some 97) zb25_ rfl rfl ?_
               refine pu_ 29 (some 98) zb26_ rfl rfl ?_
               refine pu_ 30 (some 99) zb27_ rfl rfl ?_
               refine pu_ 31 (some 100) zb28_ rfl rfl ?_
               refine pu_ 32 (some 101) zb29_ rfl rfl ?_
               refine pu_ 34 (some 103) #[true, true, true, true, true, true, true, true, true, true, true, true, true, true, true, true, true, true, true, true, true, true, true, true, true, true, true, true, true, true, true, true, true, false, true, false, false, false, false, false, false, false, false, false] rfl rfl ?_
               refine pu_ 35 (some 104) #[true, true, true, true, true, true, true, true, true, true, true, true, true, true, true, true, true, true, true, true, true, true, true, true, true, true, true, true, true, true, true, true, true, false, true, true, false, false, false, false, false, false, false, false] rfl rfl ?_
               refine pu_ 36 (some 105) #[true, true, true, true, true, true, true, true, true, true, true, true, true, true, true, true, true, true, true, true, true, true, true, true, true, true, true, true, true, true, true, true, true, false, true, true, true, false, false, false, false, false, false, false] rfl rfl ?_
               refine pu_ 37 (some 106) #[true, true, true, true, true, true, true, true, true, true, true, true, true, true, true, true, true, true, true, true, true, true, true, true, true, true, true, true, true, true, true, true, true, false, true, true, true, true, false, false, false, false, false, false] rfl rfl ?_
               refine tk18_ 33 (some 102) zb34_ rfl rfl ?_
               refine tk18_ 38 (some 107) zb35_ rfl rfl ?_
               refine one_ (i := 39) (N := some 108) zb36_ rfl rfl (one_of HT_.out (by kernel_rfl)) (by decide) (fun K hK => ?_)
               refine goes_ Try.func38 (by kernel_rfl) rfl #[.slice A452_2 ((rd_T87 t431 (ji49)).f2).length c452_2, .slice A449_1 ((rd_T87 t431 x11_2).f1).length c449_1] (by rfl) rfl rfl (by (try simp only [List.map_toArray, List.map_cons, List.map_nil]); first | done | (simp only [hji49]; rfl) | rfl | (simp only [List.length_drop, List.length_take]; rfl)) ?_
               with_reducible refine (impl_EqualInts.calls k2 _ _ ((rd_T87 t431 (ji49)).f2) _ _ ((rd_T87 t431 x11_2).f1) t456 _ ?side1 ?side2 ?side3 ?side4 A54.out).mono ?_
               (case side1 => repeat (first | exact (by repeat (first | (with_reducible exact HR454_2.out) | (with_reducible refine cA_ ?_ _) | (with_reducible refine cN_ ?_ _) | (with_reducible refine cD_ ?_) | exact HR454_2.out)) | (with_reducible refine cA_ ?_ _) | (with_reducible refine cN_ ?_ _) | (with_reducible refine cD_ ?_)))
               (case side2 => exact HC454_2.out)
               (case side3 => repeat (first | exact (by repeat (first | (with_reducible exact HR455_1.out) | (with_reducible refine cA_ ?_ _) | (with_reducible refine cN_ ?_ _) | (with_reducible refine cD_ ?_) | exact HR455_1.out)) | (with_reducible refine cA_ ?_ _) | (with_reducible refine cN_ ?_ _) | (with_reducible refine cD_ ?_)))
               (case side4 => exact HC455_1.out)
               rintro e w' ⟨rfl, ⟨nd, rfl⟩⟩
               refine ⟨_, rfl, ?_⟩
               refine hK.out _ _ ⟨hHeld.1, hHeld.2.1, hHeld.2.2.1, hHeld.2.2.2.1, hHeld.2.2.2.2.1, hHeld.2.2.2.2.2.1, hHeld.2.2.2.2.2.2.1, hHeld.2.2.2.2.2.2.2.1, hHeld.2.2.2.2.2.2.2.2.1, hHeld.2.2.2.2.2.2.2.2.2.1, hHeld.2.2.2.2.2.2.2.2.2.2.1, hHeld.2.2.2.2.2.2.2.2.2.2.2.1, hHeld.2.2.2.2.2.2.2.2.2.2.2.2.1, hHeld.2.2.2.2.2.2.2.2.2.2.2.2.2.1, hHeld.2.2.2.2.2.2.2.2.2.2.2.2.2.2.1, hHeld.2.2.2.2.2.2.2.2.2.2.2.2.2.2.2.1, hHeld.2.2.2.2.2.2.2.2.2.2.2.2.2.2.2.2.1, hHeld.2.2.2.2.2.2.2.2.2.2.2.2.2.2.2.2.2⟩ (fun hHeld => ?_)
               clear hK K
               refine norm_ (a' := ?_) ?_ ?_
               rotate_left
               ·show Act.put _ (some 108) _ = _
                simp only [Act.put, List.setIfInBounds_toArray, List.set_cons_zero, List.set_cons_succ, i64_w, i32_w]
                rfl
               refine pu_ 40 (some 109) zb37_ rfl rfl ?_
               refine pu_ 41 (some 110) zb38_ rfl rfl ?_
               refine pu_ 42 (some 111) zb39_ rfl rfl ?_
               refine pu_ 43 (some 112) zb40_ rfl rfl ?_
               refine done_ (done_of HT_.out (by kernel_rfl)) ?_
               try go_wp2
               go_meet
               case rel => exact ⟨_, (!t456), (by first | rfl | (simp; done) | (simp [*]; done)), H', ⟨by have := HK1.out; have := HK2.out; first | omega | exact Nat.le_refl _⟩, ⟨by (with_reducible repeat (first | apply Kd.S_alloc | apply Kd.S_drewN | apply Kd.S_drew)); exact HO_5.out⟩, ⟨by (with_reducible repeat (first | apply rA_ | apply rN_ | apply rD_)); exact HO_6.out⟩, ⟨by (with_reducible repeat (first | apply rA_ | apply rN_ | apply rD_)); exact HO_431003.out⟩, ⟨by (with_reducible repeat (first | refine bN_ ?_ _ | refine bD_ ?_ | refine bA_ ?_ _)); exact BK430.out⟩, ⟨bw_⟩⟩
             ·rw [if_neg c51] at H
              exact absurd H (by simp)
            ·rw [if_neg c50] at H
             exact absurd H (by simp)
           ·rw [if_neg c48] at H
            have c48b0 : decide (0 < x11_2) = false := decide_eq_false c48
            clear c48
            have H' := aM_ H
            clear H
            try go_wp2
            have n0_ := aM_ (Kd.S_drew HO_5.out); have n1_ := aM_ (rD_ HO_6.out); have n2_ := aM_ (rD_ HO_431003.out); have n3_ := aM_ (bD_ BK430.out); have n4_ := aM_ (wD_ HB.out); clear HO_5 HO_6 HO_431003 BK430 HB; have HO_5 := n0_; have HO_6 := n1_; have HO_431003 := n2_; have BK430 := n3_; have HB := n4_; clear n0_ n1_ n2_ n3_ n4_
            have p449 : 0 ≤ (x11_2 : Int) := dT_
            have q449 : x11_2 < (t431.length : Int) := dT_
            obtain ⟨ad449, A449_1, c449_1, A449_2, c449_2, e449, hx449_0, hx449_1, hx449_2, hl449_1, hi449_1, hl449_2, hi449_2⟩ := at_T87 (Kd.S_reads' HO_5.out).2.2 x11_2 p449 q449
            cases e449
            obtain ⟨ce449, hce449, hMe449, hcc449⟩ := Kd.S_get HO_5.out z87 x11_2 p449 (by first | exact q449 | exact dT_ | (have e_ := (Kd.S_reads' HO_5.out).1; omega))
            obtain ⟨ve449_1, ve449_2, rfl, ge449_1, ge449_2⟩ := k87_openM hMe449
            have hv449_1 := hcc449 1 _ rfl
            rw [add_field _ _ 1 (by omega)] at hv449_1
            replace hv449_1 := Option.some.inj (hv449_1.symm.trans hx449_1)
            rw [hv449_1] at ge449_1
            have HL449_1 := aM_ (show Kd.R (Kd.int .i64) 3 _ _ _ _ ((rd_T87 t431 x11_2).f1) from ge449_1); clear hv449_1 ge449_1; have hv449_2 := hcc449 2 _ rfl
            rw [add_field _ _ 2 (by omega)] at hv449_2
            replace hv449_2 := Option.some.inj (hv449_2.symm.trans hx449_2)
            rw [hv449_2] at ge449_2
            have HL449_2 := aM_ (show Kd.R (Kd.int .i64) 3 _ _ _ _ ((rd_T87 t431 x11_2).f2) from ge449_2); clear hv449_2 ge449_2 hcc449 hce449; have HR449_1 := aM_ hi449_1; have HC449_1 := aM_ hl449_1; clear hi449_1 hl449_1; have HR449_2 := aM_ hi449_2; have HC449_2 := aM_ hl449_2; clear hi449_2 hl449_2; replace p449 := eq_true p449; replace q449 := eq_true q449
            have p450 : 0 ≤ (x11_2 : Int) := dT_
            have q450 : x11_2 < (t431.length : Int) := dT_
            obtain ⟨ad450, A450_1, c450_1, A450_2, c450_2, e450, hx450_0, hx450_1, hx450_2, hl450_1, hi450_1, hl450_2, hi450_2⟩ := at_T87 (Kd.S_reads' HO_5.out).2.2 x11_2 p450 q450
            obtain rfl : ad449 = ad450 := (by injection e450)
            obtain ⟨ce450, hce450, hMe450, hcc450⟩ := Kd.S_get HO_5.out z87 x11_2 p450 (by first | exact q450 | exact dT_ | (have e_ := (Kd.S_reads' HO_5.out).1; omega))
            obtain ⟨ve450_1, ve450_2, rfl, ge450_1, ge450_2⟩ := k87_openM hMe450
            have hv450_1 := hcc450 1 _ rfl
            rw [add_field _ _ 1 (by omega)] at hv450_1
            replace hv450_1 := Option.some.inj (hv450_1.symm.trans hx450_1)
            rw [hv450_1] at ge450_1
            have HL450_1 := aM_ (show Kd.R (Kd.int .i64) 3 _ _ _ _ ((rd_T87 t431 x11_2).f1) from ge450_1); clear hv450_1 ge450_1; have hv450_2 := hcc450 2 _ rfl
            rw [add_field _ _ 2 (by omega)] at hv450_2
            replace hv450_2 := Option.some.inj (hv450_2.symm.trans hx450_2)
            rw [hv450_2] at ge450_2
            have HL450_2 := aM_ (show Kd.R (Kd.int .i64) 3 _ _ _ _ ((rd_T87 t431 x11_2).f2) from ge450_2); clear hv450_2 ge450_2 hcc450 hce450; have HR450_1 := aM_ hi450_1; have HC450_1 := aM_ hl450_1; clear hi450_1 hl450_1; have HR450_2 := aM_ hi450_2; have HC450_2 := aM_ hl450_2; clear hi450_2 hl450_2; replace p450 := eq_true p450; replace q450 := eq_true q450; have ea_ := Option.some.inj (hx449_1.symm.trans hx450_1)
            injection ea_ with ea_ en_ ec_
            subst ea_
            subst ec_
            clear en_; have ea_ := Option.some.inj (hx449_2.symm.trans hx450_2)
            injection ea_ with ea_ en_ ec_
            subst ea_
            subst ec_
            clear en_
            refine start_ (n := 44) (S := fun w' => w'.cell? (ad449.add ((x11_2).toNat * 3)) = some (.int .i64 ((rd_T87 t431 x11_2).f0)) ∧ w'.cell? ⟨(ad449.add ((x11_2).toNat * 3)).block, (ad449.add ((x11_2).toNat * 3)).off + 1, none⟩ = some (.slice A449_1 ((rd_T87 t431 x11_2).f1).length c449_1) ∧ w'.cell? ⟨(ad449.add ((x11_2).toNat * 3)).block, (ad449.add ((x11_2).toNat * 3)).off + 2, none⟩ = some (.slice A449_2 ((rd_T87 t431 x11_2).f2).length c449_2) ∧ w'.cell? (ad449.add ((x11_2).toNat * 3)) = some (.int .i64 ((rd_T87 t431 x11_2).f0)) ∧ w'.cell? ⟨(ad449.add ((x11_2).toNat * 3)).block, (ad449.add ((x11_2).toNat * 3)).off + 1, none⟩ = some (.slice A449_1 ((rd_T87 t431 x11_2).f1).length c449_1) ∧ w'.cell? ⟨(ad449.add ((x11_2).toNat * 3)).block, (ad449.add ((x11_2).toNat * 3)).off + 2, none⟩ = some (.slice A449_2 ((rd_T87 t431 x11_2).f2).length c449_2)) (ds := []) zb0_ (by kernel_rfl) rfl rfl ⟨hx449_0, hx449_1, hx449_2, hx450_0, hx450_1, hx450_2⟩ (fun hHeld => ?_); refine with_tabW laws_FnHandovers.tab21 laws_FnHandovers.bits21 (fun HT_ HW_ => ?_)
            generalize wr.drew = w56 at HO_5 HO_6 HO_431003 BK430 HB HL449_1 HL449_2 HL450_1 HL450_2 HR449_1 HR449_2 HR450_1 HR450_2 hx449_0 hx449_1 hx449_2 hx450_0 hx450_1 hx450_2 hHeld ⊢
            refine pu_ 0 (some 69) zb1_ rfl rfl ?_
            refine pu_ 1 (some 70) zb2_ rfl rfl ?_
            refine pu_ 2 (some 71) zb3_ rfl rfl ?_
            refine pu_ 3 (some 72) zb4_ rfl rfl ?_
            refine pu_ 5 (some 74) zb5_ rfl rfl ?_
            refine pu_ 6 (some 75) zb6_ rfl rfl ?_
            refine pu_ 7 (some 76) zb7_ rfl rfl ?_
            refine pu_ 8 (some 77) zb8_ rfl rfl ?_
            refine tk6_ 4 (some 73) zb9_ rfl rfl ?_
            refine tk6_ 9 (some 78) zb10_ rfl rfl ?_
            refine one_ (i := 10) (N := some 79) zb11_ rfl rfl (one_of HT_.out (by kernel_rfl)) (by decide) (fun K hK => ?_)
            refine goes_ Try.func38 (by kernel_rfl) rfl #[.slice A449_1 ((rd_T87 t431 x11_2).f1).length c449_1, .slice A449_2 ((rd_T87 t431 x11_2).f2).length c449_2] (by rfl) rfl rfl (by (try simp only [List.map_toArray, List.map_cons, List.map_nil]); first | done | rfl | (simp only [List.length_drop, List.length_take]; rfl)) ?_
            with_reducible refine (impl_EqualInts.calls k2 _ _ ((rd_T87 t431 x11_2).f1) _ _ ((rd_T87 t431 x11_2).f2) false _ ?side1 ?side2 ?side3 ?side4 A45.out).mono ?_
            (case side1 => repeat (first | exact (by repeat (first | (with_reducible exact HR449_1.out) | (with_reducible refine cA_ ?_ _) | (with_reducible refine cN_ ?_ _) | (with_reducible refine cD_ ?_) | exact HR449_1.out)) | (with_reducible refine cA_ ?_ _) | (with_reducible refine cN_ ?_ _) | (with_reducible refine cD_ ?_)))
            (case side2 => exact HC449_1.out)
            (case side3 => repeat (first | exact (by repeat (first | (with_reducible exact HR450_2.out) | (with_reducible refine cA_ ?_ _) | (with_reducible refine cN_ ?_ _) | (with_reducible refine cD_ ?_) | exact HR450_2.out)) | (with_reducible refine cA_ ?_ _) | (with_reducible refine cN_ ?_ _) | (with_reducible refine cD_ ?_)))
            (case side4 => exact HC450_2.out)
            rintro e w' ⟨rfl, ⟨nd, rfl⟩⟩
            refine ⟨_, rfl, ?_⟩
            refine hK.out _ _ ⟨hHeld.1, hHeld.2.1, hHeld.2.2.1, hHeld.2.2.2.1, hHeld.2.2.2.2.1, hHeld.2.2.2.2.2⟩ (fun hHeld => ?_)
            clear hK K
            refine norm_ (a' := ?_) ?_ ?_
            rotate_left
            ·show Act.put _ (some 79) _ = _
             simp only [Act.put, List.setIfInBounds_toArray, List.set_cons_zero, List.set_cons_succ, i64_w, i32_w]
             rfl
            refine pu_ 11 (some 80) zb12_ rfl rfl ?_
            refine pu_ 12 (some 81) zb13_ rfl rfl ?_
            refine pu_ 13 (some 82) zb14_ rfl rfl ?_
            refine pu_ 14 (some 83) zb15_ rfl rfl ?_
            refine pn_ 15 (some 84) zb16_ rfl rfl ?_
            refine pn_ 16 (some 85) zb17_ rfl rfl ?_
            refine pn_ 17 (some 86) zb18_ rfl rfl ?_
            refine pn_ 18 (some 87) zb19_ rfl rfl ?_
            refine pn_ 19 (some 88) zb20_ rfl rfl ?_
            refine pn_ 20 (some 89) #[true, true, true, true, true, true, true, true, true, true, true, true, true, true, true, true, true, true, true, true, true, false, false, false, false, false, false, false, false, false, false, false, false, false, false, false, false, false, false, false, false, false, false, false] rfl rfl ?_
            refine pn_ 21 (some 90) #[true, true, true, true, true, true, true, true, true, true, true, true, true, true, true, true, true, true, true, true, true, true, false, false, false, false, false, false, false, false, false, false, false, false, false, false, false, false, false, false, false, false, false, false] rfl rfl ?_
            refine pn_ 22 (some 91) #[true, true, true, true, true, true, true, true, true, true, true, true, true, true, true, true, true, true, true, true, true, true, true, false, false, false, false, false, false, false, false, false, false, false, false, false, false, false, false, false, false, false, false, false] rfl rfl ?_
            refine pn_ 23 (some 92) #[true, true, true, true, true, true, true, true, true, true, true, true, true, true, true, true, true, true, true, true, true, true, true, true, false, false, false, false, false, false, false, false, false, false, false, false, false, false, false, false, false, false, false, false] rfl rfl ?_
            refine pn_ 24 (some 93) zb21_ rfl rfl ?_
            refine pn_ 25 (some 94) zb22_ rfl rfl ?_
            refine pn_ 26 (some 95) zb23_ rfl rfl ?_
            refine pn_ 27 (some 96) zb24_ rfl rfl ?_
            refine pn_ 28 (some 97) zb25_ rfl rfl ?_
            refine pn_ 29 (some 98) zb26_ rfl rfl ?_
            refine pn_ 30 (some 99) zb27_ rfl rfl ?_
            refine pn_ 31 (some 100) zb28_ rfl rfl ?_
            refine pn_ 32 (some 101) zb29_ rfl rfl ?_
            refine pn_ 33 (some 102) zb30_ rfl rfl ?_
            refine pn_ 34 (some 103) zb31_ rfl rfl ?_
            refine pn_ 35 (some 104) zb32_ rfl rfl ?_
            refine pn_ 36 (some 105) zb33_ rfl rfl ?_
            refine pn_ 37 (some 106) zb34_ rfl rfl ?_
            refine pn_ 38 (some 107) zb35_ rfl rfl ?_
            refine pn_ 39 (some 108) zb36_ rfl rfl ?_
            refine pn_ 40 (some 109) zb37_ rfl rfl ?_
            refine pn_ 41 (some 110) zb38_ rfl rfl ?_
            refine pu_ 42 (some 111) zb39_ rfl rfl ?_
            refine pu_ 43 (some 112) zb40_ rfl rfl ?_
            refine done_ (done_of HT_.out (by kernel_rfl)) ?_
            try go_wp2
            go_meet
            case rel => exact ⟨_, (false), (by first | rfl | (simp; done) | (simp [*]; done)), H', ⟨by have := HK1.out; have := HK2.out; first | omega | exact Nat.le_refl _⟩, ⟨by (with_reducible repeat (first | apply Kd.S_alloc | apply Kd.S_drewN | apply Kd.S_drew)); exact HO_5.out⟩, ⟨by (with_reducible repeat (first | apply rA_ | apply rN_ | apply rD_)); exact HO_6.out⟩, ⟨by (with_reducible repeat (first | apply rA_ | apply rN_ | apply rD_)); exact HO_431003.out⟩, ⟨by (with_reducible repeat (first | refine bN_ ?_ _ | refine bD_ ?_ | refine bA_ ?_ _)); exact BK430.out⟩, ⟨bw_⟩⟩
         ·rw [if_neg c44] at H
          exact absurd H (by simp)
        case rest =>
         clear HC42
         try clear hx4
         try clear hx44
         try clear hx45
         try clear c48b0
         try clear hx449_0
         try clear hx449_1
         try clear hx449_2
         try clear hx450_0
         try clear hx450_1
         try clear hx450_2
         obtain ⟨kq, x112_41, rfl, HA, HJ41, HO_5, HO_6, HO_431003, BK430, HB⟩ := hcut
         cases kq with
         | zero => exact absurd HA.out (by simp [laws_FnHandovers.j4])
         | succ kj41 =>
          have H := HA.out; clear HA
          simp only [laws_FnHandovers.j4] at H
          by_cases c57 : x112_41 = true
          ·subst c57
           have H1 : (some false) = some r := by rw [if_pos rfl] at H; exact H
           clear H; have H := H1; clear H1
           exact absurd ((Option.some.inj H).trans HTRUE.out) (by decide)
          ·replace c57 := Bool.eq_false_iff.mpr c57
           subst c57
           have H1 : (if 0 ≤ x11_2 then (if x11_2 < (t431.length : Int) then ((impl_IsSmooth.f ((rd_T87 t431 x11_2).f0) ((rd_T87 t431 x11_2).f1) ((rd_T87 t431 x11_2).f2)).bind fun t458 => (if t458 = true then (if (((rd_T87 t431 x11_2).f1).length : Int) = 0 then (some false) else (if (((rd_T87 t431 x11_2).f2).length : Int) = 0 then (some false) else (laws_FnHandovers.l2 kj41 t429 t431 t434 (wrap64 (x11_2 + 1)) t423 t424 t425 t426))) else (laws_FnHandovers.l2 kj41 t429 t431 t434 (wrap64 (x11_2 + 1)) t423 t424 t425 t426))) else (none)) else (none)) = some r := by rw [if_neg (show ¬ (false = true) by decide)] at H; exact H
           clear H; have H := H1; clear H1
           by_cases c58 : 0 ≤ x11_2
           ·rw [if_pos c58] at H
            have c58b0 : decide (0 ≤ x11_2) = true := decide_eq_true c58
            clear c58
            by_cases c59 : x11_2 < (t431.length : Int)
            ·rw [if_pos c59] at H
             have c59b0 : decide (x11_2 < (t431.length : Int)) = true := decide_eq_true c59
             clear c59
             replace H := Option.bind_eq_some_iff.mp H
             obtain ⟨t458, A600, H⟩ := H
             (try dsimp only at H)
             have A60 := aM_ A600; clear A600
             by_cases c61 : t458 = true
             ·subst c61
              have H1 : (if (((rd_T87 t431 x11_2).f1).length : Int) = 0 then (some false) else (if (((rd_T87 t431 x11_2).f2).length : Int) = 0 then (some false) else (laws_FnHandovers.l2 kj41 t429 t431 t434 (wrap64 (x11_2 + 1)) t423 t424 t425 t426))) = some r := by rw [if_pos rfl] at H; exact H
              clear H; have H := H1; clear H1
              by_cases c62 : (((rd_T87 t431 x11_2).f1).length : Int) = 0
              ·rw [if_pos c62] at H
               have c62b0 : ((((rd_T87 t431 x11_2).f1).length : Int) == 0) = true := beq_iff_eq.mpr c62
               have c62b1 : ((((rd_T87 t431 x11_2).f1).length : Int) != 0) = false := bne_eq_false_iff_eq.mpr c62
               clear c62
               exact absurd ((Option.some.inj H).trans HTRUE.out) (by decide)
              ·rw [if_neg c62] at H
               have c62b0 : ((((rd_T87 t431 x11_2).f1).length : Int) == 0) = false := beq_eq_false_iff_ne.mpr c62
               have c62b1 : ((((rd_T87 t431 x11_2).f1).length : Int) != 0) = true := bne_iff_ne.mpr c62
               have c62b2 : ¬ (((rd_T87 t431 x11_2).f1) = []) := fun h_ => c62 (by rw [h_]; rfl)
               by_cases c63 : (((rd_T87 t431 x11_2).f2).length : Int) = 0
               ·rw [if_pos c63] at H
                have c63b0 : ((((rd_T87 t431 x11_2).f2).length : Int) == 0) = true := beq_iff_eq.mpr c63
                have c63b1 : ((((rd_T87 t431 x11_2).f2).length : Int) != 0) = false := bne_eq_false_iff_eq.mpr c63
                clear c63
                exact absurd ((Option.some.inj H).trans HTRUE.out) (by decide)
               ·rw [if_neg c63] at H
                have c63b0 : ((((rd_T87 t431 x11_2).f2).length : Int) == 0) = false := beq_eq_false_iff_ne.mpr c63
                have c63b1 : ((((rd_T87 t431 x11_2).f2).length : Int) != 0) = true := bne_iff_ne.mpr c63
                have c63b2 : ¬ (((rd_T87 t431 x11_2).f2) = []) := fun h_ => c63 (by rw [h_]; rfl)
                have H' := aM_ H
                clear H
                have p457 : 0 ≤ (x11_2 : Int) := dT_
                have q457 : x11_2 < (t431.length : Int) := dT_
                obtain ⟨ad457, A457_1, c457_1, A457_2, c457_2, e457, hx457_0, hx457_1, hx457_2, hl457_1, hi457_1, hl457_2, hi457_2⟩ := at_T87 (Kd.S_reads' HO_5.out).2.2 x11_2 p457 q457
                cases e457
                obtain ⟨ce457, hce457, hMe457, hcc457⟩ := Kd.S_get HO_5.out z87 x11_2 p457 (by first | exact q457 | exact dT_ | (have e_ := (Kd.S_reads' HO_5.out).1; omega))
                obtain ⟨ve457_1, ve457_2, rfl, ge457_1, ge457_2⟩ := k87_openM hMe457
                have hv457_1 := hcc457 1 _ rfl
                rw [add_field _ _ 1 (by omega)] at hv457_1
                replace hv457_1 := Option.some.inj (hv457_1.symm.trans hx457_1)
                rw [hv457_1] at ge457_1
                have HL457_1 := aM_ (show Kd.R (Kd.int .i64) 3 _ _ _ _ ((rd_T87 t431 x11_2).f1) from ge457_1); clear hv457_1 ge457_1; have hv457_2 := hcc457 2 _ rfl
                rw [add_field _ _ 2 (by omega)] at hv457_2
                replace hv457_2 := Option.some.inj (hv457_2.symm.trans hx457_2)
                rw [hv457_2] at ge457_2
                have HL457_2 := aM_ (show Kd.R (Kd.int .i64) 3 _ _ _ _ ((rd_T87 t431 x11_2).f2) from ge457_2); clear hv457_2 ge457_2 hcc457 hce457; have HR457_1 := aM_ hi457_1; have HC457_1 := aM_ hl457_1; clear hi457_1 hl457_1; have HR457_2 := aM_ hi457_2; have HC457_2 := aM_ hl457_2; clear hi457_2 hl457_2; replace p457 := eq_true p457; replace q457 := eq_true q457
                go_wp2_with (first | ((with_reducible refine gate_callee (f := 39) rfl ?_); refine goesL_ (some 117) rfl rfl Try.func39 (by kernel_rfl) rfl #[.agg #[.int .i64 ((rd_T87 t431 x11_2).f0), .slice A457_1 ((rd_T87 t431 x11_2).f1).length c457_1, .slice A457_2 ((rd_T87 t431 x11_2).f2).length c457_2]] rfl (by (try simp only [List.map_toArray, List.map_cons, List.map_nil]); first | done | rfl | (simp only [List.length_drop, List.length_take]; rfl)) ?_; (with_reducible refine (impl_IsSmooth.calls ((rd_T87 t431 x11_2).f0) _ _ ((rd_T87 t431 x11_2).f1) _ _ ((rd_T87 t431 x11_2).f2) true _ ?side1 ?side2 ?side3 ?side4 A60.out).mono ?_); (case side1 => repeat (first | exact (by repeat (first | (with_reducible exact HR457_1.out) | (with_reducible refine cA_ ?_ _) | (with_reducible refine cN_ ?_ _) | (with_reducible refine cD_ ?_) | exact HR457_1.out)) | (with_reducible refine cA_ ?_ _) | (with_reducible refine cN_ ?_ _) | (with_reducible refine cD_ ?_))); (case side2 => exact HC457_1.out); (case side3 => repeat (first | exact (by repeat (first | (with_reducible exact HR457_2.out) | (with_reducible refine cA_ ?_ _) | (with_reducible refine cN_ ?_ _) | (with_reducible refine cD_ ?_) | exact HR457_2.out)) | (with_reducible refine cA_ ?_ _) | (with_reducible refine cN_ ?_ _) | (with_reducible refine cD_ ?_))); (case side4 => exact HC457_2.out); rintro e w64 ⟨rfl, hb⟩; refine ⟨_, rfl, ?_⟩; have n0_ := aM_ (Kd.S_below (by (with_reducible repeat (first | apply Kd.S_alloc | apply Kd.S_drewN | apply Kd.S_drew)); exact HO_5.out) hb); have n1_ := aM_ (rB_ (rb_ HO_6.out) hb); have n2_ := aM_ (rB_ (rb_ HO_431003.out) hb); have n3_ := aM_ (rB_ (rb_ HL457_1.out) hb); have n4_ := aM_ (rB_ (rb_ HL457_2.out) hb); have n5_ := aM_ (bB_ (kb_ BK430.out) hb); have n6_ := aM_ (Kd.C_below (by repeat (first | (with_reducible exact HR457_1.out) | (with_reducible refine cA_ ?_ _) | (with_reducible refine cN_ ?_ _) | (with_reducible refine cD_ ?_) | exact HR457_1.out)) hb); have n7_ := aM_ (Kd.C_below (by repeat (first | (with_reducible exact HR457_2.out) | (with_reducible refine cA_ ?_ _) | (with_reducible refine cN_ ?_ _) | (with_reducible refine cD_ ?_) | exact HR457_2.out)) hb); have n8_ := aM_ (wS_ (bw_) hb); clear HO_5 HO_6 HO_431003 HL457_1 HL457_2 BK430 HR457_1 HR457_2 HB; have HO_5 := n0_; have HO_6 := n1_; have HO_431003 := n2_; have HL457_1 := n3_; have HL457_2 := n4_; have BK430 := n5_; have HR457_1 := n6_; have HR457_2 := n7_; have HB := n8_; clear n0_ n1_ n2_ n3_ n4_ n5_ n6_ n7_ n8_; (try clear hb); (try clear hb2); (try clear hk); (try clear hi); have p459 : 0 ≤ (x11_2 : Int) := dT_; have q459 : x11_2 < (t431.length : Int) := dT_; obtain ⟨ad459, A459_1, c459_1, A459_2, c459_2, e459, hx459_0, hx459_1, hx459_2, hl459_1, hi459_1, hl459_2, hi459_2⟩ := at_T87 (Kd.S_reads' HO_5.out).2.2 x11_2 p459 q459; obtain rfl : ad457 = ad459 := (by injection e459); obtain ⟨ce459, hce459, hMe459, hcc459⟩ := Kd.S_get HO_5.out z87 x11_2 p459 (by first | exact q459 | exact dT_ | (have e_ := (Kd.S_reads' HO_5.out).1; omega)); obtain ⟨ve459_1, ve459_2, rfl, ge459_1, ge459_2⟩ := k87_openM hMe459; have hv459_1 := hcc459 1 _ rfl; rw [add_field _ _ 1 (by omega)] at hv459_1; replace hv459_1 := Option.some.inj (hv459_1.symm.trans hx459_1); rw [hv459_1] at ge459_1; have HL459_1 := aM_ (show Kd.R (Kd.int .i64) 3 _ _ _ _ ((rd_T87 t431 x11_2).f1) from ge459_1); clear hv459_1 ge459_1; have hv459_2 := hcc459 2 _ rfl; rw [add_field _ _ 2 (by omega)] at hv459_2; replace hv459_2 := Option.some.inj (hv459_2.symm.trans hx459_2); rw [hv459_2] at ge459_2; have HL459_2 := aM_ (show Kd.R (Kd.int .i64) 3 _ _ _ _ ((rd_T87 t431 x11_2).f2) from ge459_2); clear hv459_2 ge459_2 hcc459 hce459; have HR459_1 := aM_ hi459_1; have HC459_1 := aM_ hl459_1; clear hi459_1 hl459_1; have HR459_2 := aM_ hi459_2; have HC459_2 := aM_ hl459_2; clear hi459_2 hl459_2; replace p459 := eq_true p459; replace q459 := eq_true q459; have p460 : 0 ≤ (x11_2 : Int) := dT_; have q460 : x11_2 < (t431.length : Int) := dT_; obtain ⟨ad460, A460_1, c460_1, A460_2, c460_2, e460, hx460_0, hx460_1, hx460_2, hl460_1, hi460_1, hl460_2, hi460_2⟩ := at_T87 (Kd.S_reads' HO_5.out).2.2 x11_2 p460 q460; obtain rfl : ad457 = ad460 := (by injection e460); obtain ⟨ce460, hce460, hMe460, hcc460⟩ := Kd.S_get HO_5.out z87 x11_2 p460 (by first | exact q460 | exact dT_ | (have e_ := (Kd.S_reads' HO_5.out).1; omega)); obtain ⟨ve460_1, ve460_2, rfl, ge460_1, ge460_2⟩ := k87_openM hMe460; have hv460_1 := hcc460 1 _ rfl; rw [add_field _ _ 1 (by omega)] at hv460_1; replace hv460_1 := Option.some.inj (hv460_1.symm.trans hx460_1); rw [hv460_1] at ge460_1; have HL460_1 := aM_ (show Kd.R (Kd.int .i64) 3 _ _ _ _ ((rd_T87 t431 x11_2).f1) from ge460_1); clear hv460_1 ge460_1; have hv460_2 := hcc460 2 _ rfl; rw [add_field _ _ 2 (by omega)] at hv460_2; replace hv460_2 := Option.some.inj (hv460_2.symm.trans hx460_2); rw [hv460_2] at ge460_2; have HL460_2 := aM_ (show Kd.R (Kd.int .i64) 3 _ _ _ _ ((rd_T87 t431 x11_2).f2) from ge460_2); clear hv460_2 ge460_2 hcc460 hce460; have HR460_1 := aM_ hi460_1; have HC460_1 := aM_ hl460_1; clear hi460_1 hl460_1; have HR460_2 := aM_ hi460_2; have HC460_2 := aM_ hl460_2; clear hi460_2 hl460_2; replace p460 := eq_true p460; replace q460 := eq_true q460; have ea_ := Option.some.inj (hx459_1.symm.trans hx460_1); injection ea_ with ea_ en_ ec_; subst ea_; subst ec_; clear en_; have ea_ := Option.some.inj (hx459_2.symm.trans hx460_2); injection ea_ with ea_ en_ ec_; subst ea_; subst ec_; clear en_))
                go_roundg kj41
                case measure => have := HK1.out; have := HK2.out; have := HJ41.out; omega
                case rel => exact ⟨(wrap64 (x11_2 + 1)), (by first | rfl | (simp; done) | (simp [*]; done)), H', ⟨by have := HK1.out; have := HK2.out; have := HJ41.out; omega⟩, ⟨by (with_reducible repeat (first | apply Kd.S_alloc | apply Kd.S_drewN | apply Kd.S_drew)); exact HO_5.out⟩, ⟨by (with_reducible repeat (first | apply rA_ | apply rN_ | apply rD_)); exact HO_6.out⟩, ⟨by (with_reducible repeat (first | apply rA_ | apply rN_ | apply rD_)); exact HO_431003.out⟩, ⟨by (with_reducible repeat (first | refine bN_ ?_ _ | refine bD_ ?_ | refine bA_ ?_ _)); exact BK430.out⟩, ⟨bw_⟩⟩
             ·replace c61 := Bool.eq_false_iff.mpr c61
              subst c61
              have H1 : (laws_FnHandovers.l2 kj41 t429 t431 t434 (wrap64 (x11_2 + 1)) t423 t424 t425 t426) = some r := by rw [if_neg (show ¬ (false = true) by decide)] at H; exact H
              clear H; have H := H1; clear H1
              have H' := aM_ H
              clear H
              have p457 : 0 ≤ (x11_2 : Int) := dT_
              have q457 : x11_2 < (t431.length : Int) := dT_
              obtain ⟨ad457, A457_1, c457_1, A457_2, c457_2, e457, hx457_0, hx457_1, hx457_2, hl457_1, hi457_1, hl457_2, hi457_2⟩ := at_T87 (Kd.S_reads' HO_5.out).2.2 x11_2 p457 q457
              cases e457
              obtain ⟨ce457, hce457, hMe457, hcc457⟩ := Kd.S_get HO_5.out z87 x11_2 p457 (by first | exact q457 | exact dT_ | (have e_ := (Kd.S_reads' HO_5.out).1; omega))
              obtain ⟨ve457_1, ve457_2, rfl, ge457_1, ge457_2⟩ := k87_openM hMe457
              have hv457_1 := hcc457 1 _ rfl
              rw [add_field _ _ 1 (by omega)] at hv457_1
              replace hv457_1 := Option.some.inj (hv457_1.symm.trans hx457_1)
              rw [hv457_1] at ge457_1
              have HL457_1 := aM_ (show Kd.R (Kd.int .i64) 3 _ _ _ _ ((rd_T87 t431 x11_2).f1) from ge457_1); clear hv457_1 ge457_1; have hv457_2 := hcc457 2 _ rfl
              rw [add_field _ _ 2 (by omega)] at hv457_2
              replace hv457_2 := Option.some.inj (hv457_2.symm.trans hx457_2)
              rw [hv457_2] at ge457_2
              have HL457_2 := aM_ (show Kd.R (Kd.int .i64) 3 _ _ _ _ ((rd_T87 t431 x11_2).f2) from ge457_2); clear hv457_2 ge457_2 hcc457 hce457; have HR457_1 := aM_ hi457_1; have HC457_1 := aM_ hl457_1; clear hi457_1 hl457_1; have HR457_2 := aM_ hi457_2; have HC457_2 := aM_ hl457_2; clear hi457_2 hl457_2; replace p457 := eq_true p457; replace q457 := eq_true q457
              go_wp2_with (first | ((with_reducible refine gate_callee (f := 39) rfl ?_); refine goesL_ (some 117) rfl rfl Try.func39 (by kernel_rfl) rfl #[.agg #[.int .i64 ((rd_T87 t431 x11_2).f0), .slice A457_1 ((rd_T87 t431 x11_2).f1).length c457_1, .slice A457_2 ((rd_T87 t431 x11_2).f2).length c457_2]] rfl (by (try simp only [List.map_toArray, List.map_cons, List.map_nil]); first | done | rfl | (simp only [List.length_drop, List.length_take]; rfl)) ?_; (with_reducible refine (impl_IsSmooth.calls ((rd_T87 t431 x11_2).f0) _ _ ((rd_T87 t431 x11_2).f1) _ _ ((rd_T87 t431 x11_2).f2) false _ ?side1 ?side2 ?side3 ?side4 A60.out).mono ?_); (case side1 => repeat (first | exact (by repeat (first | (with_reducible exact HR457_1.out) | (with_reducible refine cA_ ?_ _) | (with_reducible refine cN_ ?_ _) | (with_reducible refine cD_ ?_) | exact HR457_1.out)) | (with_reducible refine cA_ ?_ _) | (with_reducible refine cN_ ?_ _) | (with_reducible refine cD_ ?_))); (case side2 => exact HC457_1.out); (case side3 => repeat (first | exact (by repeat (first | (with_reducible exact HR457_2.out) | (with_reducible refine cA_ ?_ _) | (with_reducible refine cN_ ?_ _) | (with_reducible refine cD_ ?_) | exact HR457_2.out)) | (with_reducible refine cA_ ?_ _) | (with_reducible refine cN_ ?_ _) | (with_reducible refine cD_ ?_))); (case side4 => exact HC457_2.out); rintro e w65 ⟨rfl, hb⟩; refine ⟨_, rfl, ?_⟩; have n0_ := aM_ (Kd.S_below (by (with_reducible repeat (first | apply Kd.S_alloc | apply Kd.S_drewN | apply Kd.S_drew)); exact HO_5.out) hb); have n1_ := aM_ (rB_ (rb_ HO_6.out) hb); have n2_ := aM_ (rB_ (rb_ HO_431003.out) hb); have n3_ := aM_ (rB_ (rb_ HL457_1.out) hb); have n4_ := aM_ (rB_ (rb_ HL457_2.out) hb); have n5_ := aM_ (bB_ (kb_ BK430.out) hb); have n6_ := aM_ (Kd.C_below (by repeat (first | (with_reducible exact HR457_1.out) | (with_reducible refine cA_ ?_ _) | (with_reducible refine cN_ ?_ _) | (with_reducible refine cD_ ?_) | exact HR457_1.out)) hb); have n7_ := aM_ (Kd.C_below (by repeat (first | (with_reducible exact HR457_2.out) | (with_reducible refine cA_ ?_ _) | (with_reducible refine cN_ ?_ _) | (with_reducible refine cD_ ?_) | exact HR457_2.out)) hb); have n8_ := aM_ (wS_ (bw_) hb); clear HO_5 HO_6 HO_431003 HL457_1 HL457_2 BK430 HR457_1 HR457_2 HB; have HO_5 := n0_; have HO_6 := n1_; have HO_431003 := n2_; have HL457_1 := n3_; have HL457_2 := n4_; have BK430 := n5_; have HR457_1 := n6_; have HR457_2 := n7_; have HB := n8_; clear n0_ n1_ n2_ n3_ n4_ n5_ n6_ n7_ n8_; (try clear hb); (try clear hb2); (try clear hk); (try clear hi)))
              go_roundg kj41
              case measure => have := HK1.out; have := HK2.out; have := HJ41.out; omega
              case rel => exact ⟨(wrap64 (x11_2 + 1)), (by first | rfl | (simp; done) | (simp [*]; done)), H', ⟨by have := HK1.out; have := HK2.out; have := HJ41.out; omega⟩, ⟨by (with_reducible repeat (first | apply Kd.S_alloc | apply Kd.S_drewN | apply Kd.S_drew)); exact HO_5.out⟩, ⟨by (with_reducible repeat (first | apply rA_ | apply rN_ | apply rD_)); exact HO_6.out⟩, ⟨by (with_reducible repeat (first | apply rA_ | apply rN_ | apply rD_)); exact HO_431003.out⟩, ⟨by (with_reducible repeat (first | refine bN_ ?_ _ | refine bD_ ?_ | refine bA_ ?_ _)); exact BK430.out⟩, ⟨bw_⟩⟩
            ·rw [if_neg c59] at H
             exact absurd H (by simp)
           ·rw [if_neg c58] at H
            exact absurd H (by simp)
       ·rw [if_neg c41] at H
        have c41b0 : decide (x11_2 < (t431.length : Int)) = false := decide_eq_false c41
        clear c41
        replace H := Option.bind_eq_some_iff.mp H
        obtain ⟨t447, A660, H⟩ := H
        (try dsimp only at H)
        have A66 := aM_ A660; clear A660
        replace H := Option.bind_eq_some_iff.mp H
        obtain ⟨t448, A670, H⟩ := H
        (try dsimp only at H)
        have A67 := aM_ A670; clear A670
        obtain rfl := Option.some.inj H
        obtain ⟨Ao68, co68, eo68⟩ := Kd.S_slice HO_5.out
        subst eo68
        have hcz69_0 : wr.cell? ⟨gb430, 0, none⟩ = some (.int .i64 t423) := (blk_cell BK430.out 0).trans rfl
        have hcz69_1 : wr.cell? ⟨gb430, 1, none⟩ = some (.int .i64 t424) := (blk_cell BK430.out 1).trans rfl
        have hcz69_2 : wr.cell? ⟨gb430, 2, none⟩ = some (.int .i64 t425) := (blk_cell BK430.out 2).trans rfl
        have hcz69_3 : wr.cell? ⟨gb430, 3, none⟩ = some (.slice Ao10 t426.length co10) := (blk_cell BK430.out 3).trans rfl
        have hfz69_0 := blk_frozen BK430.out 0; have hfz69_1 := blk_frozen BK430.out 1; have hfz69_2 := blk_frozen BK430.out 2; have hfz69_3 := blk_frozen BK430.out 3
        go_wp2_with (first | ((with_reducible refine gate_callee (f := 40) rfl ?_); refine goesL_ (some 138) rfl rfl Try.func40 (by kernel_rfl) rfl #[.agg #[.int .i64 t423, .int .i64 t424, .int .i64 t425, .slice Ao10 t426.length co10], .int .i64 t429] rfl (by (try simp only [List.map_toArray, List.map_cons, List.map_nil]); first | done | rfl | (simp only [List.length_drop, List.length_take]; rfl)) ?_; (with_reducible refine (impl_LongestGap.calls k2 t423 t424 t425 _ _ t426 t429 t447 _ ?side1 ?side2 A66.out).mono ?_); (case side1 => repeat (first | exact (Kd.R_reads' HO_431003.out).2.2 | (with_reducible refine cA_ ?_ _) | (with_reducible refine cN_ ?_ _) | (with_reducible refine cD_ ?_))); (case side2 => exact (Kd.R_reads' HO_431003.out).2.1); rintro e w70 ⟨rfl, hb⟩; refine ⟨_, rfl, ?_⟩; have n0_ := aM_ (Kd.S_below (by (with_reducible repeat (first | apply Kd.S_alloc | apply Kd.S_drewN | apply Kd.S_drew)); exact HO_5.out) hb); have n1_ := aM_ (rB_ (rb_ HO_6.out) hb); have n2_ := aM_ (rB_ (rb_ HO_431003.out) hb); have n3_ := aM_ (bB_ (kb_ BK430.out) hb); have n4_ := aM_ (wS_ (bw_) hb); clear HO_5 HO_6 HO_431003 BK430 HB; have HO_5 := n0_; have HO_6 := n1_; have HO_431003 := n2_; have BK430 := n3_; have HB := n4_; clear n0_ n1_ n2_ n3_ n4_; (try clear hb); (try clear hb2); (try clear hk); (try clear hi); obtain ⟨Ao71, co71, eo71⟩ := Kd.R_slice HO_6.out; subst eo71) | ((with_reducible refine gate_callee (f := 41) rfl ?_); refine goesL_ (some 140) rfl rfl Try.func41 (by kernel_rfl) rfl #[.slice Ao71 t434.length co71] rfl (by (try simp only [List.map_toArray, List.map_cons, List.map_nil]); first | done | rfl | (simp only [List.length_drop, List.length_take]; rfl)) ?_; (with_reducible refine (impl_TicksOf.calls k2 _ _ t434 t448 _ ?side1 ?side2 A67.out).mono ?_); (case side1 => repeat (first | exact (Kd.R_reads' HO_6.out).2.2 | (with_reducible refine cA_ ?_ _) | (with_reducible refine cN_ ?_ _) | (with_reducible refine cD_ ?_))); (case side2 => exact (Kd.R_reads' HO_6.out).2.1); rintro e w72 ⟨rfl, hb⟩; refine ⟨_, rfl, ?_⟩; have n0_ := aM_ (Kd.S_below (by (with_reducible repeat (first | apply Kd.S_alloc | apply Kd.S_drewN | apply Kd.S_drew)); exact HO_5.out) hb); have n1_ := aM_ (rB_ (rb_ HO_6.out) hb); have n2_ := aM_ (rB_ (rb_ HO_431003.out) hb); have n3_ := aM_ (bB_ (kb_ BK430.out) hb); have n4_ := aM_ (wS_ (bw_) hb); clear HO_5 HO_6 HO_431003 BK430 HB; have HO_5 := n0_; have HO_6 := n1_; have HO_431003 := n2_; have BK430 := n3_; have HB := n4_; clear n0_ n1_ n2_ n3_ n4_; (try clear hb); (try clear hb2); (try clear hk); (try clear hi)))
        go_ret
        exact ⟨by first | rfl | (simp [errW_none, errW_some] <;> rfl) | (simp [*, errW_none, errW_some] <;> rfl), bw_⟩

/-- THE ONE PURE STATEMENT of laws_FnHandovers: yours. -/
def laws_FnHandovers.Pure : Prop := ∀ (l0 : List Int), l0.length ≤ maxLen → l0.length * 1 ≤ 140737488351232 → (∀ x ∈ l0, (Lit.int .u8 x).wf = true) → ∃ k, laws_FnHandovers.f k l0 = some true
theorem laws_FnHandovers.walk (P : laws_FnHandovers.Pure) (a0 : Option Addr) (len0 cap0 : Nat) (z0 : List Int) (w : World) (w0 : (a0 = none ∧ len0 = 0 ∧ cap0 = 0 ∧ z0 = []) ∨ ∃ x, a0 = some x ∧ len0 ≤ cap0 ∧ cap0 ≤ maxLen ∧ z0.length = cap0 ∧ (∀ i, i < z0.length → w.cell? (x.add i) = some (.int .u8 (z0.getD i 0))) ∧ ∀ n ∈ z0, (Lit.int .u8 n).wf = true) (y0 : len0 * 1 ≤ 140737488351232) :
    Calls Try.prog 7 #[.slice a0 len0 cap0] w fun e w' => e = .returned (.bool true) ∧ Below w.heap.size w w' := by
  obtain ⟨l0, rfl, hr0, hm0, hw0, hc0⟩ := ReadsInt.ofRowC w0
  obtain ⟨k, h⟩ := P l0 hm0 y0 hw0
  refine (laws_FnHandovers.calls k _ _ l0 true w (Kd.C_of_reads (d := (0 : Int)) (h1 := fun _ => rfl) hr0) hc0 rfl h).mono ?_
  rintro e w' ⟨rfl, hd⟩
  exact ⟨rfl, hd⟩

end Go.Proofs.Ytlogjmgghnifoaa.PFnHandovers
