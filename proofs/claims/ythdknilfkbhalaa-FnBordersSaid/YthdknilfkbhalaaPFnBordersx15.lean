/- The functions that the law reaches, as plain Lean functions, each with the proof that the Go code comes to its answers; conditions: those that each theorem names. (printed by a program of this session) -/
import Derived.Test.YthdknilfkbhalaaPFnBordersx0
import Derived.Test.YthdknilfkbhalaaPFnBordersx2
import Derived.Test.YthdknilfkbhalaaPFnBordersx11
import Derived.Test.YthdknilfkbhalaaPFnBordersx12
import Derived.Test.YthdknilfkbhalaaPFnBordersx13
import Derived.Test.YthdknilfkbhalaaPFnBordersx14
namespace Go.Proofs.Ythdknilfkbhalaa.PFnBorders
open Go.RowKit Go.Proofs.YthdknilfkbhalaaW.PrintWords Go.Proofs.YthdknilfkbhalaaW.PrintLast Go.Proofs.YthdknilfkbhalaaW.PrintMore
attribute [local go_sem] max2_int min2_int max_two min_two max_three min_three max_four min_four   -- for this text's walks alone
set_option linter.unusedVariables false
set_option linter.unusedSimpArgs false

abbrev zb0_ : Array Bool := #[true, true, true, true, true, true, true, true, true, true, true, true, false, false]
abbrev zb1_ : Array Bool := #[false, false, false, false, false, false, false, false, false, false, false, false, false, false, false, false, false, false, false, false, false, false, false, false, false, false, false, false, false, false, false]
abbrev zb2_ : Array Bool := #[true, false, false, false, false, false, false, false, false, false, false, false, false, false, false, false, false, false, false, false, false, false, false, false, false, false, false, false, false, false, false]
abbrev zb3_ : Array Bool := #[true, true, false, false, false, false, false, false, false, false, false, false, false, false, false, false, false, false, false, false, false, false, false, false, false, false, false, false, false, false, false]
abbrev zb4_ : Array Bool := #[true, true, true, false, false, false, false, false, false, false, false, false, false, false, false, false, false, false, false, false, false, false, false, false, false, false, false, false, false, false, false]
abbrev zb5_ : Array Bool := #[true, true, true, true, false, false, false, false, false, false, false, false, false, false, false, false, false, false, false, false, false, false, false, false, false, false, false, false, false, false, false]
abbrev zb6_ : Array Bool := #[true, true, true, true, true, false, false, false, false, false, false, false, false, false, false, false, false, false, false, false, false, false, false, false, false, false, false, false, false, false, false]
abbrev zb7_ : Array Bool := #[true, true, true, true, true, true, false, false, false, false, false, false, false, false, false, false, false, false, false, false, false, false, false, false, false, false, false, false, false, false, false]
abbrev zb8_ : Array Bool := #[true, true, true, true, true, true, false, false, true, false, false, false, false, false, false, false, false, false, false, false, false, false, false, false, false, false, false, false, false, false, false]
abbrev zb9_ : Array Bool := #[true, true, true, true, true, true, false, false, true, false, true, false, false, false, false, false, false, false, false, false, false, false, false, false, false, false, false, false, false, false, false]
abbrev zb10_ : Array Bool := #[true, true, true, true, true, true, true, false, true, false, true, false, false, false, false, false, false, false, false, false, false, false, false, false, false, false, false, false, false, false, false]
abbrev zb11_ : Array Bool := #[true, true, true, true, true, true, true, true, true, false, true, false, false, false, false, false, false, false, false, false, false, false, false, false, false, false, false, false, false, false, false]
abbrev zb12_ : Array Bool := #[true, true, true, true, true, true, true, true, true, false, true, true, false, false, false, false, false, false, false, false, false, false, false, false, false, false, false, false, false, false, false]
abbrev zb13_ : Array Bool := #[true, true, true, true, true, true, true, true, true, true, true, true, false, false, false, false, false, false, false, false, false, false, false, false, false, false, false, false, false, false, false]
abbrev zb14_ : Array Bool := #[true, true, true, true, true, true, true, true, true, true, true, true, true, false, false, false, false, false, false, false, false, false, false, false, false, false, false, false, false, false, false]
abbrev zb15_ : Array Bool := #[true, true, true, true, true, true, true, true, true, true, true, true, true, true, false, false, false, false, false, false, false, false, false, false, false, false, false, false, false, false, false]
abbrev zb16_ : Array Bool := #[true, true, true, true, true, true, true, true, true, true, true, true, true, true, true, false, false, false, false, false, false, false, false, false, false, false, false, false, false, false, false]
abbrev zb17_ : Array Bool := #[true, true, true, true, true, true, true, true, true, true, true, true, true, true, true, true, false, false, false, false, false, false, false, false, false, false, false, false, false, false, false]
abbrev zb18_ : Array Bool := #[true, true, true, true, true, true, true, true, true, true, true, true, true, true, true, true, true, false, false, false, false, false, false, false, false, false, false, false, false, false, false]
abbrev zb19_ : Array Bool := #[true, true, true, true, true, true, true, true, true, true, true, true, true, true, true, true, true, true, false, false, false, false, false, false, false, false, false, false, false, false, false]
abbrev zb20_ : Array Bool := #[true, true, true, true, true, true, true, true, true, true, true, true, true, true, true, true, true, true, true, false, false, false, false, false, false, false, false, false, false, false, false]
abbrev zb21_ : Array Bool := #[true, true, true, true, true, true, true, true, true, true, true, true, true, true, true, true, true, true, true, true, false, false, false, false, false, false, false, false, false, false, false]
abbrev zb22_ : Array Bool := #[true, true, true, true, true, true, true, true, true, true, true, true, true, true, true, true, true, true, true, true, true, false, false, false, false, false, false, false, false, false, false]
abbrev zb23_ : Array Bool := #[true, true, true, true, true, true, true, true, true, true, true, true, true, true, true, true, true, true, true, true, true, true, false, false, false, false, false, false, false, false, false]
abbrev zb24_ : Array Bool := #[true, true, true, true, true, true, true, true, true, true, true, true, true, true, true, true, true, true, true, true, true, true, true, false, false, false, false, false, false, false, false]
abbrev zb25_ : Array Bool := #[true, true, true, true, true, true, true, true, true, true, true, true, true, true, true, true, true, true, true, true, true, true, true, true, false, false, false, false, false, false, false]
abbrev zb26_ : Array Bool := #[true, true, true, true, true, true, true, true, true, true, true, true, true, true, true, true, true, true, true, true, true, true, true, true, true, true, true, false, false, false, false]
abbrev zb27_ : Array Bool := #[true, true, true, true, true, true, true, true, true, true, true, true, true, true, true, true, true, true, true, true, true, true, true, true, true, true, true, true, false, false, false]
abbrev zb28_ : Array Bool := #[true, true, true, true, true, true, true, true, true, true, true, true, true, true, true, true, true, true, true, true, true, true, true, true, true, true, true, true, true, false, false]
abbrev zb29_ : Array Bool := #[true, true, true, true, true, true, true, true, true, true, true, true, true, true, true, true, true, true, true, true, true, true, true, true, true, true, true, true, true, true, false]
abbrev zb30_ : Array Bool := #[true, true, true, true, true, true, true, true, true, true, true, true, true, true, true, true, true, true, true, true, true, true, true, true, true, true, true, true, true, true, true]
/-! ### laws_FnBorders: function 3 -/
mutual
def laws_FnBorders.j0 : Nat → List Int → Int → Int → Int → Int → Bool → List Int → Int → Int → Int → List (S60) → Option (Bool)
  | 0, _, _, _, _, _, _, _, _, _, _, _ => none
  | k + 1, x0, x5, x6, x7, x8, x44, x529000, x530000, x530001, x530002, x530003 => if x44 = true then (some false) else (laws_FnBorders.l0 k x0 x5 x6 x7 x8 0 x529000 x530000 x530001 x530002 x530003)
def laws_FnBorders.l0 : Nat → List Int → Int → Int → Int → Int → Int → List Int → Int → Int → Int → List (S60) → Option (Bool)
  | 0, _, _, _, _, _, _, _, _, _, _, _ => none
  | k + 1, x0, x5, x6, x7, x8, x9, x529000, x530000, x530001, x530002, x530003 => if x9 < (x529000.length : Int) then (if 0 ≤ x9 then ((impl_TableIn.f x530000 x530001 x530002 x530003 x8 (rd x529000 x9)).bind fun bt534 => (if bt534.2.2.2 = true then (if x5 < 0 then (laws_FnBorders.j2 k x0 x5 x6 x7 x8 x9 true x529000 x530000 x530001 x530002 x530003 bt534.1 bt534.2.1 bt534.2.2.1) else (if x5 ≥ (bt534.2.1.length : Int) then (laws_FnBorders.j2 k x0 x5 x6 x7 x8 x9 true x529000 x530000 x530001 x530002 x530003 bt534.1 bt534.2.1 bt534.2.2.1) else (if 0 ≤ x5 then (if x5 < (bt534.2.1.length : Int) then (laws_FnBorders.j2 k x0 x5 x6 x7 x8 x9 (decide ((rd bt534.2.1 x5) < 0)) x529000 x530000 x530001 x530002 x530003 bt534.1 bt534.2.1 bt534.2.2.1) else (none)) else (none)))) else (laws_FnBorders.j2 k x0 x5 x6 x7 x8 x9 true x529000 x530000 x530001 x530002 x530003 bt534.1 bt534.2.1 bt534.2.2.1))) else (none)) else ((spec_DrawLawfulFlows.f k x0).bind fun bt555 => ((impl_LawfulFlows.f k bt555.1 bt555.2.1 bt555.2.2.1 bt555.2.2.2.1 bt555.2.2.2.2.1 bt555.2.2.2.2.2).bind fun t569 => (laws_FnBorders.l1 k x6 x7 bt555.2.2.2.2.2 t569 0 x529000 x530000 x530001 x530002 x530003 bt555.1 bt555.2.1 bt555.2.2.1 bt555.2.2.2.1 bt555.2.2.2.2.1)))
def laws_FnBorders.j2 : Nat → List Int → Int → Int → Int → Int → Int → Bool → List Int → Int → Int → Int → List (S60) → Int → List Int → List Int → Option (Bool)
  | 0, _, _, _, _, _, _, _, _, _, _, _, _, _, _, _ => none
  | k + 1, x0, x5, x6, x7, x8, x9, x83, x529000, x530000, x530001, x530002, x530003, x543000, x543001, x543002 => if x83 = true then (laws_FnBorders.l0 k x0 x5 x6 x7 x8 (wrap64 (x9 + 1)) x529000 x530000 x530001 x530002 x530003) else (if x7 < 0 then (some false) else ((impl_TableIn.f x530000 x530001 x530002 x530003 x8 x7).bind fun bt544 => (if bt544.2.2.2 = true then (if 0 ≤ x5 then (if x5 < (bt544.2.1.length : Int) then (if x5 < (x543001.length : Int) then (if (rd bt544.2.1 x5) > (rd x543001 x5) then (some false) else (laws_FnBorders.l0 k x0 x5 x6 x7 x8 (wrap64 (x9 + 1)) x529000 x530000 x530001 x530002 x530003)) else (none)) else (none)) else (none)) else (some false))))
def laws_FnBorders.l1 : Nat → Int → Int → List (S45) → List (S45) → Int → List Int → Int → Int → Int → List (S60) → List Int → Int → Int → Int → List (S60) → Option (Bool)
  | 0, _, _, _, _, _, _, _, _, _, _, _, _, _, _, _ => none
  | k + 1, x6, x7, x16, x17, x18, x529000, x530000, x530001, x530002, x530003, x568000, x569000, x569001, x569002, x569003 => if x18 < (x17.length : Int) then (if 0 ≤ x18 then ((impl_IsLanding.f k x568000 x569000 x569001 x569002 x569003 ((rd_T45 x17 x18).f2)).bind fun t573 => (if t573 = true then (laws_FnBorders.l1 k x6 x7 x16 x17 (wrap64 (x18 + 1)) x529000 x530000 x530001 x530002 x530003 x568000 x569000 x569001 x569002 x569003) else (some false))) else (none)) else (if (x17.length : Int) ≤ (x16.length : Int) then ((impl_ServedBy.f k x529000 x530000 x530001 x530002 x530003 x6).bind fun t574 => (if t574 ≤ x530000 then ((impl_IsLaw.f k x529000 x530000 x530001 x530002 x530003).bind fun t575 => (if t575 = true then (if x7 < 0 then (some true) else ((impl_IsLanding.f k x529000 x530000 x530001 x530002 x530003 x7).bind fun t576 => (some t576))) else (some true))) else (some false))) else (some false))
end
def laws_FnBorders.f (k : Nat) (l0 : List Int) : Option (Bool) := (laws_big.f l0).bind fun t516 => (if t516 = true then (some true) else ((spec_DrawLandingFor.f k l0).bind fun bt517 => ((impl_LandingFor.f k bt517.1 bt517.2.1 bt517.2.2.1 bt517.2.2.2.1 bt517.2.2.2.2.1 bt517.2.2.2.2.2.1 bt517.2.2.2.2.2.2).bind fun t530 => ((impl_PieceAt.f bt517.2.1 bt517.2.2.1 bt517.2.2.2.1 bt517.2.2.2.2.1 bt517.2.2.2.2.2.2).bind fun t531 => (if t530 ≥ 0 then ((laws_contains.f k bt517.1 t530).bind fun t532 => (laws_FnBorders.j0 k l0 bt517.2.2.2.2.2.1 bt517.2.2.2.2.2.2 t530 t531 (!t532) bt517.1 bt517.2.1 bt517.2.2.1 bt517.2.2.2.1 bt517.2.2.2.2.1)) else (laws_FnBorders.j0 k l0 bt517.2.2.2.2.2.1 bt517.2.2.2.2.2.2 t530 t531 false bt517.1 bt517.2.1 bt517.2.2.1 bt517.2.2.2.1 bt517.2.2.2.2.1))))))
def laws_FnBorders.T11 : Bool × List (List Nat × List Nat) := (true, [([], []), ([], []), ([], []), ([2], [2]), ([], []), ([3, 4], [3, 4]), ([5], [5]), ([0, 1, 6], [0, 1, 6]), ([7], [7]), ([8], [8]), ([8], [8]), ([], []), ([11, 9, 7, 0, 1, 2, 3, 4, 5, 6, 7, 8, 9, 11], [9, 11]), ([10, 12, 0, 1, 2, 3, 4, 5, 6, 7, 8, 9, 10, 11, 12], [10])])
def laws_FnBorders.B11 : List Nat := [0, 0, 0, 4, 0, 28, 60, 127, 255, 511, 511, 0, 3071, 8191]
theorem laws_FnBorders.tab11 : rtab .any (opsOf Try.f3 11) = laws_FnBorders.T11 := by kernel_rfl
theorem laws_FnBorders.bits11 : waitsOk laws_FnBorders.T11.2 laws_FnBorders.B11 = true := by kernel_rfl
def laws_FnBorders.T16 : Bool × List (List Nat × List Nat) := (true, [([], []), ([0], [0]), ([1], [1]), ([2], [2]), ([3, 2], [2, 3]), ([2], [2]), ([4, 5, 2], [2, 4, 5]), ([6, 2], [2, 6]), ([2], [2]), ([8, 2], [2, 8]), ([2], [2]), ([9, 10, 2], [2, 9, 10]), ([11, 2], [2, 11]), ([7, 12, 2], [2, 7, 12]), ([2, 13], [2, 13])])
def laws_FnBorders.B16 : List Nat := [0, 1, 3, 7, 15, 7, 63, 127, 7, 263, 7, 1799, 3847, 8191, 16383]
theorem laws_FnBorders.tab16 : rtab .any (opsOf Try.f3 16) = laws_FnBorders.T16 := by kernel_rfl
theorem laws_FnBorders.bits16 : waitsOk laws_FnBorders.T16.2 laws_FnBorders.B16 = true := by kernel_rfl
def laws_FnBorders.T23 : Bool × List (List Nat × List Nat) := (true, [([], []), ([], []), ([], []), ([], []), ([2, 3], [2, 3]), ([4], [4]), ([5], [5]), ([0, 1, 6], [0, 1, 6]), ([7], [7])])
def laws_FnBorders.B23 : List Nat := [0, 0, 0, 0, 12, 28, 60, 127, 255]
theorem laws_FnBorders.tab23 : rtab .any (opsOf Try.f3 23) = laws_FnBorders.T23 := by kernel_rfl
theorem laws_FnBorders.bits23 : waitsOk laws_FnBorders.T23.2 laws_FnBorders.B23 = true := by kernel_rfl
def laws_FnBorders.T25 : Bool × List (List Nat × List Nat) := (true, [([], []), ([0], [0]), ([], []), ([2], [2]), ([1, 3], [1, 3]), ([4], [4]), ([5], [5]), ([5], [5]), ([5], [5]), ([6, 7, 8, 5, 5], [5, 6, 7, 8]), ([5], [5]), ([10, 5], [5, 10]), ([9, 11, 5], [5, 9, 11]), ([5, 12], [5, 12]), ([13, 9], [13]), ([14], [14]), ([14], [14]), ([15, 16, 14, 14], [14, 15, 16]), ([17, 14], [14, 17]), ([18, 17, 14], [14, 18]), ([19], [19]), ([20, 19], [19, 20]), ([19, 21, 14], [14, 19, 21]), ([22, 19, 14], [14, 22]), ([23], [23]), ([23], [23]), ([23], [23]), ([24, 25, 26, 23, 23], [23, 24, 25, 26]), ([23, 27, 14], [14, 23, 27]), ([14, 28], [14, 28]), ([29, 27, 0, 1, 2, 3, 4, 5, 6, 7, 8, 9, 10, 11, 12, 13, 14, 15, 16, 17, 18, 19, 20, 21, 22, 23, 24, 25, 26, 27, 28, 29], [29])])
def laws_FnBorders.B25 : List Nat := [0, 1, 0, 4, 15, 31, 63, 63, 63, 511, 63, 1087, 4095, 8191, 16383, 32767, 32767, 131071, 262143, 524287, 1048575, 2097151, 4194303, 8388607, 16777215, 16777215, 16777215, 134217727, 268435455, 536870911, 1073741823]
theorem laws_FnBorders.tab25 : rtab .any (opsOf Try.f3 25) = laws_FnBorders.T25 := by kernel_rfl
theorem laws_FnBorders.bits25 : waitsOk laws_FnBorders.T25.2 laws_FnBorders.B25 = true := by kernel_rfl
set_option maxHeartbeats 8000000 in
set_option maxRecDepth 100000 in
theorem laws_FnBorders.calls (k : Nat) (A0 : Option Addr) (c0 : Nat) (l0 : List Int) (r : Bool) (w : World) (hr0 : Kd.C (Kd.int .u8) w A0 l0.length l0) (hc0 : l0.length ≤ c0) (hr_ : r = true) (h : laws_FnBorders.f k l0 = some r) :
  Calls Try.prog 3 #[.slice A0 l0.length c0] w fun e w' => e = .returned (.bool r) ∧ Below w.heap.size w w' := by
 have hu26 := Try.underlying26; have hu29 := Try.underlying29; have hu36 := Try.underlying36; have HR0 := aM_ hr0; have HC0 := aM_ hc0; clear hr0 hc0; have HB := aM_ (Below.refl w.heap.size w)
 have H : ((laws_big.f l0).bind fun t516 => (if t516 = true then (some true) else ((spec_DrawLandingFor.f k l0).bind fun bt517 => ((impl_LandingFor.f k bt517.1 bt517.2.1 bt517.2.2.1 bt517.2.2.2.1 bt517.2.2.2.2.1 bt517.2.2.2.2.2.1 bt517.2.2.2.2.2.2).bind fun t530 => ((impl_PieceAt.f bt517.2.1 bt517.2.2.1 bt517.2.2.2.1 bt517.2.2.2.2.1 bt517.2.2.2.2.2.2).bind fun t531 => (if t530 ≥ 0 then ((laws_contains.f k bt517.1 t530).bind fun t532 => (laws_FnBorders.j0 k l0 bt517.2.2.2.2.2.1 bt517.2.2.2.2.2.2 t530 t531 (!t532) bt517.1 bt517.2.1 bt517.2.2.1 bt517.2.2.2.1 bt517.2.2.2.2.1)) else (laws_FnBorders.j0 k l0 bt517.2.2.2.2.2.1 bt517.2.2.2.2.2.2 t530 t531 false bt517.1 bt517.2.1 bt517.2.2.1 bt517.2.2.2.1 bt517.2.2.2.2.1))))))) = some r := h
 clear h; have HTRUE := aM_ hr_; clear hr_
 replace H := Option.bind_eq_some_iff.mp H
 obtain ⟨t516, A20, H⟩ := H
 (try dsimp only at H)
 have A2 := aM_ A20; clear A20
 by_cases c3 : t516 = true
 ·subst c3
  have H1 : (some true) = some r := by rw [if_pos rfl] at H; exact H
  clear H; have H := H1; clear H1
  obtain rfl := Option.some.inj H
  go_enter Try.func3, Try.ntmps3
  go_wp2_with (first | ((with_reducible refine gate_callee (f := 4) rfl ?_); refine goesL_ (some 20) rfl rfl Try.func4 (by kernel_rfl) rfl #[.slice A0 l0.length c0] rfl (by (try simp only [List.map_toArray, List.map_cons, List.map_nil]); first | done | rfl | (simp only [List.length_drop, List.length_take]; rfl)) ?_; (with_reducible refine (laws_big.calls _ _ l0 true _ ?side1 ?side2 A2.out).mono ?_); (case side1 => repeat (first | exact HR0.out | (with_reducible refine cA_ ?_ _) | (with_reducible refine cN_ ?_ _) | (with_reducible refine cD_ ?_))); (case side2 => exact HC0.out); rintro e w' ⟨rfl, ⟨nd, rfl⟩⟩; refine ⟨_, rfl, ?_⟩))
  go_ret
  exact ⟨by first | rfl | (simp [errW_none, errW_some] <;> rfl) | (simp [*, errW_none, errW_some] <;> rfl), bw_⟩
 ·replace c3 := Bool.eq_false_iff.mpr c3
  subst c3
  have H1 : ((spec_DrawLandingFor.f k l0).bind fun bt517 => ((impl_LandingFor.f k bt517.1 bt517.2.1 bt517.2.2.1 bt517.2.2.2.1 bt517.2.2.2.2.1 bt517.2.2.2.2.2.1 bt517.2.2.2.2.2.2).bind fun t530 => ((impl_PieceAt.f bt517.2.1 bt517.2.2.1 bt517.2.2.2.1 bt517.2.2.2.2.1 bt517.2.2.2.2.2.2).bind fun t531 => (if t530 ≥ 0 then ((laws_contains.f k bt517.1 t530).bind fun t532 => (laws_FnBorders.j0 k l0 bt517.2.2.2.2.2.1 bt517.2.2.2.2.2.2 t530 t531 (!t532) bt517.1 bt517.2.1 bt517.2.2.1 bt517.2.2.2.1 bt517.2.2.2.2.1)) else (laws_FnBorders.j0 k l0 bt517.2.2.2.2.2.1 bt517.2.2.2.2.2.2 t530 t531 false bt517.1 bt517.2.1 bt517.2.2.1 bt517.2.2.2.1 bt517.2.2.2.2.1))))) = some r := by rw [if_neg (show ¬ (false = true) by decide)] at H; exact H
  clear H; have H := H1; clear H1
  replace H := Option.bind_eq_some_iff.mp H
  obtain ⟨⟨t517, t520, t521, t522, t523, t526, t527⟩, A40, H⟩ := H
  (try dsimp only at H)
  have A4 := aM_ A40; clear A40
  replace H := Option.bind_eq_some_iff.mp H
  obtain ⟨t530, A50, H⟩ := H
  (try dsimp only at H)
  have A5 := aM_ A50; clear A50
  replace H := Option.bind_eq_some_iff.mp H
  obtain ⟨t531, A60, H⟩ := H
  (try dsimp only at H)
  have A6 := aM_ A60; clear A60; have HC7 := aM_ H; clear H
  go_enter Try.func3, Try.ntmps3
  go_upto_region 6 with (first | ((with_reducible refine gate_callee (f := 4) rfl ?_); refine goesL_ (some 20) rfl rfl Try.func4 (by kernel_rfl) rfl #[.slice A0 l0.length c0] rfl (by (try simp only [List.map_toArray, List.map_cons, List.map_nil]); first | done | rfl | (simp only [List.length_drop, List.length_take]; rfl)) ?_; (with_reducible refine (laws_big.calls _ _ l0 false _ ?side1 ?side2 A2.out).mono ?_); (case side1 => repeat (first | exact HR0.out | (with_reducible refine cA_ ?_ _) | (with_reducible refine cN_ ?_ _) | (with_reducible refine cD_ ?_))); (case side2 => exact HC0.out); rintro e w' ⟨rfl, ⟨nd, rfl⟩⟩; refine ⟨_, rfl, ?_⟩) | ((with_reducible refine gate_callee (f := 5) rfl ?_); refine goesL_ (some 23) rfl rfl Try.func5 (by kernel_rfl) rfl #[.slice A0 l0.length c0] rfl (by (try simp only [List.map_toArray, List.map_cons, List.map_nil]); first | done | rfl | (simp only [List.length_drop, List.length_take]; rfl)) ?_; (with_reducible refine (spec_DrawLandingFor.calls k _ _ l0 t517 t520 t521 t522 t523 t526 t527 _ ?side1 ?side2 A4.out).mono ?_); (case side1 => repeat (first | exact HR0.out | (with_reducible refine cA_ ?_ _) | (with_reducible refine cN_ ?_ _) | (with_reducible refine cD_ ?_))); (case side2 => exact HC0.out); rintro e w8 ⟨v518, v524, rfl, ho0, ho1, hb⟩; refine ⟨_, rfl, ?_⟩; have n0_ := aM_ (Kd.R_lower ho0 (sZ_ (bw_))); have n1_ := aM_ (Kd.R_lower ho1 (sZ_ (bw_))); have n2_ := aM_ (wS_ (bw_) hb); clear HB; have HO519 := n0_; have HO525 := n1_; have HB := n2_; clear n0_ n1_ n2_; (try clear hb); (try clear hb2); (try clear hk); (try clear hi); (try clear ho0); (try clear ho1)) | ((with_reducible refine gate_dst (N := 3) rfl ?_); (try (refine gate_guard (by rfl) ?_; dsimp only)); refine box_event ?hg (N := 3) ?hd (cs := #[.slice none 0 0]) (t := 26) ?hr ?_; (case hd => rfl); (case hg => rfl); (case hr => first | (go_simp; done) | (go_simp; rfl)); intro gb528 hg w9 hbox hb; have n0_ := aM_ (rB_ (rb_ HO519.out) hb); have n1_ := aM_ (rB_ (rb_ HO525.out) hb); have n2_ := aM_ (wS_ (bw_) hb); have n3_ := aM_ (hbox); have n4_ := aM_ ((by rw [hg]; exact (sZ_ (bw_)) : w.heap.size ≤ gb528)); have n5_ := aM_ ((by rw [hg]; exact (sZ_ (bw_)) : w.heap.size ≤ gb528)); clear HO519 HO525 HB; have HO519 := n0_; have HO525 := n1_; have HB := n2_; have BK528 := n3_; have GW528 := n4_; have GE528 := n5_; clear n0_ n1_ n2_ n3_ n4_ n5_ hb hbox hg) | ((with_reducible refine gate_dst (N := 4) rfl ?_); (try (refine gate_guard (by rfl) ?_; dsimp only)); refine box_event ?hg (N := 4) ?hd (cs := #[.int .i64 0, .int .i64 0, .int .i64 0, .slice none 0 0]) (t := 29) ?hr ?_; (case hd => rfl); (case hg => rfl); (case hr => first | (go_simp; done) | (go_simp; rfl)); intro gb529 hg w10 hbox hb; have n0_ := aM_ (rB_ (rb_ HO519.out) hb); have n1_ := aM_ (rB_ (rb_ HO525.out) hb); have n2_ := aM_ (bB_ (kb_ BK528.out) hb); have n3_ := aM_ (wS_ (bw_) hb); have n4_ := aM_ (hbox); have n5_ := aM_ ((by rw [hg]; exact (sZ_ (bw_)) : w.heap.size ≤ gb529)); have n6_ := aM_ ((by rw [hg]; exact (sZ_ (bw_)) : w.heap.size ≤ gb529)); have n7_ := aM_ ((by rw [hg]; exact Nat.ne_of_lt (blk_lt (kb_ BK528.out)) : gb528 ≠ gb529)); have n8_ := aM_ ((by rw [hg]; exact Nat.ne_of_gt (blk_lt (kb_ BK528.out)) : gb529 ≠ gb528)); clear HO519 HO525 BK528 HB; have HO519 := n0_; have HO525 := n1_; have BK528 := n2_; have HB := n3_; have BK529 := n4_; have GW529 := n5_; have GE529 := n6_; have NB528_529 := n7_; have NB529_528 := n8_; clear n0_ n1_ n2_ n3_ n4_ n5_ n6_ n7_ n8_ hb hbox hg; obtain ⟨Ao11, co11, eo11⟩ := Kd.R_slice HO519.out; subst eo11; have hnb12 := NB528_529.out; have hnc12 := NB529_528.out; have hcz13_0 : w10.cell? ⟨gb528, 0, none⟩ = some (.slice none 0 0) := (blk_cell BK528.out 0).trans rfl; have hfz13_0 := blk_frozen BK528.out 0; obtain ⟨hcz14_0, hcz14_1, hcz14_2, hcz14_3, hfz14_0, hfz14_1, hfz14_2, hfz14_3⟩ := bk4_ BK529.out; obtain ⟨Ao15, co15, eo15⟩ := Kd.R_slice HO525.out; subst eo15) | ((with_reducible refine gate_callee (f := 6) rfl ?_); refine goesL_ (some 32) rfl rfl Try.func6 (by kernel_rfl) rfl #[.agg #[.slice Ao11 t517.length co11], .agg #[.int .i64 t520, .int .i64 t521, .int .i64 t522, .slice Ao15 t523.length co15], .int .i64 t526, .int .i64 t527] rfl (by (try simp only [List.map_toArray, List.map_cons, List.map_nil]); first | done | rfl | (simp only [List.length_drop, List.length_take]; rfl)) ?_; (with_reducible refine (impl_LandingFor.calls k _ _ t517 t520 t521 t522 _ _ t523 t526 t527 t530 _ ?side1 ?side2 ?side3 ?side4 A5.out).mono ?_); (case side1 => refine (Kd.R_reads' (e := 3) (base := w.heap.size) (ok := fun k_ => True) (n := t517.length) (c := co11) ?_).2.2; exact (by (with_reducible repeat (first | apply rA_ | apply rN_ | apply rD_)); exact (Kd.R_mono (Kd.R_mono (Kd.R_far (p := ⟨gb529, 3, none⟩) (Kd.R_far (p := ⟨gb529, 2, none⟩) (Kd.R_far (p := ⟨gb529, 1, none⟩) (Kd.R_far (p := ⟨gb529, 0, none⟩) (Kd.R_far (p := ⟨gb528, 0, none⟩) (Kd.R_types (Kd.R_types HO519.out BK528.out (by decide)) BK529.out (by decide)) (fun _ hk => hk.1.2) (.slice Ao11 t517.length co11)) (fun _ hk => hk.2) (.int .i64 t520)) (fun _ hk => hk.2) (.int .i64 t521)) (fun _ hk => hk.2) (.int .i64 t522)) (fun _ hk => hk.2) (.slice Ao15 t523.length co15)) (fun _ h_ => h_.1)) (fun _ h_ => h_.1)))); (case side2 => exact (Kd.R_reads' HO519.out).2.1); (case side3 => refine (Kd.R_reads' (e := 60) (base := w.heap.size) (ok := fun k_ => some k_ ≠ (.slice Ao11 t517.length co11 : Value).ownBlock) (n := t523.length) (c := co15) ?_).2.2; exact (by (with_reducible repeat (first | apply rA_ | apply rN_ | apply rD_)); exact (Kd.R_mono (Kd.R_mono (Kd.R_far (p := ⟨gb529, 3, none⟩) (Kd.R_far (p := ⟨gb529, 2, none⟩) (Kd.R_far (p := ⟨gb529, 1, none⟩) (Kd.R_far (p := ⟨gb529, 0, none⟩) (Kd.R_far (p := ⟨gb528, 0, none⟩) (Kd.R_types (Kd.R_types HO525.out BK528.out (by decide)) BK529.out (by decide)) (fun _ hk => hk.1.2) (.slice Ao11 t517.length co11)) (fun _ hk => hk.2) (.int .i64 t520)) (fun _ hk => hk.2) (.int .i64 t521)) (fun _ hk => hk.2) (.int .i64 t522)) (fun _ hk => hk.2) (.slice Ao15 t523.length co15)) (fun _ h_ => h_.1)) (fun _ h_ => h_.1)))); (case side4 => exact (Kd.R_reads' HO525.out).2.1); rintro e w16 ⟨rfl, hb⟩; refine ⟨_, rfl, ?_⟩; have n0_ := aM_ (rB_ (by (with_reducible repeat (first | apply rA_ | apply rN_ | apply rD_)); exact (Kd.R_mono (Kd.R_mono (Kd.R_far (p := ⟨gb529, 3, none⟩) (Kd.R_far (p := ⟨gb529, 2, none⟩) (Kd.R_far (p := ⟨gb529, 1, none⟩) (Kd.R_far (p := ⟨gb529, 0, none⟩) (Kd.R_far (p := ⟨gb528, 0, none⟩) (Kd.R_types (Kd.R_types HO519.out BK528.out (by decide)) BK529.out (by decide)) (fun _ hk => hk.1.2) (.slice Ao11 t517.length co11)) (fun _ hk => hk.2) (.int .i64 t520)) (fun _ hk => hk.2) (.int .i64 t521)) (fun _ hk => hk.2) (.int .i64 t522)) (fun _ hk => hk.2) (.slice Ao15 t523.length co15)) (fun _ h_ => h_.1)) (fun _ h_ => h_.1))) hb); have n1_ := aM_ (rB_ (by (with_reducible repeat (first | apply rA_ | apply rN_ | apply rD_)); exact (Kd.R_mono (Kd.R_mono (Kd.R_far (p := ⟨gb529, 3, none⟩) (Kd.R_far (p := ⟨gb529, 2, none⟩) (Kd.R_far (p := ⟨gb529, 1, none⟩) (Kd.R_far (p := ⟨gb529, 0, none⟩) (Kd.R_far (p := ⟨gb528, 0, none⟩) (Kd.R_types (Kd.R_types HO525.out BK528.out (by decide)) BK529.out (by decide)) (fun _ hk => hk.1.2) (.slice Ao11 t517.length co11)) (fun _ hk => hk.2) (.int .i64 t520)) (fun _ hk => hk.2) (.int .i64 t521)) (fun _ hk => hk.2) (.int .i64 t522)) (fun _ hk => hk.2) (.slice Ao15 t523.length co15)) (fun _ h_ => h_.1)) (fun _ h_ => h_.1))) hb); have n2_ := aM_ (bB_ (g := gb528) (o := .cells #[.slice Ao11 t517.length co11] 26 (0, 0)) (by (with_reducible repeat (first | refine bN_ ?_ _ | refine bD_ ?_ | refine bA_ ?_ _)); refine blk_far ?_ NB528_529.out _; (with_reducible repeat (first | refine bN_ ?_ _ | refine bD_ ?_ | refine bA_ ?_ _)); refine blk_far ?_ NB528_529.out _; (with_reducible repeat (first | refine bN_ ?_ _ | refine bD_ ?_ | refine bA_ ?_ _)); refine blk_far ?_ NB528_529.out _; (with_reducible repeat (first | refine bN_ ?_ _ | refine bD_ ?_ | refine bA_ ?_ _)); refine blk_far ?_ NB528_529.out _; (with_reducible repeat (first | refine bN_ ?_ _ | refine bD_ ?_ | refine bA_ ?_ _)); refine blk_put (cs := #[.slice none 0 0]) ?_ 0 _ rfl; (with_reducible repeat (first | refine bN_ ?_ _ | refine bD_ ?_ | refine bA_ ?_ _)); exact BK528.out) hb); have n3_ := aM_ (bB_ (g := gb529) (o := .cells #[.int .i64 t520, .int .i64 t521, .int .i64 t522, .slice Ao15 t523.length co15] 29 (0, 0)) (by (with_reducible repeat (first | refine bN_ ?_ _ | refine bD_ ?_ | refine bA_ ?_ _)); refine blk_put (cs := #[.int .i64 t520, .int .i64 t521, .int .i64 t522, .slice none 0 0]) ?_ 3 _ rfl; (with_reducible repeat (first | refine bN_ ?_ _ | refine bD_ ?_ | refine bA_ ?_ _)); refine blk_put (cs := #[.int .i64 t520, .int .i64 t521, .int .i64 0, .slice none 0 0]) ?_ 2 _ rfl; (with_reducible repeat (first | refine bN_ ?_ _ | refine bD_ ?_ | refine bA_ ?_ _)); refine blk_put (cs := #[.int .i64 t520, .int .i64 0, .int .i64 0, .slice none 0 0]) ?_ 1 _ rfl; (with_reducible repeat (first | refine bN_ ?_ _ | refine bD_ ?_ | refine bA_ ?_ _)); refine blk_put (cs := #[.int .i64 0, .int .i64 0, .int .i64 0, .slice none 0 0]) ?_ 0 _ rfl; (with_reducible repeat (first | refine bN_ ?_ _ | refine bD_ ?_ | refine bA_ ?_ _)); refine blk_far ?_ NB529_528.out _; (with_reducible repeat (first | refine bN_ ?_ _ | refine bD_ ?_ | refine bA_ ?_ _)); exact BK529.out) hb); have n4_ := aM_ (wS_ (bw_) hb); clear HO519 HO525 BK528 BK529 HB; have HO519 := n0_; have HO525 := n1_; have BK528 := n2_; have BK529 := n3_; have HB := n4_; clear n0_ n1_ n2_ n3_ n4_; (try clear hb); (try clear hb2); (try clear hk); (try clear hi); obtain ⟨hcz17_0, hcz17_1, hcz17_2, hcz17_3, hfz17_0, hfz17_1, hfz17_2, hfz17_3⟩ := bk4_ BK529.out) | ((with_reducible refine gate_callee (f := 7) rfl ?_); refine goesL_ (some 35) rfl rfl Try.func7 (by kernel_rfl) rfl #[.agg #[.int .i64 t520, .int .i64 t521, .int .i64 t522, .slice Ao15 t523.length co15], .int .i64 t527] rfl (by (try simp only [List.map_toArray, List.map_cons, List.map_nil]); first | done | rfl | (simp only [List.length_drop, List.length_take]; rfl)) ?_; (with_reducible refine (impl_PieceAt.calls t520 t521 t522 _ _ t523 t527 t531 _ ?side1 ?side2 A6.out).mono ?_); (case side1 => repeat (first | exact (Kd.R_reads' HO525.out).2.2 | (with_reducible refine cA_ ?_ _) | (with_reducible refine cN_ ?_ _) | (with_reducible refine cD_ ?_))); (case side2 => exact (Kd.R_reads' HO525.out).2.1); rintro e w18 ⟨rfl, hb⟩; refine ⟨_, rfl, ?_⟩; have n0_ := aM_ (rB_ (rb_ HO519.out) hb); have n1_ := aM_ (rB_ (rb_ HO525.out) hb); have n2_ := aM_ (bB_ (kb_ BK528.out) hb); have n3_ := aM_ (bB_ (kb_ BK529.out) hb); have n4_ := aM_ (wS_ (bw_) hb); clear HO519 HO525 BK528 BK529 HB; have HO519 := n0_; have HO525 := n1_; have BK528 := n2_; have BK529 := n3_; have HB := n4_; clear n0_ n1_ n2_ n3_ n4_; (try clear hb); (try clear hb2); (try clear hk); (try clear hi)))
  (try simp only [Act.put, List.setIfInBounds_toArray, List.set_cons_zero, List.set_cons_succ])
  go_cut [44] (fun v44 wc => ∃ (kq : Nat) (x44_6 : Bool), v44 = .bool x44_6 ∧ Aside0 (laws_FnBorders.j0 kq l0 t526 t527 t530 t531 x44_6 t517 t520 t521 t522 t523 = some r) ∧ Aside0 (kq ≤ k) ∧ Aside0 (Kd.R (Kd.int .i64) 3 wc w.heap.size (fun _ => True) (.slice Ao11 t517.length co11) t517) ∧ Aside0 (Kd.R k60 60 wc w.heap.size (fun k_ => some k_ ≠ ((.slice Ao11 t517.length co11) : Value).ownBlock) (.slice Ao15 t523.length co15) t523) ∧ Aside0 (wc.heap[gb528]? = some (.cells #[(.slice Ao11 t517.length co11)] 26 (0, 0))) ∧ Aside0 (wc.heap[gb529]? = some (.cells #[.int .i64 t520, .int .i64 t521, .int .i64 t522, (.slice Ao15 t523.length co15)] 29 (0, 0))) ∧ Aside0 (Below w.heap.size w wc))
  case first =>
   have H := HC7.out; clear HC7
   by_cases c19 : t530 ≥ 0
   ·rw [if_pos c19] at H
    have c19b0 : decide (0 ≤ t530) = true := decide_eq_true c19
    clear c19
    (first | rw [c19b0] | (simp only [i64_w, i32_w]; rw [c19b0]) | skip)
    replace H := Option.bind_eq_some_iff.mp H
    obtain ⟨t532, A200, H⟩ := H
    (try dsimp only at H)
    have A20 := aM_ A200; clear A200
    have H' := aM_ H
    clear H; have hnb21 := NB528_529.out; have hnc21 := NB529_528.out
    have hcz22_0 : w18.cell? ⟨gb528, 0, none⟩ = some (.slice Ao11 t517.length co11) := (blk_cell BK528.out 0).trans rfl
    have hfz22_0 := blk_frozen BK528.out 0
    go_wp2_with (first | (go_at_call 8; (with_reducible refine (laws_contains.calls k _ _ t517 t530 t532 _ ?side1 ?side2 A20.out).mono ?_); (case side1 => repeat (first | exact (Kd.R_reads' HO519.out).2.2 | (with_reducible refine cA_ ?_ _) | (with_reducible refine cN_ ?_ _) | (with_reducible refine cD_ ?_))); (case side2 => exact (Kd.R_reads' HO519.out).2.1); rintro e w' ⟨rfl, ⟨nd, rfl⟩⟩))
    go_meet
    case rel => exact ⟨_, (!t532), (by first | rfl | (simp; done) | (simp [*]; done)), H', ⟨by first | omega | exact Nat.le_refl _⟩, ⟨by (with_reducible repeat (first | apply rA_ | apply rN_ | apply rD_)); exact HO519.out⟩, ⟨by (with_reducible repeat (first | apply rA_ | apply rN_ | apply rD_)); exact HO525.out⟩, ⟨by (with_reducible repeat (first | refine bN_ ?_ _ | refine bD_ ?_ | refine bA_ ?_ _)); exact BK528.out⟩, ⟨by (with_reducible repeat (first | refine bN_ ?_ _ | refine bD_ ?_ | refine bA_ ?_ _)); exact BK529.out⟩, ⟨bw_⟩⟩
   ·rw [if_neg c19] at H
    have c19b0 : decide (0 ≤ t530) = false := decide_eq_false c19
    clear c19
    (first | rw [c19b0] | (simp only [i64_w, i32_w]; rw [c19b0]) | skip)
    have H' := aM_ H
    clear H
    go_wp2
    go_meet
    case rel => exact ⟨_, (false), (by first | rfl | (simp; done) | (simp [*]; done)), H', ⟨by first | omega | exact Nat.le_refl _⟩, ⟨by (with_reducible repeat (first | apply rA_ | apply rN_ | apply rD_)); exact HO519.out⟩, ⟨by (with_reducible repeat (first | apply rA_ | apply rN_ | apply rD_)); exact HO525.out⟩, ⟨by (with_reducible repeat (first | refine bN_ ?_ _ | refine bD_ ?_ | refine bA_ ?_ _)); exact BK528.out⟩, ⟨by (with_reducible repeat (first | refine bN_ ?_ _ | refine bD_ ?_ | refine bA_ ?_ _)); exact BK529.out⟩, ⟨bw_⟩⟩
  case rest =>
   clear HC7
   try clear c19b0
   try clear hcz13_0
   try clear hcz14_0
   try clear hcz14_1
   try clear hcz14_2
   try clear hcz14_3
   try clear hcz17_0
   try clear hcz17_1
   try clear hcz17_2
   try clear hcz17_3
   try clear hcz22_0
   try clear hfz13_0
   try clear hfz14_0
   try clear hfz14_1
   try clear hfz14_2
   try clear hfz14_3
   try clear hfz17_0
   try clear hfz17_1
   try clear hfz17_2
   try clear hfz17_3
   try clear hfz22_0
   obtain ⟨kq, x44_6, rfl, HA, HJ6, HO_529000, HO_530003, BK528, BK529, HB⟩ := hcut
   cases kq with
   | zero => exact absurd HA.out (by simp [laws_FnBorders.j0])
   | succ kj6 =>
    have H := HA.out; clear HA
    simp only [laws_FnBorders.j0] at H
    by_cases c23 : x44_6 = true
    ·subst c23
     have H1 : (some false) = some r := by rw [if_pos rfl] at H; exact H
     clear H; have H := H1; clear H1
     exact absurd ((Option.some.inj H).trans HTRUE.out) (by decide)
    ·replace c23 := Bool.eq_false_iff.mpr c23
     subst c23
     have H1 : (laws_FnBorders.l0 kj6 l0 t526 t527 t530 t531 0 t517 t520 t521 t522 t523) = some r := by rw [if_neg (show ¬ (false = true) by decide)] at H; exact H
     clear H; have H := H1; clear H1
     have H' := aM_ H
     clear H
     go_wp2
     go_loopg [9] kj6 (fun kq v9 w' => ∃ (x9_2 : Int), v9 = .int .i64 x9_2 ∧ Aside0 (laws_FnBorders.l0 kq l0 t526 t527 t530 t531 x9_2 t517 t520 t521 t522 t523 = some r) ∧ Aside0 (kq ≤ kj6) ∧ Aside0 (Kd.R (Kd.int .i64) 3 w' w.heap.size (fun _ => True) (.slice Ao11 t517.length co11) t517) ∧ Aside0 (Kd.R k60 60 w' w.heap.size (fun k_ => some k_ ≠ ((.slice Ao11 t517.length co11) : Value).ownBlock) (.slice Ao15 t523.length co15) t523) ∧ Aside0 (w'.heap[gb528]? = some (.cells #[(.slice Ao11 t517.length co11)] 26 (0, 0))) ∧ Aside0 (w'.heap[gb529]? = some (.cells #[.int .i64 t520, .int .i64 t521, .int .i64 t522, (.slice Ao15 t523.length co15)] 29 (0, 0))) ∧ Aside0 (Below w.heap.size w w'))
     case atStart => exact ⟨(0), (by first | rfl | (simp; done) | (simp [*]; done)), H', ⟨Nat.le_refl _⟩, ⟨by (with_reducible repeat (first | apply rA_ | apply rN_ | apply rD_)); exact HO_529000.out⟩, ⟨by (with_reducible repeat (first | apply rA_ | apply rN_ | apply rD_)); exact HO_530003.out⟩, ⟨by (with_reducible repeat (first | refine bN_ ?_ _ | refine bD_ ?_ | refine bA_ ?_ _)); exact BK528.out⟩, ⟨by (with_reducible repeat (first | refine bN_ ?_ _ | refine bD_ ?_ | refine bA_ ?_ _)); exact BK529.out⟩, ⟨bw_⟩⟩
     case round =>
      clear H'
      try clear c19b0
      try clear hcz13_0
      try clear hcz14_0
      try clear hcz14_1
      try clear hcz14_2
      try clear hcz14_3
      try clear hcz17_0
      try clear hcz17_1
      try clear hcz17_2
      try clear hcz17_3
      try clear hcz22_0
      try clear hfz13_0
      try clear hfz14_0
      try clear hfz14_1
      try clear hfz14_2
      try clear hfz14_3
      try clear hfz17_0
      try clear hfz17_1
      try clear hfz17_2
      try clear hfz17_3
      try clear hfz22_0
      obtain ⟨x9_2, rfl, HA, HK2, HO_529000, HO_530003, BK528, BK529, HB⟩ := hrel
      cases gk with
      | zero => exact absurd HA.out (by simp [laws_FnBorders.l0])
      | succ k2 =>
       have H := HA.out; clear HA
       simp only [laws_FnBorders.l0] at H
       by_cases c24 : x9_2 < (t517.length : Int)
       ·rw [if_pos c24] at H
        have c24b0 : decide (x9_2 < (t517.length : Int)) = true := decide_eq_true c24
        clear c24
        by_cases c25 : 0 ≤ x9_2
        ·rw [if_pos c25] at H
         have c25b0 : decide (0 ≤ x9_2) = true := decide_eq_true c25
         clear c25
         replace H := Option.bind_eq_some_iff.mp H
         obtain ⟨⟨t534, t535, t538, t541⟩, A260, H⟩ := H
         (try dsimp only at H)
         have A26 := aM_ A260; clear A260; have HC27 := aM_ H; clear H; have hnb28 := NB528_529.out; have hnc28 := NB529_528.out
         have hcz29_0 : wr.cell? ⟨gb528, 0, none⟩ = some (.slice Ao11 t517.length co11) := (blk_cell BK528.out 0).trans rfl
         have hfz29_0 := blk_frozen BK528.out 0
         try go_wp2
         have n0_ := aM_ (rD_ HO_529000.out); have n1_ := aM_ (rD_ HO_530003.out); have n2_ := aM_ (bD_ BK528.out); have n3_ := aM_ (bD_ BK529.out); have n4_ := aM_ (wD_ HB.out); clear HO_529000 HO_530003 BK528 BK529 HB; have HO_529000 := n0_; have HO_530003 := n1_; have BK528 := n2_; have BK529 := n3_; have HB := n4_; clear n0_ n1_ n2_ n3_ n4_
         have p533 : 0 ≤ (x9_2 : Int) := dT_
         have q533 : x9_2 < (t517.length : Int) := dT_
         obtain ⟨ad533, e533, hx533_0⟩ := Kd.at_int (Kd.R_reads' HO_529000.out).2.2 x9_2 p533 q533
         cases e533
         replace p533 := eq_true p533; replace q533 := eq_true q533
         refine start_ (n := 14) (S := fun w' => w'.cell? ⟨gb529, 0, none⟩ = some (.int .i64 t520) ∧ w'.cell? ⟨gb529, 1, none⟩ = some (.int .i64 t521) ∧ w'.cell? ⟨gb529, 2, none⟩ = some (.int .i64 t522) ∧ w'.cell? ⟨gb529, 3, none⟩ = some (.slice Ao15 t523.length co15) ∧ w'.cell? ⟨gb528, 0, none⟩ = some (.slice (some ad533) t517.length co11) ∧ w'.cell? (ad533.add (x9_2).toNat) = some (.int .i64 (rd t517 x9_2))) (ds := []) #[false, false, false, false, false, false, false, false, false, false, false, false, false, false] (by kernel_rfl) rfl rfl ⟨(blk_cell BK529.out 0).trans rfl, (blk_cell BK529.out 1).trans rfl, (blk_cell BK529.out 2).trans rfl, (blk_cell BK529.out 3).trans rfl, (blk_cell BK528.out 0).trans rfl, hx533_0⟩ (fun hHeld => ?_); refine with_tabW laws_FnBorders.tab11 laws_FnBorders.bits11 (fun HT_ HW_ => ?_)
         generalize wr.drew = w30 at HO_529000 HO_530003 BK528 BK529 HB hx533_0 hHeld ⊢
         refine pu_ 1 (some 54) #[false, true, false, false, false, false, false, false, false, false, false, false, false, false] rfl rfl ?_
         refine pu_ 2 (some 55) #[false, true, true, false, false, false, false, false, false, false, false, false, false, false] rfl rfl ?_
         refine pu_ 4 (some 57) #[false, true, true, false, true, false, false, false, false, false, false, false, false, false] rfl rfl ?_
         refine tk6_ 0 (some 53) #[true, true, true, false, true, false, false, false, false, false, false, false, false, false] rfl rfl ?_
         refine tk6_ 3 (some 56) #[true, true, true, true, true, false, false, false, false, false, false, false, false, false] rfl rfl ?_
         refine pu_ 5 (some 58) #[true, true, true, true, true, true, false, false, false, false, false, false, false, false] rfl rfl ?_
         refine tk6_ 6 (some 59) #[true, true, true, true, true, true, true, false, false, false, false, false, false, false] rfl rfl ?_
         refine join_ (σ := Value × Value × Nat) 2 zb0_ (fun s_ => [(60, .tuple #[.agg #[.int .i64 t534, s_.1, s_.2.1], .bool t541]), (10, .pointer (some ⟨s_.2.2, 0, none⟩)), (52, .tuple #[.agg #[.int .i64 t534, s_.1, s_.2.1], .bool t541]), (61, .agg #[.int .i64 t534, s_.1, s_.2.1]), (62, .bool t541)]) (fun s_ w' => (w'.cell? ⟨gb529, 0, none⟩ = some (.int .i64 t520) ∧ w'.cell? ⟨gb529, 1, none⟩ = some (.int .i64 t521) ∧ w'.cell? ⟨gb529, 2, none⟩ = some (.int .i64 t522) ∧ w'.cell? ⟨gb529, 3, none⟩ = some (.slice Ao15 t523.length co15) ∧ w'.cell? ⟨gb528, 0, none⟩ = some (.slice (some ad533) t517.length co11) ∧ w'.cell? (ad533.add (x9_2).toNat) = some (.int .i64 (rd t517 x9_2))) ∧ (Kd.R (Kd.int .i64) 3 w' w.heap.size (fun k_ => some k_ ≠ (s_.2.1 : Value).ownBlock ∧ some k_ ≠ (.slice (some ad533) t517.length co11 : Value).ownBlock) s_.1 t535) ∧ (Kd.R (Kd.int .i64) 3 w' w.heap.size (fun k_ => some k_ ≠ (s_.1 : Value).ownBlock ∧ some k_ ≠ (.slice (some ad533) t517.length co11 : Value).ownBlock) s_.2.1 t538) ∧ (Kd.R (Kd.int .i64) 3 w' w.heap.size (fun k_ => some k_ ≠ (s_.1 : Value).ownBlock ∧ some k_ ≠ (s_.2.1 : Value).ownBlock) (.slice (some ad533) t517.length co11) t517) ∧ (Kd.R k60 60 w' w.heap.size (fun k_ => some k_ ≠ (s_.1 : Value).ownBlock ∧ some k_ ≠ (s_.2.1 : Value).ownBlock ∧ some k_ ≠ (.slice (some ad533) t517.length co11 : Value).ownBlock ∧ k_ ≠ s_.2.2) (.slice Ao15 t523.length co15) t523) ∧ (w'.heap[gb528]? = some (.cells #[.slice (some ad533) t517.length co11] 26 (0, 0))) ∧ (w'.heap[gb529]? = some (.cells #[.int .i64 t520, .int .i64 t521, .int .i64 t522, .slice Ao15 t523.length co15] 29 (0, 0))) ∧ (w'.heap[s_.2.2]? = some (.cells #[.int .i64 0, .slice none 0 0, .slice none 0 0] 36 (0, 0))) ∧ (w.heap.size ≤ s_.2.2) ∧ (w.heap.size ≤ s_.2.2) ∧ (gb528 ≠ s_.2.2) ∧ (s_.2.2 ≠ gb528) ∧ (gb529 ≠ s_.2.2) ∧ (s_.2.2 ≠ gb529) ∧ (Below w.heap.size w w')) ?_ ?_
         rotate_left
         ·intro hCont
          refine two_ (i := 7) (j := 11) (Ni := some 60) (Nj := some 10) #[true, true, true, true, true, true, true, true, false, false, false, false, false, false] #[true, true, true, true, true, true, true, false, false, false, false, true, false, false] rfl rfl rfl rfl (two_of HT_.out (by kernel_rfl)) (by decide) (by decide) (fun K hK => ?_) (fun K hK => ?_)
          ·skip
           refine goes_ Try.func9 (by kernel_rfl) rfl #[.agg #[.int .i64 t520, .int .i64 t521, .int .i64 t522, .slice Ao15 t523.length co15], .int .i64 t531, .int .i64 (rd t517 x9_2)] (by rfl) rfl rfl (by (try simp only [List.map_toArray, List.map_cons, List.map_nil]); first | done | rfl | (simp only [List.length_drop, List.length_take]; rfl)) ?_
           with_reducible refine (impl_TableIn.calls t520 t521 t522 _ _ t523 t531 (rd t517 x9_2) t534 t535 t538 t541 _ ?side1 ?side2 A26.out).mono ?_
           (case side1 => repeat (first | exact (Kd.R_reads' HO_530003.out).2.2 | (with_reducible refine cA_ ?_ _) | (with_reducible refine cN_ ?_ _) | (with_reducible refine cD_ ?_)))
           (case side2 => exact (Kd.R_reads' HO_530003.out).2.1)
           rintro e w31 ⟨v536, v539, rfl, ho0, ho1, hb⟩
           have HS5_ := (hb.cell (World.block_lt_of_cell? _ _ (hHeld.2.2.2.2.2))).trans (hHeld.2.2.2.2.2)
           refine ⟨_, rfl, ?_⟩
           have n0_ := aM_ (Kd.R_mono (Kd.R_told (Kd.R_told (Kd.R_old (rb_ HO_529000.out) hb) (Kd.R_base ho0)) (Kd.R_base ho1)) (fun _ h_ => h_.1)); have n1_ := aM_ (Kd.R_mono (Kd.R_told (Kd.R_told (Kd.R_old (rb_ HO_530003.out) hb) (Kd.R_base ho0)) (Kd.R_base ho1)) (fun _ h_ => h_.1)); have n2_ := aM_ (Kd.R_lower (Kd.R_new' ho0 (Kd.R_lt (rb_ HO_529000.out))) (sZ_ (bw_))); have n3_ := aM_ (Kd.R_lower (Kd.R_new' ho1 (Kd.R_lt (rb_ HO_529000.out))) (sZ_ (bw_))); have n4_ := aM_ (bB_ (kb_ BK528.out) hb); have n5_ := aM_ (bB_ (kb_ BK529.out) hb); have n6_ := aM_ (wS_ (bw_) hb); clear HO_529000 HO_530003 BK528 BK529 HB; have HO_529000 := n0_; have HO_530003 := n1_; have HO537 := n2_; have HO540 := n3_; have BK528 := n4_; have BK529 := n5_; have HB := n6_; clear n0_ n1_ n2_ n3_ n4_ n5_ n6_; (try clear hb); (try clear hb2); (try clear hk); (try clear hi); (try clear ho0); (try clear ho1)
           refine hK.out _ _ ⟨(blk_cell BK529.out 0).trans rfl, (blk_cell BK529.out 1).trans rfl, (blk_cell BK529.out 2).trans rfl, (blk_cell BK529.out 3).trans rfl, (blk_cell BK528.out 0).trans rfl, HS5_⟩ (fun hHeld => ?_)
           clear hK K
           refine norm_ (a' := ?_) ?_ ?_
           rotate_left
           ·show Act.put _ (some 60) _ = _
            simp only [Act.put, List.setIfInBounds_toArray, List.set_cons_zero, List.set_cons_succ, i64_w, i32_w]
            rfl
           refine pu_ 8 (some 52) #[true, true, true, true, true, true, true, true, true, false, false, false, false, false] rfl rfl ?_
           refine pu_ 9 (some 61) #[true, true, true, true, true, true, true, true, true, true, false, false, false, false] rfl rfl ?_
           refine pu_ 10 (some 62) #[true, true, true, true, true, true, true, true, true, true, true, false, false, false] rfl rfl ?_
           refine one_ (i := 11) (N := some 10) zb0_ rfl rfl (one_of HT_.out (by kernel_rfl)) (by decide) (fun K hK => ?_)
           refine box_step ?hg (N := 10) ?hd (cs := #[.int .i64 0, .slice none 0 0, .slice none 0 0]) (t := 36) ?hr ?_; (case hd => rfl); (case hg => rfl); (case hr => first | (go_simp; done) | (go_simp; rfl))
           intro gb542 hg w32 hbox hb
           have HS5_ := (hb.cell (World.block_lt_of_cell? _ _ (hHeld.2.2.2.2.2))).trans (hHeld.2.2.2.2.2); have n0_ := aM_ (rB_ (rb_ HO_529000.out) hb); have n1_ := aM_ (rB_ (Kd.R_elderB (rb_ HO_530003.out) gb542 (Nat.le_of_eq hg.symm)) hb); have n2_ := aM_ (rB_ (rb_ HO537.out) hb); have n3_ := aM_ (rB_ (rb_ HO540.out) hb); have n4_ := aM_ (bB_ (kb_ BK528.out) hb); have n5_ := aM_ (bB_ (kb_ BK529.out) hb); have n6_ := aM_ (wS_ (bw_) hb); have n7_ := aM_ (hbox); have n8_ := aM_ ((by rw [hg]; exact (sZ_ (bw_)) : w.heap.size ≤ gb542)); have n9_ := aM_ ((by rw [hg]; exact (sZ_ (bw_)) : w.heap.size ≤ gb542)); have n10_ := aM_ ((by rw [hg]; exact Nat.ne_of_lt (blk_lt (kb_ BK528.out)) : gb528 ≠ gb542)); have n11_ := aM_ ((by rw [hg]; exact Nat.ne_of_gt (blk_lt (kb_ BK528.out)) : gb542 ≠ gb528)); have n12_ := aM_ ((by rw [hg]; exact Nat.ne_of_lt (blk_lt (kb_ BK529.out)) : gb529 ≠ gb542)); have n13_ := aM_ ((by rw [hg]; exact Nat.ne_of_gt (blk_lt (kb_ BK529.out)) : gb542 ≠ gb529)); clear HO_529000 HO_530003 HO537 HO540 BK528 BK529 HB; have HO_529000 := n0_; have HO_530003 := n1_; have HO537 := n2_; have HO540 := n3_; have BK528 := n4_; have BK529 := n5_; have HB := n6_; have BK542 := n7_; have GW542 := n8_; have GE542 := n9_; have NB528_542 := n10_; have NB542_528 := n11_; have NB529_542 := n12_; have NB542_529 := n13_; clear n0_ n1_ n2_ n3_ n4_ n5_ n6_ n7_ n8_ n9_ n10_ n11_ n12_ n13_ hb hbox hg
           refine hK.out _ _ ⟨(blk_cell BK529.out 0).trans rfl, (blk_cell BK529.out 1).trans rfl, (blk_cell BK529.out 2).trans rfl, (blk_cell BK529.out 3).trans rfl, (blk_cell BK528.out 0).trans rfl, HS5_⟩ (fun hHeld => ?_)
           clear hK K
           refine norm_ (a' := ?_) ?_ ?_
           rotate_left
           ·show Act.put _ (some 10) _ = _
            simp only [Act.put, List.setIfInBounds_toArray, List.set_cons_zero, List.set_cons_succ, i64_w, i32_w]
            rfl
           exact norm_ (by simp only [putAll, Act.put, List.setIfInBounds_toArray, List.set_cons_zero, List.set_cons_succ]) (hCont (v536, v539, gb542) _ ⟨hHeld, (rb_ HO537.out), (rb_ HO540.out), (by (with_reducible repeat (first | apply rA_ | apply rN_ | apply rD_)); exact Kd.R_mono HO_529000.out (fun _ hk => ⟨hk.1.2, hk.2⟩)), (by (with_reducible repeat (first | apply rA_ | apply rN_ | apply rD_)); exact Kd.R_mono HO_530003.out (fun _ hk => ⟨hk.1.1.2, ⟨hk.1.2, ⟨hk.1.1.1, hk.2⟩⟩⟩)), (kb_ BK528.out), (kb_ BK529.out), (kb_ BK542.out), GW542.out, GE542.out, NB528_542.out, NB542_528.out, NB529_542.out, NB542_529.out, (bw_)⟩)
          ·skip
           refine box_step ?hg (N := 10) ?hd (cs := #[.int .i64 0, .slice none 0 0, .slice none 0 0]) (t := 36) ?hr ?_; (case hd => rfl); (case hg => rfl); (case hr => first | (go_simp; done) | (go_simp; rfl))
           intro gb542 hg w31 hbox hb
           have HS5_ := (hb.cell (World.block_lt_of_cell? _ _ (hHeld.2.2.2.2.2))).trans (hHeld.2.2.2.2.2); have n0_ := aM_ (rB_ (rb_ HO_529000.out) hb); have n1_ := aM_ (rB_ (Kd.R_elderB (rb_ HO_530003.out) gb542 (Nat.le_of_eq hg.symm)) hb); have n2_ := aM_ (bB_ (kb_ BK528.out) hb); have n3_ := aM_ (bB_ (kb_ BK529.out) hb); have n4_ := aM_ (wS_ (bw_) hb); have n5_ := aM_ (hbox); have n6_ := aM_ ((by rw [hg]; exact (sZ_ (bw_)) : w.heap.size ≤ gb542)); have n7_ := aM_ ((by rw [hg]; exact (sZ_ (bw_)) : w.heap.size ≤ gb542)); have n8_ := aM_ ((by rw [hg]; exact Nat.ne_of_lt (blk_lt (kb_ BK528.out)) : gb528 ≠ gb542)); have n9_ := aM_ ((by rw [hg]; exact Nat.ne_of_gt (blk_lt (kb_ BK528.out)) : gb542 ≠ gb528)); have n10_ := aM_ ((by rw [hg]; exact Nat.ne_of_lt (blk_lt (kb_ BK529.out)) : gb529 ≠ gb542)); have n11_ := aM_ ((by rw [hg]; exact Nat.ne_of_gt (blk_lt (kb_ BK529.out)) : gb542 ≠ gb529)); clear HO_529000 HO_530003 BK528 BK529 HB; have HO_529000 := n0_; have HO_530003 := n1_; have BK528 := n2_; have BK529 := n3_; have HB := n4_; have BK542 := n5_; have GW542 := n6_; have GE542 := n7_; have NB528_542 := n8_; have NB542_528 := n9_; have NB529_542 := n10_; have NB542_529 := n11_; clear n0_ n1_ n2_ n3_ n4_ n5_ n6_ n7_ n8_ n9_ n10_ n11_ hb hbox hg
           refine hK.out _ _ ⟨(blk_cell BK529.out 0).trans rfl, (blk_cell BK529.out 1).trans rfl, (blk_cell BK529.out 2).trans rfl, (blk_cell BK529.out 3).trans rfl, (blk_cell BK528.out 0).trans rfl, HS5_⟩ (fun hHeld => ?_)
           clear hK K
           refine norm_ (a' := ?_) ?_ ?_
           rotate_left
           ·show Act.put _ (some 10) _ = _
            simp only [Act.put, List.setIfInBounds_toArray, List.set_cons_zero, List.set_cons_succ, i64_w, i32_w]
            rfl
           refine one_ (i := 7) (N := some 60) #[true, true, true, true, true, true, true, true, false, false, false, true, false, false] rfl rfl (one_of HT_.out (by kernel_rfl)) (by decide) (fun K hK => ?_)
           refine goes_ Try.func9 (by kernel_rfl) rfl #[.agg #[.int .i64 t520, .int .i64 t521, .int .i64 t522, .slice Ao15 t523.length co15], .int .i64 t531, .int .i64 (rd t517 x9_2)] (by rfl) rfl rfl (by (try simp only [List.map_toArray, List.map_cons, List.map_nil]); first | done | rfl | (simp only [List.length_drop, List.length_take]; rfl)) ?_
           with_reducible refine (impl_TableIn.calls t520 t521 t522 _ _ t523 t531 (rd t517 x9_2) t534 t535 t538 t541 _ ?side1 ?side2 A26.out).mono ?_
           (case side1 => repeat (first | exact (Kd.R_reads' HO_530003.out).2.2 | (with_reducible refine cA_ ?_ _) | (with_reducible refine cN_ ?_ _) | (with_reducible refine cD_ ?_)))
           (case side2 => exact (Kd.R_reads' HO_530003.out).2.1)
           rintro e w32 ⟨v536, v539, rfl, ho0, ho1, hb⟩
           have HS5_ := (hb.cell (World.block_lt_of_cell? _ _ (hHeld.2.2.2.2.2))).trans (hHeld.2.2.2.2.2)
           refine ⟨_, rfl, ?_⟩
           have n0_ := aM_ (Kd.R_mono (Kd.R_told (Kd.R_told (Kd.R_old (rb_ HO_529000.out) hb) (Kd.R_base ho0)) (Kd.R_base ho1)) (fun _ h_ => h_.1)); have n1_ := aM_ (Kd.R_mono (Kd.R_told (Kd.R_told (Kd.R_old (rb_ HO_530003.out) hb) (Kd.R_base ho0)) (Kd.R_base ho1)) (fun _ h_ => h_.1)); have n2_ := aM_ (Kd.R_lower (Kd.R_new' ho0 (Kd.R_lt (rb_ HO_529000.out))) (sZ_ (bw_))); have n3_ := aM_ (Kd.R_lower (Kd.R_new' ho1 (Kd.R_lt (rb_ HO_529000.out))) (sZ_ (bw_))); have n4_ := aM_ (bB_ (kb_ BK528.out) hb); have n5_ := aM_ (bB_ (kb_ BK529.out) hb); have n6_ := aM_ (bB_ (kb_ BK542.out) hb); have n7_ := aM_ (wS_ (bw_) hb); clear HO_529000 HO_530003 BK528 BK529 BK542 HB; have HO_529000 := n0_; have HO_530003 := n1_; have HO537 := n2_; have HO540 := n3_; have BK528 := n4_; have BK529 := n5_; have BK542 := n6_; have HB := n7_; clear n0_ n1_ n2_ n3_ n4_ n5_ n6_ n7_; (try clear hb); (try clear hb2); (try clear hk); (try clear hi); (try clear ho0); (try clear ho1)
           refine hK.out _ _ ⟨(blk_cell BK529.out 0).trans rfl, (blk_cell BK529.out 1).trans rfl, (blk_cell BK529.out 2).trans rfl, (blk_cell BK529.out 3).trans rfl, (blk_cell BK528.out 0).trans rfl, HS5_⟩ (fun hHeld => ?_)
           clear hK K
           refine norm_ (a' := ?_) ?_ ?_
           rotate_left
           ·show Act.put _ (some 60) _ = _
            simp only [Act.put, List.setIfInBounds_toArray, List.set_cons_zero, List.set_cons_succ, i64_w, i32_w]
            rfl
           refine pu_ 8 (some 52) #[true, true, true, true, true, true, true, true, true, false, false, true, false, false] rfl rfl ?_
           refine pu_ 9 (some 61) #[true, true, true, true, true, true, true, true, true, true, false, true, false, false] rfl rfl ?_
           refine pu_ 10 (some 62) zb0_ rfl rfl ?_
           exact norm_ (by simp only [putAll, Act.put, List.setIfInBounds_toArray, List.set_cons_zero, List.set_cons_succ]) (hCont (v536, v539, gb542) _ ⟨hHeld, (rb_ HO537.out), (rb_ HO540.out), (by (with_reducible repeat (first | apply rA_ | apply rN_ | apply rD_)); exact Kd.R_mono HO_529000.out (fun _ hk => ⟨hk.1.2, hk.2⟩)), (by (with_reducible repeat (first | apply rA_ | apply rN_ | apply rD_)); exact Kd.R_mono HO_530003.out (fun _ hk => ⟨hk.1.2, ⟨hk.2, ⟨hk.1.1.1, hk.1.1.2⟩⟩⟩)), (kb_ BK528.out), (kb_ BK529.out), (kb_ BK542.out), GW542.out, GE542.out, NB528_542.out, NB542_528.out, NB529_542.out, NB542_529.out, (bw_)⟩)
         rintro ⟨v536, v539, gb542⟩ w33 ⟨hS_, h0_, h1_, h2_, h3_, h4_, h5_, h6_, h7_, h8_, h9_, h10_, h11_, h12_, h13_⟩
         have n0_ : Aside0 (Kd.R (Kd.int .i64) 3 w33 w.heap.size (fun k_ => some k_ ≠ (v539 : Value).ownBlock ∧ some k_ ≠ (.slice (some ad533) t517.length co11 : Value).ownBlock) v536 t535) := ⟨h0_⟩
         have n1_ : Aside0 (Kd.R (Kd.int .i64) 3 w33 w.heap.size (fun k_ => some k_ ≠ (v536 : Value).ownBlock ∧ some k_ ≠ (.slice (some ad533) t517.length co11 : Value).ownBlock) v539 t538) := ⟨h1_⟩
         have n2_ : Aside0 (Kd.R (Kd.int .i64) 3 w33 w.heap.size (fun k_ => some k_ ≠ (v536 : Value).ownBlock ∧ some k_ ≠ (v539 : Value).ownBlock) (.slice (some ad533) t517.length co11) t517) := ⟨h2_⟩
         have n3_ : Aside0 (Kd.R k60 60 w33 w.heap.size (fun k_ => some k_ ≠ (v536 : Value).ownBlock ∧ some k_ ≠ (v539 : Value).ownBlock ∧ some k_ ≠ (.slice (some ad533) t517.length co11 : Value).ownBlock ∧ k_ ≠ gb542) (.slice Ao15 t523.length co15) t523) := ⟨h3_⟩
         have n4_ : Aside0 (w33.heap[gb528]? = some (.cells #[.slice (some ad533) t517.length co11] 26 (0, 0))) := ⟨h4_⟩
         have n5_ : Aside0 (w33.heap[gb529]? = some (.cells #[.int .i64 t520, .int .i64 t521, .int .i64 t522, .slice Ao15 t523.length co15] 29 (0, 0))) := ⟨h5_⟩
         have n6_ : Aside0 (w33.heap[gb542]? = some (.cells #[.int .i64 0, .slice none 0 0, .slice none 0 0] 36 (0, 0))) := ⟨h6_⟩
         have n7_ : Aside0 (w.heap.size ≤ gb542) := ⟨h7_⟩
         have n8_ : Aside0 (w.heap.size ≤ gb542) := ⟨h8_⟩
         have n9_ : Aside0 (gb528 ≠ gb542) := ⟨h9_⟩
         have n10_ : Aside0 (gb542 ≠ gb528) := ⟨h10_⟩
         have n11_ : Aside0 (gb529 ≠ gb542) := ⟨h11_⟩
         have n12_ : Aside0 (gb542 ≠ gb529) := ⟨h12_⟩
         have n13_ : Aside0 (Below w.heap.size w w33) := ⟨h13_⟩
         clear HO_529000 HO_530003 BK528 BK529 HB h0_ h1_ h2_ h3_ h4_ h5_ h6_ h7_ h8_ h9_ h10_ h11_ h12_ h13_; have HO537 := n0_; have HO540 := n1_; have HO_529000 := n2_; have HO_530003 := n3_; have BK528 := n4_; have BK529 := n5_; have BK542 := n6_; have GW542 := n7_; have GE542 := n8_; have NB528_542 := n9_; have NB542_528 := n10_; have NB529_542 := n11_; have NB542_529 := n12_; have HB := n13_; clear n0_ n1_ n2_ n3_ n4_ n5_ n6_ n7_ n8_ n9_ n10_ n11_ n12_ n13_
         have hHeld : w33.cell? ⟨gb529, 0, none⟩ = some (.int .i64 t520) ∧ w33.cell? ⟨gb529, 1, none⟩ = some (.int .i64 t521) ∧ w33.cell? ⟨gb529, 2, none⟩ = some (.int .i64 t522) ∧ w33.cell? ⟨gb529, 3, none⟩ = some (.slice Ao15 t523.length co15) ∧ w33.cell? ⟨gb528, 0, none⟩ = some (.slice (some ad533) t517.length co11) ∧ w33.cell? (ad533.add (x9_2).toNat) = some (.int .i64 (rd t517 x9_2)) := hS_
         obtain ⟨Ao35, co35, eo35⟩ := Kd.R_slice HO537.out
         (first | subst eo35 | (injection eo35 with f1_ f2_ f3_; have f4_ := f1_.symm; have f5_ := f3_.symm; clear f1_ f2_ f3_; subst f4_; subst f5_))
         obtain ⟨Ao37, co37, eo37⟩ := Kd.R_slice HO540.out
         (first | subst eo37 | (injection eo37 with f1_ f2_ f3_; have f4_ := f1_.symm; have f5_ := f3_.symm; clear f1_ f2_ f3_; subst f4_; subst f5_))
         refine norm_ (a' := ?_) ?_ ?_
         rotate_left
         ·simp only [putAll, Act.put, List.setIfInBounds_toArray, List.set_cons_zero, List.set_cons_succ]
          rfl
         refine one_ (i := 12) (N := none) #[true, true, true, true, true, true, true, true, true, true, true, true, true, false] rfl rfl (one_of HT_.out (by kernel_rfl)) (by decide) (fun K hK => ?_)
         have hs34 : w33.cell? ⟨gb542, 0, none⟩ = some (.int .i64 0) := (blk_cell BK542.out 0).trans rfl
         have hfs34 := blk_frozen BK542.out 0; have hns34_0 := NB528_542.out; have hns34_1 := NB529_542.out; have hms34_0 := NB542_528.out; have hms34_1 := NB542_529.out
         have hs36 : w33.cell? ⟨gb542, 1, none⟩ = some (.slice none 0 0) := (blk_cell BK542.out 1).trans rfl
         have hfs36 := blk_frozen BK542.out 1; have hns36_0 := NB528_542.out; have hns36_1 := NB529_542.out; have hms36_0 := NB542_528.out; have hms36_1 := NB542_529.out
         have hs38 : w33.cell? ⟨gb542, 2, none⟩ = some (.slice none 0 0) := (blk_cell BK542.out 2).trans rfl
         have hfs38 := blk_frozen BK542.out 2; have hns38_0 := NB528_542.out; have hns38_1 := NB529_542.out; have hms38_0 := NB542_528.out; have hms38_1 := NB542_529.out
         refine skip_ (w1 := ?_) (by rfl) rfl ?_ ?_
         rotate_left
         ·go_simp
          rfl
         refine hK.out _ _ ⟨((cell_far (p := ⟨gb542, _, none⟩) NB529_542.out _).trans (((cell_far (p := ⟨gb542, _, none⟩) NB529_542.out _).trans (((cell_far (p := ⟨gb542, _, none⟩) NB529_542.out _).trans (hHeld.1)))))), ((cell_far (p := ⟨gb542, _, none⟩) NB529_542.out _).trans (((cell_far (p := ⟨gb542, _, none⟩) NB529_542.out _).trans (((cell_far (p := ⟨gb542, _, none⟩) NB529_542.out _).trans (hHeld.2.1)))))), ((cell_far (p := ⟨gb542, _, none⟩) NB529_542.out _).trans (((cell_far (p := ⟨gb542, _, none⟩) NB529_542.out _).trans (((cell_far (p := ⟨gb542, _, none⟩) NB529_542.out _).trans (hHeld.2.2.1)))))), ((cell_far (p := ⟨gb542, _, none⟩) NB529_542.out _).trans (((cell_far (p := ⟨gb542, _, none⟩) NB529_542.out _).trans (((cell_far (p := ⟨gb542, _, none⟩) NB529_542.out _).trans (hHeld.2.2.2.1)))))), ((cell_far (p := ⟨gb542, _, none⟩) NB528_542.out _).trans (((cell_far (p := ⟨gb542, _, none⟩) NB528_542.out _).trans (((cell_far (p := ⟨gb542, _, none⟩) NB528_542.out _).trans (hHeld.2.2.2.2.1)))))), ((cell_far (p := ⟨gb542, _, none⟩) (by first | exact Kd.own_blk (Kd.R_ne HO_529000.out BK542.out (by decide)) | (rw [add_block]; exact Kd.own_blk (Kd.R_ne HO_529000.out BK542.out (by decide))) | (show (Addr.add _ _).block ≠ _; rw [add_block]; exact Kd.own_blk (Kd.R_ne HO_529000.out BK542.out (by decide))) | (dsimp only; exact Kd.own_blk (Kd.R_ne HO_529000.out BK542.out (by decide)))) _).trans (((cell_far (p := ⟨gb542, _, none⟩) (by first | exact Kd.own_blk (Kd.R_ne HO_529000.out BK542.out (by decide)) | (rw [add_block]; exact Kd.own_blk (Kd.R_ne HO_529000.out BK542.out (by decide))) | (show (Addr.add _ _).block ≠ _; rw [add_block]; exact Kd.own_blk (Kd.R_ne HO_529000.out BK542.out (by decide))) | (dsimp only; exact Kd.own_blk (Kd.R_ne HO_529000.out BK542.out (by decide)))) _).trans (((cell_far (p := ⟨gb542, _, none⟩) (by first | exact Kd.own_blk (Kd.R_ne HO_529000.out BK542.out (by decide)) | (rw [add_block]; exact Kd.own_blk (Kd.R_ne HO_529000.out BK542.out (by decide))) | (show (Addr.add _ _).block ≠ _; rw [add_block]; exact Kd.own_blk (Kd.R_ne HO_529000.out BK542.out (by decide))) | (dsimp only; exact Kd.own_blk (Kd.R_ne HO_529000.out BK542.out (by decide)))) _).trans (hHeld.2.2.2.2.2))))))⟩ (fun hHeld => ?_)
         clear hK K
         refine pu_ 13 (some 11) #[true, true, true, true, true, true, true, true, true, true, true, true, true, true] rfl rfl ?_
         refine done_ (done_of HT_.out (by kernel_rfl)) ?_
         go_upto_region 12 with (fail)
         go_cut [83] (fun v83 wc => ∃ (kq : Nat) (x83_26 : Bool), v83 = .bool x83_26 ∧ Aside0 (laws_FnBorders.j2 kq l0 t526 t527 t530 t531 x9_2 x83_26 t517 t520 t521 t522 t523 t534 t535 t538 = some r) ∧ Aside0 (kq ≤ k2) ∧ Aside0 (Kd.R (Kd.int .i64) 3 wc w.heap.size (fun k_ => some k_ ≠ ((.slice Ao35 t535.length co35) : Value).ownBlock ∧ some k_ ≠ ((.slice Ao37 t538.length co37) : Value).ownBlock) (.slice (some ad533) t517.length co11) t517) ∧ Aside0 (Kd.R k60 60 wc w.heap.size (fun k_ => some k_ ≠ ((.slice (some ad533) t517.length co11) : Value).ownBlock ∧ some k_ ≠ ((.slice Ao35 t535.length co35) : Value).ownBlock ∧ some k_ ≠ ((.slice Ao37 t538.length co37) : Value).ownBlock ∧ k_ ≠ gb542) (.slice Ao15 t523.length co15) t523) ∧ Aside0 (Kd.R (Kd.int .i64) 3 wc w.heap.size (fun k_ => some k_ ≠ ((.slice (some ad533) t517.length co11) : Value).ownBlock ∧ some k_ ≠ ((.slice Ao37 t538.length co37) : Value).ownBlock) (.slice Ao35 t535.length co35) t535) ∧ Aside0 (Kd.R (Kd.int .i64) 3 wc w.heap.size (fun k_ => some k_ ≠ ((.slice (some ad533) t517.length co11) : Value).ownBlock ∧ some k_ ≠ ((.slice Ao35 t535.length co35) : Value).ownBlock) (.slice Ao37 t538.length co37) t538) ∧ Aside0 (wc.heap[gb528]? = some (.cells #[(.slice (some ad533) t517.length co11)] 26 (0, 0))) ∧ Aside0 (wc.heap[gb529]? = some (.cells #[.int .i64 t520, .int .i64 t521, .int .i64 t522, (.slice Ao15 t523.length co15)] 29 (0, 0))) ∧ Aside0 (wc.heap[gb542]? = some (.cells #[.int .i64 t534, (.slice Ao35 t535.length co35), (.slice Ao37 t538.length co37)] 36 (0, 0))) ∧ Aside0 (Below w.heap.size w wc))
         case first =>
          have H := HC27.out; clear HC27
          by_cases c39 : t541 = true
          ·subst c39
           have H1 : (if t526 < 0 then (laws_FnBorders.j2 k2 l0 t526 t527 t530 t531 x9_2 true t517 t520 t521 t522 t523 t534 t535 t538) else (if t526 ≥ (t535.length : Int) then (laws_FnBorders.j2 k2 l0 t526 t527 t530 t531 x9_2 true t517 t520 t521 t522 t523 t534 t535 t538) else (if 0 ≤ t526 then (if t526 < (t535.length : Int) then (laws_FnBorders.j2 k2 l0 t526 t527 t530 t531 x9_2 (decide ((rd t535 t526) < 0)) t517 t520 t521 t522 t523 t534 t535 t538) else (none)) else (none)))) = some r := by rw [if_pos rfl] at H; exact H
           clear H; have H := H1; clear H1
           by_cases c40 : t526 < 0
           ·rw [if_pos c40] at H
            have c40b0 : decide (t526 < 0) = true := decide_eq_true c40
            clear c40
            (first | rw [c40b0] | (simp only [i64_w, i32_w]; rw [c40b0]) | skip)
            have H' := aM_ H
            clear H
            go_wp2
            go_meet
            case rel => exact ⟨_, (true), (by first | rfl | (simp; done) | (simp [*]; done)), H', ⟨by have := HJ6.out; have := HK2.out; first | omega | exact Nat.le_refl _⟩, ⟨by (with_reducible repeat (first | apply rA_ | apply rN_ | apply rD_)); exact Kd.R_mono (Kd.R_far (p := ⟨gb542, 2, none⟩) (Kd.R_far (p := ⟨gb542, 1, none⟩) (Kd.R_far (p := ⟨gb542, 0, none⟩) (Kd.R_types HO_529000.out BK542.out (by decide)) (fun _ hk => hk.2) (.int .i64 t534)) (fun _ hk => hk.2) (.slice Ao35 t535.length co35)) (fun _ hk => hk.2) (.slice Ao37 t538.length co37)) (fun _ hk => ⟨hk.1.1, hk.1.2⟩)⟩, ⟨by (with_reducible repeat (first | apply rA_ | apply rN_ | apply rD_)); exact Kd.R_mono (Kd.R_far (p := ⟨gb542, 2, none⟩) (Kd.R_far (p := ⟨gb542, 1, none⟩) (Kd.R_far (p := ⟨gb542, 0, none⟩) (Kd.R_mono HO_530003.out (fun k_ hk => (⟨hk, hk.2.2.2⟩ : _ ∧ k_ ≠ gb542))) (fun _ hk => hk.2) (.int .i64 t534)) (fun _ hk => hk.2) (.slice Ao35 t535.length co35)) (fun _ hk => hk.2) (.slice Ao37 t538.length co37)) (fun _ hk => ⟨hk.1.2.2.1, ⟨hk.1.1, ⟨hk.1.2.1, hk.1.2.2.2⟩⟩⟩)⟩, ⟨by (with_reducible repeat (first | apply rA_ | apply rN_ | apply rD_)); exact Kd.R_mono (Kd.R_far (p := ⟨gb542, 2, none⟩) (Kd.R_far (p := ⟨gb542, 1, none⟩) (Kd.R_far (p := ⟨gb542, 0, none⟩) (Kd.R_types HO537.out BK542.out (by decide)) (fun _ hk => hk.2) (.int .i64 t534)) (fun _ hk => hk.2) (.slice Ao35 t535.length co35)) (fun _ hk => hk.2) (.slice Ao37 t538.length co37)) (fun _ hk => ⟨hk.1.2, hk.1.1⟩)⟩, ⟨by (with_reducible repeat (first | apply rA_ | apply rN_ | apply rD_)); exact Kd.R_mono (Kd.R_far (p := ⟨gb542, 2, none⟩) (Kd.R_far (p := ⟨gb542, 1, none⟩) (Kd.R_far (p := ⟨gb542, 0, none⟩) (Kd.R_types HO540.out BK542.out (by decide)) (fun _ hk => hk.2) (.int .i64 t534)) (fun _ hk => hk.2) (.slice Ao35 t535.length co35)) (fun _ hk => hk.2) (.slice Ao37 t538.length co37)) (fun _ hk => ⟨hk.1.2, hk.1.1⟩)⟩, ⟨by (with_reducible repeat (first | refine bN_ ?_ _ | refine bD_ ?_ | refine bA_ ?_ _)); refine blk_far ?_ NB528_542.out _; (with_reducible repeat (first | refine bN_ ?_ _ | refine bD_ ?_ | refine bA_ ?_ _)); refine blk_far ?_ NB528_542.out _; (with_reducible repeat (first | refine bN_ ?_ _ | refine bD_ ?_ | refine bA_ ?_ _)); refine blk_far ?_ NB528_542.out _; (with_reducible repeat (first | refine bN_ ?_ _ | refine bD_ ?_ | refine bA_ ?_ _)); exact BK528.out⟩, ⟨by (with_reducible repeat (first | refine bN_ ?_ _ | refine bD_ ?_ | refine bA_ ?_ _)); refine blk_far ?_ NB529_542.out _; (with_reducible repeat (first | refine bN_ ?_ _ | refine bD_ ?_ | refine bA_ ?_ _)); refine blk_far ?_ NB529_542.out _; (with_reducible repeat (first | refine bN_ ?_ _ | refine bD_ ?_ | refine bA_ ?_ _)); refine blk_far ?_ NB529_542.out _; (with_reducible repeat (first | refine bN_ ?_ _ | refine bD_ ?_ | refine bA_ ?_ _)); exact BK529.out⟩, ⟨by (with_reducible repeat (first | refine bN_ ?_ _ | refine bD_ ?_ | refine bA_ ?_ _)); refine blk_put (cs := #[.int .i64 t534, .slice Ao35 t535.length co35, .slice none 0 0]) ?_ 2 _ rfl; (with_reducible repeat (first | refine bN_ ?_ _ | refine bD_ ?_ | refine bA_ ?_ _)); refine blk_put (cs := #[.int .i64 t534, .slice none 0 0, .slice none 0 0]) ?_ 1 _ rfl; (with_reducible repeat (first | refine bN_ ?_ _ | refine bD_ ?_ | refine bA_ ?_ _)); refine blk_put (cs := #[.int .i64 0, .slice none 0 0, .slice none 0 0]) ?_ 0 _ rfl; (with_reducible repeat (first | refine bN_ ?_ _ | refine bD_ ?_ | refine bA_ ?_ _)); exact BK542.out⟩, ⟨bw_⟩⟩
           ·rw [if_neg c40] at H
            have c40b0 : decide (t526 < 0) = false := decide_eq_false c40
            clear c40
            (first | rw [c40b0] | (simp only [i64_w, i32_w]; rw [c40b0]) | skip)
            by_cases c41 : t526 ≥ (t535.length : Int)
            ·rw [if_pos c41] at H
             have c41b0 : decide ((t535.length : Int) ≤ t526) = true := decide_eq_true c41
             clear c41
             have H' := aM_ H
             clear H; have hnb42 := NB542_528.out; have hnc42 := NB528_542.out; have hnb43 := NB542_529.out; have hnc43 := NB529_542.out
             have hcz44_0 : w33.cell? ⟨gb542, 0, none⟩ = some (.int .i64 0) := (blk_cell BK542.out 0).trans rfl
             have hcz44_1 : w33.cell? ⟨gb542, 1, none⟩ = some (.slice none 0 0) := (blk_cell BK542.out 1).trans rfl
             have hcz44_2 : w33.cell? ⟨gb542, 2, none⟩ = some (.slice none 0 0) := (blk_cell BK542.out 2).trans rfl
             have hfz44_0 := blk_frozen BK542.out 0; have hfz44_1 := blk_frozen BK542.out 1; have hfz44_2 := blk_frozen BK542.out 2
             go_wp2
             go_meet
             case rel => exact ⟨_, (true), (by first | rfl | (simp; done) | (simp [*]; done)), H', ⟨by have := HJ6.out; have := HK2.out; first | omega | exact Nat.le_refl _⟩, ⟨by (with_reducible repeat (first | apply rA_ | apply rN_ | apply rD_)); exact Kd.R_mono (Kd.R_far (p := ⟨gb542, 2, none⟩) (Kd.R_far (p := ⟨gb542, 1, none⟩) (Kd.R_far (p := ⟨gb542, 0, none⟩) (Kd.R_types HO_529000.out BK542.out (by decide)) (fun _ hk => hk.2) (.int .i64 t534)) (fun _ hk => hk.2) (.slice Ao35 t535.length co35)) (fun _ hk => hk.2) (.slice Ao37 t538.length co37)) (fun _ hk => ⟨hk.1.1, hk.1.2⟩)⟩, ⟨by (with_reducible repeat (first | apply rA_ | apply rN_ | apply rD_)); exact Kd.R_mono (Kd.R_far (p := ⟨gb542, 2, none⟩) (Kd.R_far (p := ⟨gb542, 1, none⟩) (Kd.R_far (p := ⟨gb542, 0, none⟩) (Kd.R_mono HO_530003.out (fun k_ hk => (⟨hk, hk.2.2.2⟩ : _ ∧ k_ ≠ gb542))) (fun _ hk => hk.2) (.int .i64 t534)) (fun _ hk => hk.2) (.slice Ao35 t535.length co35)) (fun _ hk => hk.2) (.slice Ao37 t538.length co37)) (fun _ hk => ⟨hk.1.2.2.1, ⟨hk.1.1, ⟨hk.1.2.1, hk.1.2.2.2⟩⟩⟩)⟩, ⟨by (with_reducible repeat (first | apply rA_ | apply rN_ | apply rD_)); exact Kd.R_mono (Kd.R_far (p := ⟨gb542, 2, none⟩) (Kd.R_far (p := ⟨gb542, 1, none⟩) (Kd.R_far (p := ⟨gb542, 0, none⟩) (Kd.R_types HO537.out BK542.out (by decide)) (fun _ hk => hk.2) (.int .i64 t534)) (fun _ hk => hk.2) (.slice Ao35 t535.length co35)) (fun _ hk => hk.2) (.slice Ao37 t538.length co37)) (fun _ hk => ⟨hk.1.2, hk.1.1⟩)⟩, ⟨by (with_reducible repeat (first | apply rA_ | apply rN_ | apply rD_)); exact Kd.R_mono (Kd.R_far (p := ⟨gb542, 2, none⟩) (Kd.R_far (p := ⟨gb542, 1, none⟩) (Kd.R_far (p := ⟨gb542, 0, none⟩) (Kd.R_types HO540.out BK542.out (by decide)) (fun _ hk => hk.2) (.int .i64 t534)) (fun _ hk => hk.2) (.slice Ao35 t535.length co35)) (fun _ hk => hk.2) (.slice Ao37 t538.length co37)) (fun _ hk => ⟨hk.1.2, hk.1.1⟩)⟩, ⟨by (with_reducible repeat (first | refine bN_ ?_ _ | refine bD_ ?_ | refine bA_ ?_ _)); refine blk_far ?_ NB528_542.out _; (with_reducible repeat (first | refine bN_ ?_ _ | refine bD_ ?_ | refine bA_ ?_ _)); refine blk_far ?_ NB528_542.out _; (with_reducible repeat (first | refine bN_ ?_ _ | refine bD_ ?_ | refine bA_ ?_ _)); refine blk_far ?_ NB528_542.out _; (with_reducible repeat (first | refine bN_ ?_ _ | refine bD_ ?_ | refine bA_ ?_ _)); exact BK528.out⟩, ⟨by (with_reducible repeat (first | refine bN_ ?_ _ | refine bD_ ?_ | refine bA_ ?_ _)); refine blk_far ?_ NB529_542.out _; (with_reducible repeat (first | refine bN_ ?_ _ | refine bD_ ?_ | refine bA_ ?_ _)); refine blk_far ?_ NB529_542.out _; (with_reducible repeat (first | refine bN_ ?_ _ | refine bD_ ?_ | refine bA_ ?_ _)); refine blk_far ?_ NB529_542.out _; (with_reducible repeat (first | refine bN_ ?_ _ | refine bD_ ?_ | refine bA_ ?_ _)); exact BK529.out⟩, ⟨by (with_reducible repeat (first | refine bN_ ?_ _ | refine bD_ ?_ | refine bA_ ?_ _)); refine blk_put (cs := #[.int .i64 t534, .slice Ao35 t535.length co35, .slice none 0 0]) ?_ 2 _ rfl; (with_reducible repeat (first | refine bN_ ?_ _ | refine bD_ ?_ | refine bA_ ?_ _)); refine blk_put (cs := #[.int .i64 t534, .slice none 0 0, .slice none 0 0]) ?_ 1 _ rfl; (with_reducible repeat (first | refine bN_ ?_ _ | refine bD_ ?_ | refine bA_ ?_ _)); refine blk_put (cs := #[.int .i64 0, .slice none 0 0, .slice none 0 0]) ?_ 0 _ rfl; (with_reducible repeat (first | refine bN_ ?_ _ | refine bD_ ?_ | refine bA_ ?_ _)); exact BK542.out⟩, ⟨bw_⟩⟩
            ·rw [if_neg c41] at H
             have c41b0 : decide ((t535.length : Int) ≤ t526) = false := decide_eq_false c41
             clear c41
             by_cases c45 : 0 ≤ t526
             ·rw [if_pos c45] at H
              have c45b0 : decide (0 ≤ t526) = true := decide_eq_true c45
              clear c45
              by_cases c46 : t526 < (t535.length : Int)
              ·rw [if_pos c46] at H
               have c46b0 : decide (t526 < (t535.length : Int)) = true := decide_eq_true c46
               clear c46
               have H' := aM_ H
               clear H; have hnb47 := NB542_528.out; have hnc47 := NB528_542.out; have hnb48 := NB542_529.out; have hnc48 := NB529_542.out
               have hcz49_0 : w33.cell? ⟨gb542, 0, none⟩ = some (.int .i64 0) := (blk_cell BK542.out 0).trans rfl
               have hcz49_1 : w33.cell? ⟨gb542, 1, none⟩ = some (.slice none 0 0) := (blk_cell BK542.out 1).trans rfl
               have hcz49_2 : w33.cell? ⟨gb542, 2, none⟩ = some (.slice none 0 0) := (blk_cell BK542.out 2).trans rfl
               have hfz49_0 := blk_frozen BK542.out 0; have hfz49_1 := blk_frozen BK542.out 1; have hfz49_2 := blk_frozen BK542.out 2
               have p543 : 0 ≤ (t526 : Int) := dT_
               have q543 : t526 < (t535.length : Int) := dT_
               obtain ⟨ad543, e543, hx543_0⟩ := Kd.at_int (Kd.R_reads' HO537.out).2.2 t526 p543 q543
               cases e543
               have hn543_0 : ad543.block ≠ gb542 := Kd.own_blk (Kd.R_ne HO537.out BK542.out (by decide))
               have hn543_1 : ad543.block ≠ gb542 := Kd.own_blk (Kd.R_ne HO537.out BK542.out (by decide))
               have hn543_2 : ad543.block ≠ gb542 := Kd.own_blk (Kd.R_ne HO537.out BK542.out (by decide))
               replace hx543_0 := (cell_far (p := ⟨gb542, 0, none⟩) (by first | (rw [add_block]; exact hn543_0) | (show (Addr.add _ _).block ≠ _; rw [add_block]; exact hn543_0) | exact hn543_0) (.int .i64 t534)).trans hx543_0
               replace hx543_0 := (cell_far (p := ⟨gb542, 1, none⟩) (by first | (rw [add_block]; exact hn543_1) | (show (Addr.add _ _).block ≠ _; rw [add_block]; exact hn543_1) | exact hn543_1) (.slice (some ad543) t535.length co35)).trans hx543_0
               replace hx543_0 := (cell_far (p := ⟨gb542, 2, none⟩) (by first | (rw [add_block]; exact hn543_2) | (show (Addr.add _ _).block ≠ _; rw [add_block]; exact hn543_2) | exact hn543_2) (.slice Ao37 t538.length co37)).trans hx543_0
               clear hn543_0 hn543_1 hn543_2; replace p543 := eq_true p543; replace q543 := eq_true q543
               go_wp2
               go_meet
               case rel => exact ⟨_, (decide ((rd t535 t526) < 0)), (by first | rfl | (simp; done) | (simp [*]; done)), H', ⟨by have := HJ6.out; have := HK2.out; first | omega | exact Nat.le_refl _⟩, ⟨by (with_reducible repeat (first | apply rA_ | apply rN_ | apply rD_)); exact Kd.R_mono (Kd.R_far (p := ⟨gb542, 2, none⟩) (Kd.R_far (p := ⟨gb542, 1, none⟩) (Kd.R_far (p := ⟨gb542, 0, none⟩) (Kd.R_types HO_529000.out BK542.out (by decide)) (fun _ hk => hk.2) (.int .i64 t534)) (fun _ hk => hk.2) (.slice (some ad543) t535.length co35)) (fun _ hk => hk.2) (.slice Ao37 t538.length co37)) (fun _ hk => ⟨hk.1.1, hk.1.2⟩)⟩, ⟨by (with_reducible repeat (first | apply rA_ | apply rN_ | apply rD_)); exact Kd.R_mono (Kd.R_far (p := ⟨gb542, 2, none⟩) (Kd.R_far (p := ⟨gb542, 1, none⟩) (Kd.R_far (p := ⟨gb542, 0, none⟩) (Kd.R_mono HO_530003.out (fun k_ hk => (⟨hk, hk.2.2.2⟩ : _ ∧ k_ ≠ gb542))) (fun _ hk => hk.2) (.int .i64 t534)) (fun _ hk => hk.2) (.slice (some ad543) t535.length co35)) (fun _ hk => hk.2) (.slice Ao37 t538.length co37)) (fun _ hk => ⟨hk.1.2.2.1, ⟨hk.1.1, ⟨hk.1.2.1, hk.1.2.2.2⟩⟩⟩)⟩, ⟨by (with_reducible repeat (first | apply rA_ | apply rN_ | apply rD_)); exact Kd.R_mono (Kd.R_far (p := ⟨gb542, 2, none⟩) (Kd.R_far (p := ⟨gb542, 1, none⟩) (Kd.R_far (p := ⟨gb542, 0, none⟩) (Kd.R_types HO537.out BK542.out (by decide)) (fun _ hk => hk.2) (.int .i64 t534)) (fun _ hk => hk.2) (.slice (some ad543) t535.length co35)) (fun _ hk => hk.2) (.slice Ao37 t538.length co37)) (fun _ hk => ⟨hk.1.2, hk.1.1⟩)⟩, ⟨by (with_reducible repeat (first | apply rA_ | apply rN_ | apply rD_)); exact Kd.R_mono (Kd.R_far (p := ⟨gb542, 2, none⟩) (Kd.R_far (p := ⟨gb542, 1, none⟩) (Kd.R_far (p := ⟨gb542, 0, none⟩) (Kd.R_types HO540.out BK542.out (by decide)) (fun _ hk => hk.2) (.int .i64 t534)) (fun _ hk => hk.2) (.slice (some ad543) t535.length co35)) (fun _ hk => hk.2) (.slice Ao37 t538.length co37)) (fun _ hk => ⟨hk.1.2, hk.1.1⟩)⟩, ⟨by (with_reducible repeat (first | refine bN_ ?_ _ | refine bD_ ?_ | refine bA_ ?_ _)); refine blk_far ?_ NB528_542.out _; (with_reducible repeat (first | refine bN_ ?_ _ | refine bD_ ?_ | refine bA_ ?_ _)); refine blk_far ?_ NB528_542.out _; (with_reducible repeat (first | refine bN_ ?_ _ | refine bD_ ?_ | refine bA_ ?_ _)); refine blk_far ?_ NB528_542.out _; (with_reducible repeat (first | refine bN_ ?_ _ | refine bD_ ?_ | refine bA_ ?_ _)); exact BK528.out⟩, ⟨by (with_reducible repeat (first | refine bN_ ?_ _ | refine bD_ ?_ | refine bA_ ?_ _)); refine blk_far ?_ NB529_542.out _; (with_reducible repeat (first | refine bN_ ?_ _ | refine bD_ ?_ | refine bA_ ?_ _)); refine blk_far ?_ NB529_542.out _; (with_reducible repeat (first | refine bN_ ?_ _ | refine bD_ ?_ | refine bA_ ?_ _)); refine blk_far ?_ NB529_542.out _; (with_reducible repeat (first | refine bN_ ?_ _ | refine bD_ ?_ | refine bA_ ?_ _)); exact BK529.out⟩, ⟨by (with_reducible repeat (first | refine bN_ ?_ _ | refine bD_ ?_ | refine bA_ ?_ _)); refine blk_put (cs := #[.int .i64 t534, .slice (some ad543) t535.length co35, .slice none 0 0]) ?_ 2 _ rfl; (with_reducible repeat (first | refine bN_ ?_ _ | refine bD_ ?_ | refine bA_ ?_ _)); refine blk_put (cs := #[.int .i64 t534, .slice none 0 0, .slice none 0 0]) ?_ 1 _ rfl; (with_reducible repeat (first | refine bN_ ?_ _ | refine bD_ ?_ | refine bA_ ?_ _)); refine blk_put (cs := #[.int .i64 0, .slice none 0 0, .slice none 0 0]) ?_ 0 _ rfl; (with_reducible repeat (first | refine bN_ ?_ _ | refine bD_ ?_ | refine bA_ ?_ _)); exact BK542.out⟩, ⟨bw_⟩⟩
              ·rw [if_neg c46] at H
               exact absurd H (by simp)
             ·rw [if_neg c45] at H
              exact absurd H (by simp)
          ·replace c39 := Bool.eq_false_iff.mpr c39
           subst c39
           have H1 : (laws_FnBorders.j2 k2 l0 t526 t527 t530 t531 x9_2 true t517 t520 t521 t522 t523 t534 t535 t538) = some r := by rw [if_neg (show ¬ (false = true) by decide)] at H; exact H
           clear H; have H := H1; clear H1
           have H' := aM_ H
           clear H
           go_wp2
           go_meet
           case rel => exact ⟨_, (true), (by first | rfl | (simp; done) | (simp [*]; done)), H', ⟨by have := HJ6.out; have := HK2.out; first | omega | exact Nat.le_refl _⟩, ⟨by (with_reducible repeat (first | apply rA_ | apply rN_ | apply rD_)); exact Kd.R_mono (Kd.R_far (p := ⟨gb542, 2, none⟩) (Kd.R_far (p := ⟨gb542, 1, none⟩) (Kd.R_far (p := ⟨gb542, 0, none⟩) (Kd.R_types HO_529000.out BK542.out (by decide)) (fun _ hk => hk.2) (.int .i64 t534)) (fun _ hk => hk.2) (.slice Ao35 t535.length co35)) (fun _ hk => hk.2) (.slice Ao37 t538.length co37)) (fun _ hk => ⟨hk.1.1, hk.1.2⟩)⟩, ⟨by (with_reducible repeat (first | apply rA_ | apply rN_ | apply rD_)); exact Kd.R_mono (Kd.R_far (p := ⟨gb542, 2, none⟩) (Kd.R_far (p := ⟨gb542, 1, none⟩) (Kd.R_far (p := ⟨gb542, 0, none⟩) (Kd.R_mono HO_530003.out (fun k_ hk => (⟨hk, hk.2.2.2⟩ : _ ∧ k_ ≠ gb542))) (fun _ hk => hk.2) (.int .i64 t534)) (fun _ hk => hk.2) (.slice Ao35 t535.length co35)) (fun _ hk => hk.2) (.slice Ao37 t538.length co37)) (fun _ hk => ⟨hk.1.2.2.1, ⟨hk.1.1, ⟨hk.1.2.1, hk.1.2.2.2⟩⟩⟩)⟩, ⟨by (with_reducible repeat (first | apply rA_ | apply rN_ | apply rD_)); exact Kd.R_mono (Kd.R_far (p := ⟨gb542, 2, none⟩) (Kd.R_far (p := ⟨gb542, 1, none⟩) (Kd.R_far (p := ⟨gb542, 0, none⟩) (Kd.R_types HO537.out BK542.out (by decide)) (fun _ hk => hk.2) (.int .i64 t534)) (fun _ hk => hk.2) (.slice Ao35 t535.length co35)) (fun _ hk => hk.2) (.slice Ao37 t538.length co37)) (fun _ hk => ⟨hk.1.2, hk.1.1⟩)⟩, ⟨by (with_reducible repeat (first | apply rA_ | apply rN_ | apply rD_)); exact Kd.R_mono (Kd.R_far (p := ⟨gb542, 2, none⟩) (Kd.R_far (p := ⟨gb542, 1, none⟩) (Kd.R_far (p := ⟨gb542, 0, none⟩) (Kd.R_types HO540.out BK542.out (by decide)) (fun _ hk => hk.2) (.int .i64 t534)) (fun _ hk => hk.2) (.slice Ao35 t535.length co35)) (fun _ hk => hk.2) (.slice Ao37 t538.length co37)) (fun _ hk => ⟨hk.1.2, hk.1.1⟩)⟩, ⟨by (with_reducible repeat (first | refine bN_ ?_ _ | refine bD_ ?_ | refine bA_ ?_ _)); refine blk_far ?_ NB528_542.out _; (with_reducible repeat (first | refine bN_ ?_ _ | refine bD_ ?_ | refine bA_ ?_ _)); refine blk_far ?_ NB528_542.out _; (with_reducible repeat (first | refine bN_ ?_ _ | refine bD_ ?_ | refine bA_ ?_ _)); refine blk_far ?_ NB528_542.out _; (with_reducible repeat (first | refine bN_ ?_ _ | refine bD_ ?_ | refine bA_ ?_ _)); exact BK528.out⟩, ⟨by (with_reducible repeat (first | refine bN_ ?_ _ | refine bD_ ?_ | refine bA_ ?_ _)); refine blk_far ?_ NB529_542.out _; (with_reducible repeat (first | refine bN_ ?_ _ | refine bD_ ?_ | refine bA_ ?_ _)); refine blk_far ?_ NB529_542.out _; (with_reducible repeat (first | refine bN_ ?_ _ | refine bD_ ?_ | refine bA_ ?_ _)); refine blk_far ?_ NB529_542.out _; (with_reducible repeat (first | refine bN_ ?_ _ | refine bD_ ?_ | refine bA_ ?_ _)); exact BK529.out⟩, ⟨by (with_reducible repeat (first | refine bN_ ?_ _ | refine bD_ ?_ | refine bA_ ?_ _)); refine blk_put (cs := #[.int .i64 t534, .slice Ao35 t535.length co35, .slice none 0 0]) ?_ 2 _ rfl; (with_reducible repeat (first | refine bN_ ?_ _ | refine bD_ ?_ | refine bA_ ?_ _)); refine blk_put (cs := #[.int .i64 t534, .slice none 0 0, .slice none 0 0]) ?_ 1 _ rfl; (with_reducible repeat (first | refine bN_ ?_ _ | refine bD_ ?_ | refine bA_ ?_ _)); refine blk_put (cs := #[.int .i64 0, .slice none 0 0, .slice none 0 0]) ?_ 0 _ rfl; (with_reducible repeat (first | refine bN_ ?_ _ | refine bD_ ?_ | refine bA_ ?_ _)); exact BK542.out⟩, ⟨bw_⟩⟩
         case rest =>
          clear HC27
          try clear hx5
          try clear c19b0
          try clear c24b0
          try clear c25b0
          try clear c40b0
          try clear c41b0
          try clear c45b0
          try clear c46b0
          try clear hcz13_0
          try clear hcz14_0
          try clear hcz14_1
          try clear hcz14_2
          try clear hcz14_3
          try clear hcz17_0
          try clear hcz17_1
          try clear hcz17_2
          try clear hcz17_3
          try clear hcz22_0
          try clear hcz29_0
          try clear hcz44_0
          try clear hcz44_1
          try clear hcz44_2
          try clear hcz49_0
          try clear hcz49_1
          try clear hcz49_2
          try clear hfz13_0
          try clear hfz14_0
          try clear hfz14_1
          try clear hfz14_2
          try clear hfz14_3
          try clear hfz17_0
          try clear hfz17_1
          try clear hfz17_2
          try clear hfz17_3
          try clear hfz22_0
          try clear hfz29_0
          try clear hfz44_0
          try clear hfz44_1
          try clear hfz44_2
          try clear hfz49_0
          try clear hfz49_1
          try clear hfz49_2
          try clear hx533_0
          try clear hx543_0
          obtain ⟨kq, x83_26, rfl, HA, HJ26, HO_529000, HO_530003, HO_543001, HO_543002, BK528, BK529, BK542, HB⟩ := hcut
          cases kq with
          | zero => exact absurd HA.out (by simp [laws_FnBorders.j2])
          | succ kj26 =>
           have H := HA.out; clear HA
           simp only [laws_FnBorders.j2] at H
           by_cases c50 : x83_26 = true
           ·subst c50
            have H1 : (laws_FnBorders.l0 kj26 l0 t526 t527 t530 t531 (wrap64 (x9_2 + 1)) t517 t520 t521 t522 t523) = some r := by rw [if_pos rfl] at H; exact H
            clear H; have H := H1; clear H1
            have H' := aM_ H
            clear H
            go_wp2
            go_roundg kj26
            case measure => have := HJ6.out; have := HK2.out; have := HJ26.out; omega
            case rel => exact ⟨(wrap64 (x9_2 + 1)), (by first | rfl | (simp; done) | (simp [*]; done)), H', ⟨by have := HJ6.out; have := HK2.out; have := HJ26.out; omega⟩, ⟨by (with_reducible repeat (first | apply rA_ | apply rN_ | apply rD_)); exact Kd.R_mono HO_529000.out (fun _ hk => trivial)⟩, ⟨by (with_reducible repeat (first | apply rA_ | apply rN_ | apply rD_)); exact Kd.R_mono HO_530003.out (fun _ hk => hk.1)⟩, ⟨by (with_reducible repeat (first | refine bN_ ?_ _ | refine bD_ ?_ | refine bA_ ?_ _)); exact BK528.out⟩, ⟨by (with_reducible repeat (first | refine bN_ ?_ _ | refine bD_ ?_ | refine bA_ ?_ _)); exact BK529.out⟩, ⟨bw_⟩⟩
           ·replace c50 := Bool.eq_false_iff.mpr c50
            subst c50
            have H1 : (if t530 < 0 then (some false) else ((impl_TableIn.f t520 t521 t522 t523 t531 t530).bind fun bt544 => (if bt544.2.2.2 = true then (if 0 ≤ t526 then (if t526 < (bt544.2.1.length : Int) then (if t526 < (t535.length : Int) then (if (rd bt544.2.1 t526) > (rd t535 t526) then (some false) else (laws_FnBorders.l0 kj26 l0 t526 t527 t530 t531 (wrap64 (x9_2 + 1)) t517 t520 t521 t522 t523)) else (none)) else (none)) else (none)) else (some false)))) = some r := by rw [if_neg (show ¬ (false = true) by decide)] at H; exact H
            clear H; have H := H1; clear H1
            by_cases c51 : t530 < 0
            ·rw [if_pos c51] at H
             have c51b0 : decide (t530 < 0) = true := decide_eq_true c51
             clear c51
             exact absurd ((Option.some.inj H).trans HTRUE.out) (by decide)
            ·rw [if_neg c51] at H
             have c51b0 : decide (t530 < 0) = false := decide_eq_false c51
             clear c51
             replace H := Option.bind_eq_some_iff.mp H
             obtain ⟨⟨t544, t545, t548, t551⟩, A520, H⟩ := H
             (try dsimp only at H)
             have A52 := aM_ A520; clear A520
             by_cases c53 : t551 = true
             ·subst c53
              have H1 : (if 0 ≤ t526 then (if t526 < (t545.length : Int) then (if t526 < (t535.length : Int) then (if (rd t545 t526) > (rd t535 t526) then (some false) else (laws_FnBorders.l0 kj26 l0 t526 t527 t530 t531 (wrap64 (x9_2 + 1)) t517 t520 t521 t522 t523)) else (none)) else (none)) else (none)) = some r := by rw [if_pos rfl] at H; exact H
              clear H; have H := H1; clear H1
              by_cases c54 : 0 ≤ t526
              ·rw [if_pos c54] at H
               have c54b0 : decide (0 ≤ t526) = true := decide_eq_true c54
               clear c54
               by_cases c55 : t526 < (t545.length : Int)
               ·rw [if_pos c55] at H
                have c55b0 : decide (t526 < (t545.length : Int)) = true := decide_eq_true c55
                clear c55
                by_cases c56 : t526 < (t535.length : Int)
                ·rw [if_pos c56] at H
                 have c56b0 : decide (t526 < (t535.length : Int)) = true := decide_eq_true c56
                 clear c56
                 by_cases c57 : (rd t545 t526) > (rd t535 t526)
                 ·rw [if_pos c57] at H
                  have c57b0 : decide ((rd t535 t526) < (rd t545 t526)) = true := decide_eq_true c57
                  clear c57
                  exact absurd ((Option.some.inj H).trans HTRUE.out) (by decide)
                 ·rw [if_neg c57] at H
                  have c57b0 : decide ((rd t535 t526) < (rd t545 t526)) = false := decide_eq_false c57
                  clear c57
                  have H' := aM_ H
                  clear H; have hnb58 := NB529_528.out; have hnc58 := NB528_529.out; have hnb59 := NB529_542.out; have hnc59 := NB542_529.out
                  have hcz60_0 : wc.cell? ⟨gb529, 0, none⟩ = some (.int .i64 t520) := (blk_cell BK529.out 0).trans rfl
                  have hcz60_1 : wc.cell? ⟨gb529, 1, none⟩ = some (.int .i64 t521) := (blk_cell BK529.out 1).trans rfl
                  have hcz60_2 : wc.cell? ⟨gb529, 2, none⟩ = some (.int .i64 t522) := (blk_cell BK529.out 2).trans rfl
                  have hcz60_3 : wc.cell? ⟨gb529, 3, none⟩ = some (.slice Ao15 t523.length co15) := (blk_cell BK529.out 3).trans rfl
                  have hfz60_0 := blk_frozen BK529.out 0; have hfz60_1 := blk_frozen BK529.out 1; have hfz60_2 := blk_frozen BK529.out 2; have hfz60_3 := blk_frozen BK529.out 3
                  try go_wp2_with (first | ((with_reducible refine gate_callee (f := 9) rfl ?_); refine goesL_ (some 90) rfl rfl Try.func9 (by kernel_rfl) rfl #[.agg #[.int .i64 t520, .int .i64 t521, .int .i64 t522, .slice Ao15 t523.length co15], .int .i64 t531, .int .i64 t530] rfl (by (try simp only [List.map_toArray, List.map_cons, List.map_nil]); first | done | rfl | (simp only [List.length_drop, List.length_take]; rfl)) ?_; (with_reducible refine (impl_TableIn.calls t520 t521 t522 _ _ t523 t531 t530 t544 t545 t548 true _ ?side1 ?side2 A52.out).mono ?_); (case side1 => repeat (first | exact (Kd.R_reads' HO_530003.out).2.2 | (with_reducible refine cA_ ?_ _) | (with_reducible refine cN_ ?_ _) | (with_reducible refine cD_ ?_))); (case side2 => exact (Kd.R_reads' HO_530003.out).2.1); rintro e w61 ⟨v546, v549, rfl, ho0, ho1, hb⟩; refine ⟨_, rfl, ?_⟩; have n0_ := aM_ (Kd.R_mono (Kd.R_told (Kd.R_told (Kd.R_old (rb_ HO_529000.out) hb) (Kd.R_base ho0)) (Kd.R_base ho1)) (fun _ h_ => h_.1)); have n1_ := aM_ (Kd.R_mono (Kd.R_told (Kd.R_told (Kd.R_old (rb_ HO_530003.out) hb) (Kd.R_base ho0)) (Kd.R_base ho1)) (fun _ h_ => h_.1)); have n2_ := aM_ (Kd.R_mono (Kd.R_told (Kd.R_told (Kd.R_old (rb_ HO_543001.out) hb) (Kd.R_base ho0)) (Kd.R_base ho1)) (fun _ h_ => h_.1)); have n3_ := aM_ (Kd.R_mono (Kd.R_told (Kd.R_told (Kd.R_old (rb_ HO_543002.out) hb) (Kd.R_base ho0)) (Kd.R_base ho1)) (fun _ h_ => h_.1)); have n4_ := aM_ (Kd.R_lower (Kd.R_new' (Kd.R_new' (Kd.R_new' ho0 (Kd.R_lt (rb_ HO_529000.out))) (Kd.R_lt (rb_ HO_543001.out))) (Kd.R_lt (rb_ HO_543002.out))) (sZ_ (bw_))); have n5_ := aM_ (Kd.R_lower (Kd.R_new' (Kd.R_new' (Kd.R_new' ho1 (Kd.R_lt (rb_ HO_529000.out))) (Kd.R_lt (rb_ HO_543001.out))) (Kd.R_lt (rb_ HO_543002.out))) (sZ_ (bw_))); have n6_ := aM_ (bB_ (kb_ BK528.out) hb); have n7_ := aM_ (bB_ (kb_ BK529.out) hb); have n8_ := aM_ (bB_ (kb_ BK542.out) hb); have n9_ := aM_ (wS_ (bw_) hb); clear HO_529000 HO_530003 HO_543001 HO_543002 BK528 BK529 BK542 HB; have HO_529000 := n0_; have HO_530003 := n1_; have HO_543001 := n2_; have HO_543002 := n3_; have HO547 := n4_; have HO550 := n5_; have BK528 := n6_; have BK529 := n7_; have BK542 := n8_; have HB := n9_; clear n0_ n1_ n2_ n3_ n4_ n5_ n6_ n7_ n8_ n9_; (try clear hb); (try clear hb2); (try clear hk); (try clear hi); (try clear ho0); (try clear ho1)) | ((with_reducible refine gate_dst (N := 12) rfl ?_); (try (refine gate_guard (by rfl) ?_; dsimp only)); refine box_event ?hg (N := 12) ?hd (cs := #[.int .i64 0, .slice none 0 0, .slice none 0 0]) (t := 36) ?hr ?_; (case hd => rfl); (case hg => rfl); (case hr => first | (go_simp; done) | (go_simp; rfl)); intro gb552 hg w62 hbox hb; have n0_ := aM_ (rB_ (rb_ HO_529000.out) hb); have n1_ := aM_ (rB_ (Kd.R_elderB (rb_ HO_530003.out) gb552 (Nat.le_of_eq hg.symm)) hb); have n2_ := aM_ (rB_ (rb_ HO_543001.out) hb); have n3_ := aM_ (rB_ (rb_ HO_543002.out) hb); have n4_ := aM_ (rB_ (rb_ HO547.out) hb); have n5_ := aM_ (rB_ (rb_ HO550.out) hb); have n6_ := aM_ (bB_ (kb_ BK528.out) hb); have n7_ := aM_ (bB_ (kb_ BK529.out) hb); have n8_ := aM_ (bB_ (kb_ BK542.out) hb); have n9_ := aM_ (wS_ (bw_) hb); have n10_ := aM_ (hbox); have n11_ := aM_ ((by rw [hg]; exact (sZ_ (bw_)) : w.heap.size ≤ gb552)); have n12_ := aM_ ((by rw [hg]; exact (sZ_ (bw_)) : w.heap.size ≤ gb552)); have n13_ := aM_ ((by rw [hg]; exact Nat.ne_of_lt (blk_lt (kb_ BK528.out)) : gb528 ≠ gb552)); have n14_ := aM_ ((by rw [hg]; exact Nat.ne_of_gt (blk_lt (kb_ BK528.out)) : gb552 ≠ gb528)); have n15_ := aM_ ((by rw [hg]; exact Nat.ne_of_lt (blk_lt (kb_ BK529.out)) : gb529 ≠ gb552)); have n16_ := aM_ ((by rw [hg]; exact Nat.ne_of_gt (blk_lt (kb_ BK529.out)) : gb552 ≠ gb529)); have n17_ := aM_ ((by rw [hg]; exact Nat.ne_of_lt (blk_lt (kb_ BK542.out)) : gb542 ≠ gb552)); have n18_ := aM_ ((by rw [hg]; exact Nat.ne_of_gt (blk_lt (kb_ BK542.out)) : gb552 ≠ gb542)); clear HO_529000 HO_530003 HO_543001 HO_543002 HO547 HO550 BK528 BK529 BK542 HB; have HO_529000 := n0_; have HO_530003 := n1_; have HO_543001 := n2_; have HO_543002 := n3_; have HO547 := n4_; have HO550 := n5_; have BK528 := n6_; have BK529 := n7_; have BK542 := n8_; have HB := n9_; have BK552 := n10_; have GW552 := n11_; have GE552 := n12_; have NB528_552 := n13_; have NB552_528 := n14_; have NB529_552 := n15_; have NB552_529 := n16_; have NB542_552 := n17_; have NB552_542 := n18_; clear n0_ n1_ n2_ n3_ n4_ n5_ n6_ n7_ n8_ n9_ n10_ n11_ n12_ n13_ n14_ n15_ n16_ n17_ n18_ hb hbox hg; have hnb63 := NB552_528.out; have hnc63 := NB528_552.out; have hnb64 := NB552_529.out; have hnc64 := NB529_552.out; have hnb65 := NB552_542.out; have hnc65 := NB542_552.out; obtain ⟨hcz66_0, hcz66_1, hcz66_2, hfz66_0, hfz66_1, hfz66_2⟩ := bk3_ BK552.out; obtain ⟨Ao67, co67, eo67⟩ := Kd.R_slice HO547.out; subst eo67; obtain ⟨Ao68, co68, eo68⟩ := Kd.R_slice HO550.out; subst eo68))
                  have n0_ : Aside0 (Kd.R (Kd.int .i64) 3 (((w62.setCell ⟨gb552, 0, none⟩ (.int .i64 t544)).setCell ⟨gb552, 1, none⟩ (.slice Ao67 t545.length co67)).setCell ⟨gb552, 2, none⟩ (.slice Ao68 t548.length co68)) w.heap.size (fun k_ => some k_ ≠ (.slice Ao35 t535.length co35 : Value).ownBlock ∧ some k_ ≠ (.slice Ao37 t538.length co37 : Value).ownBlock ∧ some k_ ≠ (.slice Ao67 t545.length co67 : Value).ownBlock ∧ some k_ ≠ (.slice Ao68 t548.length co68 : Value).ownBlock) (.slice (some ad533) t517.length co11) t517) := ⟨by (with_reducible repeat (first | apply rA_ | apply rN_ | apply rD_)); exact Kd.R_mono (Kd.R_far (p := ⟨gb552, 2, none⟩) (Kd.R_far (p := ⟨gb552, 1, none⟩) (Kd.R_far (p := ⟨gb552, 0, none⟩) (Kd.R_types HO_529000.out BK552.out (by decide)) (fun _ hk => hk.2) (.int .i64 t544)) (fun _ hk => hk.2) (.slice Ao67 t545.length co67)) (fun _ hk => hk.2) (.slice Ao68 t548.length co68)) (fun _ hk => ⟨hk.1.1.1.1, ⟨hk.1.1.1.2, ⟨hk.1.1.2, hk.1.2⟩⟩⟩)⟩
                  have n1_ : Aside0 (Kd.R k60 60 (((w62.setCell ⟨gb552, 0, none⟩ (.int .i64 t544)).setCell ⟨gb552, 1, none⟩ (.slice Ao67 t545.length co67)).setCell ⟨gb552, 2, none⟩ (.slice Ao68 t548.length co68)) w.heap.size (fun k_ => some k_ ≠ (.slice (some ad533) t517.length co11 : Value).ownBlock ∧ some k_ ≠ (.slice Ao35 t535.length co35 : Value).ownBlock ∧ some k_ ≠ (.slice Ao37 t538.length co37 : Value).ownBlock ∧ some k_ ≠ (.slice Ao67 t545.length co67 : Value).ownBlock ∧ some k_ ≠ (.slice Ao68 t548.length co68 : Value).ownBlock ∧ k_ ≠ gb542 ∧ k_ ≠ gb552) (.slice Ao15 t523.length co15) t523) := ⟨by (with_reducible repeat (first | apply rA_ | apply rN_ | apply rD_)); exact Kd.R_mono (Kd.R_far (p := ⟨gb552, 2, none⟩) (Kd.R_far (p := ⟨gb552, 1, none⟩) (Kd.R_far (p := ⟨gb552, 0, none⟩) (Kd.R_mono HO_530003.out (fun k_ hk => (⟨hk, hk.2⟩ : _ ∧ k_ ≠ gb552))) (fun _ hk => hk.2) (.int .i64 t544)) (fun _ hk => hk.2) (.slice Ao67 t545.length co67)) (fun _ hk => hk.2) (.slice Ao68 t548.length co68)) (fun _ hk => ⟨hk.1.1.1.1.1, ⟨hk.1.1.1.1.2.1, ⟨hk.1.1.1.1.2.2.1, ⟨hk.1.1.1.2, ⟨hk.1.1.2, ⟨hk.1.1.1.1.2.2.2, hk.1.2⟩⟩⟩⟩⟩⟩)⟩
                  have n2_ : Aside0 (Kd.R (Kd.int .i64) 3 (((w62.setCell ⟨gb552, 0, none⟩ (.int .i64 t544)).setCell ⟨gb552, 1, none⟩ (.slice Ao67 t545.length co67)).setCell ⟨gb552, 2, none⟩ (.slice Ao68 t548.length co68)) w.heap.size (fun k_ => some k_ ≠ (.slice (some ad533) t517.length co11 : Value).ownBlock ∧ some k_ ≠ (.slice Ao37 t538.length co37 : Value).ownBlock ∧ some k_ ≠ (.slice Ao67 t545.length co67 : Value).ownBlock ∧ some k_ ≠ (.slice Ao68 t548.length co68 : Value).ownBlock) (.slice Ao35 t535.length co35) t535) := ⟨by (with_reducible repeat (first | apply rA_ | apply rN_ | apply rD_)); exact Kd.R_mono (Kd.R_far (p := ⟨gb552, 2, none⟩) (Kd.R_far (p := ⟨gb552, 1, none⟩) (Kd.R_far (p := ⟨gb552, 0, none⟩) (Kd.R_types HO_543001.out BK552.out (by decide)) (fun _ hk => hk.2) (.int .i64 t544)) (fun _ hk => hk.2) (.slice Ao67 t545.length co67)) (fun _ hk => hk.2) (.slice Ao68 t548.length co68)) (fun _ hk => ⟨hk.1.1.1.1, ⟨hk.1.1.1.2, ⟨hk.1.1.2, hk.1.2⟩⟩⟩)⟩
                  have n3_ : Aside0 (Kd.R (Kd.int .i64) 3 (((w62.setCell ⟨gb552, 0, none⟩ (.int .i64 t544)).setCell ⟨gb552, 1, none⟩ (.slice Ao67 t545.length co67)).setCell ⟨gb552, 2, none⟩ (.slice Ao68 t548.length co68)) w.heap.size (fun k_ => some k_ ≠ (.slice (some ad533) t517.length co11 : Value).ownBlock ∧ some k_ ≠ (.slice Ao35 t535.length co35 : Value).ownBlock ∧ some k_ ≠ (.slice Ao67 t545.length co67 : Value).ownBlock ∧ some k_ ≠ (.slice Ao68 t548.length co68 : Value).ownBlock) (.slice Ao37 t538.length co37) t538) := ⟨by (with_reducible repeat (first | apply rA_ | apply rN_ | apply rD_)); exact Kd.R_mono (Kd.R_far (p := ⟨gb552, 2, none⟩) (Kd.R_far (p := ⟨gb552, 1, none⟩) (Kd.R_far (p := ⟨gb552, 0, none⟩) (Kd.R_types HO_543002.out BK552.out (by decide)) (fun _ hk => hk.2) (.int .i64 t544)) (fun _ hk => hk.2) (.slice Ao67 t545.length co67)) (fun _ hk => hk.2) (.slice Ao68 t548.length co68)) (fun _ hk => ⟨hk.1.1.1.1, ⟨hk.1.1.1.2, ⟨hk.1.1.2, hk.1.2⟩⟩⟩)⟩
                  have n4_ : Aside0 (Kd.R (Kd.int .i64) 3 (((w62.setCell ⟨gb552, 0, none⟩ (.int .i64 t544)).setCell ⟨gb552, 1, none⟩ (.slice Ao67 t545.length co67)).setCell ⟨gb552, 2, none⟩ (.slice Ao68 t548.length co68)) w.heap.size (fun k_ => some k_ ≠ (.slice (some ad533) t517.length co11 : Value).ownBlock ∧ some k_ ≠ (.slice Ao35 t535.length co35 : Value).ownBlock ∧ some k_ ≠ (.slice Ao37 t538.length co37 : Value).ownBlock ∧ some k_ ≠ (.slice Ao68 t548.length co68 : Value).ownBlock) (.slice Ao67 t545.length co67) t545) := ⟨by (with_reducible repeat (first | apply rA_ | apply rN_ | apply rD_)); exact Kd.R_mono (Kd.R_far (p := ⟨gb552, 2, none⟩) (Kd.R_far (p := ⟨gb552, 1, none⟩) (Kd.R_far (p := ⟨gb552, 0, none⟩) (Kd.R_types HO547.out BK552.out (by decide)) (fun _ hk => hk.2) (.int .i64 t544)) (fun _ hk => hk.2) (.slice Ao67 t545.length co67)) (fun _ hk => hk.2) (.slice Ao68 t548.length co68)) (fun _ hk => ⟨hk.1.1.1.2, ⟨hk.1.1.2, ⟨hk.1.2, hk.1.1.1.1⟩⟩⟩)⟩
                  have n5_ : Aside0 (Kd.R (Kd.int .i64) 3 (((w62.setCell ⟨gb552, 0, none⟩ (.int .i64 t544)).setCell ⟨gb552, 1, none⟩ (.slice Ao67 t545.length co67)).setCell ⟨gb552, 2, none⟩ (.slice Ao68 t548.length co68)) w.heap.size (fun k_ => some k_ ≠ (.slice (some ad533) t517.length co11 : Value).ownBlock ∧ some k_ ≠ (.slice Ao35 t535.length co35 : Value).ownBlock ∧ some k_ ≠ (.slice Ao37 t538.length co37 : Value).ownBlock ∧ some k_ ≠ (.slice Ao67 t545.length co67 : Value).ownBlock) (.slice Ao68 t548.length co68) t548) := ⟨by (with_reducible repeat (first | apply rA_ | apply rN_ | apply rD_)); exact Kd.R_mono (Kd.R_far (p := ⟨gb552, 2, none⟩) (Kd.R_far (p := ⟨gb552, 1, none⟩) (Kd.R_far (p := ⟨gb552, 0, none⟩) (Kd.R_types HO550.out BK552.out (by decide)) (fun _ hk => hk.2) (.int .i64 t544)) (fun _ hk => hk.2) (.slice Ao67 t545.length co67)) (fun _ hk => hk.2) (.slice Ao68 t548.length co68)) (fun _ hk => ⟨hk.1.1.1.2, ⟨hk.1.1.2, ⟨hk.1.2, hk.1.1.1.1⟩⟩⟩)⟩
                  have n6_ : Aside0 ((((w62.setCell ⟨gb552, 0, none⟩ (.int .i64 t544)).setCell ⟨gb552, 1, none⟩ (.slice Ao67 t545.length co67)).setCell ⟨gb552, 2, none⟩ (.slice Ao68 t548.length co68)).heap[gb528]? = some (.cells #[.slice (some ad533) t517.length co11] 26 (0, 0))) := ⟨by (with_reducible repeat (first | refine bN_ ?_ _ | refine bD_ ?_ | refine bA_ ?_ _)); refine blk_far ?_ NB528_552.out _; (with_reducible repeat (first | refine bN_ ?_ _ | refine bD_ ?_ | refine bA_ ?_ _)); refine blk_far ?_ NB528_552.out _; (with_reducible repeat (first | refine bN_ ?_ _ | refine bD_ ?_ | refine bA_ ?_ _)); refine blk_far ?_ NB528_552.out _; (with_reducible repeat (first | refine bN_ ?_ _ | refine bD_ ?_ | refine bA_ ?_ _)); exact BK528.out⟩
                  have n7_ : Aside0 ((((w62.setCell ⟨gb552, 0, none⟩ (.int .i64 t544)).setCell ⟨gb552, 1, none⟩ (.slice Ao67 t545.length co67)).setCell ⟨gb552, 2, none⟩ (.slice Ao68 t548.length co68)).heap[gb529]? = some (.cells #[.int .i64 t520, .int .i64 t521, .int .i64 t522, .slice Ao15 t523.length co15] 29 (0, 0))) := ⟨by (with_reducible repeat (first | refine bN_ ?_ _ | refine bD_ ?_ | refine bA_ ?_ _)); refine blk_far ?_ NB529_552.out _; (with_reducible repeat (first | refine bN_ ?_ _ | refine bD_ ?_ | refine bA_ ?_ _)); refine blk_far ?_ NB529_552.out _; (with_reducible repeat (first | refine bN_ ?_ _ | refine bD_ ?_ | refine bA_ ?_ _)); refine blk_far ?_ NB529_552.out _; (with_reducible repeat (first | refine bN_ ?_ _ | refine bD_ ?_ | refine bA_ ?_ _)); exact BK529.out⟩
                  have n8_ : Aside0 ((((w62.setCell ⟨gb552, 0, none⟩ (.int .i64 t544)).setCell ⟨gb552, 1, none⟩ (.slice Ao67 t545.length co67)).setCell ⟨gb552, 2, none⟩ (.slice Ao68 t548.length co68)).heap[gb542]? = some (.cells #[.int .i64 t534, .slice Ao35 t535.length co35, .slice Ao37 t538.length co37] 36 (0, 0))) := ⟨by (with_reducible repeat (first | refine bN_ ?_ _ | refine bD_ ?_ | refine bA_ ?_ _)); refine blk_far ?_ NB542_552.out _; (with_reducible repeat (first | refine bN_ ?_ _ | refine bD_ ?_ | refine bA_ ?_ _)); refine blk_far ?_ NB542_552.out _; (with_reducible repeat (first | refine bN_ ?_ _ | refine bD_ ?_ | refine bA_ ?_ _)); refine blk_far ?_ NB542_552.out _; (with_reducible repeat (first | refine bN_ ?_ _ | refine bD_ ?_ | refine bA_ ?_ _)); exact BK542.out⟩
                  have n9_ : Aside0 ((((w62.setCell ⟨gb552, 0, none⟩ (.int .i64 t544)).setCell ⟨gb552, 1, none⟩ (.slice Ao67 t545.length co67)).setCell ⟨gb552, 2, none⟩ (.slice Ao68 t548.length co68)).heap[gb552]? = some (.cells #[.int .i64 t544, .slice Ao67 t545.length co67, .slice Ao68 t548.length co68] 36 (0, 0))) := ⟨by (with_reducible repeat (first | refine bN_ ?_ _ | refine bD_ ?_ | refine bA_ ?_ _)); refine blk_put (cs := #[.int .i64 t544, .slice Ao67 t545.length co67, .slice none 0 0]) ?_ 2 _ rfl; (with_reducible repeat (first | refine bN_ ?_ _ | refine bD_ ?_ | refine bA_ ?_ _)); refine blk_put (cs := #[.int .i64 t544, .slice none 0 0, .slice none 0 0]) ?_ 1 _ rfl; (with_reducible repeat (first | refine bN_ ?_ _ | refine bD_ ?_ | refine bA_ ?_ _)); refine blk_put (cs := #[.int .i64 0, .slice none 0 0, .slice none 0 0]) ?_ 0 _ rfl; (with_reducible repeat (first | refine bN_ ?_ _ | refine bD_ ?_ | refine bA_ ?_ _)); exact BK552.out⟩
                  have n10_ : Aside0 (Below w.heap.size w (((w62.setCell ⟨gb552, 0, none⟩ (.int .i64 t544)).setCell ⟨gb552, 1, none⟩ (.slice Ao67 t545.length co67)).setCell ⟨gb552, 2, none⟩ (.slice Ao68 t548.length co68))) := ⟨bw_⟩
                  (try clear HO_529000); (try clear HO_530003); (try clear HO_543001); (try clear HO_543002); (try clear HO547); (try clear HO550); (try clear BK528); (try clear BK529); (try clear BK542); (try clear BK552); (try clear HB)
                  generalize (((w62.setCell ⟨gb552, 0, none⟩ (.int .i64 t544)).setCell ⟨gb552, 1, none⟩ (.slice Ao67 t545.length co67)).setCell ⟨gb552, 2, none⟩ (.slice Ao68 t548.length co68)) = w69 at n0_ n1_ n2_ n3_ n4_ n5_ n6_ n7_ n8_ n9_ n10_ ⊢
                  have HO_529000 := n0_; have HO_530003 := n1_; have HO_543001 := n2_; have HO_543002 := n3_; have HO547 := n4_; have HO550 := n5_; have BK528 := n6_; have BK529 := n7_; have BK542 := n8_; have BK552 := n9_; have HB := n10_; clear n0_ n1_ n2_ n3_ n4_ n5_ n6_ n7_ n8_ n9_ n10_; have n0_ := aM_ (rD_ HO_529000.out); have n1_ := aM_ (rD_ HO_530003.out); have n2_ := aM_ (rD_ HO_543001.out); have n3_ := aM_ (rD_ HO_543002.out); have n4_ := aM_ (rD_ HO547.out); have n5_ := aM_ (rD_ HO550.out); have n6_ := aM_ (bD_ BK528.out); have n7_ := aM_ (bD_ BK529.out); have n8_ := aM_ (bD_ BK542.out); have n9_ := aM_ (bD_ BK552.out); have n10_ := aM_ (wD_ HB.out); clear HO_529000 HO_530003 HO_543001 HO_543002 HO547 HO550 BK528 BK529 BK542 BK552 HB; have HO_529000 := n0_; have HO_530003 := n1_; have HO_543001 := n2_; have HO_543002 := n3_; have HO547 := n4_; have HO550 := n5_; have BK528 := n6_; have BK529 := n7_; have BK542 := n8_; have BK552 := n9_; have HB := n10_; clear n0_ n1_ n2_ n3_ n4_ n5_ n6_ n7_ n8_ n9_ n10_
                  have p553 : 0 ≤ (t526 : Int) := dT_
                  have q553 : t526 < (t545.length : Int) := dT_
                  obtain ⟨ad553, e553, hx553_0⟩ := Kd.at_int (Kd.R_reads' HO547.out).2.2 t526 p553 q553
                  cases e553
                  replace p553 := eq_true p553; replace q553 := eq_true q553
                  have p554 : 0 ≤ (t526 : Int) := dT_
                  have q554 : t526 < (t535.length : Int) := dT_
                  obtain ⟨ad554, e554, hx554_0⟩ := Kd.at_int (Kd.R_reads' HO_543001.out).2.2 t526 p554 q554
                  cases e554
                  replace p554 := eq_true p554; replace q554 := eq_true q554
                  refine start_ (n := 15) (S := fun w' => w'.cell? ⟨gb552, 0, none⟩ = some (.int .i64 t544) ∧ w'.cell? ⟨gb552, 1, none⟩ = some (.slice (some ad553) t545.length co67) ∧ w'.cell? ⟨gb552, 2, none⟩ = some (.slice Ao68 t548.length co68) ∧ w'.cell? ⟨gb542, 0, none⟩ = some (.int .i64 t534) ∧ w'.cell? ⟨gb542, 1, none⟩ = some (.slice (some ad554) t535.length co35) ∧ w'.cell? ⟨gb542, 2, none⟩ = some (.slice Ao37 t538.length co37) ∧ w'.cell? (ad553.add (t526).toNat) = some (.int .i64 (rd t545 t526)) ∧ w'.cell? (ad554.add (t526).toNat) = some (.int .i64 (rd t535 t526))) (ds := []) #[false, false, false, false, false, false, false, false, false, false, false, false, false, false, false] (by kernel_rfl) rfl rfl ⟨(blk_cell BK552.out 0).trans rfl, (blk_cell BK552.out 1).trans rfl, (blk_cell BK552.out 2).trans rfl, (blk_cell BK542.out 0).trans rfl, (blk_cell BK542.out 1).trans rfl, (blk_cell BK542.out 2).trans rfl, hx553_0, hx554_0⟩ (fun hHeld => ?_); refine with_tabW laws_FnBorders.tab16 laws_FnBorders.bits16 (fun HT_ HW_ => ?_)
                  generalize w69.drew = w70 at HO_529000 HO_530003 HO_543001 HO_543002 HO547 HO550 BK528 BK529 BK542 BK552 HB hx553_0 hx554_0 hHeld ⊢
                  refine pu_ 0 (some 93) #[true, false, false, false, false, false, false, false, false, false, false, false, false, false, false] rfl rfl ?_
                  refine pu_ 1 (some 94) #[true, true, false, false, false, false, false, false, false, false, false, false, false, false, false] rfl rfl ?_
                  refine pu_ 2 (some 95) #[true, true, true, false, false, false, false, false, false, false, false, false, false, false, false] rfl rfl ?_
                  refine pu_ 3 (some 96) #[true, true, true, true, false, false, false, false, false, false, false, false, false, false, false] rfl rfl ?_
                  refine pu_ 5 (some 98) #[true, true, true, true, false, true, false, false, false, false, false, false, false, false, false] rfl rfl ?_
                  refine pu_ 8 (some 101) #[true, true, true, true, false, true, false, false, true, false, false, false, false, false, false] rfl rfl ?_
                  refine pu_ 10 (some 103) #[true, true, true, true, false, true, false, false, true, false, true, false, false, false, false] rfl rfl ?_
                  refine tk8_ 4 (some 97) #[true, true, true, true, true, true, false, false, true, false, true, false, false, false, false] rfl rfl ?_
                  refine pu_ 6 (some 99) #[true, true, true, true, true, true, true, false, true, false, true, false, false, false, false] rfl rfl ?_
                  refine tk8_ 7 (some 100) #[true, true, true, true, true, true, true, true, true, false, true, false, false, false, false] rfl rfl ?_
                  refine tk8_ 9 (some 102) #[true, true, true, true, true, true, true, true, true, true, true, false, false, false, false] rfl rfl ?_
                  refine pu_ 11 (some 104) #[true, true, true, true, true, true, true, true, true, true, true, true, false, false, false] rfl rfl ?_
                  refine tk8_ 12 (some 105) #[true, true, true, true, true, true, true, true, true, true, true, true, true, false, false] rfl rfl ?_
                  refine pu_ 13 (some 106) #[true, true, true, true, true, true, true, true, true, true, true, true, true, true, false] rfl rfl ?_
                  refine pu_ 14 (some 107) #[true, true, true, true, true, true, true, true, true, true, true, true, true, true, true] rfl rfl ?_
                  refine done_ (done_of HT_.out (by kernel_rfl)) ?_
                  try go_wp2
                  go_roundg kj26
                  case measure => have := HJ6.out; have := HK2.out; have := HJ26.out; omega
                  case rel => exact ⟨(wrap64 (x9_2 + 1)), (by first | rfl | (simp; done) | (simp [*]; done)), H', ⟨by have := HJ6.out; have := HK2.out; have := HJ26.out; omega⟩, ⟨by (with_reducible repeat (first | apply rA_ | apply rN_ | apply rD_)); exact Kd.R_mono HO_529000.out (fun _ hk => trivial)⟩, ⟨by (with_reducible repeat (first | apply rA_ | apply rN_ | apply rD_)); exact Kd.R_mono HO_530003.out (fun _ hk => hk.1)⟩, ⟨by (with_reducible repeat (first | refine bN_ ?_ _ | refine bD_ ?_ | refine bA_ ?_ _)); exact BK528.out⟩, ⟨by (with_reducible repeat (first | refine bN_ ?_ _ | refine bD_ ?_ | refine bA_ ?_ _)); exact BK529.out⟩, ⟨bw_⟩⟩
                ·rw [if_neg c56] at H
                 exact absurd H (by simp)
               ·rw [if_neg c55] at H
                exact absurd H (by simp)
              ·rw [if_neg c54] at H
               exact absurd H (by simp)
             ·replace c53 := Bool.eq_false_iff.mpr c53
              subst c53
              have H1 : (some false) = some r := by rw [if_neg (show ¬ (false = true) by decide)] at H; exact H
              clear H; have H := H1; clear H1
              exact absurd ((Option.some.inj H).trans HTRUE.out) (by decide)
        ·rw [if_neg c25] at H
         exact absurd H (by simp)
       ·rw [if_neg c24] at H
        have c24b0 : decide (x9_2 < (t517.length : Int)) = false := decide_eq_false c24
        clear c24
        replace H := Option.bind_eq_some_iff.mp H
        obtain ⟨⟨t555, t558, t559, t560, t561, t564⟩, A710, H⟩ := H
        (try dsimp only at H)
        have A71 := aM_ A710; clear A710
        replace H := Option.bind_eq_some_iff.mp H
        obtain ⟨t569, A720, H⟩ := H
        (try dsimp only at H)
        have A72 := aM_ A720; clear A720
        have H' := aM_ H
        clear H; have hnb73 := NB528_529.out; have hnc73 := NB529_528.out
        have hcz74_0 : wr.cell? ⟨gb528, 0, none⟩ = some (.slice Ao11 t517.length co11) := (blk_cell BK528.out 0).trans rfl
        have hfz74_0 := blk_frozen BK528.out 0
        go_wp2_with (first | ((with_reducible refine gate_callee (f := 10) rfl ?_); refine goesL_ (some 110) rfl rfl Try.func10 (by kernel_rfl) rfl #[.slice A0 l0.length c0] rfl (by (try simp only [List.map_toArray, List.map_cons, List.map_nil]); first | done | rfl | (simp only [List.length_drop, List.length_take]; rfl)) ?_; (with_reducible refine (spec_DrawLawfulFlows.calls k2 _ _ l0 t555 t558 t559 t560 t561 t564 _ ?side1 ?side2 A71.out).mono ?_); (case side1 => repeat (first | exact (Kd.C_below HR0.out HB.out) | (with_reducible refine cA_ ?_ _) | (with_reducible refine cN_ ?_ _) | (with_reducible refine cD_ ?_))); (case side2 => exact HC0.out); rintro e w75 ⟨v556, v562, v565, rfl, ho0, ho1, ho2, hb⟩; refine ⟨_, rfl, ?_⟩; have n0_ := aM_ (Kd.R_elder' (rb_ HO_529000.out) (Kd.R_base ho0) hb); have n1_ := aM_ (Kd.R_mono (Kd.R_told (Kd.R_told (Kd.R_old (rb_ HO_530003.out) hb) (Kd.R_base ho0)) (Kd.R_base ho1)) (fun _ h_ => h_.1)); have n2_ := aM_ (Kd.R_lower (Kd.R_new' ho0 (Kd.R_lt (rb_ HO_529000.out))) (sZ_ (bw_))); have n3_ := aM_ (Kd.R_lower (Kd.R_new' (Kd.R_new' ho1 (Kd.R_lt (rb_ HO_529000.out))) (Kd.R_lt (rb_ HO_530003.out))) (sZ_ (bw_))); have n4_ := aM_ (Kd.R_lower ho2 (sZ_ (bw_))); have n5_ := aM_ (bB_ (kb_ BK528.out) hb); have n6_ := aM_ (bB_ (kb_ BK529.out) hb); have n7_ := aM_ (wS_ (bw_) hb); clear HO_529000 HO_530003 BK528 BK529 HB; have HO_529000 := n0_; have HO_530003 := n1_; have HO557 := n2_; have HO563 := n3_; have HO566 := n4_; have BK528 := n5_; have BK529 := n6_; have HB := n7_; clear n0_ n1_ n2_ n3_ n4_ n5_ n6_ n7_; (try clear hb); (try clear hb2); (try clear hk); (try clear hi); (try clear ho0); (try clear ho1); (try clear ho2)) | ((with_reducible refine gate_dst (N := 14) rfl ?_); (try (refine gate_guard (by rfl) ?_; dsimp only)); refine box_event ?hg (N := 14) ?hd (cs := #[.slice none 0 0]) (t := 26) ?hr ?_; (case hd => rfl); (case hg => rfl); (case hr => first | (go_simp; done) | (go_simp; rfl)); intro gb567 hg w76 hbox hb; have n0_ := aM_ (rB_ (rb_ HO_529000.out) hb); have n1_ := aM_ (rB_ (rb_ HO_530003.out) hb); have n2_ := aM_ (rB_ (rb_ HO557.out) hb); have n3_ := aM_ (rB_ (rb_ HO563.out) hb); have n4_ := aM_ (rB_ (rb_ HO566.out) hb); have n5_ := aM_ (bB_ (kb_ BK528.out) hb); have n6_ := aM_ (bB_ (kb_ BK529.out) hb); have n7_ := aM_ (wS_ (bw_) hb); have n8_ := aM_ (hbox); have n9_ := aM_ ((by rw [hg]; exact (sZ_ (bw_)) : w.heap.size ≤ gb567)); have n10_ := aM_ ((by rw [hg]; exact (sZ_ (bw_)) : w.heap.size ≤ gb567)); have n11_ := aM_ ((by rw [hg]; exact Nat.ne_of_lt (blk_lt (kb_ BK528.out)) : gb528 ≠ gb567)); have n12_ := aM_ ((by rw [hg]; exact Nat.ne_of_gt (blk_lt (kb_ BK528.out)) : gb567 ≠ gb528)); have n13_ := aM_ ((by rw [hg]; exact Nat.ne_of_lt (blk_lt (kb_ BK529.out)) : gb529 ≠ gb567)); have n14_ := aM_ ((by rw [hg]; exact Nat.ne_of_gt (blk_lt (kb_ BK529.out)) : gb567 ≠ gb529)); clear HO_529000 HO_530003 HO557 HO563 HO566 BK528 BK529 HB; have HO_529000 := n0_; have HO_530003 := n1_; have HO557 := n2_; have HO563 := n3_; have HO566 := n4_; have BK528 := n5_; have BK529 := n6_; have HB := n7_; have BK567 := n8_; have GW567 := n9_; have GE567 := n10_; have NB528_567 := n11_; have NB567_528 := n12_; have NB529_567 := n13_; have NB567_529 := n14_; clear n0_ n1_ n2_ n3_ n4_ n5_ n6_ n7_ n8_ n9_ n10_ n11_ n12_ n13_ n14_ hb hbox hg) | ((with_reducible refine gate_dst (N := 15) rfl ?_); (try (refine gate_guard (by rfl) ?_; dsimp only)); refine box_event ?hg (N := 15) ?hd (cs := #[.int .i64 0, .int .i64 0, .int .i64 0, .slice none 0 0]) (t := 29) ?hr ?_; (case hd => rfl); (case hg => rfl); (case hr => first | (go_simp; done) | (go_simp; rfl)); intro gb568 hg w77 hbox hb; have n0_ := aM_ (rB_ (rb_ HO_529000.out) hb); have n1_ := aM_ (rB_ (rb_ HO_530003.out) hb); have n2_ := aM_ (rB_ (rb_ HO557.out) hb); have n3_ := aM_ (rB_ (rb_ HO563.out) hb); have n4_ := aM_ (rB_ (rb_ HO566.out) hb); have n5_ := aM_ (bB_ (kb_ BK528.out) hb); have n6_ := aM_ (bB_ (kb_ BK529.out) hb); have n7_ := aM_ (bB_ (kb_ BK567.out) hb); have n8_ := aM_ (wS_ (bw_) hb); have n9_ := aM_ (hbox); have n10_ := aM_ ((by rw [hg]; exact (sZ_ (bw_)) : w.heap.size ≤ gb568)); have n11_ := aM_ ((by rw [hg]; exact (sZ_ (bw_)) : w.heap.size ≤ gb568)); have n12_ := aM_ ((by rw [hg]; exact Nat.ne_of_lt (blk_lt (kb_ BK528.out)) : gb528 ≠ gb568)); have n13_ := aM_ ((by rw [hg]; exact Nat.ne_of_gt (blk_lt (kb_ BK528.out)) : gb568 ≠ gb528)); have n14_ := aM_ ((by rw [hg]; exact Nat.ne_of_lt (blk_lt (kb_ BK529.out)) : gb529 ≠ gb568)); have n15_ := aM_ ((by rw [hg]; exact Nat.ne_of_gt (blk_lt (kb_ BK529.out)) : gb568 ≠ gb529)); have n16_ := aM_ ((by rw [hg]; exact Nat.ne_of_lt (blk_lt (kb_ BK567.out)) : gb567 ≠ gb568)); have n17_ := aM_ ((by rw [hg]; exact Nat.ne_of_gt (blk_lt (kb_ BK567.out)) : gb568 ≠ gb567)); clear HO_529000 HO_530003 HO557 HO563 HO566 BK528 BK529 BK567 HB; have HO_529000 := n0_; have HO_530003 := n1_; have HO557 := n2_; have HO563 := n3_; have HO566 := n4_; have BK528 := n5_; have BK529 := n6_; have BK567 := n7_; have HB := n8_; have BK568 := n9_; have GW568 := n10_; have GE568 := n11_; have NB528_568 := n12_; have NB568_528 := n13_; have NB529_568 := n14_; have NB568_529 := n15_; have NB567_568 := n16_; have NB568_567 := n17_; clear n0_ n1_ n2_ n3_ n4_ n5_ n6_ n7_ n8_ n9_ n10_ n11_ n12_ n13_ n14_ n15_ n16_ n17_ hb hbox hg; obtain ⟨Ao78, co78, eo78⟩ := Kd.R_slice HO557.out; subst eo78; have hnb79 := NB567_528.out; have hnc79 := NB528_567.out; have hnb80 := NB567_529.out; have hnc80 := NB529_567.out; have hnb81 := NB567_568.out; have hnc81 := NB568_567.out; have hcz82_0 : w77.cell? ⟨gb567, 0, none⟩ = some (.slice none 0 0) := (blk_cell BK567.out 0).trans rfl; have hfz82_0 := blk_frozen BK567.out 0; have hnb83 := NB568_528.out; have hnc83 := NB528_568.out; have hnb84 := NB568_529.out; have hnc84 := NB529_568.out; obtain ⟨hcz85_0, hcz85_1, hcz85_2, hcz85_3, hfz85_0, hfz85_1, hfz85_2, hfz85_3⟩ := bk4_ BK568.out; obtain ⟨Ao86, co86, eo86⟩ := Kd.R_slice HO563.out; subst eo86; obtain ⟨Ao87, co87, eo87⟩ := Kd.R_slice HO566.out; subst eo87) | ((with_reducible refine gate_callee (f := 11) rfl ?_); refine goesL_ (some 117) rfl rfl Try.func11 (by kernel_rfl) rfl #[.agg #[.slice Ao78 t555.length co78], .agg #[.int .i64 t558, .int .i64 t559, .int .i64 t560, .slice Ao86 t561.length co86], .slice Ao87 t564.length co87] rfl (by (try simp only [List.map_toArray, List.map_cons, List.map_nil]); first | done | rfl | (simp only [List.length_drop, List.length_take]; rfl)) ?_; (with_reducible refine (impl_LawfulFlows.calls k2 _ _ t555 t558 t559 t560 _ _ t561 _ _ t564 t569 _ ?side1 ?side2 ?side3 ?side4 ?side5 ?side6 A72.out).mono ?_); (case side1 => refine (Kd.R_reads' (e := 3) (base := w.heap.size) (ok := fun k_ => (True ∧ some k_ ≠ (.slice Ao11 t517.length co11 : Value).ownBlock)) (n := t555.length) (c := co78) ?_).2.2; exact (by (with_reducible repeat (first | apply rA_ | apply rN_ | apply rD_)); exact (Kd.R_mono (Kd.R_mono (Kd.R_far (p := ⟨gb568, 3, none⟩) (Kd.R_far (p := ⟨gb568, 2, none⟩) (Kd.R_far (p := ⟨gb568, 1, none⟩) (Kd.R_far (p := ⟨gb568, 0, none⟩) (Kd.R_far (p := ⟨gb567, 0, none⟩) (Kd.R_types (Kd.R_types HO557.out BK567.out (by decide)) BK568.out (by decide)) (fun _ hk => hk.1.2) (.slice Ao78 t555.length co78)) (fun _ hk => hk.2) (.int .i64 t558)) (fun _ hk => hk.2) (.int .i64 t559)) (fun _ hk => hk.2) (.int .i64 t560)) (fun _ hk => hk.2) (.slice Ao86 t561.length co86)) (fun _ h_ => h_.1)) (fun _ h_ => h_.1)))); (case side2 => exact (Kd.R_reads' HO557.out).2.1); (case side3 => refine (Kd.R_reads' (e := 60) (base := w.heap.size) (ok := fun k_ => ((some k_ ≠ (.slice Ao78 t555.length co78 : Value).ownBlock ∧ some k_ ≠ (.slice Ao11 t517.length co11 : Value).ownBlock) ∧ some k_ ≠ (.slice Ao15 t523.length co15 : Value).ownBlock)) (n := t561.length) (c := co86) ?_).2.2; exact (by (with_reducible repeat (first | apply rA_ | apply rN_ | apply rD_)); exact (Kd.R_mono (Kd.R_mono (Kd.R_far (p := ⟨gb568, 3, none⟩) (Kd.R_far (p := ⟨gb568, 2, none⟩) (Kd.R_far (p := ⟨gb568, 1, none⟩) (Kd.R_far (p := ⟨gb568, 0, none⟩) (Kd.R_far (p := ⟨gb567, 0, none⟩) (Kd.R_types (Kd.R_types HO563.out BK567.out (by decide)) BK568.out (by decide)) (fun _ hk => hk.1.2) (.slice Ao78 t555.length co78)) (fun _ hk => hk.2) (.int .i64 t558)) (fun _ hk => hk.2) (.int .i64 t559)) (fun _ hk => hk.2) (.int .i64 t560)) (fun _ hk => hk.2) (.slice Ao86 t561.length co86)) (fun _ h_ => h_.1)) (fun _ h_ => h_.1)))); (case side4 => exact (Kd.R_reads' HO563.out).2.1); (case side5 => refine (Kd.R_reads' (e := 45) (base := w.heap.size) (ok := fun k_ => True) (n := t564.length) (c := co87) ?_).2.2; exact (by (with_reducible repeat (first | apply rA_ | apply rN_ | apply rD_)); exact (Kd.R_mono (Kd.R_mono (Kd.R_far (p := ⟨gb568, 3, none⟩) (Kd.R_far (p := ⟨gb568, 2, none⟩) (Kd.R_far (p := ⟨gb568, 1, none⟩) (Kd.R_far (p := ⟨gb568, 0, none⟩) (Kd.R_far (p := ⟨gb567, 0, none⟩) (Kd.R_types (Kd.R_types HO566.out BK567.out (by decide)) BK568.out (by decide)) (fun _ hk => hk.1.2) (.slice Ao78 t555.length co78)) (fun _ hk => hk.2) (.int .i64 t558)) (fun _ hk => hk.2) (.int .i64 t559)) (fun _ hk => hk.2) (.int .i64 t560)) (fun _ hk => hk.2) (.slice Ao86 t561.length co86)) (fun _ h_ => h_.1)) (fun _ h_ => h_.1)))); (case side6 => exact (Kd.R_reads' HO566.out).2.1); rintro e w88 ⟨v570, rfl, ho0, hb⟩; refine ⟨_, rfl, ?_⟩; have n0_ := aM_ (rB_ (by (with_reducible repeat (first | apply rA_ | apply rN_ | apply rD_)); exact (Kd.R_mono (Kd.R_mono (Kd.R_far (p := ⟨gb568, 3, none⟩) (Kd.R_far (p := ⟨gb568, 2, none⟩) (Kd.R_far (p := ⟨gb568, 1, none⟩) (Kd.R_far (p := ⟨gb568, 0, none⟩) (Kd.R_far (p := ⟨gb567, 0, none⟩) (Kd.R_types (Kd.R_types HO_529000.out BK567.out (by decide)) BK568.out (by decide)) (fun _ hk => hk.1.2) (.slice Ao78 t555.length co78)) (fun _ hk => hk.2) (.int .i64 t558)) (fun _ hk => hk.2) (.int .i64 t559)) (fun _ hk => hk.2) (.int .i64 t560)) (fun _ hk => hk.2) (.slice Ao86 t561.length co86)) (fun _ h_ => h_.1)) (fun _ h_ => h_.1))) hb); have n1_ := aM_ (rB_ (by (with_reducible repeat (first | apply rA_ | apply rN_ | apply rD_)); exact (Kd.R_mono (Kd.R_mono (Kd.R_far (p := ⟨gb568, 3, none⟩) (Kd.R_far (p := ⟨gb568, 2, none⟩) (Kd.R_far (p := ⟨gb568, 1, none⟩) (Kd.R_far (p := ⟨gb568, 0, none⟩) (Kd.R_far (p := ⟨gb567, 0, none⟩) (Kd.R_types (Kd.R_types HO_530003.out BK567.out (by decide)) BK568.out (by decide)) (fun _ hk => hk.1.2) (.slice Ao78 t555.length co78)) (fun _ hk => hk.2) (.int .i64 t558)) (fun _ hk => hk.2) (.int .i64 t559)) (fun _ hk => hk.2) (.int .i64 t560)) (fun _ hk => hk.2) (.slice Ao86 t561.length co86)) (fun _ h_ => h_.1)) (fun _ h_ => h_.1))) hb); have n2_ := aM_ (rB_ (by (with_reducible repeat (first | apply rA_ | apply rN_ | apply rD_)); exact (Kd.R_mono (Kd.R_mono (Kd.R_far (p := ⟨gb568, 3, none⟩) (Kd.R_far (p := ⟨gb568, 2, none⟩) (Kd.R_far (p := ⟨gb568, 1, none⟩) (Kd.R_far (p := ⟨gb568, 0, none⟩) (Kd.R_far (p := ⟨gb567, 0, none⟩) (Kd.R_types (Kd.R_types HO557.out BK567.out (by decide)) BK568.out (by decide)) (fun _ hk => hk.1.2) (.slice Ao78 t555.length co78)) (fun _ hk => hk.2) (.int .i64 t558)) (fun _ hk => hk.2) (.int .i64 t559)) (fun _ hk => hk.2) (.int .i64 t560)) (fun _ hk => hk.2) (.slice Ao86 t561.length co86)) (fun _ h_ => h_.1)) (fun _ h_ => h_.1))) hb); have n3_ := aM_ (rB_ (by (with_reducible repeat (first | apply rA_ | apply rN_ | apply rD_)); exact (Kd.R_mono (Kd.R_mono (Kd.R_far (p := ⟨gb568, 3, none⟩) (Kd.R_far (p := ⟨gb568, 2, none⟩) (Kd.R_far (p := ⟨gb568, 1, none⟩) (Kd.R_far (p := ⟨gb568, 0, none⟩) (Kd.R_far (p := ⟨gb567, 0, none⟩) (Kd.R_types (Kd.R_types HO563.out BK567.out (by decide)) BK568.out (by decide)) (fun _ hk => hk.1.2) (.slice Ao78 t555.length co78)) (fun _ hk => hk.2) (.int .i64 t558)) (fun _ hk => hk.2) (.int .i64 t559)) (fun _ hk => hk.2) (.int .i64 t560)) (fun _ hk => hk.2) (.slice Ao86 t561.length co86)) (fun _ h_ => h_.1)) (fun _ h_ => h_.1))) hb); have n4_ := aM_ (Kd.R_elder' (by (with_reducible repeat (first | apply rA_ | apply rN_ | apply rD_)); exact (Kd.R_mono (Kd.R_mono (Kd.R_far (p := ⟨gb568, 3, none⟩) (Kd.R_far (p := ⟨gb568, 2, none⟩) (Kd.R_far (p := ⟨gb568, 1, none⟩) (Kd.R_far (p := ⟨gb568, 0, none⟩) (Kd.R_far (p := ⟨gb567, 0, none⟩) (Kd.R_types (Kd.R_types HO566.out BK567.out (by decide)) BK568.out (by decide)) (fun _ hk => hk.1.2) (.slice Ao78 t555.length co78)) (fun _ hk => hk.2) (.int .i64 t558)) (fun _ hk => hk.2) (.int .i64 t559)) (fun _ hk => hk.2) (.int .i64 t560)) (fun _ hk => hk.2) (.slice Ao86 t561.length co86)) (fun _ h_ => h_.1)) (fun _ h_ => h_.1))) (Kd.R_base ho0) hb); have n5_ := aM_ (Kd.R_lower (Kd.R_new' ho0 (Kd.R_lt (by (with_reducible repeat (first | apply rA_ | apply rN_ | apply rD_)); exact (Kd.R_mono (Kd.R_mono (Kd.R_far (p := ⟨gb568, 3, none⟩) (Kd.R_far (p := ⟨gb568, 2, none⟩) (Kd.R_far (p := ⟨gb568, 1, none⟩) (Kd.R_far (p := ⟨gb568, 0, none⟩) (Kd.R_far (p := ⟨gb567, 0, none⟩) (Kd.R_types (Kd.R_types HO566.out BK567.out (by decide)) BK568.out (by decide)) (fun _ hk => hk.1.2) (.slice Ao78 t555.length co78)) (fun _ hk => hk.2) (.int .i64 t558)) (fun _ hk => hk.2) (.int .i64 t559)) (fun _ hk => hk.2) (.int .i64 t560)) (fun _ hk => hk.2) (.slice Ao86 t561.length co86)) (fun _ h_ => h_.1)) (fun _ h_ => h_.1))))) (sZ_ (bw_))); have n6_ := aM_ (bB_ (g := gb528) (o := .cells #[.slice Ao11 t517.length co11] 26 (0, 0)) (by (with_reducible repeat (first | refine bN_ ?_ _ | refine bD_ ?_ | refine bA_ ?_ _)); refine blk_far ?_ NB528_568.out _; (with_reducible repeat (first | refine bN_ ?_ _ | refine bD_ ?_ | refine bA_ ?_ _)); refine blk_far ?_ NB528_568.out _; (with_reducible repeat (first | refine bN_ ?_ _ | refine bD_ ?_ | refine bA_ ?_ _)); refine blk_far ?_ NB528_568.out _; (with_reducible repeat (first | refine bN_ ?_ _ | refine bD_ ?_ | refine bA_ ?_ _)); refine blk_far ?_ NB528_568.out _; (with_reducible repeat (first | refine bN_ ?_ _ | refine bD_ ?_ | refine bA_ ?_ _)); refine blk_far ?_ NB528_567.out _; (with_reducible repeat (first | refine bN_ ?_ _ | refine bD_ ?_ | refine bA_ ?_ _)); exact BK528.out) hb); have n7_ := aM_ (bB_ (g := gb529) (o := .cells #[.int .i64 t520, .int .i64 t521, .int .i64 t522, .slice Ao15 t523.length co15] 29 (0, 0)) (by (with_reducible repeat (first | refine bN_ ?_ _ | refine bD_ ?_ | refine bA_ ?_ _)); refine blk_far ?_ NB529_568.out _; (with_reducible repeat (first | refine bN_ ?_ _ | refine bD_ ?_ | refine bA_ ?_ _)); refine blk_far ?_ NB529_568.out _; (with_reducible repeat (first | refine bN_ ?_ _ | refine bD_ ?_ | refine bA_ ?_ _)); refine blk_far ?_ NB529_568.out _; (with_reducible repeat (first | refine bN_ ?_ _ | refine bD_ ?_ | refine bA_ ?_ _)); refine blk_far ?_ NB529_568.out _; (with_reducible repeat (first | refine bN_ ?_ _ | refine bD_ ?_ | refine bA_ ?_ _)); refine blk_far ?_ NB529_567.out _; (with_reducible repeat (first | refine bN_ ?_ _ | refine bD_ ?_ | refine bA_ ?_ _)); exact BK529.out) hb); have n8_ := aM_ (bB_ (g := gb567) (o := .cells #[.slice Ao78 t555.length co78] 26 (0, 0)) (by (with_reducible repeat (first | refine bN_ ?_ _ | refine bD_ ?_ | refine bA_ ?_ _)); refine blk_far ?_ NB567_568.out _; (with_reducible repeat (first | refine bN_ ?_ _ | refine bD_ ?_ | refine bA_ ?_ _)); refine blk_far ?_ NB567_568.out _; (with_reducible repeat (first | refine bN_ ?_ _ | refine bD_ ?_ | refine bA_ ?_ _)); refine blk_far ?_ NB567_568.out _; (with_reducible repeat (first | refine bN_ ?_ _ | refine bD_ ?_ | refine bA_ ?_ _)); refine blk_far ?_ NB567_568.out _; (with_reducible repeat (first | refine bN_ ?_ _ | refine bD_ ?_ | refine bA_ ?_ _)); refine blk_put (cs := #[.slice none 0 0]) ?_ 0 _ rfl; (with_reducible repeat (first | refine bN_ ?_ _ | refine bD_ ?_ | refine bA_ ?_ _)); exact BK567.out) hb); have n9_ := aM_ (bB_ (g := gb568) (o := .cells #[.int .i64 t558, .int .i64 t559, .int .i64 t560, .slice Ao86 t561.length co86] 29 (0, 0)) (by (with_reducible repeat (first | refine bN_ ?_ _ | refine bD_ ?_ | refine bA_ ?_ _)); refine blk_put (cs := #[.int .i64 t558, .int .i64 t559, .int .i64 t560, .slice none 0 0]) ?_ 3 _ rfl; (with_reducible repeat (first | refine bN_ ?_ _ | refine bD_ ?_ | refine bA_ ?_ _)); refine blk_put (cs := #[.int .i64 t558, .int .i64 t559, .int .i64 0, .slice none 0 0]) ?_ 2 _ rfl; (with_reducible repeat (first | refine bN_ ?_ _ | refine bD_ ?_ | refine bA_ ?_ _)); refine blk_put (cs := #[.int .i64 t558, .int .i64 0, .int .i64 0, .slice none 0 0]) ?_ 1 _ rfl; (with_reducible repeat (first | refine bN_ ?_ _ | refine bD_ ?_ | refine bA_ ?_ _)); refine blk_put (cs := #[.int .i64 0, .int .i64 0, .int .i64 0, .slice none 0 0]) ?_ 0 _ rfl; (with_reducible repeat (first | refine bN_ ?_ _ | refine bD_ ?_ | refine bA_ ?_ _)); refine blk_far ?_ NB568_567.out _; (with_reducible repeat (first | refine bN_ ?_ _ | refine bD_ ?_ | refine bA_ ?_ _)); exact BK568.out) hb); have n10_ := aM_ (wS_ (bw_) hb); clear HO_529000 HO_530003 HO557 HO563 HO566 BK528 BK529 BK567 BK568 HB; have HO_529000 := n0_; have HO_530003 := n1_; have HO557 := n2_; have HO563 := n3_; have HO566 := n4_; have HO571 := n5_; have BK528 := n6_; have BK529 := n7_; have BK567 := n8_; have BK568 := n9_; have HB := n10_; clear n0_ n1_ n2_ n3_ n4_ n5_ n6_ n7_ n8_ n9_ n10_; (try clear hb); (try clear hb2); (try clear hk); (try clear hi); (try clear ho0)))
        go_loopg [18] k2 (fun kq v18 w' => ∃ (x18_3 : Int), v18 = .int .i64 x18_3 ∧ Aside0 (laws_FnBorders.l1 kq t527 t530 t564 t569 x18_3 t517 t520 t521 t522 t523 t555 t558 t559 t560 t561 = some r) ∧ Aside0 (kq ≤ k2) ∧ Aside0 (Kd.R k45 45 w' w.heap.size (fun k_ => some k_ ≠ (v570 : Value).ownBlock) (.slice Ao87 t564.length co87) t564) ∧ Aside0 (Kd.R k45 45 w' w.heap.size (fun k_ => some k_ ≠ ((.slice Ao87 t564.length co87) : Value).ownBlock) v570 t569) ∧ Aside0 (Kd.R (Kd.int .i64) 3 w' w.heap.size (fun k_ => some k_ ≠ ((.slice Ao78 t555.length co78) : Value).ownBlock) (.slice Ao11 t517.length co11) t517) ∧ Aside0 (Kd.R k60 60 w' w.heap.size (fun k_ => some k_ ≠ ((.slice Ao11 t517.length co11) : Value).ownBlock ∧ some k_ ≠ ((.slice Ao78 t555.length co78) : Value).ownBlock ∧ some k_ ≠ ((.slice Ao86 t561.length co86) : Value).ownBlock) (.slice Ao15 t523.length co15) t523) ∧ Aside0 (Kd.R (Kd.int .i64) 3 w' w.heap.size (fun k_ => some k_ ≠ ((.slice Ao11 t517.length co11) : Value).ownBlock) (.slice Ao78 t555.length co78) t555) ∧ Aside0 (Kd.R k60 60 w' w.heap.size (fun k_ => some k_ ≠ ((.slice Ao11 t517.length co11) : Value).ownBlock ∧ some k_ ≠ ((.slice Ao15 t523.length co15) : Value).ownBlock ∧ some k_ ≠ ((.slice Ao78 t555.length co78) : Value).ownBlock) (.slice Ao86 t561.length co86) t561) ∧ Aside0 (w'.heap[gb528]? = some (.cells #[(.slice Ao11 t517.length co11)] 26 (0, 0))) ∧ Aside0 (w'.heap[gb529]? = some (.cells #[.int .i64 t520, .int .i64 t521, .int .i64 t522, (.slice Ao15 t523.length co15)] 29 (0, 0))) ∧ Aside0 (w'.heap[gb567]? = some (.cells #[(.slice Ao78 t555.length co78)] 26 (0, 0))) ∧ Aside0 (w'.heap[gb568]? = some (.cells #[.int .i64 t558, .int .i64 t559, .int .i64 t560, (.slice Ao86 t561.length co86)] 29 (0, 0))) ∧ Aside0 (Below w.heap.size w w'))
        case atStart => exact ⟨(0), (by first | rfl | (simp; done) | (simp [*]; done)), H', ⟨Nat.le_refl _⟩, ⟨by (with_reducible repeat (first | apply rA_ | apply rN_ | apply rD_)); exact Kd.R_mono HO566.out (fun _ hk => hk.2)⟩, ⟨by (with_reducible repeat (first | apply rA_ | apply rN_ | apply rD_)); exact Kd.R_mono HO571.out (fun _ hk => hk.2)⟩, ⟨by (with_reducible repeat (first | apply rA_ | apply rN_ | apply rD_)); exact Kd.R_mono HO_529000.out (fun _ hk => hk.2)⟩, ⟨by (with_reducible repeat (first | apply rA_ | apply rN_ | apply rD_)); exact Kd.R_mono HO_530003.out (fun _ hk => ⟨hk.1.1, ⟨hk.1.2, hk.2⟩⟩)⟩, ⟨by (with_reducible repeat (first | apply rA_ | apply rN_ | apply rD_)); exact Kd.R_mono HO557.out (fun _ hk => hk.2)⟩, ⟨by (with_reducible repeat (first | apply rA_ | apply rN_ | apply rD_)); exact Kd.R_mono HO563.out (fun _ hk => ⟨hk.1.2, ⟨hk.2, hk.1.1⟩⟩)⟩, ⟨by (with_reducible repeat (first | refine bN_ ?_ _ | refine bD_ ?_ | refine bA_ ?_ _)); exact BK528.out⟩, ⟨by (with_reducible repeat (first | refine bN_ ?_ _ | refine bD_ ?_ | refine bA_ ?_ _)); exact BK529.out⟩, ⟨by (with_reducible repeat (first | refine bN_ ?_ _ | refine bD_ ?_ | refine bA_ ?_ _)); exact BK567.out⟩, ⟨by (with_reducible repeat (first | refine bN_ ?_ _ | refine bD_ ?_ | refine bA_ ?_ _)); exact BK568.out⟩, ⟨bw_⟩⟩
        case round =>
         clear H'
         try clear hx5
         try clear c19b0
         try clear c24b0
         try clear c25b0
         try clear c40b0
         try clear c41b0
         try clear c45b0
         try clear c46b0
         try clear c51b0
         try clear hx53
         try clear c54b0
         try clear hx54
         try clear c55b0
         try clear hx55
         try clear c56b0
         try clear c57b0
         try clear hcz13_0
         try clear hcz14_0
         try clear hcz14_1
         try clear hcz14_2
         try clear hcz14_3
         try clear hcz17_0
         try clear hcz17_1
         try clear hcz17_2
         try clear hcz17_3
         try clear hcz22_0
         try clear hcz29_0
         try clear hcz44_0
         try clear hcz44_1
         try clear hcz44_2
         try clear hcz49_0
         try clear hcz49_1
         try clear hcz49_2
         try clear hcz60_0
         try clear hcz60_1
         try clear hcz60_2
         try clear hcz60_3
         try clear hcz66_0
         try clear hcz66_1
         try clear hcz66_2
         try clear hcz74_0
         try clear hcz82_0
         try clear hcz85_0
         try clear hcz85_1
         try clear hcz85_2
         try clear hcz85_3
         try clear hfz13_0
         try clear hfz14_0
         try clear hfz14_1
         try clear hfz14_2
         try clear hfz14_3
         try clear hfz17_0
         try clear hfz17_1
         try clear hfz17_2
         try clear hfz17_3
         try clear hfz22_0
         try clear hfz29_0
         try clear hfz44_0
         try clear hfz44_1
         try clear hfz44_2
         try clear hfz49_0
         try clear hfz49_1
         try clear hfz49_2
         try clear hfz60_0
         try clear hfz60_1
         try clear hfz60_2
         try clear hfz60_3
         try clear hfz66_0
         try clear hfz66_1
         try clear hfz66_2
         try clear hfz74_0
         try clear hfz82_0
         try clear hfz85_0
         try clear hfz85_1
         try clear hfz85_2
         try clear hfz85_3
         try clear hx533_0
         try clear hx543_0
         try clear hx553_0
         try clear hx554_0
         obtain ⟨x18_3, rfl, HA, HK3, HO_16, HO_17, HO_529000, HO_530003, HO_568000, HO_569003, BK528, BK529, BK567, BK568, HB⟩ := hrel
         cases gk with
         | zero => exact absurd HA.out (by simp [laws_FnBorders.l1])
         | succ k3 =>
          have H := HA.out; clear HA
          simp only [laws_FnBorders.l1] at H
          by_cases c89 : x18_3 < (t569.length : Int)
          ·rw [if_pos c89] at H
           have c89b0 : decide (x18_3 < (t569.length : Int)) = true := decide_eq_true c89
           clear c89
           by_cases c90 : 0 ≤ x18_3
           ·rw [if_pos c90] at H
            have c90b0 : decide (0 ≤ x18_3) = true := decide_eq_true c90
            clear c90
            replace H := Option.bind_eq_some_iff.mp H
            obtain ⟨t573, A910, H⟩ := H
            (try dsimp only at H)
            have A91 := aM_ A910; clear A910
            by_cases c92 : t573 = true
            ·subst c92
             have H1 : (laws_FnBorders.l1 k3 t527 t530 t564 t569 (wrap64 (x18_3 + 1)) t517 t520 t521 t522 t523 t555 t558 t559 t560 t561) = some r := by rw [if_pos rfl] at H; exact H
             clear H; have H := H1; clear H1
             have H' := aM_ H
             clear H
             obtain ⟨Ao93, co93, eo93⟩ := Kd.R_slice HO_17.out
             subst eo93
             try go_wp2
             have n0_ := aM_ (rD_ HO_16.out); have n1_ := aM_ (rD_ HO_17.out); have n2_ := aM_ (rD_ HO_529000.out); have n3_ := aM_ (rD_ HO_530003.out); have n4_ := aM_ (rD_ HO_568000.out); have n5_ := aM_ (rD_ HO_569003.out); have n6_ := aM_ (bD_ BK528.out); have n7_ := aM_ (bD_ BK529.out); have n8_ := aM_ (bD_ BK567.out); have n9_ := aM_ (bD_ BK568.out); have n10_ := aM_ (wD_ HB.out); clear HO_16 HO_17 HO_529000 HO_530003 HO_568000 HO_569003 BK528 BK529 BK567 BK568 HB; have HO_16 := n0_; have HO_17 := n1_; have HO_529000 := n2_; have HO_530003 := n3_; have HO_568000 := n4_; have HO_569003 := n5_; have BK528 := n6_; have BK529 := n7_; have BK567 := n8_; have BK568 := n9_; have HB := n10_; clear n0_ n1_ n2_ n3_ n4_ n5_ n6_ n7_ n8_ n9_ n10_
             have p572 : 0 ≤ (x18_3 : Int) := dT_
             have q572 : x18_3 < (t569.length : Int) := dT_
             obtain ⟨ad572, e572, hx572_0, hx572_1, hx572_2, hx572_3⟩ := at_T45 (Kd.R_reads' HO_17.out).2.2 x18_3 p572 q572
             cases e572
             replace p572 := eq_true p572; replace q572 := eq_true q572
             refine start_ (n := 9) (S := fun w' => w'.cell? ⟨gb567, 0, none⟩ = some (.slice Ao78 t555.length co78) ∧ w'.cell? ⟨gb568, 0, none⟩ = some (.int .i64 t558) ∧ w'.cell? ⟨gb568, 1, none⟩ = some (.int .i64 t559) ∧ w'.cell? ⟨gb568, 2, none⟩ = some (.int .i64 t560) ∧ w'.cell? ⟨gb568, 3, none⟩ = some (.slice Ao86 t561.length co86) ∧ w'.cell? (ad572.add ((x18_3).toNat * 4)) = some (.int .i64 ((rd_T45 t569 x18_3).f0)) ∧ w'.cell? ⟨(ad572.add ((x18_3).toNat * 4)).block, (ad572.add ((x18_3).toNat * 4)).off + 1, none⟩ = some (.int .i64 ((rd_T45 t569 x18_3).f1)) ∧ w'.cell? ⟨(ad572.add ((x18_3).toNat * 4)).block, (ad572.add ((x18_3).toNat * 4)).off + 2, none⟩ = some (.int .i64 ((rd_T45 t569 x18_3).f2)) ∧ w'.cell? ⟨(ad572.add ((x18_3).toNat * 4)).block, (ad572.add ((x18_3).toNat * 4)).off + 3, none⟩ = some (.int .i64 ((rd_T45 t569 x18_3).f3))) (ds := []) #[false, false, false, false, false, false, false, false, false] (by kernel_rfl) rfl rfl ⟨(blk_cell BK567.out 0).trans rfl, (blk_cell BK568.out 0).trans rfl, (blk_cell BK568.out 1).trans rfl, (blk_cell BK568.out 2).trans rfl, (blk_cell BK568.out 3).trans rfl, hx572_0, hx572_1, hx572_2, hx572_3⟩ (fun hHeld => ?_); refine with_tabW laws_FnBorders.tab23 laws_FnBorders.bits23 (fun HT_ HW_ => ?_)
             generalize wr.drew = w94 at HO_16 HO_17 HO_529000 HO_530003 HO_568000 HO_569003 BK528 BK529 BK567 BK568 HB hx572_0 hx572_1 hx572_2 hx572_3 hHeld ⊢
             refine pu_ 2 (some 126) #[false, false, true, false, false, false, false, false, false] rfl rfl ?_
             refine pu_ 3 (some 127) #[false, false, true, true, false, false, false, false, false] rfl rfl ?_
             refine pu_ 4 (some 128) #[false, false, true, true, true, false, false, false, false] rfl rfl ?_
             refine pu_ 5 (some 129) #[false, false, true, true, true, true, false, false, false] rfl rfl ?_
             refine tk9_ 0 (some 124) #[true, false, true, true, true, true, false, false, false] rfl rfl ?_
             refine tk9_ 1 (some 125) #[true, true, true, true, true, true, false, false, false] rfl rfl ?_
             refine tk9_ 6 (some 130) #[true, true, true, true, true, true, true, false, false] rfl rfl ?_
             refine one_ (i := 7) (N := some 131) #[true, true, true, true, true, true, true, true, false] rfl rfl (one_of HT_.out (by kernel_rfl)) (by decide) (fun K hK => ?_)
             refine goes_ Try.func12 (by kernel_rfl) rfl #[.agg #[.slice Ao78 t555.length co78], .agg #[.int .i64 t558, .int .i64 t559, .int .i64 t560, .slice Ao86 t561.length co86], .int .i64 ((rd_T45 t569 x18_3).f2)] (by rfl) rfl rfl (by (try simp only [List.map_toArray, List.map_cons, List.map_nil]); first | done | rfl | (simp only [List.length_drop, List.length_take]; rfl)) ?_
             with_reducible refine (impl_IsLanding.calls k3 _ _ t555 t558 t559 t560 _ _ t561 ((rd_T45 t569 x18_3).f2) true _ ?side1 ?side2 ?side3 ?side4 A91.out).mono ?_
             (case side1 => repeat (first | exact (Kd.R_reads' HO_568000.out).2.2 | (with_reducible refine cA_ ?_ _) | (with_reducible refine cN_ ?_ _) | (with_reducible refine cD_ ?_)))
             (case side2 => exact (Kd.R_reads' HO_568000.out).2.1)
             (case side3 => repeat (first | exact (Kd.R_reads' HO_569003.out).2.2 | (with_reducible refine cA_ ?_ _) | (with_reducible refine cN_ ?_ _) | (with_reducible refine cD_ ?_)))
             (case side4 => exact (Kd.R_reads' HO_569003.out).2.1)
             rintro e w95 ⟨rfl, hb⟩
             have HS5_ := (hb.cell (World.block_lt_of_cell? _ _ (hHeld.2.2.2.2.2.1))).trans (hHeld.2.2.2.2.2.1); have HS6_ := (hb.cell (World.block_lt_of_cell? _ _ (hHeld.2.2.2.2.2.2.1))).trans (hHeld.2.2.2.2.2.2.1); have HS7_ := (hb.cell (World.block_lt_of_cell? _ _ (hHeld.2.2.2.2.2.2.2.1))).trans (hHeld.2.2.2.2.2.2.2.1); have HS8_ := (hb.cell (World.block_lt_of_cell? _ _ (hHeld.2.2.2.2.2.2.2.2))).trans (hHeld.2.2.2.2.2.2.2.2)
             refine ⟨_, rfl, ?_⟩
             have n0_ := aM_ (rB_ (rb_ HO_16.out) hb); have n1_ := aM_ (rB_ (rb_ HO_17.out) hb); have n2_ := aM_ (rB_ (rb_ HO_529000.out) hb); have n3_ := aM_ (rB_ (rb_ HO_530003.out) hb); have n4_ := aM_ (rB_ (rb_ HO_568000.out) hb); have n5_ := aM_ (rB_ (rb_ HO_569003.out) hb); have n6_ := aM_ (bB_ (kb_ BK528.out) hb); have n7_ := aM_ (bB_ (kb_ BK529.out) hb); have n8_ := aM_ (bB_ (kb_ BK567.out) hb); have n9_ := aM_ (bB_ (kb_ BK568.out) hb); have n10_ := aM_ (wS_ (bw_) hb); clear HO_16 HO_17 HO_529000 HO_530003 HO_568000 HO_569003 BK528 BK529 BK567 BK568 HB; have HO_16 := n0_; have HO_17 := n1_; have HO_529000 := n2_; have HO_530003 := n3_; have HO_568000 := n4_; have HO_569003 := n5_; have BK528 := n6_; have BK529 := n7_; have BK567 := n8_; have BK568 := n9_; have HB := n10_; clear n0_ n1_ n2_ n3_ n4_ n5_ n6_ n7_ n8_ n9_ n10_; (try clear hb); (try clear hb2); (try clear hk); (try clear hi)
             refine hK.out _ _ ⟨(blk_cell BK567.out 0).trans rfl, (blk_cell BK568.out 0).trans rfl, (blk_cell BK568.out 1).trans rfl, (blk_cell BK568.out 2).trans rfl, (blk_cell BK568.out 3).trans rfl, HS5_, HS6_, HS7_, HS8_⟩ (fun hHeld => ?_)
             clear hK K
             refine norm_ (a' := ?_) ?_ ?_
             rotate_left
             ·show Act.put _ (some 131) _ = _
              simp only [Act.put, List.setIfInBounds_toArray, List.set_cons_zero, List.set_cons_succ, i64_w, i32_w]
              rfl
             refine pu_ 8 (some 132) #[true, true, true, true, true, true, true, true, true] rfl rfl ?_
             refine done_ (done_of HT_.out (by kernel_rfl)) ?_
             try go_wp2
             go_roundg k3
             case measure => have := HJ6.out; have := HK2.out; have := HK3.out; omega
             case rel => exact ⟨(wrap64 (x18_3 + 1)), (by first | rfl | (simp; done) | (simp [*]; done)), H', ⟨by have := HJ6.out; have := HK2.out; have := HK3.out; omega⟩, ⟨by (with_reducible repeat (first | apply rA_ | apply rN_ | apply rD_)); exact HO_16.out⟩, ⟨by (with_reducible repeat (first | apply rA_ | apply rN_ | apply rD_)); exact HO_17.out⟩, ⟨by (with_reducible repeat (first | apply rA_ | apply rN_ | apply rD_)); exact HO_529000.out⟩, ⟨by (with_reducible repeat (first | apply rA_ | apply rN_ | apply rD_)); exact HO_530003.out⟩, ⟨by (with_reducible repeat (first | apply rA_ | apply rN_ | apply rD_)); exact HO_568000.out⟩, ⟨by (with_reducible repeat (first | apply rA_ | apply rN_ | apply rD_)); exact HO_569003.out⟩, ⟨by (with_reducible repeat (first | refine bN_ ?_ _ | refine bD_ ?_ | refine bA_ ?_ _)); exact BK528.out⟩, ⟨by (with_reducible repeat (first | refine bN_ ?_ _ | refine bD_ ?_ | refine bA_ ?_ _)); exact BK529.out⟩, ⟨by (with_reducible repeat (first | refine bN_ ?_ _ | refine bD_ ?_ | refine bA_ ?_ _)); exact BK567.out⟩, ⟨by (with_reducible repeat (first | refine bN_ ?_ _ | refine bD_ ?_ | refine bA_ ?_ _)); exact BK568.out⟩, ⟨bw_⟩⟩
            ·replace c92 := Bool.eq_false_iff.mpr c92
             subst c92
             have H1 : (some false) = some r := by rw [if_neg (show ¬ (false = true) by decide)] at H; exact H
             clear H; have H := H1; clear H1
             exact absurd ((Option.some.inj H).trans HTRUE.out) (by decide)
           ·rw [if_neg c90] at H
            exact absurd H (by simp)
          ·rw [if_neg c89] at H
           have c89b0 : decide (x18_3 < (t569.length : Int)) = false := decide_eq_false c89
           clear c89
           by_cases c96 : (t569.length : Int) ≤ (t564.length : Int)
           ·rw [if_pos c96] at H
            have c96b0 : decide ((t569.length : Int) ≤ (t564.length : Int)) = true := decide_eq_true c96
            have c96b1 : decide (t569.length ≤ t564.length) = true := decide_eq_true (Int.ofNat_le.mp c96)
            clear c96
            replace H := Option.bind_eq_some_iff.mp H
            obtain ⟨t574, A970, H⟩ := H
            (try dsimp only at H)
            have A97 := aM_ A970; clear A970
            by_cases c98 : t574 ≤ t520
            ·rw [if_pos c98] at H
             have c98b0 : decide (t574 ≤ t520) = true := decide_eq_true c98
             clear c98
             replace H := Option.bind_eq_some_iff.mp H
             obtain ⟨t575, A990, H⟩ := H
             (try dsimp only at H)
             have A99 := aM_ A990; clear A990
             by_cases c100 : t575 = true
             ·subst c100
              have H1 : (if t530 < 0 then (some true) else ((impl_IsLanding.f k3 t517 t520 t521 t522 t523 t530).bind fun t576 => (some t576))) = some r := by rw [if_pos rfl] at H; exact H
              clear H; have H := H1; clear H1
              by_cases c101 : t530 < 0
              ·rw [if_pos c101] at H
               have c101b0 : decide (t530 < 0) = true := decide_eq_true c101
               clear c101
               obtain rfl := Option.some.inj H
               obtain ⟨Ao102, co102, eo102⟩ := Kd.R_slice HO_17.out
               subst eo102
               try go_wp2
               have n0_ := aM_ (rD_ HO_16.out); have n1_ := aM_ (rD_ HO_17.out); have n2_ := aM_ (rD_ HO_529000.out); have n3_ := aM_ (rD_ HO_530003.out); have n4_ := aM_ (rD_ HO_568000.out); have n5_ := aM_ (rD_ HO_569003.out); have n6_ := aM_ (bD_ BK528.out); have n7_ := aM_ (bD_ BK529.out); have n8_ := aM_ (bD_ BK567.out); have n9_ := aM_ (bD_ BK568.out); have n10_ := aM_ (wD_ HB.out); clear HO_16 HO_17 HO_529000 HO_530003 HO_568000 HO_569003 BK528 BK529 BK567 BK568 HB; have HO_16 := n0_; have HO_17 := n1_; have HO_529000 := n2_; have HO_530003 := n3_; have HO_568000 := n4_; have HO_569003 := n5_; have BK528 := n6_; have BK529 := n7_; have BK567 := n8_; have BK568 := n9_; have HB := n10_; clear n0_ n1_ n2_ n3_ n4_ n5_ n6_ n7_ n8_ n9_ n10_
               refine start_ (n := 31) (S := fun w' => w'.cell? ⟨gb528, 0, none⟩ = some (.slice Ao11 t517.length co11) ∧ w'.cell? ⟨gb529, 0, none⟩ = some (.int .i64 t520) ∧ w'.cell? ⟨gb529, 1, none⟩ = some (.int .i64 t521) ∧ w'.cell? ⟨gb529, 2, none⟩ = some (.int .i64 t522) ∧ w'.cell? ⟨gb529, 3, none⟩ = some (.slice Ao15 t523.length co15)) (ds := []) zb1_ (by kernel_rfl) rfl rfl ⟨(blk_cell BK528.out 0).trans rfl, (blk_cell BK529.out 0).trans rfl, (blk_cell BK529.out 1).trans rfl, (blk_cell BK529.out 2).trans rfl, (blk_cell BK529.out 3).trans rfl⟩ (fun hHeld => ?_); refine with_tabW laws_FnBorders.tab25 laws_FnBorders.bits25 (fun HT_ HW_ => ?_)
               generalize wr.drew = w103 at HO_16 HO_17 HO_529000 HO_530003 HO_568000 HO_569003 BK528 BK529 BK567 BK568 HB hHeld ⊢
               refine pu_ 0 (some 133) zb2_ rfl rfl ?_
               refine pu_ 1 (some 134) zb3_ rfl rfl ?_
               refine pu_ 2 (some 135) zb4_ rfl rfl ?_
               refine pu_ 3 (some 136) zb5_ rfl rfl ?_
               refine pu_ 4 (some 137) zb6_ rfl rfl ?_
               refine pu_ 5 (some 138) zb7_ rfl rfl ?_
               refine pu_ 8 (some 141) zb8_ rfl rfl ?_
               refine pu_ 10 (some 143) zb9_ rfl rfl ?_
               refine tk5_ 6 (some 139) zb10_ rfl rfl ?_
               refine tk5_ 7 (some 140) zb11_ rfl rfl ?_
               refine tk5_ 11 (some 144) zb12_ rfl rfl ?_
               refine one_ (i := 9) (N := some 142) zb13_ rfl rfl (one_of HT_.out (by kernel_rfl)) (by decide) (fun K hK => ?_)
               refine goes_ Try.func13 (by kernel_rfl) rfl #[.agg #[.slice Ao11 t517.length co11], .agg #[.int .i64 t520, .int .i64 t521, .int .i64 t522, .slice Ao15 t523.length co15], .int .i64 t527] (by rfl) rfl rfl (by (try simp only [List.map_toArray, List.map_cons, List.map_nil]); first | done | rfl | (simp only [List.length_drop, List.length_take]; rfl)) ?_
               with_reducible refine (impl_ServedBy.calls k3 _ _ t517 t520 t521 t522 _ _ t523 t527 t574 _ ?side1 ?side2 ?side3 ?side4 A97.out).mono ?_
               (case side1 => repeat (first | exact (Kd.R_reads' HO_529000.out).2.2 | (with_reducible refine cA_ ?_ _) | (with_reducible refine cN_ ?_ _) | (with_reducible refine cD_ ?_)))
               (case side2 => exact (Kd.R_reads' HO_529000.out).2.1)
               (case side3 => repeat (first | exact (Kd.R_reads' HO_530003.out).2.2 | (with_reducible refine cA_ ?_ _) | (with_reducible refine cN_ ?_ _) | (with_reducible refine cD_ ?_)))
               (case side4 => exact (Kd.R_reads' HO_530003.out).2.1)
               rintro e w104 ⟨rfl, hb⟩
               refine ⟨_, rfl, ?_⟩
               have n0_ := aM_ (rB_ (rb_ HO_16.out) hb); have n1_ := aM_ (rB_ (rb_ HO_17.out) hb); have n2_ := aM_ (rB_ (rb_ HO_529000.out) hb); have n3_ := aM_ (rB_ (rb_ HO_530003.out) hb); have n4_ := aM_ (rB_ (rb_ HO_568000.out) hb); have n5_ := aM_ (rB_ (rb_ HO_569003.out) hb); have n6_ := aM_ (bB_ (kb_ BK528.out) hb); have n7_ := aM_ (bB_ (kb_ BK529.out) hb); have n8_ := aM_ (bB_ (kb_ BK567.out) hb); have n9_ := aM_ (bB_ (kb_ BK568.out) hb); have n10_ := aM_ (wS_ (bw_) hb); clear HO_16 HO_17 HO_529000 HO_530003 HO_568000 HO_569003 BK528 BK529 BK567 BK568 HB; have HO_16 := n0_; have HO_17 := n1_; have HO_529000 := n2_; have HO_530003 := n3_; have HO_568000 := n4_; have HO_569003 := n5_; have BK528 := n6_; have BK529 := n7_; have BK567 := n8_; have BK568 := n9_; have HB := n10_; clear n0_ n1_ n2_ n3_ n4_ n5_ n6_ n7_ n8_ n9_ n10_; (try clear hb); (try clear hb2); (try clear hk); (try clear hi)
               refine hK.out _ _ ⟨(blk_cell BK528.out 0).trans rfl, (blk_cell BK529.out 0).trans rfl, (blk_cell BK529.out 1).trans rfl, (blk_cell BK529.out 2).trans rfl, (blk_cell BK529.out 3).trans rfl⟩ (fun hHeld => ?_)
               clear hK K
               refine norm_ (a' := ?_) ?_ ?_
               rotate_left
               ·show Act.put _ (some 142) _ = _
                simp only [Act.put, List.setIfInBounds_toArray, List.set_cons_zero, List.set_cons_succ, i64_w, i32_w]
                rfl
               refine pu_ 12 (some 145) zb14_ rfl rfl ?_
               refine pu_ 13 (some 146) zb15_ rfl rfl ?_
               refine pu_ 14 (some 147) zb16_ rfl rfl ?_
               refine tk5_ 15 (some 148) zb17_ rfl rfl ?_
               refine tk5_ 16 (some 149) zb18_ rfl rfl ?_
               refine one_ (i := 17) (N := some 150) zb19_ rfl rfl (one_of HT_.out (by kernel_rfl)) (by decide) (fun K hK => ?_)
               refine goes_ Try.func14 (by kernel_rfl) rfl #[.agg #[.slice Ao11 t517.length co11], .agg #[.int .i64 t520, .int .i64 t521, .int .i64 t522, .slice Ao15 t523.length co15]] (by rfl) rfl rfl (by (try simp only [List.map_toArray, List.map_cons, List.map_nil]); first | done | rfl | (simp only [List.length_drop, List.length_take]; rfl)) ?_
               with_reducible refine (impl_IsLaw.calls k3 _ _ t517 t520 t521 t522 _ _ t523 true _ ?side1 ?side2 ?side3 ?side4 A99.out).mono ?_
               (case side1 => repeat (first | exact (Kd.R_reads' HO_529000.out).2.2 | (with_reducible refine cA_ ?_ _) | (with_reducible refine cN_ ?_ _) | (with_reducible refine cD_ ?_)))
               (case side2 => exact (Kd.R_reads' HO_529000.out).2.1)
               (case side3 => repeat (first | exact (Kd.R_reads' HO_530003.out).2.2 | (with_reducible refine cA_ ?_ _) | (with_reducible refine cN_ ?_ _) | (with_reducible refine cD_ ?_)))
               (case side4 => exact (Kd.R_reads' HO_530003.out).2.1)
               rintro e w105 ⟨rfl, hb⟩
               refine ⟨_, rfl, ?_⟩
               have n0_ := aM_ (rB_ (rb_ HO_16.out) hb); have n1_ := aM_ (rB_ (rb_ HO_17.out) hb); have n2_ := aM_ (rB_ (rb_ HO_529000.out) hb); have n3_ := aM_ (rB_ (rb_ HO_530003.out) hb); have n4_ := aM_ (rB_ (rb_ HO_568000.out) hb); have n5_ := aM_ (rB_ (rb_ HO_569003.out) hb); have n6_ := aM_ (bB_ (kb_ BK528.out) hb); have n7_ := aM_ (bB_ (kb_ BK529.out) hb); have n8_ := aM_ (bB_ (kb_ BK567.out) hb); have n9_ := aM_ (bB_ (kb_ BK568.out) hb); have n10_ := aM_ (wS_ (bw_) hb); clear HO_16 HO_17 HO_529000 HO_530003 HO_568000 HO_569003 BK528 BK529 BK567 BK568 HB; have HO_16 := n0_; have HO_17 := n1_; have HO_529000 := n2_; have HO_530003 := n3_; have HO_568000 := n4_; have HO_569003 := n5_; have BK528 := n6_; have BK529 := n7_; have BK567 := n8_; have BK568 := n9_; have HB := n10_; clear n0_ n1_ n2_ n3_ n4_ n5_ n6_ n7_ n8_ n9_ n10_; (try clear hb); (try clear hb2); (try clear hk); (try clear hi)
               refine hK.out _ _ ⟨(blk_cell BK528.out 0).trans rfl, (blk_cell BK529.out 0).trans rfl, (blk_cell BK529.out 1).trans rfl, (blk_cell BK529.out 2).trans rfl, (blk_cell BK529.out 3).trans rfl⟩ (fun hHeld => ?_)
               clear hK K
               refine norm_ (a' := ?_) ?_ ?_
               rotate_left
               ·show Act.put _ (some 150) _ = _
                simp only [Act.put, List.setIfInBounds_toArray, List.set_cons_zero, List.set_cons_succ, i64_w, i32_w]
                rfl
               refine pu_ 18 (some 151) zb20_ rfl rfl ?_
               refine pu_ 19 (some 152) zb21_ rfl rfl ?_
               refine pu_ 20 (some 153) zb22_ rfl rfl ?_
               refine pu_ 21 (some 154) zb23_ rfl rfl ?_
               refine pu_ 22 (some 155) zb24_ rfl rfl ?_
               refine pu_ 23 (some 156) zb25_ rfl rfl ?_
               refine pn_ 24 (some 157) #[true, true, true, true, true, true, true, true, true, true, true, true, true, true, true, true, true, true, true, true, true, true, true, true, true, false, false, false, false, false, false] rfl rfl ?_
               refine pn_ 25 (some 158) #[true, true, true, true, true, true, true, true, true, true, true, true, true, true, true, true, true, true, true, true, true, true, true, true, true, true, false, false, false, false, false] rfl rfl ?_
               refine pn_ 26 (some 159) zb26_ rfl rfl ?_
               refine pn_ 27 (some 160) zb27_ rfl rfl ?_
               refine pu_ 28 (some 161) zb28_ rfl rfl ?_
               refine pu_ 29 (some 162) zb29_ rfl rfl ?_
               refine pu_ 30 (some 2) zb30_ rfl rfl ?_
               refine done_ (done_of HT_.out (by kernel_rfl)) ?_
               try go_wp2
               go_ret
               exact ⟨by first | rfl | (simp [errW_none, errW_some] <;> rfl) | (simp [*, errW_none, errW_some] <;> rfl), bw_⟩
              ·rw [if_neg c101] at H
               have c101b0 : decide (t530 < 0) = false := decide_eq_false c101
               clear c101
               replace H := Option.bind_eq_some_iff.mp H
               obtain ⟨t576, A1060, H⟩ := H
               (try dsimp only at H)
               have A106 := aM_ A1060; clear A1060
               obtain rfl := Option.some.inj H
               obtain ⟨Ao107, co107, eo107⟩ := Kd.R_slice HO_17.out
               subst eo107
               try go_wp2
               have n0_ := aM_ (rD_ HO_16.out); have n1_ := aM_ (rD_ HO_17.out); have n2_ := aM_ (rD_ HO_529000.out); have n3_ := aM_ (rD_ HO_530003.out); have n4_ := aM_ (rD_ HO_568000.out); have n5_ := aM_ (rD_ HO_569003.out); have n6_ := aM_ (bD_ BK528.out); have n7_ := aM_ (bD_ BK529.out); have n8_ := aM_ (bD_ BK567.out); have n9_ := aM_ (bD_ BK568.out); have n10_ := aM_ (wD_ HB.out); clear HO_16 HO_17 HO_529000 HO_530003 HO_568000 HO_569003 BK528 BK529 BK567 BK568 HB; have HO_16 := n0_; have HO_17 := n1_; have HO_529000 := n2_; have HO_530003 := n3_; have HO_568000 := n4_; have HO_569003 := n5_; have BK528 := n6_; have BK529 := n7_; have BK567 := n8_; have BK568 := n9_; have HB := n10_; clear n0_ n1_ n2_ n3_ n4_ n5_ n6_ n7_ n8_ n9_ n10_
               refine start_ (n := 31) (S := fun w' => w'.cell? ⟨gb528, 0, none⟩ = some (.slice Ao11 t517.length co11) ∧ w'.cell? ⟨gb529, 0, none⟩ = some (.int .i64 t520) ∧ w'.cell? ⟨gb529, 1, none⟩ = some (.int .i64 t521) ∧ w'.cell? ⟨gb529, 2, none⟩ = some (.int .i64 t522) ∧ w'.cell? ⟨gb529, 3, none⟩ = some (.slice Ao15 t523.length co15)) (ds := []) zb1_ (by kernel_rfl) rfl rfl ⟨(blk_cell BK528.out 0).trans rfl, (blk_cell BK529.out 0).trans rfl, (blk_cell BK529.out 1).trans rfl, (blk_cell BK529.out 2).trans rfl, (blk_cell BK529.out 3).trans rfl⟩ (fun hHeld => ?_); refine with_tabW laws_FnBorders.tab25 laws_FnBorders.bits25 (fun HT_ HW_ => ?_)
               generalize wr.drew = w108 at HO_16 HO_17 HO_529000 HO_530003 HO_568000 HO_569003 BK528 BK529 BK567 BK568 HB hHeld ⊢
               refine pu_ 0 (some 133) zb2_ rfl rfl ?_
               refine pu_ 1 (some 134) zb3_ rfl rfl ?_
               refine pu_ 2 (some 135) zb4_ rfl rfl ?_
               refine pu_ 3 (some 136) zb5_ rfl rfl ?_
               refine pu_ 4 (some 137) zb6_ rfl rfl ?_
               refine pu_ 5 (some 138) zb7_ rfl rfl ?_
               refine pu_ 8 (some 141) zb8_ rfl rfl ?_
               refine pu_ 10 (some 143) zb9_ rfl rfl ?_
               refine tk5_ 6 (some 139) zb10_ rfl rfl ?_
               refine tk5_ 7 (some 140) zb11_ rfl rfl ?_
               refine tk5_ 11 (some 144) zb12_ rfl rfl ?_
               refine one_ (i := 9) (N := some 142) zb13_ rfl rfl (one_of HT_.out (by kernel_rfl)) (by decide) (fun K hK => ?_)
               refine goes_ Try.func13 (by kernel_rfl) rfl #[.agg #[.slice Ao11 t517.length co11], .agg #[.int .i64 t520, .int .i64 t521, .int .i64 t522, .slice Ao15 t523.length co15], .int .i64 t527] (by rfl) rfl rfl (by (try simp only [List.map_toArray, List.map_cons, List.map_nil]); first | done | rfl | (simp only [List.length_drop, List.length_take]; rfl)) ?_
               with_reducible refine (impl_ServedBy.calls k3 _ _ t517 t520 t521 t522 _ _ t523 t527 t574 _ ?side1 ?side2 ?side3 ?side4 A97.out).mono ?_
               (case side1 => repeat (first | exact (Kd.R_reads' HO_529000.out).2.2 | (with_reducible refine cA_ ?_ _) | (with_reducible refine cN_ ?_ _) | (with_reducible refine cD_ ?_)))
               (case side2 => exact (Kd.R_reads' HO_529000.out).2.1)
               (case side3 => repeat (first | exact (Kd.R_reads' HO_530003.out).2.2 | (with_reducible refine cA_ ?_ _) | (with_reducible refine cN_ ?_ _) | (with_reducible refine cD_ ?_)))
               (case side4 => exact (Kd.R_reads' HO_530003.out).2.1)
               rintro e w109 ⟨rfl, hb⟩
               refine ⟨_, rfl, ?_⟩
               have n0_ := aM_ (rB_ (rb_ HO_16.out) hb); have n1_ := aM_ (rB_ (rb_ HO_17.out) hb); have n2_ := aM_ (rB_ (rb_ HO_529000.out) hb); have n3_ := aM_ (rB_ (rb_ HO_530003.out) hb); have n4_ := aM_ (rB_ (rb_ HO_568000.out) hb); have n5_ := aM_ (rB_ (rb_ HO_569003.out) hb); have n6_ := aM_ (bB_ (kb_ BK528.out) hb); have n7_ := aM_ (bB_ (kb_ BK529.out) hb); have n8_ := aM_ (bB_ (kb_ BK567.out) hb); have n9_ := aM_ (bB_ (kb_ BK568.out) hb); have n10_ := aM_ (wS_ (bw_) hb); clear HO_16 HO_17 HO_529000 HO_530003 HO_568000 HO_569003 BK528 BK529 BK567 BK568 HB; have HO_16 := n0_; have HO_17 := n1_; have HO_529000 := n2_; have HO_530003 := n3_; have HO_568000 := n4_; have HO_569003 := n5_; have BK528 := n6_; have BK529 := n7_; have BK567 := n8_; have BK568 := n9_; have HB := n10_; clear n0_ n1_ n2_ n3_ n4_ n5_ n6_ n7_ n8_ n9_ n10_; (try clear hb); (try clear hb2); (try clear hk); (try clear hi)
               refine hK.out _ _ ⟨(blk_cell BK528.out 0).trans rfl, (blk_cell BK529.out 0).trans rfl, (blk_cell BK529.out 1).trans rfl, (blk_cell BK529.out 2).trans rfl, (blk_cell BK529.out 3).trans rfl⟩ (fun hHeld => ?_)
               clear hK K
               refine norm_ (a' := ?_) ?_ ?_
               rotate_left
               ·show Act.put _ (some 142) _ = _
                simp only [Act.put, List.setIfInBounds_toArray, List.set_cons_zero, List.set_cons_succ, i64_w, i32_w]
                rfl
               refine pu_ 12 (some 145) zb14_ rfl rfl ?_
               refine pu_ 13 (some 146) zb15_ rfl rfl ?_
               refine pu_ 14 (some 147) zb16_ rfl rfl ?_
               refine tk5_ 15 (some 148) zb17_ rfl rfl ?_
               refine tk5_ 16 (some 149) zb18_ rfl rfl ?_
               refine one_ (i := 17) (N := some 150) zb19_ rfl rfl (one_of HT_.out (by kernel_rfl)) (by decide) (fun K hK => ?_)
               refine goes_ Try.func14 (by kernel_rfl) rfl #[.agg #[.slice Ao11 t517.length co11], .agg #[.int .i64 t520, .int .i64 t521, .int .i64 t522, .slice Ao15 t523.length co15]] (by rfl) rfl rfl (by (try simp only [List.map_toArray, List.map_cons, List.map_nil]); first | done | rfl | (simp only [List.length_drop, List.length_take]; rfl)) ?_
               with_reducible refine (impl_IsLaw.calls k3 _ _ t517 t520 t521 t522 _ _ t523 true _ ?side1 ?side2 ?side3 ?side4 A99.out).mono ?_
               (case side1 => repeat (first | exact (Kd.R_reads' HO_529000.out).2.2 | (with_reducible refine cA_ ?_ _) | (with_reducible refine cN_ ?_ _) | (with_reducible refine cD_ ?_)))
               (case side2 => exact (Kd.R_reads' HO_529000.out).2.1)
               (case side3 => repeat (first | exact (Kd.R_reads' HO_530003.out).2.2 | (with_reducible refine cA_ ?_ _) | (with_reducible refine cN_ ?_ _) | (with_reducible refine cD_ ?_)))
               (case side4 => exact (Kd.R_reads' HO_530003.out).2.1)
               rintro e w110 ⟨rfl, hb⟩
               refine ⟨_, rfl, ?_⟩
               have n0_ := aM_ (rB_ (rb_ HO_16.out) hb); have n1_ := aM_ (rB_ (rb_ HO_17.out) hb); have n2_ := aM_ (rB_ (rb_ HO_529000.out) hb); have n3_ := aM_ (rB_ (rb_ HO_530003.out) hb); have n4_ := aM_ (rB_ (rb_ HO_568000.out) hb); have n5_ := aM_ (rB_ (rb_ HO_569003.out) hb); have n6_ := aM_ (bB_ (kb_ BK528.out) hb); have n7_ := aM_ (bB_ (kb_ BK529.out) hb); have n8_ := aM_ (bB_ (kb_ BK567.out) hb); have n9_ := aM_ (bB_ (kb_ BK568.out) hb); have n10_ := aM_ (wS_ (bw_) hb); clear HO_16 HO_17 HO_529000 HO_530003 HO_568000 HO_569003 BK528 BK529 BK567 BK568 HB; have HO_16 := n0_; have HO_17 := n1_; have HO_529000 := n2_; have HO_530003 := n3_; have HO_568000 := n4_; have HO_569003 := n5_; have BK528 := n6_; have BK529 := n7_; have BK567 := n8_; have BK568 := n9_; have HB := n10_; clear n0_ n1_ n2_ n3_ n4_ n5_ n6_ n7_ n8_ n9_ n10_; (try clear hb); (try clear hb2); (try clear hk); (try clear hi)
               refine hK.out _ _ ⟨(blk_cell BK528.out 0).trans rfl, (blk_cell BK529.out 0).trans rfl, (blk_cell BK529.out 1).trans rfl, (blk_cell BK529.out 2).trans rfl, (blk_cell BK529.out 3).trans rfl⟩ (fun hHeld => ?_)
               clear hK K
               refine norm_ (a' := ?_) ?_ ?_
               rotate_left
               ·show Act.put _ (some 150) _ = _
                simp only [Act.put, List.setIfInBounds_toArray, List.set_cons_zero, List.set_cons_succ, i64_w, i32_w]
                rfl
               refine pu_ 18 (some 151) zb20_ rfl rfl ?_
               refine pu_ 19 (some 152) zb21_ rfl rfl ?_
               refine pu_ 20 (some 153) zb22_ rfl rfl ?_
               refine pu_ 21 (some 154) zb23_ rfl rfl ?_
               refine pu_ 22 (some 155) zb24_ rfl rfl ?_
               refine pu_ 23 (some 156) zb25_ rfl rfl ?_
               refine pu_ 26 (some 159) #[true, true, true, true, true, true, true, true, true, true, true, true, true, true, true, true, true, true, true, true, true, true, true, true, false, false, true, false, false, false, false] rfl rfl ?_
               refine tk5_ 24 (some 157) #[true, true, true, true, true, true, true, true, true, true, true, true, true, true, true, true, true, true, true, true, true, true, true, true, true, false, true, false, false, false, false] rfl rfl ?_
               refine tk5_ 25 (some 158) zb26_ rfl rfl ?_
               refine one_ (i := 27) (N := some 160) zb27_ rfl rfl (one_of HT_.out (by kernel_rfl)) (by decide) (fun K hK => ?_)
               refine goes_ Try.func12 (by kernel_rfl) rfl #[.agg #[.slice Ao11 t517.length co11], .agg #[.int .i64 t520, .int .i64 t521, .int .i64 t522, .slice Ao15 t523.length co15], .int .i64 t530] (by rfl) rfl rfl (by (try simp only [List.map_toArray, List.map_cons, List.map_nil]); first | done | rfl | (simp only [List.length_drop, List.length_take]; rfl)) ?_
               with_reducible refine (impl_IsLanding.calls k3 _ _ t517 t520 t521 t522 _ _ t523 t530 t576 _ ?side1 ?side2 ?side3 ?side4 A106.out).mono ?_
               (case side1 => repeat (first | exact (Kd.R_reads' HO_529000.out).2.2 | (with_reducible refine cA_ ?_ _) | (with_reducible refine cN_ ?_ _) | (with_reducible refine cD_ ?_)))
               (case side2 => exact (Kd.R_reads' HO_529000.out).2.1)
               (case side3 => repeat (first | exact (Kd.R_reads' HO_530003.out).2.2 | (with_reducible refine cA_ ?_ _) | (with_reducible refine cN_ ?_ _) | (with_reducible refine cD_ ?_)))
               (case side4 => exact (Kd.R_reads' HO_530003.out).2.1)
               rintro e w111 ⟨rfl, hb⟩
               refine ⟨_, rfl, ?_⟩
               have n0_ := aM_ (rB_ (rb_ HO_16.out) hb); have n1_ := aM_ (rB_ (rb_ HO_17.out) hb); have n2_ := aM_ (rB_ (rb_ HO_529000.out) hb); have n3_ := aM_ (rB_ (rb_ HO_530003.out) hb); have n4_ := aM_ (rB_ (rb_ HO_568000.out) hb); have n5_ := aM_ (rB_ (rb_ HO_569003.out) hb); have n6_ := aM_ (bB_ (kb_ BK528.out) hb); have n7_ := aM_ (bB_ (kb_ BK529.out) hb); have n8_ := aM_ (bB_ (kb_ BK567.out) hb); have n9_ := aM_ (bB_ (kb_ BK568.out) hb); have n10_ := aM_ (wS_ (bw_) hb); clear HO_16 HO_17 HO_529000 HO_530003 HO_568000 HO_569003 BK528 BK529 BK567 BK568 HB; have HO_16 := n0_; have HO_17 := n1_; have HO_529000 := n2_; have HO_530003 := n3_; have HO_568000 := n4_; have HO_569003 := n5_; have BK528 := n6_; have BK529 := n7_; have BK567 := n8_; have BK568 := n9_; have HB := n10_; clear n0_ n1_ n2_ n3_ n4_ n5_ n6_ n7_ n8_ n9_ n10_; (try clear hb); (try clear hb2); (try clear hk); (try clear hi)
               refine hK.out _ _ ⟨(blk_cell BK528.out 0).trans rfl, (blk_cell BK529.out 0).trans rfl, (blk_cell BK529.out 1).trans rfl, (blk_cell BK529.out 2).trans rfl, (blk_cell BK529.out 3).trans rfl⟩ (fun hHeld => ?_)
               clear hK K
               refine norm_ (a' := ?_) ?_ ?_
               rotate_left
               ·show Act.put _ (some 160) _ = _
                simp only [Act.put, List.setIfInBounds_toArray, List.set_cons_zero, List.set_cons_succ, i64_w, i32_w]
                rfl
               refine pu_ 28 (some 161) zb28_ rfl rfl ?_
               refine pu_ 29 (some 162) zb29_ rfl rfl ?_
               refine pu_ 30 (some 2) zb30_ rfl rfl ?_
               refine done_ (done_of HT_.out (by kernel_rfl)) ?_
               try go_wp2
               go_ret
               exact ⟨by first | rfl | (simp [errW_none, errW_some] <;> rfl) | (simp [*, errW_none, errW_some] <;> rfl), bw_⟩
             ·replace c100 := Bool.eq_false_iff.mpr c100
              subst c100
              have H1 : (some true) = some r := by rw [if_neg (show ¬ (false = true) by decide)] at H; exact H
              clear H; have H := H1; clear H1
              obtain rfl := Option.some.inj H
              obtain ⟨Ao112, co112, eo112⟩ := Kd.R_slice HO_17.out
              subst eo112
              try go_wp2
              have n0_ := aM_ (rD_ HO_16.out); have n1_ := aM_ (rD_ HO_17.out); have n2_ := aM_ (rD_ HO_529000.out); have n3_ := aM_ (rD_ HO_530003.out); have n4_ := aM_ (rD_ HO_568000.out); have n5_ := aM_ (rD_ HO_569003.out); have n6_ := aM_ (bD_ BK528.out); have n7_ := aM_ (bD_ BK529.out); have n8_ := aM_ (bD_ BK567.out); have n9_ := aM_ (bD_ BK568.out); have n10_ := aM_ (wD_ HB.out); clear HO_16 HO_17 HO_529000 HO_530003 HO_568000 HO_569003 BK528 BK529 BK567 BK568 HB; have HO_16 := n0_; have HO_17 := n1_; have HO_529000 := n2_; have HO_530003 := n3_; have HO_568000 := n4_; have HO_569003 := n5_; have BK528 := n6_; have BK529 := n7_; have BK567 := n8_; have BK568 := n9_; have HB := n10_; clear n0_ n1_ n2_ n3_ n4_ n5_ n6_ n7_ n8_ n9_ n10_
              refine start_ (n := 31) (S := fun w' => w'.cell? ⟨gb528, 0, none⟩ = some (.slice Ao11 t517.length co11) ∧ w'.cell? ⟨gb529, 0, none⟩ = some (.int .i64 t520) ∧ w'.cell? ⟨gb529, 1, none⟩ = some (.int .i64 t521) ∧ w'.cell? ⟨gb529, 2, none⟩ = some (.int .i64 t522) ∧ w'.cell? ⟨gb529, 3, none⟩ = some (.slice Ao15 t523.length co15)) (ds := []) zb1_ (by kernel_rfl) rfl rfl ⟨(blk_cell BK528.out 0).trans rfl, (blk_cell BK529.out 0).trans rfl, (blk_cell BK529.out 1).trans rfl, (blk_cell BK529.out 2).trans rfl, (blk_cell BK529.out 3).trans rfl⟩ (fun hHeld => ?_); refine with_tabW laws_FnBorders.tab25 laws_FnBorders.bits25 (fun HT_ HW_ => ?_)
              generalize wr.drew = w113 at HO_16 HO_17 HO_529000 HO_530003 HO_568000 HO_569003 BK528 BK529 BK567 BK568 HB hHeld ⊢
              refine pu_ 0 (some 133) zb2_ rfl rfl ?_
              refine pu_ 1 (some 134) zb3_ rfl rfl ?_
              refine pu_ 2 (some 135) zb4_ rfl rfl ?_
              refine pu_ 3 (some 136) zb5_ rfl rfl ?_
              refine pu_ 4 (some 137) zb6_ rfl rfl ?_
              refine pu_ 5 (some 138) zb7_ rfl rfl ?_
              refine pu_ 8 (some 141) zb8_ rfl rfl ?_
              refine pu_ 10 (some 143) zb9_ rfl rfl ?_
              refine tk5_ 6 (some 139) zb10_ rfl rfl ?_
              refine tk5_ 7 (some 140) zb11_ rfl rfl ?_
              refine tk5_ 11 (some 144) zb12_ rfl rfl ?_
              refine one_ (i := 9) (N := some 142) zb13_ rfl rfl (one_of HT_.out (by kernel_rfl)) (by decide) (fun K hK => ?_)
              refine goes_ Try.func13 (by kernel_rfl) rfl #[.agg #[.slice Ao11 t517.length co11], .agg #[.int .i64 t520, .int .i64 t521, .int .i64 t522, .slice Ao15 t523.length co15], .int .i64 t527] (by rfl) rfl rfl (by (try simp only [List.map_toArray, List.map_cons, List.map_nil]); first | done | rfl | (simp only [List.length_drop, List.length_take]; rfl)) ?_
              with_reducible refine (impl_ServedBy.calls k3 _ _ t517 t520 t521 t522 _ _ t523 t527 t574 _ ?side1 ?side2 ?side3 ?side4 A97.out).mono ?_
              (case side1 => repeat (first | exact (Kd.R_reads' HO_529000.out).2.2 | (with_reducible refine cA_ ?_ _) | (with_reducible refine cN_ ?_ _) | (with_reducible refine cD_ ?_)))
              (case side2 => exact (Kd.R_reads' HO_529000.out).2.1)
              (case side3 => repeat (first | exact (Kd.R_reads' HO_530003.out).2.2 | (with_reducible refine cA_ ?_ _) | (with_reducible refine cN_ ?_ _) | (with_reducible refine cD_ ?_)))
              (case side4 => exact (Kd.R_reads' HO_530003.out).2.1)
              rintro e w114 ⟨rfl, hb⟩
              refine ⟨_, rfl, ?_⟩
              have n0_ := aM_ (rB_ (rb_ HO_16.out) hb); have n1_ := aM_ (rB_ (rb_ HO_17.out) hb); have n2_ := aM_ (rB_ (rb_ HO_529000.out) hb); have n3_ := aM_ (rB_ (rb_ HO_530003.out) hb); have n4_ := aM_ (rB_ (rb_ HO_568000.out) hb); have n5_ := aM_ (rB_ (rb_ HO_569003.out) hb); have n6_ := aM_ (bB_ (kb_ BK528.out) hb); have n7_ := aM_ (bB_ (kb_ BK529.out) hb); have n8_ := aM_ (bB_ (kb_ BK567.out) hb); have n9_ := aM_ (bB_ (kb_ BK568.out) hb); have n10_ := aM_ (wS_ (bw_) hb); clear HO_16 HO_17 HO_529000 HO_530003 HO_568000 HO_569003 BK528 BK529 BK567 BK568 HB; have HO_16 := n0_; have HO_17 := n1_; have HO_529000 := n2_; have HO_530003 := n3_; have HO_568000 := n4_; have HO_569003 := n5_; have BK528 := n6_; have BK529 := n7_; have BK567 := n8_; have BK568 := n9_; have HB := n10_; clear n0_ n1_ n2_ n3_ n4_ n5_ n6_ n7_ n8_ n9_ n10_; (try clear hb); (try clear hb2); (try clear hk); (try clear hi)
              refine hK.out _ _ ⟨(blk_cell BK528.out 0).trans rfl, (blk_cell BK529.out 0).trans rfl, (blk_cell BK529.out 1).trans rfl, (blk_cell BK529.out 2).trans rfl, (blk_cell BK529.out 3).trans rfl⟩ (fun hHeld => ?_)
              clear hK K
              refine norm_ (a' := ?_) ?_ ?_
              rotate_left
              ·show Act.put _ (some 142) _ = _
               simp only [Act.put, List.setIfInBounds_toArray, List.set_cons_zero, List.set_cons_succ, i64_w, i32_w]
               rfl
              refine pu_ 12 (some 145) zb14_ rfl rfl ?_
              refine pu_ 13 (some 146) zb15_ rfl rfl ?_
              refine pu_ 14 (some 147) zb16_ rfl rfl ?_
              refine tk5_ 15 (some 148) zb17_ rfl rfl ?_
              refine tk5_ 16 (some 149) zb18_ rfl rfl ?_
              refine one_ (i := 17) (N := some 150) zb19_ rfl rfl (one_of HT_.out (by kernel_rfl)) (by decide) (fun K hK => ?_)
              refine goes_ Try.func14 (by kernel_rfl) rfl #[.agg #[.slice Ao11 t517.length co11], .agg #[.int .i64 t520, .int .i64 t521, .int .i64 t522, .slice Ao15 t523.length co15]] (by rfl) rfl rfl (by (try simp only [List.map_toArray, List.map_cons, List.map_nil]); first | done | rfl | (simp only [List.length_drop, List.length_take]; rfl)) ?_
              with_reducible refine (impl_IsLaw.calls k3 _ _ t517 t520 t521 t522 _ _ t523 false _ ?side1 ?side2 ?side3 ?side4 A99.out).mono ?_
              (case side1 => repeat (first | exact (Kd.R_reads' HO_529000.out).2.2 | (with_reducible refine cA_ ?_ _) | (with_reducible refine cN_ ?_ _) | (with_reducible refine cD_ ?_)))
              (case side2 => exact (Kd.R_reads' HO_529000.out).2.1)
              (case side3 => repeat (first | exact (Kd.R_reads' HO_530003.out).2.2 | (with_reducible refine cA_ ?_ _) | (with_reducible refine cN_ ?_ _) | (with_reducible refine cD_ ?_)))
              (case side4 => exact (Kd.R_reads' HO_530003.out).2.1)
              rintro e w115 ⟨rfl, hb⟩
              refine ⟨_, rfl, ?_⟩
              have n0_ := aM_ (rB_ (rb_ HO_16.out) hb); have n1_ := aM_ (rB_ (rb_ HO_17.out) hb); have n2_ := aM_ (rB_ (rb_ HO_529000.out) hb); have n3_ := aM_ (rB_ (rb_ HO_530003.out) hb); have n4_ := aM_ (rB_ (rb_ HO_568000.out) hb); have n5_ := aM_ (rB_ (rb_ HO_569003.out) hb); have n6_ := aM_ (bB_ (kb_ BK528.out) hb); have n7_ := aM_ (bB_ (kb_ BK529.out) hb); have n8_ := aM_ (bB_ (kb_ BK567.out) hb); have n9_ := aM_ (bB_ (kb_ BK568.out) hb); have n10_ := aM_ (wS_ (bw_) hb); clear HO_16 HO_17 HO_529000 HO_530003 HO_568000 HO_569003 BK528 BK529 BK567 BK568 HB; have HO_16 := n0_; have HO_17 := n1_; have HO_529000 := n2_; have HO_530003 := n3_; have HO_568000 := n4_; have HO_569003 := n5_; have BK528 := n6_; have BK529 := n7_; have BK567 := n8_; have BK568 := n9_; have HB := n10_; clear n0_ n1_ n2_ n3_ n4_ n5_ n6_ n7_ n8_ n9_ n10_; (try clear hb); (try clear hb2); (try clear hk); (try clear hi)
              refine hK.out _ _ ⟨(blk_cell BK528.out 0).trans rfl, (blk_cell BK529.out 0).trans rfl, (blk_cell BK529.out 1).trans rfl, (blk_cell BK529.out 2).trans rfl, (blk_cell BK529.out 3).trans rfl⟩ (fun hHeld => ?_)
              clear hK K
              refine norm_ (a' := ?_) ?_ ?_
              rotate_left
              ·show Act.put _ (some 150) _ = _
               simp only [Act.put, List.setIfInBounds_toArray, List.set_cons_zero, List.set_cons_succ, i64_w, i32_w]
               rfl
              refine pu_ 18 (some 151) zb20_ rfl rfl ?_
              refine pu_ 19 (some 152) zb21_ rfl rfl ?_
              refine pn_ 20 (some 153) zb22_ rfl rfl ?_
              refine pn_ 21 (some 154) zb23_ rfl rfl ?_
              refine pu_ 22 (some 155) zb24_ rfl rfl ?_
              refine pu_ 23 (some 156) zb25_ rfl rfl ?_
              refine pn_ 24 (some 157) #[true, true, true, true, true, true, true, true, true, true, true, true, true, true, true, true, true, true, true, true, true, true, true, true, true, false, false, false, false, false, false] rfl rfl ?_
              refine pn_ 25 (some 158) #[true, true, true, true, true, true, true, true, true, true, true, true, true, true, true, true, true, true, true, true, true, true, true, true, true, true, false, false, false, false, false] rfl rfl ?_
              refine pn_ 26 (some 159) zb26_ rfl rfl ?_
              refine pn_ 27 (some 160) zb27_ rfl rfl ?_
              refine pu_ 28 (some 161) zb28_ rfl rfl ?_
              refine pu_ 29 (some 162) zb29_ rfl rfl ?_
              refine pu_ 30 (some 2) zb30_ rfl rfl ?_
              refine done_ (done_of HT_.out (by kernel_rfl)) ?_
              try go_wp2
              go_ret
              exact ⟨by first | rfl | (simp [errW_none, errW_some] <;> rfl) | (simp [*, errW_none, errW_some] <;> rfl), bw_⟩
            ·rw [if_neg c98] at H
             have c98b0 : decide (t574 ≤ t520) = false := decide_eq_false c98
             clear c98
             exact absurd ((Option.some.inj H).trans HTRUE.out) (by decide)
           ·rw [if_neg c96] at H
            have c96b0 : decide ((t569.length : Int) ≤ (t564.length : Int)) = false := decide_eq_false c96
            have c96b1 : decide (t569.length ≤ t564.length) = false := decide_eq_false (fun h => c96 (Int.ofNat_le.mpr h))
            clear c96
            exact absurd ((Option.some.inj H).trans HTRUE.out) (by decide)

/-- THE ONE PURE STATEMENT of laws_FnBorders: yours. -/
def laws_FnBorders.Pure : Prop := ∀ (l0 : List Int), l0.length ≤ maxLen → l0.length * 1 ≤ 140737488351232 → (∀ x ∈ l0, (Lit.int .u8 x).wf = true) → ∃ k, laws_FnBorders.f k l0 = some true
theorem laws_FnBorders.walk (P : laws_FnBorders.Pure) (a0 : Option Addr) (len0 cap0 : Nat) (z0 : List Int) (w : World) (w0 : (a0 = none ∧ len0 = 0 ∧ cap0 = 0 ∧ z0 = []) ∨ ∃ x, a0 = some x ∧ len0 ≤ cap0 ∧ cap0 ≤ maxLen ∧ z0.length = cap0 ∧ (∀ i, i < z0.length → w.cell? (x.add i) = some (.int .u8 (z0.getD i 0))) ∧ ∀ n ∈ z0, (Lit.int .u8 n).wf = true) (y0 : len0 * 1 ≤ 140737488351232) :
    Calls Try.prog 3 #[.slice a0 len0 cap0] w fun e w' => e = .returned (.bool true) ∧ Below w.heap.size w w' := by
  obtain ⟨l0, rfl, hr0, hm0, hw0, hc0⟩ := ReadsInt.ofRowC w0
  obtain ⟨k, h⟩ := P l0 hm0 y0 hw0
  refine (laws_FnBorders.calls k _ _ l0 true w (Kd.C_of_reads (d := (0 : Int)) (h1 := fun _ => rfl) hr0) hc0 rfl h).mono ?_
  rintro e w' ⟨rfl, hd⟩
  exact ⟨rfl, hd⟩

end Go.Proofs.Ythdknilfkbhalaa.PFnBorders
