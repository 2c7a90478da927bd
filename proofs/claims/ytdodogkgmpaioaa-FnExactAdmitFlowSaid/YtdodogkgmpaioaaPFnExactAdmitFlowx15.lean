/- The functions that the law reaches, as plain Lean functions, each with the proof that the Go code comes to its answers; conditions: those that each theorem names. (printed by a program of this session) -/
import Derived.Test.YtdodogkgmpaioaaPFnExactAdmitFlowx0
import Derived.Test.YtdodogkgmpaioaaPFnExactAdmitFlowx1
import Derived.Test.YtdodogkgmpaioaaPFnExactAdmitFlowx2
import Derived.Test.YtdodogkgmpaioaaPFnExactAdmitFlowx5
import Derived.Test.YtdodogkgmpaioaaPFnExactAdmitFlowx6
import Derived.Test.YtdodogkgmpaioaaPFnExactAdmitFlowx10
import Derived.Test.YtdodogkgmpaioaaPFnExactAdmitFlowx13
import Derived.Test.YtdodogkgmpaioaaPFnExactAdmitFlowx14
namespace Go.Proofs.Ytdodogkgmpaioaa.PFnExactAdmitFlow
open Go.RowKit Go.Proofs.YtdodogkgmpaioaaW.PrintWords Go.Proofs.YtdodogkgmpaioaaW.PrintLast Go.Proofs.YtdodogkgmpaioaaW.PrintMore
attribute [local go_sem] max2_int min2_int max_two min_two max_three min_three max_four min_four   -- for this text's walks alone
set_option linter.unusedVariables false
set_option linter.unusedSimpArgs false

/-! ### laws_FnExactAdmitFlow: function 4 -/
mutual
def laws_FnExactAdmitFlow.j0 : Nat → List (S39) → Int → List (S42) → Bool → List (S42) → List (S42) → Bool → Bool → Int → Int → Int → List (S98) → Int → Int → Int → Int → Int → Int → Int → List (S103) → Option (Bool)
  | 0, _, _, _, _, _, _, _, _, _, _, _, _, _, _, _, _, _, _, _, _ => none
  | k + 1, x1, x3, x10, x11, x13, x14, x15, x63, x419000, x419001, x419002, x419003, x420000, x420001, x420002, x420003, x446000, x446001, x446002, x446003 => if x63 = true then (some false) else ((laws_toProgram.f k x419000 x419001 x419002 x419003).bind fun bt458 => ((laws_eqProgram.f k x446000 x446001 x446002 x446003 bt458.1 bt458.2.1 bt458.2.2.1 bt458.2.2.2).bind fun t464 => (if t464 = true then ((laws_toFlowS.f k x1).bind fun t465 => ((laws_eqFlowS.f k x13 t465).bind fun t468 => (if t468 = true then ((laws_markProgram.f x446000 x446001 x446002 x446003 1).bind fun t469 => ((laws_markFlowS.f k x13 t469).bind fun bt470 => (if bt470.1 < 0 then (laws_FnExactAdmitFlow.j1 k x1 x3 x10 x11 x14 true x419000 x419001 x419002 x419003 x420000 x420001 x420002 x420003) else ((laws_eqFlowS.f k x14 x10).bind fun t472 => (if t472 = true then (laws_FnExactAdmitFlow.j1 k x1 x3 x10 x11 x14 (x15 != x11) x419000 x419001 x419002 x419003 x420000 x420001 x420002 x420003) else (laws_FnExactAdmitFlow.j1 k x1 x3 x10 x11 x14 true x419000 x419001 x419002 x419003 x420000 x420001 x420002 x420003)))))) else (some false)))) else (some false))))
def laws_FnExactAdmitFlow.j1 : Nat → List (S39) → Int → List (S42) → Bool → List (S42) → Bool → Int → Int → Int → List (S98) → Int → Int → Int → Int → Option (Bool)
  | 0, _, _, _, _, _, _, _, _, _, _, _, _, _, _ => none
  | k + 1, x1, x3, x10, x11, x14, x92, x419000, x419001, x419002, x419003, x420000, x420001, x420002, x420003 => if x92 = true then (some false) else ((laws_markFlowS.f k x14 1).bind fun bt473 => ((laws_heldFlowS.f k bt473.2 1).bind fun t475 => (if t475 < 0 then (some false) else (if t475 = bt473.1 then ((laws_toProgram.f k x419000 x419001 x419002 x419003).bind fun bt476 => ((laws_toFlowS.f k x1).bind fun t482 => ((laws_toFlow.f x420000 x420001 x420002 x420003).bind fun bt485 => ((impl_AdmitFlow.f k bt476.1 bt476.2.1 bt476.2.2.1 bt476.2.2.2 t482 bt485.1 bt485.2.1 bt485.2.2.1 bt485.2.2.2 x3).bind fun bt489 => ((laws_eqFlowS.f k bt489.1 x10).bind fun t493 => (if t493 = true then (laws_FnExactAdmitFlow.j2 k bt473.2 bt473.1 (bt489.2 != x11)) else (laws_FnExactAdmitFlow.j2 k bt473.2 bt473.1 true))))))) else (some false)))))
def laws_FnExactAdmitFlow.j2 : Nat → List (S42) → Int → Bool → Option (Bool)
  | 0, _, _, _ => none
  | k + 1, x14, x17, x123 => if x123 = true then (some false) else ((laws_heldFlowS.f k x14 1).bind fun t494 => (if t494 < 0 then (some false) else (if t494 = x17 then (some true) else (some false))))
end
def laws_FnExactAdmitFlow.f (k : Nat) (a0_0 : Int) (a0_1 : Int) (a0_2 : Int) (l0_3 : List (S98)) (l1 : List (S39)) (a2_0 : Int) (a2_1 : Int) (a2_2 : Int) (a2_3 : Int) (a3 : Int) : Option (Bool) := (laws_szProgram.f k a0_0 a0_1 a0_2 l0_3 1048576).bind fun t420 => (if t420 < 0 then (some true) else ((laws_szFlowS.f l1 t420).bind fun t421 => (if t421 < 0 then (some true) else ((laws_toProgram.f k a0_0 a0_1 a0_2 l0_3).bind fun bt422 => ((laws_toFlowS.f k l1).bind fun t428 => ((laws_toFlow.f a2_0 a2_1 a2_2 a2_3).bind fun bt431 => ((spec_AdmitFlow.f k bt422.1 bt422.2.1 bt422.2.2.1 bt422.2.2.2 t428 bt431.1 bt431.2.1 bt431.2.2.1 bt431.2.2.2 a3).bind fun bt435 => ((laws_toProgram.f k a0_0 a0_1 a0_2 l0_3).bind fun bt439 => ((laws_toFlowS.f k l1).bind fun t446 => ((laws_toFlow.f a2_0 a2_1 a2_2 a2_3).bind fun bt449 => ((impl_AdmitFlow.f k bt439.1 bt439.2.1 bt439.2.2.1 bt439.2.2.2 t446 bt449.1 bt449.2.1 bt449.2.2.1 bt449.2.2.2 a3).bind fun bt453 => ((laws_eqFlowS.f k bt453.1 bt435.1).bind fun t457 => (if t457 = true then (laws_FnExactAdmitFlow.j0 k l1 a3 bt435.1 bt435.2 t446 bt453.1 bt453.2 (bt453.2 != bt435.2) a0_0 a0_1 a0_2 l0_3 a2_0 a2_1 a2_2 a2_3 bt439.1 bt439.2.1 bt439.2.2.1 bt439.2.2.2) else (laws_FnExactAdmitFlow.j0 k l1 a3 bt435.1 bt435.2 t446 bt453.1 bt453.2 true a0_0 a0_1 a0_2 l0_3 a2_0 a2_1 a2_2 a2_3 bt439.1 bt439.2.1 bt439.2.2.1 bt439.2.2.2))))))))))))))
def laws_FnExactAdmitFlow.T8 : Bool × List (List Nat × List Nat) := (true, [([], []), ([0], [0]), ([], []), ([2, 1], [2]), ([], []), ([4, 3], [4]), ([], []), ([1, 3, 5, 6, 5], [1, 3, 5, 6]), ([7], [7]), ([8], [8]), ([8], [8]), ([9, 7, 0, 1, 2, 3, 4, 5, 6, 7, 8, 9], [9]), ([10, 11, 0, 1, 2, 3, 4, 5, 6, 7, 8, 9, 10, 11], [10])])
def laws_FnExactAdmitFlow.B8 : List Nat := [0, 1, 0, 7, 0, 31, 0, 127, 255, 511, 511, 1023, 4095]
theorem laws_FnExactAdmitFlow.tab8 : rtab .any (opsOf Try.f4 8) = laws_FnExactAdmitFlow.T8 := by kernel_rfl
theorem laws_FnExactAdmitFlow.bits8 : waitsOk laws_FnExactAdmitFlow.T8.2 laws_FnExactAdmitFlow.B8 = true := by kernel_rfl
def laws_FnExactAdmitFlow.T11 : Bool × List (List Nat × List Nat) := (true, [([], []), ([], []), ([], []), ([2], [2]), ([], []), ([0, 1, 3, 4, 3], [0, 1, 3, 4]), ([5], [5]), ([6], [6]), ([6], [6]), ([7, 5, 0, 1, 2, 3, 4, 5, 6, 7], [7]), ([8, 9, 0, 1, 2, 3, 4, 5, 6, 7, 8, 9], [8])])
def laws_FnExactAdmitFlow.B11 : List Nat := [0, 0, 0, 4, 0, 31, 63, 127, 127, 255, 1023]
theorem laws_FnExactAdmitFlow.tab11 : rtab .any (opsOf Try.f4 11) = laws_FnExactAdmitFlow.T11 := by kernel_rfl
theorem laws_FnExactAdmitFlow.bits11 : waitsOk laws_FnExactAdmitFlow.T11.2 laws_FnExactAdmitFlow.B11 = true := by kernel_rfl
def laws_FnExactAdmitFlow.T31 : Bool × List (List Nat × List Nat) := (true, [([], []), ([0], [0]), ([], []), ([2, 1], [2]), ([], []), ([4, 3], [4]), ([], []), ([1, 3, 5, 6, 5], [1, 3, 5, 6]), ([7], [7]), ([8], [8]), ([8], [8]), ([9, 7, 0, 1, 2, 3, 4, 5, 6, 7, 8, 9], [9]), ([10, 11, 0, 1, 2, 3, 4, 5, 6, 7, 8, 9, 10, 11], [10])])
def laws_FnExactAdmitFlow.B31 : List Nat := [0, 1, 0, 7, 0, 31, 0, 127, 255, 511, 511, 1023, 4095]
theorem laws_FnExactAdmitFlow.tab31 : rtab .any (opsOf Try.f4 31) = laws_FnExactAdmitFlow.T31 := by kernel_rfl
theorem laws_FnExactAdmitFlow.bits31 : waitsOk laws_FnExactAdmitFlow.T31.2 laws_FnExactAdmitFlow.B31 = true := by kernel_rfl
set_option maxHeartbeats 8000000 in
set_option maxRecDepth 100000 in
theorem laws_FnExactAdmitFlow.calls (k : Nat) (a0_0 : Int) (a0_1 : Int) (a0_2 : Int) (A0_3 : Option Addr) (c0_3 : Nat) (l0_3 : List (S98)) (A1 : Option Addr) (c1 : Nat) (l1 : List (S39)) (a2_0 : Int) (a2_1 : Int) (a2_2 : Int) (a2_3 : Int) (a3 : Int) (r : Bool) (w : World) (hr0_3 : Kd.C k98 w A0_3 l0_3.length l0_3) (hc0_3 : l0_3.length ≤ c0_3) (hr1 : Kd.C k39 w A1 l1.length l1) (hc1 : l1.length ≤ c1) (hr_ : r = true) (h : laws_FnExactAdmitFlow.f k a0_0 a0_1 a0_2 l0_3 l1 a2_0 a2_1 a2_2 a2_3 a3 = some r) :
  Calls Try.prog 4 #[.agg #[.int .i64 a0_0, .int .i64 a0_1, .int .i64 a0_2, .slice A0_3 l0_3.length c0_3], .slice A1 l1.length c1, .agg #[.int .i64 a2_0, .int .i64 a2_1, .int .i64 a2_2, .int .i64 a2_3], .int .i64 a3] w fun e w' => e = .returned (.bool r) ∧ Below w.heap.size w w' := by
 have hu24 := Try.underlying24; have hu39 := Try.underlying39; have hu31 := Try.underlying31; have HR0_3 := aM_ hr0_3; have HC0_3 := aM_ hc0_3; clear hr0_3 hc0_3; have HR1 := aM_ hr1; have HC1 := aM_ hc1; clear hr1 hc1; have HB := aM_ (Below.refl w.heap.size w)
 have H : ((laws_szProgram.f k a0_0 a0_1 a0_2 l0_3 1048576).bind fun t420 => (if t420 < 0 then (some true) else ((laws_szFlowS.f l1 t420).bind fun t421 => (if t421 < 0 then (some true) else ((laws_toProgram.f k a0_0 a0_1 a0_2 l0_3).bind fun bt422 => ((laws_toFlowS.f k l1).bind fun t428 => ((laws_toFlow.f a2_0 a2_1 a2_2 a2_3).bind fun bt431 => ((spec_AdmitFlow.f k bt422.1 bt422.2.1 bt422.2.2.1 bt422.2.2.2 t428 bt431.1 bt431.2.1 bt431.2.2.1 bt431.2.2.2 a3).bind fun bt435 => ((laws_toProgram.f k a0_0 a0_1 a0_2 l0_3).bind fun bt439 => ((laws_toFlowS.f k l1).bind fun t446 => ((laws_toFlow.f a2_0 a2_1 a2_2 a2_3).bind fun bt449 => ((impl_AdmitFlow.f k bt439.1 bt439.2.1 bt439.2.2.1 bt439.2.2.2 t446 bt449.1 bt449.2.1 bt449.2.2.1 bt449.2.2.2 a3).bind fun bt453 => ((laws_eqFlowS.f k bt453.1 bt435.1).bind fun t457 => (if t457 = true then (laws_FnExactAdmitFlow.j0 k l1 a3 bt435.1 bt435.2 t446 bt453.1 bt453.2 (bt453.2 != bt435.2) a0_0 a0_1 a0_2 l0_3 a2_0 a2_1 a2_2 a2_3 bt439.1 bt439.2.1 bt439.2.2.1 bt439.2.2.2) else (laws_FnExactAdmitFlow.j0 k l1 a3 bt435.1 bt435.2 t446 bt453.1 bt453.2 true a0_0 a0_1 a0_2 l0_3 a2_0 a2_1 a2_2 a2_3 bt439.1 bt439.2.1 bt439.2.2.1 bt439.2.2.2))))))))))))))) = some r := h
 clear h; have HTRUE := aM_ hr_; clear hr_
 replace H := Option.bind_eq_some_iff.mp H
 obtain ⟨t420, A50, H⟩ := H
 (try dsimp only at H)
 have A5 := aM_ A50; clear A50
 by_cases c6 : t420 < 0
 ·rw [if_pos c6] at H
  have c6b0 : decide (t420 < 0) = true := decide_eq_true c6
  clear c6
  obtain rfl := Option.some.inj H
  go_enter Try.func4, Try.ntmps4
  go_wp2_with (first | ((with_reducible refine gate_dst (N := 4) rfl ?_); refine box_event ?hg (N := 4) ?hd (cs := #[.int .i64 a0_0, .int .i64 a0_1, .int .i64 a0_2, .slice A0_3 l0_3.length c0_3]) (t := 24) ?hr ?_; (case hd => rfl); (case hg => rfl); (case hr => first | (go_simp; done) | (go_simp; rfl)); intro gb418 hg w7 hbox hb; have n0_ := aM_ (wS_ (bw_) hb); have n1_ := aM_ (hbox); have n2_ := aM_ ((by rw [hg]; exact (sZ_ (bw_)) : w.heap.size ≤ gb418)); have n3_ := aM_ ((by rw [hg]; exact (sZ_ (bw_)) : w.heap.size ≤ gb418)); clear HB; have HB := n0_; have BK418 := n1_; have GW418 := n2_; have GE418 := n3_; clear n0_ n1_ n2_ n3_; clear hb hbox hg) | ((with_reducible refine gate_dst (N := 6) rfl ?_); refine box_event ?hg (N := 6) ?hd (cs := #[.int .i64 a2_0, .int .i64 a2_1, .int .i64 a2_2, .int .i64 a2_3]) (t := 39) ?hr ?_; (case hd => rfl); (case hg => rfl); (case hr => first | (go_simp; done) | (go_simp; rfl)); intro gb419 hg w8 hbox hb; have n0_ := aM_ (bB_ (g := gb418) (o := .cells #[.int .i64 a0_0, .int .i64 a0_1, .int .i64 a0_2, .slice A0_3 l0_3.length c0_3] 24 (0, 0)) (kb_ BK418.out) hb); have n1_ := aM_ (wS_ (bw_) hb); have n2_ := aM_ (hbox); have n3_ := aM_ ((by rw [hg]; exact (sZ_ (bw_)) : w.heap.size ≤ gb419)); have n4_ := aM_ ((by rw [hg]; exact (sZ_ (bw_)) : w.heap.size ≤ gb419)); have n5_ := aM_ ((by rw [hg]; exact Nat.ne_of_lt (blk_lt (g := gb418) (o := .cells #[.int .i64 a0_0, .int .i64 a0_1, .int .i64 a0_2, .slice A0_3 l0_3.length c0_3] 24 (0, 0)) (kb_ BK418.out)) : gb418 ≠ gb419)); have n6_ := aM_ ((by rw [hg]; exact Nat.ne_of_gt (blk_lt (g := gb418) (o := .cells #[.int .i64 a0_0, .int .i64 a0_1, .int .i64 a0_2, .slice A0_3 l0_3.length c0_3] 24 (0, 0)) (kb_ BK418.out)) : gb419 ≠ gb418)); clear BK418; clear HB; have BK418 := n0_; have HB := n1_; have BK419 := n2_; have GW419 := n3_; have GE419 := n4_; have NB418_419 := n5_; have NB419_418 := n6_; clear n0_ n1_ n2_ n3_ n4_ n5_ n6_; clear hb hbox hg; have hnb9 := NB418_419.out; have hnc9 := NB419_418.out; have hcz10_0 : w8.cell? ⟨gb418, 0, none⟩ = some (.int .i64 a0_0) := (blk_cell BK418.out 0).trans rfl; have hcz10_1 : w8.cell? ⟨gb418, 1, none⟩ = some (.int .i64 a0_1) := (blk_cell BK418.out 1).trans rfl; have hcz10_2 : w8.cell? ⟨gb418, 2, none⟩ = some (.int .i64 a0_2) := (blk_cell BK418.out 2).trans rfl; have hcz10_3 : w8.cell? ⟨gb418, 3, none⟩ = some (.slice A0_3 l0_3.length c0_3) := (blk_cell BK418.out 3).trans rfl; have hfz10_0 := blk_frozen BK418.out 0; have hfz10_1 := blk_frozen BK418.out 1; have hfz10_2 := blk_frozen BK418.out 2; have hfz10_3 := blk_frozen BK418.out 3) | ((with_reducible refine gate_callee (f := 11) rfl ?_); refine goesL_ (some 23) rfl rfl Try.func11 (by kernel_rfl) rfl #[.agg #[.int .i64 a0_0, .int .i64 a0_1, .int .i64 a0_2, .slice A0_3 l0_3.length c0_3], .int .i64 1048576] rfl (by (try simp only [List.map_toArray, List.map_cons, List.map_nil]); first | done | rfl | (simp only [List.length_drop, List.length_take]; rfl)) ?_; (with_reducible refine (laws_szProgram.calls k a0_0 a0_1 a0_2 _ _ l0_3 1048576 t420 _ ?side1 ?side2 A5.out).mono ?_); (case side1 => repeat (first | exact (Kd.C_below HR0_3.out HB.out) | (with_reducible refine cA_ ?_ _) | (with_reducible refine cN_ ?_ _) | (with_reducible refine cD_ ?_))); (case side2 => exact HC0_3.out); rintro e w11 ⟨rfl, hb⟩; refine ⟨_, rfl, ?_⟩; have n0_ := aM_ (bB_ (g := gb418) (o := .cells #[.int .i64 a0_0, .int .i64 a0_1, .int .i64 a0_2, .slice A0_3 l0_3.length c0_3] 24 (0, 0)) (kb_ BK418.out) hb); have n1_ := aM_ (bB_ (g := gb419) (o := .cells #[.int .i64 a2_0, .int .i64 a2_1, .int .i64 a2_2, .int .i64 a2_3] 39 (0, 0)) (kb_ BK419.out) hb); have n2_ := aM_ (wS_ (bw_) hb); clear BK418; clear BK419; clear HB; have BK418 := n0_; have BK419 := n1_; have HB := n2_; clear n0_ n1_ n2_; (try clear hb); (try clear hb2); (try clear hk); (try clear hi)))
  go_ret
  exact ⟨by first | rfl | (simp [errW_none, errW_some] <;> rfl) | (simp [*, errW_none, errW_some] <;> rfl), bw_⟩
 ·rw [if_neg c6] at H
  have c6b0 : decide (t420 < 0) = false := decide_eq_false c6
  clear c6
  replace H := Option.bind_eq_some_iff.mp H
  obtain ⟨t421, A120, H⟩ := H
  (try dsimp only at H)
  have A12 := aM_ A120; clear A120
  by_cases c13 : t421 < 0
  ·rw [if_pos c13] at H
   have c13b0 : decide (t421 < 0) = true := decide_eq_true c13
   clear c13
   obtain rfl := Option.some.inj H
   go_enter Try.func4, Try.ntmps4
   go_wp2_with (first | ((with_reducible refine gate_dst (N := 4) rfl ?_); refine box_event ?hg (N := 4) ?hd (cs := #[.int .i64 a0_0, .int .i64 a0_1, .int .i64 a0_2, .slice A0_3 l0_3.length c0_3]) (t := 24) ?hr ?_; (case hd => rfl); (case hg => rfl); (case hr => first | (go_simp; done) | (go_simp; rfl)); intro gb418 hg w14 hbox hb; have n0_ := aM_ (wS_ (bw_) hb); have n1_ := aM_ (hbox); have n2_ := aM_ ((by rw [hg]; exact (sZ_ (bw_)) : w.heap.size ≤ gb418)); have n3_ := aM_ ((by rw [hg]; exact (sZ_ (bw_)) : w.heap.size ≤ gb418)); clear HB; have HB := n0_; have BK418 := n1_; have GW418 := n2_; have GE418 := n3_; clear n0_ n1_ n2_ n3_; clear hb hbox hg) | ((with_reducible refine gate_dst (N := 6) rfl ?_); refine box_event ?hg (N := 6) ?hd (cs := #[.int .i64 a2_0, .int .i64 a2_1, .int .i64 a2_2, .int .i64 a2_3]) (t := 39) ?hr ?_; (case hd => rfl); (case hg => rfl); (case hr => first | (go_simp; done) | (go_simp; rfl)); intro gb419 hg w15 hbox hb; have n0_ := aM_ (bB_ (g := gb418) (o := .cells #[.int .i64 a0_0, .int .i64 a0_1, .int .i64 a0_2, .slice A0_3 l0_3.length c0_3] 24 (0, 0)) (kb_ BK418.out) hb); have n1_ := aM_ (wS_ (bw_) hb); have n2_ := aM_ (hbox); have n3_ := aM_ ((by rw [hg]; exact (sZ_ (bw_)) : w.heap.size ≤ gb419)); have n4_ := aM_ ((by rw [hg]; exact (sZ_ (bw_)) : w.heap.size ≤ gb419)); have n5_ := aM_ ((by rw [hg]; exact Nat.ne_of_lt (blk_lt (g := gb418) (o := .cells #[.int .i64 a0_0, .int .i64 a0_1, .int .i64 a0_2, .slice A0_3 l0_3.length c0_3] 24 (0, 0)) (kb_ BK418.out)) : gb418 ≠ gb419)); have n6_ := aM_ ((by rw [hg]; exact Nat.ne_of_gt (blk_lt (g := gb418) (o := .cells #[.int .i64 a0_0, .int .i64 a0_1, .int .i64 a0_2, .slice A0_3 l0_3.length c0_3] 24 (0, 0)) (kb_ BK418.out)) : gb419 ≠ gb418)); clear BK418; clear HB; have BK418 := n0_; have HB := n1_; have BK419 := n2_; have GW419 := n3_; have GE419 := n4_; have NB418_419 := n5_; have NB419_418 := n6_; clear n0_ n1_ n2_ n3_ n4_ n5_ n6_; clear hb hbox hg; have hnb16 := NB418_419.out; have hnc16 := NB419_418.out; have hcz17_0 : w15.cell? ⟨gb418, 0, none⟩ = some (.int .i64 a0_0) := (blk_cell BK418.out 0).trans rfl; have hcz17_1 : w15.cell? ⟨gb418, 1, none⟩ = some (.int .i64 a0_1) := (blk_cell BK418.out 1).trans rfl; have hcz17_2 : w15.cell? ⟨gb418, 2, none⟩ = some (.int .i64 a0_2) := (blk_cell BK418.out 2).trans rfl; have hcz17_3 : w15.cell? ⟨gb418, 3, none⟩ = some (.slice A0_3 l0_3.length c0_3) := (blk_cell BK418.out 3).trans rfl; have hfz17_0 := blk_frozen BK418.out 0; have hfz17_1 := blk_frozen BK418.out 1; have hfz17_2 := blk_frozen BK418.out 2; have hfz17_3 := blk_frozen BK418.out 3) | ((with_reducible refine gate_callee (f := 11) rfl ?_); refine goesL_ (some 23) rfl rfl Try.func11 (by kernel_rfl) rfl #[.agg #[.int .i64 a0_0, .int .i64 a0_1, .int .i64 a0_2, .slice A0_3 l0_3.length c0_3], .int .i64 1048576] rfl (by (try simp only [List.map_toArray, List.map_cons, List.map_nil]); first | done | rfl | (simp only [List.length_drop, List.length_take]; rfl)) ?_; (with_reducible refine (laws_szProgram.calls k a0_0 a0_1 a0_2 _ _ l0_3 1048576 t420 _ ?side1 ?side2 A5.out).mono ?_); (case side1 => repeat (first | exact (Kd.C_below HR0_3.out HB.out) | (with_reducible refine cA_ ?_ _) | (with_reducible refine cN_ ?_ _) | (with_reducible refine cD_ ?_))); (case side2 => exact HC0_3.out); rintro e w18 ⟨rfl, hb⟩; refine ⟨_, rfl, ?_⟩; have n0_ := aM_ (bB_ (g := gb418) (o := .cells #[.int .i64 a0_0, .int .i64 a0_1, .int .i64 a0_2, .slice A0_3 l0_3.length c0_3] 24 (0, 0)) (kb_ BK418.out) hb); have n1_ := aM_ (bB_ (g := gb419) (o := .cells #[.int .i64 a2_0, .int .i64 a2_1, .int .i64 a2_2, .int .i64 a2_3] 39 (0, 0)) (kb_ BK419.out) hb); have n2_ := aM_ (wS_ (bw_) hb); clear BK418; clear BK419; clear HB; have BK418 := n0_; have BK419 := n1_; have HB := n2_; clear n0_ n1_ n2_; (try clear hb); (try clear hb2); (try clear hk); (try clear hi)) | ((with_reducible refine gate_callee (f := 12) rfl ?_); refine goesL_ (some 28) rfl rfl Try.func12 (by kernel_rfl) rfl #[.slice A1 l1.length c1, .int .i64 t420] rfl (by (try simp only [List.map_toArray, List.map_cons, List.map_nil]); first | done | rfl | (simp only [List.length_drop, List.length_take]; rfl)) ?_; (with_reducible refine (laws_szFlowS.calls _ _ l1 t420 t421 _ ?side1 ?side2 A12.out).mono ?_); (case side1 => repeat (first | exact (Kd.C_below HR1.out HB.out) | (with_reducible refine cA_ ?_ _) | (with_reducible refine cN_ ?_ _) | (with_reducible refine cD_ ?_))); (case side2 => exact HC1.out); rintro e w' ⟨rfl, ⟨nd, rfl⟩⟩; refine ⟨_, rfl, ?_⟩))
   go_ret
   exact ⟨by first | rfl | (simp [errW_none, errW_some] <;> rfl) | (simp [*, errW_none, errW_some] <;> rfl), bw_⟩
  ·rw [if_neg c13] at H
   have c13b0 : decide (t421 < 0) = false := decide_eq_false c13
   clear c13
   replace H := Option.bind_eq_some_iff.mp H
   obtain ⟨⟨t422, t423, t424, t425⟩, A190, H⟩ := H
   (try dsimp only at H)
   have A19 := aM_ A190; clear A190
   replace H := Option.bind_eq_some_iff.mp H
   obtain ⟨t428, A200, H⟩ := H
   (try dsimp only at H)
   have A20 := aM_ A200; clear A200
   replace H := Option.bind_eq_some_iff.mp H
   obtain ⟨⟨t431, t432, t433, t434⟩, A210, H⟩ := H
   (try dsimp only at H)
   have A21 := aM_ A210; clear A210
   replace H := Option.bind_eq_some_iff.mp H
   obtain ⟨⟨t435, t438⟩, A220, H⟩ := H
   (try dsimp only at H)
   have A22 := aM_ A220; clear A220
   replace H := Option.bind_eq_some_iff.mp H
   obtain ⟨⟨t439, t440, t441, t442⟩, A230, H⟩ := H
   (try dsimp only at H)
   have A23 := aM_ A230; clear A230
   replace H := Option.bind_eq_some_iff.mp H
   obtain ⟨t446, A240, H⟩ := H
   (try dsimp only at H)
   have A24 := aM_ A240; clear A240
   replace H := Option.bind_eq_some_iff.mp H
   obtain ⟨⟨t449, t450, t451, t452⟩, A250, H⟩ := H
   (try dsimp only at H)
   have A25 := aM_ A250; clear A250
   replace H := Option.bind_eq_some_iff.mp H
   obtain ⟨⟨t453, t456⟩, A260, H⟩ := H
   (try dsimp only at H)
   have A26 := aM_ A260; clear A260; have HC27 := aM_ H; clear H
   go_enter Try.func4, Try.ntmps4
   try go_wp2_with (first | ((with_reducible refine gate_dst (N := 4) rfl ?_); refine box_event ?hg (N := 4) ?hd (cs := #[.int .i64 a0_0, .int .i64 a0_1, .int .i64 a0_2, .slice A0_3 l0_3.length c0_3]) (t := 24) ?hr ?_; (case hd => rfl); (case hg => rfl); (case hr => first | (go_simp; done) | (go_simp; rfl)); intro gb418 hg w28 hbox hb; have n0_ := aM_ (wS_ (bw_) hb); have n1_ := aM_ (hbox); have n2_ := aM_ ((by rw [hg]; exact (sZ_ (bw_)) : w.heap.size ≤ gb418)); have n3_ := aM_ ((by rw [hg]; exact (sZ_ (bw_)) : w.heap.size ≤ gb418)); clear HB; have HB := n0_; have BK418 := n1_; have GW418 := n2_; have GE418 := n3_; clear n0_ n1_ n2_ n3_; clear hb hbox hg) | ((with_reducible refine gate_dst (N := 6) rfl ?_); refine box_event ?hg (N := 6) ?hd (cs := #[.int .i64 a2_0, .int .i64 a2_1, .int .i64 a2_2, .int .i64 a2_3]) (t := 39) ?hr ?_; (case hd => rfl); (case hg => rfl); (case hr => first | (go_simp; done) | (go_simp; rfl)); intro gb419 hg w29 hbox hb; have n0_ := aM_ (bB_ (g := gb418) (o := .cells #[.int .i64 a0_0, .int .i64 a0_1, .int .i64 a0_2, .slice A0_3 l0_3.length c0_3] 24 (0, 0)) (kb_ BK418.out) hb); have n1_ := aM_ (wS_ (bw_) hb); have n2_ := aM_ (hbox); have n3_ := aM_ ((by rw [hg]; exact (sZ_ (bw_)) : w.heap.size ≤ gb419)); have n4_ := aM_ ((by rw [hg]; exact (sZ_ (bw_)) : w.heap.size ≤ gb419)); have n5_ := aM_ ((by rw [hg]; exact Nat.ne_of_lt (blk_lt (g := gb418) (o := .cells #[.int .i64 a0_0, .int .i64 a0_1, .int .i64 a0_2, .slice A0_3 l0_3.length c0_3] 24 (0, 0)) (kb_ BK418.out)) : gb418 ≠ gb419)); have n6_ := aM_ ((by rw [hg]; exact Nat.ne_of_gt (blk_lt (g := gb418) (o := .cells #[.int .i64 a0_0, .int .i64 a0_1, .int .i64 a0_2, .slice A0_3 l0_3.length c0_3] 24 (0, 0)) (kb_ BK418.out)) : gb419 ≠ gb418)); clear BK418; clear HB; have BK418 := n0_; have HB := n1_; have BK419 := n2_; have GW419 := n3_; have GE419 := n4_; have NB418_419 := n5_; have NB419_418 := n6_; clear n0_ n1_ n2_ n3_ n4_ n5_ n6_; clear hb hbox hg; have hnb30 := NB418_419.out; have hnc30 := NB419_418.out; have hcz31_0 : w29.cell? ⟨gb418, 0, none⟩ = some (.int .i64 a0_0) := (blk_cell BK418.out 0).trans rfl; have hcz31_1 : w29.cell? ⟨gb418, 1, none⟩ = some (.int .i64 a0_1) := (blk_cell BK418.out 1).trans rfl; have hcz31_2 : w29.cell? ⟨gb418, 2, none⟩ = some (.int .i64 a0_2) := (blk_cell BK418.out 2).trans rfl; have hcz31_3 : w29.cell? ⟨gb418, 3, none⟩ = some (.slice A0_3 l0_3.length c0_3) := (blk_cell BK418.out 3).trans rfl; have hfz31_0 := blk_frozen BK418.out 0; have hfz31_1 := blk_frozen BK418.out 1; have hfz31_2 := blk_frozen BK418.out 2; have hfz31_3 := blk_frozen BK418.out 3) | ((with_reducible refine gate_callee (f := 11) rfl ?_); refine goesL_ (some 23) rfl rfl Try.func11 (by kernel_rfl) rfl #[.agg #[.int .i64 a0_0, .int .i64 a0_1, .int .i64 a0_2, .slice A0_3 l0_3.length c0_3], .int .i64 1048576] rfl (by (try simp only [List.map_toArray, List.map_cons, List.map_nil]); first | done | rfl | (simp only [List.length_drop, List.length_take]; rfl)) ?_; (with_reducible refine (laws_szProgram.calls k a0_0 a0_1 a0_2 _ _ l0_3 1048576 t420 _ ?side1 ?side2 A5.out).mono ?_); (case side1 => repeat (first | exact (Kd.C_below HR0_3.out HB.out) | (with_reducible refine cA_ ?_ _) | (with_reducible refine cN_ ?_ _) | (with_reducible refine cD_ ?_))); (case side2 => exact HC0_3.out); rintro e w32 ⟨rfl, hb⟩; refine ⟨_, rfl, ?_⟩; have n0_ := aM_ (bB_ (g := gb418) (o := .cells #[.int .i64 a0_0, .int .i64 a0_1, .int .i64 a0_2, .slice A0_3 l0_3.length c0_3] 24 (0, 0)) (kb_ BK418.out) hb); have n1_ := aM_ (bB_ (g := gb419) (o := .cells #[.int .i64 a2_0, .int .i64 a2_1, .int .i64 a2_2, .int .i64 a2_3] 39 (0, 0)) (kb_ BK419.out) hb); have n2_ := aM_ (wS_ (bw_) hb); clear BK418; clear BK419; clear HB; have BK418 := n0_; have BK419 := n1_; have HB := n2_; clear n0_ n1_ n2_; (try clear hb); (try clear hb2); (try clear hk); (try clear hi)) | ((with_reducible refine gate_callee (f := 12) rfl ?_); refine goesL_ (some 28) rfl rfl Try.func12 (by kernel_rfl) rfl #[.slice A1 l1.length c1, .int .i64 t420] rfl (by (try simp only [List.map_toArray, List.map_cons, List.map_nil]); first | done | rfl | (simp only [List.length_drop, List.length_take]; rfl)) ?_; (with_reducible refine (laws_szFlowS.calls _ _ l1 t420 t421 _ ?side1 ?side2 A12.out).mono ?_); (case side1 => repeat (first | exact (Kd.C_below HR1.out HB.out) | (with_reducible refine cA_ ?_ _) | (with_reducible refine cN_ ?_ _) | (with_reducible refine cD_ ?_))); (case side2 => exact HC1.out); rintro e w' ⟨rfl, ⟨nd, rfl⟩⟩; refine ⟨_, rfl, ?_⟩; (try (rw [drewN_self w32]; generalize hq_ : World.drewN w32 _ = w32; have n0_ : Aside0 (w32.heap[gb418]? = some (.cells #[.int .i64 a0_0, .int .i64 a0_1, .int .i64 a0_2, .slice A0_3 l0_3.length c0_3] 24 (0, 0))) := ⟨by rw [← hq_]; exact (kb_ BK418.out)⟩; have n1_ : Aside0 (w32.heap[gb419]? = some (.cells #[.int .i64 a2_0, .int .i64 a2_1, .int .i64 a2_2, .int .i64 a2_3] 39 (0, 0))) := ⟨by rw [← hq_]; exact (kb_ BK419.out)⟩; have n2_ : Aside0 (Below w.heap.size w w32) := ⟨by rw [← hq_]; exact (bw_)⟩; clear BK418 BK419 HB hq_; have BK418 := n0_; have BK419 := n1_; have HB := n2_; clear n0_ n1_ n2_))))
   have n0_ := aM_ (bD_ BK418.out); have n1_ := aM_ (bD_ BK419.out); have n2_ := aM_ (wD_ HB.out); clear BK418 BK419 HB; have BK418 := n0_; have BK419 := n1_; have HB := n2_; clear n0_ n1_ n2_
   refine start_ (n := 13) (S := fun w' => w'.cell? ⟨gb418, 0, none⟩ = some (.int .i64 a0_0) ∧ w'.cell? ⟨gb418, 1, none⟩ = some (.int .i64 a0_1) ∧ w'.cell? ⟨gb418, 2, none⟩ = some (.int .i64 a0_2) ∧ w'.cell? ⟨gb418, 3, none⟩ = some (.slice A0_3 l0_3.length c0_3) ∧ w'.cell? ⟨gb419, 0, none⟩ = some (.int .i64 a2_0) ∧ w'.cell? ⟨gb419, 1, none⟩ = some (.int .i64 a2_1) ∧ w'.cell? ⟨gb419, 2, none⟩ = some (.int .i64 a2_2) ∧ w'.cell? ⟨gb419, 3, none⟩ = some (.int .i64 a2_3)) (ds := []) #[false, false, false, false, false, false, false, false, false, false, false, false, false] (by kernel_rfl) rfl rfl ⟨(blk_cell BK418.out 0).trans rfl, (blk_cell BK418.out 1).trans rfl, (blk_cell BK418.out 2).trans rfl, (blk_cell BK418.out 3).trans rfl, (blk_cell BK419.out 0).trans rfl, (blk_cell BK419.out 1).trans rfl, (blk_cell BK419.out 2).trans rfl, (blk_cell BK419.out 3).trans rfl⟩ (fun hHeld => ?_); refine with_tabW laws_FnExactAdmitFlow.tab8 laws_FnExactAdmitFlow.bits8 (fun HT_ HW_ => ?_)
   generalize w32.drew = w33 at BK418 BK419 HB hHeld ⊢
   refine pure_ (i := 2) (N := some 34) (v := ?_) (a' := ?_) #[false, false, true, false, false, false, false, false, false, false, false, false, false] rfl rfl (any_of HT_.out (by kernel_rfl)) (fun _ _ _ h => h) (Or.inl ⟨by rfl, ?_⟩) ?_ ?_
   rotate_left
   ·intro w'
    go_simp
    with_reducible rfl
   rotate_left
   ·simp only [Act.put, List.setIfInBounds_toArray, List.set_cons_zero, List.set_cons_succ, i64_w, i32_w]
    rfl
   refine pure_ (i := 6) (N := some 38) (v := ?_) (a' := ?_) #[false, false, true, false, false, false, true, false, false, false, false, false, false] rfl rfl (any_of HT_.out (by kernel_rfl)) (fun _ _ _ h => h) (Or.inl ⟨by rfl, ?_⟩) ?_ ?_
   rotate_left
   ·intro w'
    go_simp
    with_reducible rfl
   rotate_left
   ·simp only [Act.put, List.setIfInBounds_toArray, List.set_cons_zero, List.set_cons_succ, i64_w, i32_w]
    rfl
   refine take_ (i := 0) (N := some 32) (v := ?_) (a' := ?_) #[true, false, true, false, false, false, true, false, false, false, false, false, false] rfl rfl (take_ofW HT_.out HW_.out (by kernel_rfl)) (fun _ _ _ h => h) (Or.inl ⟨by rfl, ?_⟩) hHeld ?_ ?_
   rotate_left
   ·rintro w' ⟨s0, s1, s2, s3, s4, s5, s6, s7⟩
    go_simp
    with_reducible rfl
   rotate_left
   ·simp only [Act.put, List.setIfInBounds_toArray, List.set_cons_zero, List.set_cons_succ, i64_w, i32_w]
    rfl
   refine take_ (i := 4) (N := some 36) (v := ?_) (a' := ?_) #[true, false, true, false, true, false, true, false, false, false, false, false, false] rfl rfl (take_ofW HT_.out HW_.out (by kernel_rfl)) (fun _ _ _ h => h) (Or.inl ⟨by rfl, ?_⟩) hHeld ?_ ?_
   rotate_left
   ·rintro w' ⟨s0, s1, s2, s3, s4, s5, s6, s7⟩
    go_simp
    with_reducible rfl
   rotate_left
   ·simp only [Act.put, List.setIfInBounds_toArray, List.set_cons_zero, List.set_cons_succ, i64_w, i32_w]
    rfl
   refine one_ (i := 1) (N := some 33) #[true, true, true, false, true, false, true, false, false, false, false, false, false] rfl rfl (one_of HT_.out (by kernel_rfl)) (by decide) (fun K hK => ?_)
   refine goes_ Try.func14 (by kernel_rfl) rfl #[.agg #[.int .i64 a0_0, .int .i64 a0_1, .int .i64 a0_2, .slice A0_3 l0_3.length c0_3]] (by rfl) rfl rfl (by (try simp only [List.map_toArray, List.map_cons, List.map_nil]); first | done | rfl | (simp only [List.length_drop, List.length_take]; rfl)) ?_
   with_reducible refine (laws_toProgram.calls k a0_0 a0_1 a0_2 _ _ l0_3 t422 t423 t424 t425 _ ?side1 ?side2 A19.out).mono ?_
   (case side1 => repeat (first | exact (Kd.C_below HR0_3.out HB.out) | (with_reducible refine cA_ ?_ _) | (with_reducible refine cN_ ?_ _) | (with_reducible refine cD_ ?_)))
   (case side2 => exact HC0_3.out)
   rintro e w34 ⟨v426, rfl, ho0, hb⟩
   refine ⟨_, rfl, ?_⟩
   have n0_ := aM_ (Kd.R_lower ho0 (sZ_ (bw_))); have n1_ := aM_ (bB_ (g := gb418) (o := .cells #[.int .i64 a0_0, .int .i64 a0_1, .int .i64 a0_2, .slice A0_3 l0_3.length c0_3] 24 (0, 0)) (kb_ BK418.out) hb); have n2_ := aM_ (bB_ (g := gb419) (o := .cells #[.int .i64 a2_0, .int .i64 a2_1, .int .i64 a2_2, .int .i64 a2_3] 39 (0, 0)) (kb_ BK419.out) hb); have n3_ := aM_ (wS_ (bw_) hb); clear BK418 BK419 HB; have HO427 := n0_; have BK418 := n1_; have BK419 := n2_; have HB := n3_; clear n0_ n1_ n2_ n3_; (try clear hb); (try clear hb2); (try clear hk); (try clear hi); (try clear ho0)
   refine hK.out _ _ ⟨(blk_cell BK418.out 0).trans rfl, (blk_cell BK418.out 1).trans rfl, (blk_cell BK418.out 2).trans rfl, (blk_cell BK418.out 3).trans rfl, (blk_cell BK419.out 0).trans rfl, (blk_cell BK419.out 1).trans rfl, (blk_cell BK419.out 2).trans rfl, (blk_cell BK419.out 3).trans rfl⟩ (fun hHeld => ?_)
   clear hK K
   refine norm_ (a' := ?_) ?_ ?_
   rotate_left
   ·show Act.put _ (some 33) _ = _
    simp only [Act.put, List.setIfInBounds_toArray, List.set_cons_zero, List.set_cons_succ, i64_w, i32_w]
    rfl
   refine one_ (i := 3) (N := some 35) #[true, true, true, true, true, false, true, false, false, false, false, false, false] rfl rfl (one_of HT_.out (by kernel_rfl)) (by decide) (fun K hK => ?_)
   refine goes_ Try.func15 (by kernel_rfl) rfl #[.slice A1 l1.length c1] (by rfl) rfl rfl (by (try simp only [List.map_toArray, List.map_cons, List.map_nil]); first | done | rfl | (simp only [List.length_drop, List.length_take]; rfl)) ?_
   with_reducible refine (laws_toFlowS.calls k _ _ l1 t428 _ ?side1 ?side2 A20.out).mono ?_
   (case side1 => repeat (first | exact (Kd.C_below HR1.out HB.out) | (with_reducible refine cA_ ?_ _) | (with_reducible refine cN_ ?_ _) | (with_reducible refine cD_ ?_)))
   (case side2 => exact HC1.out)
   rintro e w35 ⟨v429, rfl, ho0, hb⟩
   refine ⟨_, rfl, ?_⟩
   have n0_ := aM_ (rB_ (rb_ HO427.out) hb); have n1_ := aM_ (Kd.R_lower ho0 (sZ_ (bw_))); have n2_ := aM_ (bB_ (g := gb418) (o := .cells #[.int .i64 a0_0, .int .i64 a0_1, .int .i64 a0_2, .slice A0_3 l0_3.length c0_3] 24 (0, 0)) (kb_ BK418.out) hb); have n3_ := aM_ (bB_ (g := gb419) (o := .cells #[.int .i64 a2_0, .int .i64 a2_1, .int .i64 a2_2, .int .i64 a2_3] 39 (0, 0)) (kb_ BK419.out) hb); have n4_ := aM_ (wS_ (bw_) hb); clear HO427 BK418 BK419 HB; have HO427 := n0_; have HO430 := n1_; have BK418 := n2_; have BK419 := n3_; have HB := n4_; clear n0_ n1_ n2_ n3_ n4_; (try clear hb); (try clear hb2); (try clear hk); (try clear hi); (try clear ho0)
   refine hK.out _ _ ⟨(blk_cell BK418.out 0).trans rfl, (blk_cell BK418.out 1).trans rfl, (blk_cell BK418.out 2).trans rfl, (blk_cell BK418.out 3).trans rfl, (blk_cell BK419.out 0).trans rfl, (blk_cell BK419.out 1).trans rfl, (blk_cell BK419.out 2).trans rfl, (blk_cell BK419.out 3).trans rfl⟩ (fun hHeld => ?_)
   clear hK K
   refine norm_ (a' := ?_) ?_ ?_
   rotate_left
   ·show Act.put _ (some 35) _ = _
    simp only [Act.put, List.setIfInBounds_toArray, List.set_cons_zero, List.set_cons_succ, i64_w, i32_w]
    rfl
   refine one_ (i := 5) (N := some 37) #[true, true, true, true, true, true, true, false, false, false, false, false, false] rfl rfl (one_of HT_.out (by kernel_rfl)) (by decide) (fun K hK => ?_)
   refine goes_ Try.func20 (by kernel_rfl) rfl #[.agg #[.int .i64 a2_0, .int .i64 a2_1, .int .i64 a2_2, .int .i64 a2_3]] (by rfl) rfl rfl (by (try simp only [List.map_toArray, List.map_cons, List.map_nil]); first | done | rfl | (simp only [List.length_drop, List.length_take]; rfl)) ?_
   with_reducible refine (laws_toFlow.calls a2_0 a2_1 a2_2 a2_3 t431 t432 t433 t434 _ A21.out).mono ?_
   rintro e w36 ⟨rfl, hb⟩
   refine ⟨_, rfl, ?_⟩
   have n0_ := aM_ (rB_ (rb_ HO427.out) hb); have n1_ := aM_ (rB_ (rb_ HO430.out) hb); have n2_ := aM_ (bB_ (g := gb418) (o := .cells #[.int .i64 a0_0, .int .i64 a0_1, .int .i64 a0_2, .slice A0_3 l0_3.length c0_3] 24 (0, 0)) (kb_ BK418.out) hb); have n3_ := aM_ (bB_ (g := gb419) (o := .cells #[.int .i64 a2_0, .int .i64 a2_1, .int .i64 a2_2, .int .i64 a2_3] 39 (0, 0)) (kb_ BK419.out) hb); have n4_ := aM_ (wS_ (bw_) hb); clear HO427 HO430 BK418 BK419 HB; have HO427 := n0_; have HO430 := n1_; have BK418 := n2_; have BK419 := n3_; have HB := n4_; clear n0_ n1_ n2_ n3_ n4_; (try clear hb); (try clear hb2); (try clear hk); (try clear hi)
   obtain ⟨Ao37, co37, eo37⟩ := Kd.R_slice HO427.out
   (first | subst eo37 | (injection eo37 with f1_ f2_ f3_; have f4_ := f1_.symm; have f5_ := f3_.symm; clear f1_ f2_ f3_; subst f4_; subst f5_))
   obtain ⟨Ao38, co38, eo38⟩ := Kd.R_slice HO430.out
   (first | subst eo38 | (injection eo38 with f1_ f2_ f3_; have f4_ := f1_.symm; have f5_ := f3_.symm; clear f1_ f2_ f3_; subst f4_; subst f5_))
   refine hK.out _ _ ⟨(blk_cell BK418.out 0).trans rfl, (blk_cell BK418.out 1).trans rfl, (blk_cell BK418.out 2).trans rfl, (blk_cell BK418.out 3).trans rfl, (blk_cell BK419.out 0).trans rfl, (blk_cell BK419.out 1).trans rfl, (blk_cell BK419.out 2).trans rfl, (blk_cell BK419.out 3).trans rfl⟩ (fun hHeld => ?_)
   clear hK K
   refine norm_ (a' := ?_) ?_ ?_
   rotate_left
   ·show Act.put _ (some 37) _ = _
    simp only [Act.put, List.setIfInBounds_toArray, List.set_cons_zero, List.set_cons_succ, i64_w, i32_w]
    rfl
   refine one_ (i := 7) (N := some 39) #[true, true, true, true, true, true, true, true, false, false, false, false, false] rfl rfl (one_of HT_.out (by kernel_rfl)) (by decide) (fun K hK => ?_)
   refine goes_ Try.func19 (by kernel_rfl) rfl #[.agg #[.int .i64 t422, .int .i64 t423, .int .i64 t424, .slice Ao37 t425.length co37], .slice Ao38 t428.length co38, .agg #[.int .i64 t431, .int .i64 t432, .int .i64 t433, .int .i64 t434], .int .i64 a3] (by rfl) rfl rfl (by (try simp only [List.map_toArray, List.map_cons, List.map_nil]); first | done | rfl | (simp only [List.length_drop, List.length_take]; rfl)) ?_
   with_reducible refine (spec_AdmitFlow.calls k t422 t423 t424 _ _ t425 _ _ t428 t431 t432 t433 t434 a3 t435 t438 _ ?side1 ?side2 ?side3 ?side4 A22.out).mono ?_
   (case side1 => repeat (first | exact (Kd.R_reads' HO427.out).2.2 | (with_reducible refine cA_ ?_ _) | (with_reducible refine cN_ ?_ _) | (with_reducible refine cD_ ?_)))
   (case side2 => exact (Kd.R_reads' HO427.out).2.1)
   (case side3 => repeat (first | exact (Kd.R_reads' HO430.out).2.2 | (with_reducible refine cA_ ?_ _) | (with_reducible refine cN_ ?_ _) | (with_reducible refine cD_ ?_)))
   (case side4 => exact (Kd.R_reads' HO430.out).2.1)
   rintro e w39 ⟨v436, rfl, ho0, hb⟩
   refine ⟨_, rfl, ?_⟩
   have n0_ := aM_ (rB_ (rb_ HO427.out) hb); have n1_ := aM_ (Kd.R_elder' (rb_ HO430.out) (Kd.R_base ho0) hb); have n2_ := aM_ (Kd.R_lower (Kd.R_new' ho0 (Kd.R_lt (rb_ HO430.out))) (sZ_ (bw_))); have n3_ := aM_ (bB_ (g := gb418) (o := .cells #[.int .i64 a0_0, .int .i64 a0_1, .int .i64 a0_2, .slice A0_3 l0_3.length c0_3] 24 (0, 0)) (kb_ BK418.out) hb); have n4_ := aM_ (bB_ (g := gb419) (o := .cells #[.int .i64 a2_0, .int .i64 a2_1, .int .i64 a2_2, .int .i64 a2_3] 39 (0, 0)) (kb_ BK419.out) hb); have n5_ := aM_ (wS_ (bw_) hb); clear HO427 HO430 BK418 BK419 HB; have HO427 := n0_; have HO430 := n1_; have HO437 := n2_; have BK418 := n3_; have BK419 := n4_; have HB := n5_; clear n0_ n1_ n2_ n3_ n4_ n5_; (try clear hb); (try clear hb2); (try clear hk); (try clear hi); (try clear ho0)
   refine hK.out _ _ ⟨(blk_cell BK418.out 0).trans rfl, (blk_cell BK418.out 1).trans rfl, (blk_cell BK418.out 2).trans rfl, (blk_cell BK418.out 3).trans rfl, (blk_cell BK419.out 0).trans rfl, (blk_cell BK419.out 1).trans rfl, (blk_cell BK419.out 2).trans rfl, (blk_cell BK419.out 3).trans rfl⟩ (fun hHeld => ?_)
   clear hK K
   refine norm_ (a' := ?_) ?_ ?_
   rotate_left
   ·show Act.put _ (some 39) _ = _
    simp only [Act.put, List.setIfInBounds_toArray, List.set_cons_zero, List.set_cons_succ, i64_w, i32_w]
    rfl
   refine pure_ (i := 8) (N := some 31) (v := ?_) (a' := ?_) #[true, true, true, true, true, true, true, true, true, false, false, false, false] rfl rfl (any_of HT_.out (by kernel_rfl)) (fun _ _ _ h => h) (Or.inl ⟨by rfl, ?_⟩) ?_ ?_
   rotate_left
   ·intro w'
    go_simp
    with_reducible rfl
   rotate_left
   ·simp only [Act.put, List.setIfInBounds_toArray, List.set_cons_zero, List.set_cons_succ, i64_w, i32_w]
    rfl
   refine pure_ (i := 9) (N := some 40) (v := ?_) (a' := ?_) #[true, true, true, true, true, true, true, true, true, true, false, false, false] rfl rfl (any_of HT_.out (by kernel_rfl)) (fun _ _ _ h => h) (Or.inl ⟨by rfl, ?_⟩) ?_ ?_
   rotate_left
   ·intro w'
    go_simp
    with_reducible rfl
   rotate_left
   ·simp only [Act.put, List.setIfInBounds_toArray, List.set_cons_zero, List.set_cons_succ, i64_w, i32_w]
    rfl
   refine pure_ (i := 10) (N := some 41) (v := ?_) (a' := ?_) #[true, true, true, true, true, true, true, true, true, true, true, false, false] rfl rfl (any_of HT_.out (by kernel_rfl)) (fun _ _ _ h => h) (Or.inl ⟨by rfl, ?_⟩) ?_ ?_
   rotate_left
   ·intro w'
    go_simp
    with_reducible rfl
   rotate_left
   ·simp only [Act.put, List.setIfInBounds_toArray, List.set_cons_zero, List.set_cons_succ, i64_w, i32_w]
    rfl
   refine pure_ (i := 11) (N := some 10) (v := ?_) (a' := ?_) #[true, true, true, true, true, true, true, true, true, true, true, true, false] rfl rfl (any_of HT_.out (by kernel_rfl)) (fun _ _ _ h => h) (Or.inl ⟨by rfl, ?_⟩) ?_ ?_
   rotate_left
   ·intro w'
    go_simp
    with_reducible rfl
   rotate_left
   ·simp only [Act.put, List.setIfInBounds_toArray, List.set_cons_zero, List.set_cons_succ, i64_w, i32_w]
    rfl
   refine pure_ (i := 12) (N := some 11) (v := ?_) (a' := ?_) #[true, true, true, true, true, true, true, true, true, true, true, true, true] rfl rfl (any_of HT_.out (by kernel_rfl)) (fun _ _ _ h => h) (Or.inl ⟨by rfl, ?_⟩) ?_ ?_
   rotate_left
   ·intro w'
    go_simp
    with_reducible rfl
   rotate_left
   ·simp only [Act.put, List.setIfInBounds_toArray, List.set_cons_zero, List.set_cons_succ, i64_w, i32_w]
    rfl
   refine done_ (done_of HT_.out (by kernel_rfl)) ?_
   have hcz40_0 : w39.cell? ⟨gb418, 0, none⟩ = some (.int .i64 a0_0) := (blk_cell BK418.out 0).trans rfl
   have hcz40_1 : w39.cell? ⟨gb418, 1, none⟩ = some (.int .i64 a0_1) := (blk_cell BK418.out 1).trans rfl
   have hcz40_2 : w39.cell? ⟨gb418, 2, none⟩ = some (.int .i64 a0_2) := (blk_cell BK418.out 2).trans rfl
   have hcz40_3 : w39.cell? ⟨gb418, 3, none⟩ = some (.slice A0_3 l0_3.length c0_3) := (blk_cell BK418.out 3).trans rfl
   have hfz40_0 := blk_frozen BK418.out 0; have hfz40_1 := blk_frozen BK418.out 1; have hfz40_2 := blk_frozen BK418.out 2; have hfz40_3 := blk_frozen BK418.out 3
   try go_wp2_with (first | ((with_reducible refine gate_callee (f := 14) rfl ?_); refine goesL_ (some 43) rfl rfl Try.func14 (by kernel_rfl) rfl #[.agg #[.int .i64 a0_0, .int .i64 a0_1, .int .i64 a0_2, .slice A0_3 l0_3.length c0_3]] rfl (by (try simp only [List.map_toArray, List.map_cons, List.map_nil]); first | done | rfl | (simp only [List.length_drop, List.length_take]; rfl)) ?_; (with_reducible refine (laws_toProgram.calls k a0_0 a0_1 a0_2 _ _ l0_3 t439 t440 t441 t442 _ ?side1 ?side2 A23.out).mono ?_); (case side1 => repeat (first | exact (Kd.C_below HR0_3.out HB.out) | (with_reducible refine cA_ ?_ _) | (with_reducible refine cN_ ?_ _) | (with_reducible refine cD_ ?_))); (case side2 => exact HC0_3.out); rintro e w41 ⟨v443, rfl, ho0, hb⟩; refine ⟨_, rfl, ?_⟩; have n0_ := aM_ (Kd.R_elder' (rb_ HO427.out) (Kd.R_base ho0) hb); have n1_ := aM_ (rB_ (rb_ HO430.out) hb); have n2_ := aM_ (rB_ (rb_ HO437.out) hb); have n3_ := aM_ (Kd.R_lower (Kd.R_new' ho0 (Kd.R_lt (rb_ HO427.out))) (sZ_ (bw_))); have n4_ := aM_ (bB_ (g := gb418) (o := .cells #[.int .i64 a0_0, .int .i64 a0_1, .int .i64 a0_2, .slice A0_3 l0_3.length c0_3] 24 (0, 0)) (kb_ BK418.out) hb); have n5_ := aM_ (bB_ (g := gb419) (o := .cells #[.int .i64 a2_0, .int .i64 a2_1, .int .i64 a2_2, .int .i64 a2_3] 39 (0, 0)) (kb_ BK419.out) hb); have n6_ := aM_ (wS_ (bw_) hb); clear HO427; clear HO430; clear HO437; clear BK418; clear BK419; clear HB; have HO427 := n0_; have HO430 := n1_; have HO437 := n2_; have HO444 := n3_; have BK418 := n4_; have BK419 := n5_; have HB := n6_; clear n0_ n1_ n2_ n3_ n4_ n5_ n6_; (try clear hb); (try clear hb2); (try clear hk); (try clear hi); (try clear ho0)) | ((with_reducible refine gate_dst (N := 12) rfl ?_); refine box_event ?hg (N := 12) ?hd (cs := #[.int .i64 0, .int .i64 0, .int .i64 0, .slice none 0 0]) (t := 31) ?hr ?_; (case hd => rfl); (case hg => rfl); (case hr => first | (go_simp; done) | (go_simp; rfl)); intro gb445 hg w42 hbox hb; have n0_ := aM_ (rB_ (rb_ HO427.out) hb); have n1_ := aM_ (rB_ (rb_ HO430.out) hb); have n2_ := aM_ (rB_ (rb_ HO437.out) hb); have n3_ := aM_ (rB_ (rb_ HO444.out) hb); have n4_ := aM_ (bB_ (g := gb418) (o := .cells #[.int .i64 a0_0, .int .i64 a0_1, .int .i64 a0_2, .slice A0_3 l0_3.length c0_3] 24 (0, 0)) (kb_ BK418.out) hb); have n5_ := aM_ (bB_ (g := gb419) (o := .cells #[.int .i64 a2_0, .int .i64 a2_1, .int .i64 a2_2, .int .i64 a2_3] 39 (0, 0)) (kb_ BK419.out) hb); have n6_ := aM_ (wS_ (bw_) hb); have n7_ := aM_ (hbox); have n8_ := aM_ ((by rw [hg]; exact (sZ_ (bw_)) : w.heap.size ≤ gb445)); have n9_ := aM_ ((by rw [hg]; exact (sZ_ (bw_)) : w.heap.size ≤ gb445)); have n10_ := aM_ ((by rw [hg]; exact Nat.ne_of_lt (blk_lt (g := gb418) (o := .cells #[.int .i64 a0_0, .int .i64 a0_1, .int .i64 a0_2, .slice A0_3 l0_3.length c0_3] 24 (0, 0)) (kb_ BK418.out)) : gb418 ≠ gb445)); have n11_ := aM_ ((by rw [hg]; exact Nat.ne_of_gt (blk_lt (g := gb418) (o := .cells #[.int .i64 a0_0, .int .i64 a0_1, .int .i64 a0_2, .slice A0_3 l0_3.length c0_3] 24 (0, 0)) (kb_ BK418.out)) : gb445 ≠ gb418)); have n12_ := aM_ ((by rw [hg]; exact Nat.ne_of_lt (blk_lt (g := gb419) (o := .cells #[.int .i64 a2_0, .int .i64 a2_1, .int .i64 a2_2, .int .i64 a2_3] 39 (0, 0)) (kb_ BK419.out)) : gb419 ≠ gb445)); have n13_ := aM_ ((by rw [hg]; exact Nat.ne_of_gt (blk_lt (g := gb419) (o := .cells #[.int .i64 a2_0, .int .i64 a2_1, .int .i64 a2_2, .int .i64 a2_3] 39 (0, 0)) (kb_ BK419.out)) : gb445 ≠ gb419)); clear HO427; clear HO430; clear HO437; clear HO444; clear BK418; clear BK419; clear HB; have HO427 := n0_; have HO430 := n1_; have HO437 := n2_; have HO444 := n3_; have BK418 := n4_; have BK419 := n5_; have HB := n6_; have BK445 := n7_; have GW445 := n8_; have GE445 := n9_; have NB418_445 := n10_; have NB445_418 := n11_; have NB419_445 := n12_; have NB445_419 := n13_; clear n0_ n1_ n2_ n3_ n4_ n5_ n6_ n7_ n8_ n9_ n10_ n11_ n12_ n13_; clear hb hbox hg; have hnb43 := NB445_418.out; have hnc43 := NB418_445.out; have hnb44 := NB445_419.out; have hnc44 := NB419_445.out; have hcz45_0 : w42.cell? ⟨gb445, 0, none⟩ = some (.int .i64 0) := (blk_cell BK445.out 0).trans rfl; have hcz45_1 : w42.cell? ⟨gb445, 1, none⟩ = some (.int .i64 0) := (blk_cell BK445.out 1).trans rfl; have hcz45_2 : w42.cell? ⟨gb445, 2, none⟩ = some (.int .i64 0) := (blk_cell BK445.out 2).trans rfl; have hcz45_3 : w42.cell? ⟨gb445, 3, none⟩ = some (.slice none 0 0) := (blk_cell BK445.out 3).trans rfl; have hfz45_0 := blk_frozen BK445.out 0; have hfz45_1 := blk_frozen BK445.out 1; have hfz45_2 := blk_frozen BK445.out 2; have hfz45_3 := blk_frozen BK445.out 3; obtain ⟨Ao46, co46, eo46⟩ := Kd.R_slice HO444.out; subst eo46) | ((with_reducible refine gate_callee (f := 15) rfl ?_); refine goesL_ (some 45) rfl rfl Try.func15 (by kernel_rfl) rfl #[.slice A1 l1.length c1] rfl (by (try simp only [List.map_toArray, List.map_cons, List.map_nil]); first | done | rfl | (simp only [List.length_drop, List.length_take]; rfl)) ?_; (with_reducible refine (laws_toFlowS.calls k _ _ l1 t446 _ ?side1 ?side2 A24.out).mono ?_); (case side1 => exact Kd.C_below HR1.out (bw_)); (case side2 => exact HC1.out); rintro e w47 ⟨v447, rfl, ho0, hb⟩; refine ⟨_, rfl, ?_⟩; have n0_ := aM_ (rB_ (by (with_reducible repeat (first | apply rA_ | apply rN_ | apply rD_)); exact (Kd.R_mono (Kd.R_far (p := ⟨gb445, 3, none⟩) (Kd.R_far (p := ⟨gb445, 2, none⟩) (Kd.R_far (p := ⟨gb445, 1, none⟩) (Kd.R_far (p := ⟨gb445, 0, none⟩) (Kd.R_types HO427.out BK445.out (by decide)) (fun _ hk => hk.2) (.int .i64 t439)) (fun _ hk => hk.2) (.int .i64 t440)) (fun _ hk => hk.2) (.int .i64 t441)) (fun _ hk => hk.2) (.slice Ao46 t442.length co46)) (fun _ h_ => h_.1))) hb); have n1_ := aM_ (Kd.R_elder' (by (with_reducible repeat (first | apply rA_ | apply rN_ | apply rD_)); exact (Kd.R_mono (Kd.R_far (p := ⟨gb445, 3, none⟩) (Kd.R_far (p := ⟨gb445, 2, none⟩) (Kd.R_far (p := ⟨gb445, 1, none⟩) (Kd.R_far (p := ⟨gb445, 0, none⟩) (Kd.R_types HO430.out BK445.out (by decide)) (fun _ hk => hk.2) (.int .i64 t439)) (fun _ hk => hk.2) (.int .i64 t440)) (fun _ hk => hk.2) (.int .i64 t441)) (fun _ hk => hk.2) (.slice Ao46 t442.length co46)) (fun _ h_ => h_.1))) (Kd.R_base ho0) hb); have n2_ := aM_ (Kd.R_elder' (by (with_reducible repeat (first | apply rA_ | apply rN_ | apply rD_)); exact (Kd.R_mono (Kd.R_far (p := ⟨gb445, 3, none⟩) (Kd.R_far (p := ⟨gb445, 2, none⟩) (Kd.R_far (p := ⟨gb445, 1, none⟩) (Kd.R_far (p := ⟨gb445, 0, none⟩) (Kd.R_types HO437.out BK445.out (by decide)) (fun _ hk => hk.2) (.int .i64 t439)) (fun _ hk => hk.2) (.int .i64 t440)) (fun _ hk => hk.2) (.int .i64 t441)) (fun _ hk => hk.2) (.slice Ao46 t442.length co46)) (fun _ h_ => h_.1))) (Kd.R_base ho0) hb); have n3_ := aM_ (rB_ (by (with_reducible repeat (first | apply rA_ | apply rN_ | apply rD_)); exact (Kd.R_mono (Kd.R_far (p := ⟨gb445, 3, none⟩) (Kd.R_far (p := ⟨gb445, 2, none⟩) (Kd.R_far (p := ⟨gb445, 1, none⟩) (Kd.R_far (p := ⟨gb445, 0, none⟩) (Kd.R_types HO444.out BK445.out (by decide)) (fun _ hk => hk.2) (.int .i64 t439)) (fun _ hk => hk.2) (.int .i64 t440)) (fun _ hk => hk.2) (.int .i64 t441)) (fun _ hk => hk.2) (.slice Ao46 t442.length co46)) (fun _ h_ => h_.1))) hb); have n4_ := aM_ (Kd.R_lower (Kd.R_new' (Kd.R_new' ho0 (Kd.R_lt (by (with_reducible repeat (first | apply rA_ | apply rN_ | apply rD_)); exact (Kd.R_mono (Kd.R_far (p := ⟨gb445, 3, none⟩) (Kd.R_far (p := ⟨gb445, 2, none⟩) (Kd.R_far (p := ⟨gb445, 1, none⟩) (Kd.R_far (p := ⟨gb445, 0, none⟩) (Kd.R_types HO430.out BK445.out (by decide)) (fun _ hk => hk.2) (.int .i64 t439)) (fun _ hk => hk.2) (.int .i64 t440)) (fun _ hk => hk.2) (.int .i64 t441)) (fun _ hk => hk.2) (.slice Ao46 t442.length co46)) (fun _ h_ => h_.1))))) (Kd.R_lt (by (with_reducible repeat (first | apply rA_ | apply rN_ | apply rD_)); exact (Kd.R_mono (Kd.R_far (p := ⟨gb445, 3, none⟩) (Kd.R_far (p := ⟨gb445, 2, none⟩) (Kd.R_far (p := ⟨gb445, 1, none⟩) (Kd.R_far (p := ⟨gb445, 0, none⟩) (Kd.R_types HO437.out BK445.out (by decide)) (fun _ hk => hk.2) (.int .i64 t439)) (fun _ hk => hk.2) (.int .i64 t440)) (fun _ hk => hk.2) (.int .i64 t441)) (fun _ hk => hk.2) (.slice Ao46 t442.length co46)) (fun _ h_ => h_.1))))) (sZ_ (bw_))); have n5_ := aM_ (bB_ (g := gb418) (o := .cells #[.int .i64 a0_0, .int .i64 a0_1, .int .i64 a0_2, .slice A0_3 l0_3.length c0_3] 24 (0, 0)) (by (with_reducible repeat (first | refine bN_ ?_ _ | refine bD_ ?_ | refine bA_ ?_ _)); refine blk_far ?_ NB418_445.out _; (with_reducible repeat (first | refine bN_ ?_ _ | refine bD_ ?_ | refine bA_ ?_ _)); refine blk_far ?_ NB418_445.out _; (with_reducible repeat (first | refine bN_ ?_ _ | refine bD_ ?_ | refine bA_ ?_ _)); refine blk_far ?_ NB418_445.out _; (with_reducible repeat (first | refine bN_ ?_ _ | refine bD_ ?_ | refine bA_ ?_ _)); refine blk_far ?_ NB418_445.out _; (with_reducible repeat (first | refine bN_ ?_ _ | refine bD_ ?_ | refine bA_ ?_ _)); exact BK418.out) hb); have n6_ := aM_ (bB_ (g := gb419) (o := .cells #[.int .i64 a2_0, .int .i64 a2_1, .int .i64 a2_2, .int .i64 a2_3] 39 (0, 0)) (by (with_reducible repeat (first | refine bN_ ?_ _ | refine bD_ ?_ | refine bA_ ?_ _)); refine blk_far ?_ NB419_445.out _; (with_reducible repeat (first | refine bN_ ?_ _ | refine bD_ ?_ | refine bA_ ?_ _)); refine blk_far ?_ NB419_445.out _; (with_reducible repeat (first | refine bN_ ?_ _ | refine bD_ ?_ | refine bA_ ?_ _)); refine blk_far ?_ NB419_445.out _; (with_reducible repeat (first | refine bN_ ?_ _ | refine bD_ ?_ | refine bA_ ?_ _)); refine blk_far ?_ NB419_445.out _; (with_reducible repeat (first | refine bN_ ?_ _ | refine bD_ ?_ | refine bA_ ?_ _)); exact BK419.out) hb); have n7_ := aM_ (bB_ (g := gb445) (o := .cells #[.int .i64 t439, .int .i64 t440, .int .i64 t441, .slice Ao46 t442.length co46] 31 (0, 0)) (by (with_reducible repeat (first | refine bN_ ?_ _ | refine bD_ ?_ | refine bA_ ?_ _)); refine blk_put (cs := #[.int .i64 t439, .int .i64 t440, .int .i64 t441, .slice none 0 0]) ?_ 3 _ rfl; (with_reducible repeat (first | refine bN_ ?_ _ | refine bD_ ?_ | refine bA_ ?_ _)); refine blk_put (cs := #[.int .i64 t439, .int .i64 t440, .int .i64 0, .slice none 0 0]) ?_ 2 _ rfl; (with_reducible repeat (first | refine bN_ ?_ _ | refine bD_ ?_ | refine bA_ ?_ _)); refine blk_put (cs := #[.int .i64 t439, .int .i64 0, .int .i64 0, .slice none 0 0]) ?_ 1 _ rfl; (with_reducible repeat (first | refine bN_ ?_ _ | refine bD_ ?_ | refine bA_ ?_ _)); refine blk_put (cs := #[.int .i64 0, .int .i64 0, .int .i64 0, .slice none 0 0]) ?_ 0 _ rfl; (with_reducible repeat (first | refine bN_ ?_ _ | refine bD_ ?_ | refine bA_ ?_ _)); exact BK445.out) hb); have n8_ := aM_ (wS_ (bw_) hb); clear HO427; clear HO430; clear HO437; clear HO444; clear BK418; clear BK419; clear BK445; clear HB; have HO427 := n0_; have HO430 := n1_; have HO437 := n2_; have HO444 := n3_; have HO448 := n4_; have BK418 := n5_; have BK419 := n6_; have BK445 := n7_; have HB := n8_; clear n0_ n1_ n2_ n3_ n4_ n5_ n6_ n7_ n8_; (try clear hb); (try clear hb2); (try clear hk); (try clear hi); (try clear ho0)))
   have n0_ := aM_ (rD_ HO427.out); have n1_ := aM_ (rD_ HO430.out); have n2_ := aM_ (rD_ HO437.out); have n3_ := aM_ (rD_ HO444.out); have n4_ := aM_ (rD_ HO448.out); have n5_ := aM_ (bD_ BK418.out); have n6_ := aM_ (bD_ BK419.out); have n7_ := aM_ (bD_ BK445.out); have n8_ := aM_ (wD_ HB.out); clear HO427 HO430 HO437 HO444 HO448 BK418 BK419 BK445 HB; have HO427 := n0_; have HO430 := n1_; have HO437 := n2_; have HO444 := n3_; have HO448 := n4_; have BK418 := n5_; have BK419 := n6_; have BK445 := n7_; have HB := n8_; clear n0_ n1_ n2_ n3_ n4_ n5_ n6_ n7_ n8_
   refine start_ (n := 11) (S := fun w' => w'.cell? ⟨gb445, 0, none⟩ = some (.int .i64 t439) ∧ w'.cell? ⟨gb445, 1, none⟩ = some (.int .i64 t440) ∧ w'.cell? ⟨gb445, 2, none⟩ = some (.int .i64 t441) ∧ w'.cell? ⟨gb445, 3, none⟩ = some (.slice Ao46 t442.length co46) ∧ w'.cell? ⟨gb419, 0, none⟩ = some (.int .i64 a2_0) ∧ w'.cell? ⟨gb419, 1, none⟩ = some (.int .i64 a2_1) ∧ w'.cell? ⟨gb419, 2, none⟩ = some (.int .i64 a2_2) ∧ w'.cell? ⟨gb419, 3, none⟩ = some (.int .i64 a2_3)) (ds := []) #[false, false, false, false, false, false, false, false, false, false, false] (by kernel_rfl) rfl rfl ⟨(blk_cell BK445.out 0).trans rfl, (blk_cell BK445.out 1).trans rfl, (blk_cell BK445.out 2).trans rfl, (blk_cell BK445.out 3).trans rfl, (blk_cell BK419.out 0).trans rfl, (blk_cell BK419.out 1).trans rfl, (blk_cell BK419.out 2).trans rfl, (blk_cell BK419.out 3).trans rfl⟩ (fun hHeld => ?_); refine with_tabW laws_FnExactAdmitFlow.tab11 laws_FnExactAdmitFlow.bits11 (fun HT_ HW_ => ?_)
   generalize w47.drew = w48 at HO427 HO430 HO437 HO444 HO448 BK418 BK419 BK445 HB hHeld ⊢
   refine pure_ (i := 1) (N := some 48) (v := ?_) (a' := ?_) #[false, true, false, false, false, false, false, false, false, false, false] rfl rfl (any_of HT_.out (by kernel_rfl)) (fun _ _ _ h => h) (Or.inl ⟨by rfl, ?_⟩) ?_ ?_
   rotate_left
   ·intro w'
    go_simp
    with_reducible rfl
   rotate_left
   ·simp only [Act.put, List.setIfInBounds_toArray, List.set_cons_zero, List.set_cons_succ, i64_w, i32_w]
    rfl
   refine pure_ (i := 4) (N := some 51) (v := ?_) (a' := ?_) #[false, true, false, false, true, false, false, false, false, false, false] rfl rfl (any_of HT_.out (by kernel_rfl)) (fun _ _ _ h => h) (Or.inl ⟨by rfl, ?_⟩) ?_ ?_
   rotate_left
   ·intro w'
    go_simp
    with_reducible rfl
   rotate_left
   ·simp only [Act.put, List.setIfInBounds_toArray, List.set_cons_zero, List.set_cons_succ, i64_w, i32_w]
    rfl
   refine take_ (i := 0) (N := some 47) (v := ?_) (a' := ?_) #[true, true, false, false, true, false, false, false, false, false, false] rfl rfl (take_ofW HT_.out HW_.out (by kernel_rfl)) (fun _ _ _ h => h) (Or.inl ⟨by rfl, ?_⟩) hHeld ?_ ?_
   rotate_left
   ·rintro w' ⟨s0, s1, s2, s3, s4, s5, s6, s7⟩
    go_simp
    with_reducible rfl
   rotate_left
   ·simp only [Act.put, List.setIfInBounds_toArray, List.set_cons_zero, List.set_cons_succ, i64_w, i32_w]
    rfl
   refine take_ (i := 2) (N := some 49) (v := ?_) (a' := ?_) #[true, true, true, false, true, false, false, false, false, false, false] rfl rfl (take_ofW HT_.out HW_.out (by kernel_rfl)) (fun _ _ _ h => h) (Or.inl ⟨by rfl, ?_⟩) hHeld ?_ ?_
   rotate_left
   ·rintro w' ⟨s0, s1, s2, s3, s4, s5, s6, s7⟩
    go_simp
    with_reducible rfl
   rotate_left
   ·simp only [Act.put, List.setIfInBounds_toArray, List.set_cons_zero, List.set_cons_succ, i64_w, i32_w]
    rfl
   refine one_ (i := 3) (N := some 50) #[true, true, true, true, true, false, false, false, false, false, false] rfl rfl (one_of HT_.out (by kernel_rfl)) (by decide) (fun K hK => ?_)
   refine goes_ Try.func20 (by kernel_rfl) rfl #[.agg #[.int .i64 a2_0, .int .i64 a2_1, .int .i64 a2_2, .int .i64 a2_3]] (by rfl) rfl rfl (by (try simp only [List.map_toArray, List.map_cons, List.map_nil]); first | done | rfl | (simp only [List.length_drop, List.length_take]; rfl)) ?_
   with_reducible refine (laws_toFlow.calls a2_0 a2_1 a2_2 a2_3 t449 t450 t451 t452 _ A25.out).mono ?_
   rintro e w49 ⟨rfl, hb⟩
   refine ⟨_, rfl, ?_⟩
   have n0_ := aM_ (rB_ (rb_ HO427.out) hb); have n1_ := aM_ (rB_ (rb_ HO430.out) hb); have n2_ := aM_ (rB_ (rb_ HO437.out) hb); have n3_ := aM_ (rB_ (rb_ HO444.out) hb); have n4_ := aM_ (rB_ (rb_ HO448.out) hb); have n5_ := aM_ (bB_ (g := gb418) (o := .cells #[.int .i64 a0_0, .int .i64 a0_1, .int .i64 a0_2, .slice A0_3 l0_3.length c0_3] 24 (0, 0)) (kb_ BK418.out) hb); have n6_ := aM_ (bB_ (g := gb419) (o := .cells #[.int .i64 a2_0, .int .i64 a2_1, .int .i64 a2_2, .int .i64 a2_3] 39 (0, 0)) (kb_ BK419.out) hb); have n7_ := aM_ (bB_ (g := gb445) (o := .cells #[.int .i64 t439, .int .i64 t440, .int .i64 t441, .slice Ao46 t442.length co46] 31 (0, 0)) (kb_ BK445.out) hb); have n8_ := aM_ (wS_ (bw_) hb); clear HO427 HO430 HO437 HO444 HO448 BK418 BK419 BK445 HB; have HO427 := n0_; have HO430 := n1_; have HO437 := n2_; have HO444 := n3_; have HO448 := n4_; have BK418 := n5_; have BK419 := n6_; have BK445 := n7_; have HB := n8_; clear n0_ n1_ n2_ n3_ n4_ n5_ n6_ n7_ n8_; (try clear hb); (try clear hb2); (try clear hk); (try clear hi)
   obtain ⟨Ao50, co50, eo50⟩ := Kd.R_slice HO448.out
   (first | subst eo50 | (injection eo50 with f1_ f2_ f3_; have f4_ := f1_.symm; have f5_ := f3_.symm; clear f1_ f2_ f3_; subst f4_; subst f5_))
   refine hK.out _ _ ⟨(blk_cell BK445.out 0).trans rfl, (blk_cell BK445.out 1).trans rfl, (blk_cell BK445.out 2).trans rfl, (blk_cell BK445.out 3).trans rfl, (blk_cell BK419.out 0).trans rfl, (blk_cell BK419.out 1).trans rfl, (blk_cell BK419.out 2).trans rfl, (blk_cell BK419.out 3).trans rfl⟩ (fun hHeld => ?_)
   clear hK K
   refine norm_ (a' := ?_) ?_ ?_
   rotate_left
   ·show Act.put _ (some 50) _ = _
    simp only [Act.put, List.setIfInBounds_toArray, List.set_cons_zero, List.set_cons_succ, i64_w, i32_w]
    rfl
   refine one_ (i := 5) (N := some 52) #[true, true, true, true, true, true, false, false, false, false, false] rfl rfl (one_of HT_.out (by kernel_rfl)) (by decide) (fun K hK => ?_)
   refine goes_ Try.func21 (by kernel_rfl) rfl #[.agg #[.int .i64 t439, .int .i64 t440, .int .i64 t441, .slice Ao46 t442.length co46], .slice Ao50 t446.length co50, .agg #[.int .i64 t449, .int .i64 t450, .int .i64 t451, .int .i64 t452], .int .i64 a3] (by rfl) rfl rfl (by (try simp only [List.map_toArray, List.map_cons, List.map_nil]); first | done | rfl | (simp only [List.length_drop, List.length_take]; rfl)) ?_
   with_reducible refine (impl_AdmitFlow.calls k t439 t440 t441 _ _ t442 _ _ t446 t449 t450 t451 t452 a3 t453 t456 _ ?side1 ?side2 ?side3 ?side4 A26.out).mono ?_
   (case side1 => repeat (first | exact (Kd.R_reads' HO444.out).2.2 | (with_reducible refine cA_ ?_ _) | (with_reducible refine cN_ ?_ _) | (with_reducible refine cD_ ?_)))
   (case side2 => exact (Kd.R_reads' HO444.out).2.1)
   (case side3 => repeat (first | exact (Kd.R_reads' HO448.out).2.2 | (with_reducible refine cA_ ?_ _) | (with_reducible refine cN_ ?_ _) | (with_reducible refine cD_ ?_)))
   (case side4 => exact (Kd.R_reads' HO448.out).2.1)
   rintro e w51 ⟨v454, rfl, ho0, hb⟩
   refine ⟨_, rfl, ?_⟩
   have n0_ := aM_ (rB_ (rb_ HO427.out) hb); have n1_ := aM_ (Kd.R_elder' (rb_ HO430.out) (Kd.R_base ho0) hb); have n2_ := aM_ (Kd.R_elder' (rb_ HO437.out) (Kd.R_base ho0) hb); have n3_ := aM_ (rB_ (rb_ HO444.out) hb); have n4_ := aM_ (Kd.R_elder' (rb_ HO448.out) (Kd.R_base ho0) hb); have n5_ := aM_ (Kd.R_lower (Kd.R_new' (Kd.R_new' (Kd.R_new' ho0 (Kd.R_lt (rb_ HO430.out))) (Kd.R_lt (rb_ HO437.out))) (Kd.R_lt (rb_ HO448.out))) (sZ_ (bw_))); have n6_ := aM_ (bB_ (g := gb418) (o := .cells #[.int .i64 a0_0, .int .i64 a0_1, .int .i64 a0_2, .slice A0_3 l0_3.length c0_3] 24 (0, 0)) (kb_ BK418.out) hb); have n7_ := aM_ (bB_ (g := gb419) (o := .cells #[.int .i64 a2_0, .int .i64 a2_1, .int .i64 a2_2, .int .i64 a2_3] 39 (0, 0)) (kb_ BK419.out) hb); have n8_ := aM_ (bB_ (g := gb445) (o := .cells #[.int .i64 t439, .int .i64 t440, .int .i64 t441, .slice Ao46 t442.length co46] 31 (0, 0)) (kb_ BK445.out) hb); have n9_ := aM_ (wS_ (bw_) hb); clear HO427 HO430 HO437 HO444 HO448 BK418 BK419 BK445 HB; have HO427 := n0_; have HO430 := n1_; have HO437 := n2_; have HO444 := n3_; have HO448 := n4_; have HO455 := n5_; have BK418 := n6_; have BK419 := n7_; have BK445 := n8_; have HB := n9_; clear n0_ n1_ n2_ n3_ n4_ n5_ n6_ n7_ n8_ n9_; (try clear hb); (try clear hb2); (try clear hk); (try clear hi); (try clear ho0)
   refine hK.out _ _ ⟨(blk_cell BK445.out 0).trans rfl, (blk_cell BK445.out 1).trans rfl, (blk_cell BK445.out 2).trans rfl, (blk_cell BK445.out 3).trans rfl, (blk_cell BK419.out 0).trans rfl, (blk_cell BK419.out 1).trans rfl, (blk_cell BK419.out 2).trans rfl, (blk_cell BK419.out 3).trans rfl⟩ (fun hHeld => ?_)
   clear hK K
   refine norm_ (a' := ?_) ?_ ?_
   rotate_left
   ·show Act.put _ (some 52) _ = _
    simp only [Act.put, List.setIfInBounds_toArray, List.set_cons_zero, List.set_cons_succ, i64_w, i32_w]
    rfl
   refine pure_ (i := 6) (N := some 46) (v := ?_) (a' := ?_) #[true, true, true, true, true, true, true, false, false, false, false] rfl rfl (any_of HT_.out (by kernel_rfl)) (fun _ _ _ h => h) (Or.inl ⟨by rfl, ?_⟩) ?_ ?_
   rotate_left
   ·intro w'
    go_simp
    with_reducible rfl
   rotate_left
   ·simp only [Act.put, List.setIfInBounds_toArray, List.set_cons_zero, List.set_cons_succ, i64_w, i32_w]
    rfl
   refine pure_ (i := 7) (N := some 53) (v := ?_) (a' := ?_) #[true, true, true, true, true, true, true, true, false, false, false] rfl rfl (any_of HT_.out (by kernel_rfl)) (fun _ _ _ h => h) (Or.inl ⟨by rfl, ?_⟩) ?_ ?_
   rotate_left
   ·intro w'
    go_simp
    with_reducible rfl
   rotate_left
   ·simp only [Act.put, List.setIfInBounds_toArray, List.set_cons_zero, List.set_cons_succ, i64_w, i32_w]
    rfl
   refine pure_ (i := 8) (N := some 54) (v := ?_) (a' := ?_) #[true, true, true, true, true, true, true, true, true, false, false] rfl rfl (any_of HT_.out (by kernel_rfl)) (fun _ _ _ h => h) (Or.inl ⟨by rfl, ?_⟩) ?_ ?_
   rotate_left
   ·intro w'
    go_simp
    with_reducible rfl
   rotate_left
   ·simp only [Act.put, List.setIfInBounds_toArray, List.set_cons_zero, List.set_cons_succ, i64_w, i32_w]
    rfl
   refine pure_ (i := 9) (N := some 14) (v := ?_) (a' := ?_) #[true, true, true, true, true, true, true, true, true, true, false] rfl rfl (any_of HT_.out (by kernel_rfl)) (fun _ _ _ h => h) (Or.inl ⟨by rfl, ?_⟩) ?_ ?_
   rotate_left
   ·intro w'
    go_simp
    with_reducible rfl
   rotate_left
   ·simp only [Act.put, List.setIfInBounds_toArray, List.set_cons_zero, List.set_cons_succ, i64_w, i32_w]
    rfl
   refine pure_ (i := 10) (N := some 15) (v := ?_) (a' := ?_) #[true, true, true, true, true, true, true, true, true, true, true] rfl rfl (any_of HT_.out (by kernel_rfl)) (fun _ _ _ h => h) (Or.inl ⟨by rfl, ?_⟩) ?_ ?_
   rotate_left
   ·intro w'
    go_simp
    with_reducible rfl
   rotate_left
   ·simp only [Act.put, List.setIfInBounds_toArray, List.set_cons_zero, List.set_cons_succ, i64_w, i32_w]
    rfl
   refine done_ (done_of HT_.out (by kernel_rfl)) ?_
   go_upto_region 12 with (fail)
   go_cut [63] (fun v63 wc => ∃ (kq : Nat) (x63_26 : Bool), v63 = .bool x63_26 ∧ Aside0 (laws_FnExactAdmitFlow.j0 kq l1 a3 t435 t438 t446 t453 t456 x63_26 a0_0 a0_1 a0_2 l0_3 a2_0 a2_1 a2_2 a2_3 t439 t440 t441 t442 = some r) ∧ Aside0 (kq ≤ k) ∧ Aside0 (Kd.R k42 42 wc w.heap.size (fun k_ => some k_ ≠ ((.slice Ao50 t446.length co50) : Value).ownBlock ∧ some k_ ≠ (v454 : Value).ownBlock) v436 t435) ∧ Aside0 (Kd.R k42 42 wc w.heap.size (fun k_ => some k_ ≠ (v436 : Value).ownBlock ∧ some k_ ≠ (v454 : Value).ownBlock) (.slice Ao50 t446.length co50) t446) ∧ Aside0 (Kd.R k42 42 wc w.heap.size (fun k_ => some k_ ≠ (v436 : Value).ownBlock ∧ some k_ ≠ ((.slice Ao50 t446.length co50) : Value).ownBlock) v454 t453) ∧ Aside0 (Kd.R k103 103 wc w.heap.size (fun _ => True) (.slice Ao46 t442.length co46) t442) ∧ Aside0 (wc.heap[gb418]? = some (.cells #[.int .i64 a0_0, .int .i64 a0_1, .int .i64 a0_2, (.slice A0_3 l0_3.length c0_3)] 24 (0, 0))) ∧ Aside0 (wc.heap[gb419]? = some (.cells #[.int .i64 a2_0, .int .i64 a2_1, .int .i64 a2_2, .int .i64 a2_3] 39 (0, 0))) ∧ Aside0 (wc.heap[gb445]? = some (.cells #[.int .i64 t439, .int .i64 t440, .int .i64 t441, (.slice Ao46 t442.length co46)] 31 (0, 0))) ∧ Aside0 (Below w.heap.size w wc))
   case first =>
    have H := HC27.out; clear HC27
    replace H := Option.bind_eq_some_iff.mp H
    obtain ⟨t457, A520, H⟩ := H
    (try dsimp only at H)
    have A52 := aM_ A520; clear A520
    by_cases c53 : t457 = true
    ·subst c53
     have H1 : (laws_FnExactAdmitFlow.j0 k l1 a3 t435 t438 t446 t453 t456 (t456 != t438) a0_0 a0_1 a0_2 l0_3 a2_0 a2_1 a2_2 a2_3 t439 t440 t441 t442) = some r := by rw [if_pos rfl] at H; exact H
     clear H; have H := H1; clear H1
     have H' := aM_ H
     clear H
     obtain ⟨Ao54, co54, eo54⟩ := Kd.R_slice HO455.out
     subst eo54
     obtain ⟨Ao55, co55, eo55⟩ := Kd.R_slice HO437.out
     subst eo55
     go_wp2_with (first | ((with_reducible refine gate_callee (f := 18) rfl ?_); refine goesL_ (some 57) rfl rfl Try.func18 (by kernel_rfl) rfl #[.slice Ao54 t453.length co54, .slice Ao55 t435.length co55] rfl (by (try simp only [List.map_toArray, List.map_cons, List.map_nil]); first | done | rfl | (simp only [List.length_drop, List.length_take]; rfl)) ?_; (with_reducible refine (laws_eqFlowS.calls k _ _ t453 _ _ t435 true _ ?side1 ?side2 ?side3 ?side4 A52.out).mono ?_); (case side1 => repeat (first | exact (Kd.R_reads' HO455.out).2.2 | (with_reducible refine cA_ ?_ _) | (with_reducible refine cN_ ?_ _) | (with_reducible refine cD_ ?_))); (case side2 => exact (Kd.R_reads' HO455.out).2.1); (case side3 => repeat (first | exact (Kd.R_reads' HO437.out).2.2 | (with_reducible refine cA_ ?_ _) | (with_reducible refine cN_ ?_ _) | (with_reducible refine cD_ ?_))); (case side4 => exact (Kd.R_reads' HO437.out).2.1); rintro e w56 ⟨rfl, hb⟩; refine ⟨_, rfl, ?_⟩; have n0_ := aM_ (rB_ (rb_ HO427.out) hb); have n1_ := aM_ (rB_ (rb_ HO430.out) hb); have n2_ := aM_ (rB_ (rb_ HO437.out) hb); have n3_ := aM_ (rB_ (rb_ HO444.out) hb); have n4_ := aM_ (rB_ (rb_ HO448.out) hb); have n5_ := aM_ (rB_ (rb_ HO455.out) hb); have n6_ := aM_ (bB_ (g := gb418) (o := .cells #[.int .i64 a0_0, .int .i64 a0_1, .int .i64 a0_2, .slice A0_3 l0_3.length c0_3] 24 (0, 0)) (kb_ BK418.out) hb); have n7_ := aM_ (bB_ (g := gb419) (o := .cells #[.int .i64 a2_0, .int .i64 a2_1, .int .i64 a2_2, .int .i64 a2_3] 39 (0, 0)) (kb_ BK419.out) hb); have n8_ := aM_ (bB_ (g := gb445) (o := .cells #[.int .i64 t439, .int .i64 t440, .int .i64 t441, .slice Ao46 t442.length co46] 31 (0, 0)) (kb_ BK445.out) hb); have n9_ := aM_ (wS_ (bw_) hb); clear HO427; clear HO430; clear HO437; clear HO444; clear HO448; clear HO455; clear BK418; clear BK419; clear BK445; clear HB; have HO427 := n0_; have HO430 := n1_; have HO437 := n2_; have HO444 := n3_; have HO448 := n4_; have HO455 := n5_; have BK418 := n6_; have BK419 := n7_; have BK445 := n8_; have HB := n9_; clear n0_ n1_ n2_ n3_ n4_ n5_ n6_ n7_ n8_ n9_; (try clear hb); (try clear hb2); (try clear hk); (try clear hi)))
     go_meet
     case rel => exact ⟨_, ((t456 != t438)), (by first | rfl | (simp; done) | (simp [*]; done)), H', ⟨by first | omega | exact Nat.le_refl _⟩, ⟨by (with_reducible repeat (first | apply rA_ | apply rN_ | apply rD_)); exact Kd.R_mono HO437.out (fun _ hk => ⟨hk.1.2, hk.2⟩)⟩, ⟨by (with_reducible repeat (first | apply rA_ | apply rN_ | apply rD_)); exact Kd.R_mono HO448.out (fun _ hk => ⟨hk.1.2, hk.2⟩)⟩, ⟨by (with_reducible repeat (first | apply rA_ | apply rN_ | apply rD_)); exact Kd.R_mono HO455.out (fun _ hk => ⟨hk.1.2, hk.2⟩)⟩, ⟨by (with_reducible repeat (first | apply rA_ | apply rN_ | apply rD_)); exact Kd.R_mono HO444.out (fun _ hk => trivial)⟩, ⟨by (with_reducible repeat (first | refine bN_ ?_ _ | refine bD_ ?_ | refine bA_ ?_ _)); exact BK418.out⟩, ⟨by (with_reducible repeat (first | refine bN_ ?_ _ | refine bD_ ?_ | refine bA_ ?_ _)); exact BK419.out⟩, ⟨by (with_reducible repeat (first | refine bN_ ?_ _ | refine bD_ ?_ | refine bA_ ?_ _)); exact BK445.out⟩, ⟨bw_⟩⟩
    ·replace c53 := Bool.eq_false_iff.mpr c53
     subst c53
     have H1 : (laws_FnExactAdmitFlow.j0 k l1 a3 t435 t438 t446 t453 t456 true a0_0 a0_1 a0_2 l0_3 a2_0 a2_1 a2_2 a2_3 t439 t440 t441 t442) = some r := by rw [if_neg (show ¬ (false = true) by decide)] at H; exact H
     clear H; have H := H1; clear H1
     have H' := aM_ H
     clear H
     obtain ⟨Ao57, co57, eo57⟩ := Kd.R_slice HO455.out
     subst eo57
     obtain ⟨Ao58, co58, eo58⟩ := Kd.R_slice HO437.out
     subst eo58
     go_wp2_with (first | ((with_reducible refine gate_callee (f := 18) rfl ?_); refine goesL_ (some 57) rfl rfl Try.func18 (by kernel_rfl) rfl #[.slice Ao57 t453.length co57, .slice Ao58 t435.length co58] rfl (by (try simp only [List.map_toArray, List.map_cons, List.map_nil]); first | done | rfl | (simp only [List.length_drop, List.length_take]; rfl)) ?_; (with_reducible refine (laws_eqFlowS.calls k _ _ t453 _ _ t435 false _ ?side1 ?side2 ?side3 ?side4 A52.out).mono ?_); (case side1 => repeat (first | exact (Kd.R_reads' HO455.out).2.2 | (with_reducible refine cA_ ?_ _) | (with_reducible refine cN_ ?_ _) | (with_reducible refine cD_ ?_))); (case side2 => exact (Kd.R_reads' HO455.out).2.1); (case side3 => repeat (first | exact (Kd.R_reads' HO437.out).2.2 | (with_reducible refine cA_ ?_ _) | (with_reducible refine cN_ ?_ _) | (with_reducible refine cD_ ?_))); (case side4 => exact (Kd.R_reads' HO437.out).2.1); rintro e w59 ⟨rfl, hb⟩; refine ⟨_, rfl, ?_⟩; have n0_ := aM_ (rB_ (rb_ HO427.out) hb); have n1_ := aM_ (rB_ (rb_ HO430.out) hb); have n2_ := aM_ (rB_ (rb_ HO437.out) hb); have n3_ := aM_ (rB_ (rb_ HO444.out) hb); have n4_ := aM_ (rB_ (rb_ HO448.out) hb); have n5_ := aM_ (rB_ (rb_ HO455.out) hb); have n6_ := aM_ (bB_ (g := gb418) (o := .cells #[.int .i64 a0_0, .int .i64 a0_1, .int .i64 a0_2, .slice A0_3 l0_3.length c0_3] 24 (0, 0)) (kb_ BK418.out) hb); have n7_ := aM_ (bB_ (g := gb419) (o := .cells #[.int .i64 a2_0, .int .i64 a2_1, .int .i64 a2_2, .int .i64 a2_3] 39 (0, 0)) (kb_ BK419.out) hb); have n8_ := aM_ (bB_ (g := gb445) (o := .cells #[.int .i64 t439, .int .i64 t440, .int .i64 t441, .slice Ao46 t442.length co46] 31 (0, 0)) (kb_ BK445.out) hb); have n9_ := aM_ (wS_ (bw_) hb); clear HO427; clear HO430; clear HO437; clear HO444; clear HO448; clear HO455; clear BK418; clear BK419; clear BK445; clear HB; have HO427 := n0_; have HO430 := n1_; have HO437 := n2_; have HO444 := n3_; have HO448 := n4_; have HO455 := n5_; have BK418 := n6_; have BK419 := n7_; have BK445 := n8_; have HB := n9_; clear n0_ n1_ n2_ n3_ n4_ n5_ n6_ n7_ n8_ n9_; (try clear hb); (try clear hb2); (try clear hk); (try clear hi)))
     go_meet
     case rel => exact ⟨_, (true), (by first | rfl | (simp; done) | (simp [*]; done)), H', ⟨by first | omega | exact Nat.le_refl _⟩, ⟨by (with_reducible repeat (first | apply rA_ | apply rN_ | apply rD_)); exact Kd.R_mono HO437.out (fun _ hk => ⟨hk.1.2, hk.2⟩)⟩, ⟨by (with_reducible repeat (first | apply rA_ | apply rN_ | apply rD_)); exact Kd.R_mono HO448.out (fun _ hk => ⟨hk.1.2, hk.2⟩)⟩, ⟨by (with_reducible repeat (first | apply rA_ | apply rN_ | apply rD_)); exact Kd.R_mono HO455.out (fun _ hk => ⟨hk.1.2, hk.2⟩)⟩, ⟨by (with_reducible repeat (first | apply rA_ | apply rN_ | apply rD_)); exact Kd.R_mono HO444.out (fun _ hk => trivial)⟩, ⟨by (with_reducible repeat (first | refine bN_ ?_ _ | refine bD_ ?_ | refine bA_ ?_ _)); exact BK418.out⟩, ⟨by (with_reducible repeat (first | refine bN_ ?_ _ | refine bD_ ?_ | refine bA_ ?_ _)); exact BK419.out⟩, ⟨by (with_reducible repeat (first | refine bN_ ?_ _ | refine bD_ ?_ | refine bA_ ?_ _)); exact BK445.out⟩, ⟨bw_⟩⟩
   case rest =>
    clear HC27
    try clear c1
    try clear c2
    try clear p2
    try clear c3
    try clear c4
    try clear c5
    try clear c6
    try clear c6b0
    try clear c9
    try clear c11
    try clear c12
    try clear c13
    try clear c13b0
    try clear c14
    try clear c15
    try clear c16
    try clear c18
    try clear c19
    try clear c20
    try clear c21
    try clear c30
    try clear c43
    try clear c44
    try clear c53
    try clear hcz10_0
    try clear hcz10_1
    try clear hcz10_2
    try clear hcz10_3
    try clear hcz17_0
    try clear hcz17_1
    try clear hcz17_2
    try clear hcz17_3
    try clear hcz31_0
    try clear hcz31_1
    try clear hcz31_2
    try clear hcz31_3
    try clear hcz40_0
    try clear hcz40_1
    try clear hcz40_2
    try clear hcz40_3
    try clear hcz45_0
    try clear hcz45_1
    try clear hcz45_2
    try clear hcz45_3
    try clear hfz10_0
    try clear hfz10_1
    try clear hfz10_2
    try clear hfz10_3
    try clear hfz17_0
    try clear hfz17_1
    try clear hfz17_2
    try clear hfz17_3
    try clear hfz31_0
    try clear hfz31_1
    try clear hfz31_2
    try clear hfz31_3
    try clear hfz40_0
    try clear hfz40_1
    try clear hfz40_2
    try clear hfz40_3
    try clear hfz45_0
    try clear hfz45_1
    try clear hfz45_2
    try clear hfz45_3
    obtain ⟨kq, x63_26, rfl, HA, HJ26, HO_10, HO_13, HO_14, HO_446003, BK418, BK419, BK445, HB⟩ := hcut
    cases kq with
    | zero => exact absurd HA.out (by simp [laws_FnExactAdmitFlow.j0])
    | succ kj26 =>
     have H := HA.out; clear HA
     simp only [laws_FnExactAdmitFlow.j0] at H
     by_cases c60 : x63_26 = true
     ·subst c60
      have H1 : (some false) = some r := by rw [if_pos rfl] at H; exact H
      clear H; have H := H1; clear H1
      exact absurd ((Option.some.inj H).trans HTRUE.out) (by decide)
     ·replace c60 := Bool.eq_false_iff.mpr c60
      subst c60
      have H1 : ((laws_toProgram.f kj26 a0_0 a0_1 a0_2 l0_3).bind fun bt458 => ((laws_eqProgram.f kj26 t439 t440 t441 t442 bt458.1 bt458.2.1 bt458.2.2.1 bt458.2.2.2).bind fun t464 => (if t464 = true then ((laws_toFlowS.f kj26 l1).bind fun t465 => ((laws_eqFlowS.f kj26 t446 t465).bind fun t468 => (if t468 = true then ((laws_markProgram.f t439 t440 t441 t442 1).bind fun t469 => ((laws_markFlowS.f kj26 t446 t469).bind fun bt470 => (if bt470.1 < 0 then (laws_FnExactAdmitFlow.j1 kj26 l1 a3 t435 t438 t453 true a0_0 a0_1 a0_2 l0_3 a2_0 a2_1 a2_2 a2_3) else ((laws_eqFlowS.f kj26 t453 t435).bind fun t472 => (if t472 = true then (laws_FnExactAdmitFlow.j1 kj26 l1 a3 t435 t438 t453 (t456 != t438) a0_0 a0_1 a0_2 l0_3 a2_0 a2_1 a2_2 a2_3) else (laws_FnExactAdmitFlow.j1 kj26 l1 a3 t435 t438 t453 true a0_0 a0_1 a0_2 l0_3 a2_0 a2_1 a2_2 a2_3)))))) else (some false)))) else (some false)))) = some r := by rw [if_neg (show ¬ (false = true) by decide)] at H; exact H
      clear H; have H := H1; clear H1
      replace H := Option.bind_eq_some_iff.mp H
      obtain ⟨⟨t458, t459, t460, t461⟩, A610, H⟩ := H
      (try dsimp only at H)
      have A61 := aM_ A610; clear A610
      replace H := Option.bind_eq_some_iff.mp H
      obtain ⟨t464, A620, H⟩ := H
      (try dsimp only at H)
      have A62 := aM_ A620; clear A620
      by_cases c63 : t464 = true
      ·subst c63
       have H1 : ((laws_toFlowS.f kj26 l1).bind fun t465 => ((laws_eqFlowS.f kj26 t446 t465).bind fun t468 => (if t468 = true then ((laws_markProgram.f t439 t440 t441 t442 1).bind fun t469 => ((laws_markFlowS.f kj26 t446 t469).bind fun bt470 => (if bt470.1 < 0 then (laws_FnExactAdmitFlow.j1 kj26 l1 a3 t435 t438 t453 true a0_0 a0_1 a0_2 l0_3 a2_0 a2_1 a2_2 a2_3) else ((laws_eqFlowS.f kj26 t453 t435).bind fun t472 => (if t472 = true then (laws_FnExactAdmitFlow.j1 kj26 l1 a3 t435 t438 t453 (t456 != t438) a0_0 a0_1 a0_2 l0_3 a2_0 a2_1 a2_2 a2_3) else (laws_FnExactAdmitFlow.j1 kj26 l1 a3 t435 t438 t453 true a0_0 a0_1 a0_2 l0_3 a2_0 a2_1 a2_2 a2_3)))))) else (some false)))) = some r := by rw [if_pos rfl] at H; exact H
       clear H; have H := H1; clear H1
       replace H := Option.bind_eq_some_iff.mp H
       obtain ⟨t465, A640, H⟩ := H
       (try dsimp only at H)
       have A64 := aM_ A640; clear A640
       replace H := Option.bind_eq_some_iff.mp H
       obtain ⟨t468, A650, H⟩ := H
       (try dsimp only at H)
       have A65 := aM_ A650; clear A650
       by_cases c66 : t468 = true
       ·subst c66
        have H1 : ((laws_markProgram.f t439 t440 t441 t442 1).bind fun t469 => ((laws_markFlowS.f kj26 t446 t469).bind fun bt470 => (if bt470.1 < 0 then (laws_FnExactAdmitFlow.j1 kj26 l1 a3 t435 t438 t453 true a0_0 a0_1 a0_2 l0_3 a2_0 a2_1 a2_2 a2_3) else ((laws_eqFlowS.f kj26 t453 t435).bind fun t472 => (if t472 = true then (laws_FnExactAdmitFlow.j1 kj26 l1 a3 t435 t438 t453 (t456 != t438) a0_0 a0_1 a0_2 l0_3 a2_0 a2_1 a2_2 a2_3) else (laws_FnExactAdmitFlow.j1 kj26 l1 a3 t435 t438 t453 true a0_0 a0_1 a0_2 l0_3 a2_0 a2_1 a2_2 a2_3)))))) = some r := by rw [if_pos rfl] at H; exact H
        clear H; have H := H1; clear H1
        replace H := Option.bind_eq_some_iff.mp H
        obtain ⟨t469, A670, H⟩ := H
        (try dsimp only at H)
        have A67 := aM_ A670; clear A670
        replace H := Option.bind_eq_some_iff.mp H
        obtain ⟨⟨t470, t471⟩, A680, H⟩ := H
        (try dsimp only at H)
        have A68 := aM_ A680; clear A680; have HC69 := aM_ H; clear H
        try go_wp2
        have n0_ := aM_ (rD_ HO_10.out); have n1_ := aM_ (rD_ HO_13.out); have n2_ := aM_ (rD_ HO_14.out); have n3_ := aM_ (rD_ HO_446003.out); have n4_ := aM_ (bD_ BK418.out); have n5_ := aM_ (bD_ BK419.out); have n6_ := aM_ (bD_ BK445.out); have n7_ := aM_ (wD_ HB.out); clear HO_10 HO_13 HO_14 HO_446003 BK418 BK419 BK445 HB; have HO_10 := n0_; have HO_13 := n1_; have HO_14 := n2_; have HO_446003 := n3_; have BK418 := n4_; have BK419 := n5_; have BK445 := n6_; have HB := n7_; clear n0_ n1_ n2_ n3_ n4_ n5_ n6_ n7_
        refine start_ (n := 5) (S := fun w' => w'.cell? ⟨gb445, 0, none⟩ = some (.int .i64 t439) ∧ w'.cell? ⟨gb445, 1, none⟩ = some (.int .i64 t440) ∧ w'.cell? ⟨gb445, 2, none⟩ = some (.int .i64 t441) ∧ w'.cell? ⟨gb445, 3, none⟩ = some (.slice Ao46 t442.length co46) ∧ w'.cell? ⟨gb418, 0, none⟩ = some (.int .i64 a0_0) ∧ w'.cell? ⟨gb418, 1, none⟩ = some (.int .i64 a0_1) ∧ w'.cell? ⟨gb418, 2, none⟩ = some (.int .i64 a0_2) ∧ w'.cell? ⟨gb418, 3, none⟩ = some (.slice A0_3 l0_3.length c0_3)) (ds := []) #[false, false, false, false, false] (by kernel_rfl) rfl rfl ⟨(blk_cell BK445.out 0).trans rfl, (blk_cell BK445.out 1).trans rfl, (blk_cell BK445.out 2).trans rfl, (blk_cell BK445.out 3).trans rfl, (blk_cell BK418.out 0).trans rfl, (blk_cell BK418.out 1).trans rfl, (blk_cell BK418.out 2).trans rfl, (blk_cell BK418.out 3).trans rfl⟩ (fun hHeld => ?_)
        generalize wc.drew = w70 at HO_10 HO_13 HO_14 HO_446003 BK418 BK419 BK445 HB hHeld ⊢
        refine take_ (i := 0) (N := some 64) (v := ?_) (a' := ?_) #[true, false, false, false, false] rfl rfl (by kernel_rfl) (fun _ _ _ h => h) (Or.inl ⟨by rfl, ?_⟩) hHeld ?_ ?_
        rotate_left
        ·rintro w' ⟨s0, s1, s2, s3, s4, s5, s6, s7⟩
         go_simp
         with_reducible rfl
        rotate_left
        ·simp only [Act.put, List.setIfInBounds_toArray, List.set_cons_zero, List.set_cons_succ, i64_w, i32_w]
         rfl
        refine take_ (i := 1) (N := some 65) (v := ?_) (a' := ?_) #[true, true, false, false, false] rfl rfl (by kernel_rfl) (fun _ _ _ h => h) (Or.inl ⟨by rfl, ?_⟩) hHeld ?_ ?_
        rotate_left
        ·rintro w' ⟨s0, s1, s2, s3, s4, s5, s6, s7⟩
         go_simp
         with_reducible rfl
        rotate_left
        ·simp only [Act.put, List.setIfInBounds_toArray, List.set_cons_zero, List.set_cons_succ, i64_w, i32_w]
         rfl
        refine one_ (i := 2) (N := some 66) #[true, true, true, false, false] rfl rfl (by kernel_rfl) (by decide) (fun K hK => ?_)
        refine goes_ Try.func14 (by kernel_rfl) rfl #[.agg #[.int .i64 a0_0, .int .i64 a0_1, .int .i64 a0_2, .slice A0_3 l0_3.length c0_3]] (by rfl) rfl rfl (by (try simp only [List.map_toArray, List.map_cons, List.map_nil]); first | done | rfl | (simp only [List.length_drop, List.length_take]; rfl)) ?_
        with_reducible refine (laws_toProgram.calls kj26 a0_0 a0_1 a0_2 _ _ l0_3 t458 t459 t460 t461 _ ?side1 ?side2 A61.out).mono ?_
        (case side1 => repeat (first | exact (Kd.C_below HR0_3.out HB.out) | (with_reducible refine cA_ ?_ _) | (with_reducible refine cN_ ?_ _) | (with_reducible refine cD_ ?_)))
        (case side2 => exact HC0_3.out)
        rintro e w71 ⟨v462, rfl, ho0, hb⟩
        refine ⟨_, rfl, ?_⟩
        have n0_ := aM_ (rB_ (rb_ HO_10.out) hb); have n1_ := aM_ (rB_ (rb_ HO_13.out) hb); have n2_ := aM_ (rB_ (rb_ HO_14.out) hb); have n3_ := aM_ (Kd.R_elder' (rb_ HO_446003.out) (Kd.R_base ho0) hb); have n4_ := aM_ (Kd.R_lower (Kd.R_new' ho0 (Kd.R_lt (rb_ HO_446003.out))) (sZ_ (bw_))); have n5_ := aM_ (bB_ (g := gb418) (o := .cells #[.int .i64 a0_0, .int .i64 a0_1, .int .i64 a0_2, .slice A0_3 l0_3.length c0_3] 24 (0, 0)) (kb_ BK418.out) hb); have n6_ := aM_ (bB_ (g := gb419) (o := .cells #[.int .i64 a2_0, .int .i64 a2_1, .int .i64 a2_2, .int .i64 a2_3] 39 (0, 0)) (kb_ BK419.out) hb); have n7_ := aM_ (bB_ (g := gb445) (o := .cells #[.int .i64 t439, .int .i64 t440, .int .i64 t441, .slice Ao46 t442.length co46] 31 (0, 0)) (kb_ BK445.out) hb); have n8_ := aM_ (wS_ (bw_) hb); clear HO_10 HO_13 HO_14 HO_446003 BK418 BK419 BK445 HB; have HO_10 := n0_; have HO_13 := n1_; have HO_14 := n2_; have HO_446003 := n3_; have HO463 := n4_; have BK418 := n5_; have BK419 := n6_; have BK445 := n7_; have HB := n8_; clear n0_ n1_ n2_ n3_ n4_ n5_ n6_ n7_ n8_; (try clear hb); (try clear hb2); (try clear hk); (try clear hi); (try clear ho0)
        obtain ⟨Ao72, co72, eo72⟩ := Kd.R_slice HO463.out
        (first | subst eo72 | (injection eo72 with f1_ f2_ f3_; have f4_ := f1_.symm; have f5_ := f3_.symm; clear f1_ f2_ f3_; subst f4_; subst f5_))
        refine hK.out _ _ ⟨(blk_cell BK445.out 0).trans rfl, (blk_cell BK445.out 1).trans rfl, (blk_cell BK445.out 2).trans rfl, (blk_cell BK445.out 3).trans rfl, (blk_cell BK418.out 0).trans rfl, (blk_cell BK418.out 1).trans rfl, (blk_cell BK418.out 2).trans rfl, (blk_cell BK418.out 3).trans rfl⟩ (fun hHeld => ?_)
        clear hK K
        refine norm_ (a' := ?_) ?_ ?_
        rotate_left
        ·show Act.put _ (some 66) _ = _
         simp only [Act.put, List.setIfInBounds_toArray, List.set_cons_zero, List.set_cons_succ, i64_w, i32_w]
         rfl
        refine one_ (i := 3) (N := some 67) #[true, true, true, true, false] rfl rfl (by kernel_rfl) (by decide) (fun K hK => ?_)
        refine goes_ Try.func17 (by kernel_rfl) rfl #[.agg #[.int .i64 t439, .int .i64 t440, .int .i64 t441, .slice Ao46 t442.length co46], .agg #[.int .i64 t458, .int .i64 t459, .int .i64 t460, .slice Ao72 t461.length co72]] (by rfl) rfl rfl (by (try simp only [List.map_toArray, List.map_cons, List.map_nil]); first | done | rfl | (simp only [List.length_drop, List.length_take]; rfl)) ?_
        with_reducible refine (laws_eqProgram.calls kj26 t439 t440 t441 _ _ t442 t458 t459 t460 _ _ t461 true _ ?side1 ?side2 ?side3 ?side4 A62.out).mono ?_
        (case side1 => repeat (first | exact (Kd.R_reads' HO_446003.out).2.2 | (with_reducible refine cA_ ?_ _) | (with_reducible refine cN_ ?_ _) | (with_reducible refine cD_ ?_)))
        (case side2 => exact (Kd.R_reads' HO_446003.out).2.1)
        (case side3 => repeat (first | exact (Kd.R_reads' HO463.out).2.2 | (with_reducible refine cA_ ?_ _) | (with_reducible refine cN_ ?_ _) | (with_reducible refine cD_ ?_)))
        (case side4 => exact (Kd.R_reads' HO463.out).2.1)
        rintro e w73 ⟨rfl, hb⟩
        refine ⟨_, rfl, ?_⟩
        have n0_ := aM_ (rB_ (rb_ HO_10.out) hb); have n1_ := aM_ (rB_ (rb_ HO_13.out) hb); have n2_ := aM_ (rB_ (rb_ HO_14.out) hb); have n3_ := aM_ (rB_ (rb_ HO_446003.out) hb); have n4_ := aM_ (rB_ (rb_ HO463.out) hb); have n5_ := aM_ (bB_ (g := gb418) (o := .cells #[.int .i64 a0_0, .int .i64 a0_1, .int .i64 a0_2, .slice A0_3 l0_3.length c0_3] 24 (0, 0)) (kb_ BK418.out) hb); have n6_ := aM_ (bB_ (g := gb419) (o := .cells #[.int .i64 a2_0, .int .i64 a2_1, .int .i64 a2_2, .int .i64 a2_3] 39 (0, 0)) (kb_ BK419.out) hb); have n7_ := aM_ (bB_ (g := gb445) (o := .cells #[.int .i64 t439, .int .i64 t440, .int .i64 t441, .slice Ao46 t442.length co46] 31 (0, 0)) (kb_ BK445.out) hb); have n8_ := aM_ (wS_ (bw_) hb); clear HO_10 HO_13 HO_14 HO_446003 HO463 BK418 BK419 BK445 HB; have HO_10 := n0_; have HO_13 := n1_; have HO_14 := n2_; have HO_446003 := n3_; have HO463 := n4_; have BK418 := n5_; have BK419 := n6_; have BK445 := n7_; have HB := n8_; clear n0_ n1_ n2_ n3_ n4_ n5_ n6_ n7_ n8_; (try clear hb); (try clear hb2); (try clear hk); (try clear hi)
        refine hK.out _ _ ⟨(blk_cell BK445.out 0).trans rfl, (blk_cell BK445.out 1).trans rfl, (blk_cell BK445.out 2).trans rfl, (blk_cell BK445.out 3).trans rfl, (blk_cell BK418.out 0).trans rfl, (blk_cell BK418.out 1).trans rfl, (blk_cell BK418.out 2).trans rfl, (blk_cell BK418.out 3).trans rfl⟩ (fun hHeld => ?_)
        clear hK K
        refine norm_ (a' := ?_) ?_ ?_
        rotate_left
        ·show Act.put _ (some 67) _ = _
         simp only [Act.put, List.setIfInBounds_toArray, List.set_cons_zero, List.set_cons_succ, i64_w, i32_w]
         rfl
        refine pure_ (i := 4) (N := some 68) (v := ?_) (a' := ?_) #[true, true, true, true, true] rfl rfl (by kernel_rfl) (fun _ _ _ h => h) (Or.inl ⟨by rfl, ?_⟩) ?_ ?_
        rotate_left
        ·intro w'
         go_simp
         with_reducible rfl
        rotate_left
        ·simp only [Act.put, List.setIfInBounds_toArray, List.set_cons_zero, List.set_cons_succ, i64_w, i32_w]
         rfl
        refine done_ (by kernel_rfl) ?_
        go_upto_region 21 with (first | ((with_reducible refine gate_callee (f := 15) rfl ?_); refine goesL_ (some 71) rfl rfl Try.func15 (by kernel_rfl) rfl #[.slice A1 l1.length c1] rfl (by (try simp only [List.map_toArray, List.map_cons, List.map_nil]); first | done | rfl | (simp only [List.length_drop, List.length_take]; rfl)) ?_; (with_reducible refine (laws_toFlowS.calls kj26 _ _ l1 t465 _ ?side1 ?side2 A64.out).mono ?_); (case side1 => repeat (first | exact (Kd.C_below HR1.out HB.out) | (with_reducible refine cA_ ?_ _) | (with_reducible refine cN_ ?_ _) | (with_reducible refine cD_ ?_))); (case side2 => exact HC1.out); rintro e w74 ⟨v466, rfl, ho0, hb⟩; refine ⟨_, rfl, ?_⟩; have n0_ := aM_ (Kd.R_elder' (rb_ HO_10.out) (Kd.R_base ho0) hb); have n1_ := aM_ (Kd.R_elder' (rb_ HO_13.out) (Kd.R_base ho0) hb); have n2_ := aM_ (Kd.R_elder' (rb_ HO_14.out) (Kd.R_base ho0) hb); have n3_ := aM_ (rB_ (rb_ HO_446003.out) hb); have n4_ := aM_ (rB_ (rb_ HO463.out) hb); have n5_ := aM_ (Kd.R_lower (Kd.R_new' (Kd.R_new' (Kd.R_new' ho0 (Kd.R_lt (rb_ HO_10.out))) (Kd.R_lt (rb_ HO_13.out))) (Kd.R_lt (rb_ HO_14.out))) (sZ_ (bw_))); have n6_ := aM_ (bB_ (g := gb418) (o := .cells #[.int .i64 a0_0, .int .i64 a0_1, .int .i64 a0_2, .slice A0_3 l0_3.length c0_3] 24 (0, 0)) (kb_ BK418.out) hb); have n7_ := aM_ (bB_ (g := gb419) (o := .cells #[.int .i64 a2_0, .int .i64 a2_1, .int .i64 a2_2, .int .i64 a2_3] 39 (0, 0)) (kb_ BK419.out) hb); have n8_ := aM_ (bB_ (g := gb445) (o := .cells #[.int .i64 t439, .int .i64 t440, .int .i64 t441, .slice Ao46 t442.length co46] 31 (0, 0)) (kb_ BK445.out) hb); have n9_ := aM_ (wS_ (bw_) hb); clear HO_10; clear HO_13; clear HO_14; clear HO_446003; clear HO463; clear BK418; clear BK419; clear BK445; clear HB; have HO_10 := n0_; have HO_13 := n1_; have HO_14 := n2_; have HO_446003 := n3_; have HO463 := n4_; have HO467 := n5_; have BK418 := n6_; have BK419 := n7_; have BK445 := n8_; have HB := n9_; clear n0_ n1_ n2_ n3_ n4_ n5_ n6_ n7_ n8_ n9_; (try clear hb); (try clear hb2); (try clear hk); (try clear hi); (try clear ho0); obtain ⟨Ao75, co75, eo75⟩ := Kd.R_slice HO467.out; subst eo75) | ((with_reducible refine gate_callee (f := 18) rfl ?_); refine goesL_ (some 72) rfl rfl Try.func18 (by kernel_rfl) rfl #[.slice Ao50 t446.length co50, .slice Ao75 t465.length co75] rfl (by (try simp only [List.map_toArray, List.map_cons, List.map_nil]); first | done | rfl | (simp only [List.length_drop, List.length_take]; rfl)) ?_; (with_reducible refine (laws_eqFlowS.calls kj26 _ _ t446 _ _ t465 true _ ?side1 ?side2 ?side3 ?side4 A65.out).mono ?_); (case side1 => repeat (first | exact (Kd.R_reads' HO_13.out).2.2 | (with_reducible refine cA_ ?_ _) | (with_reducible refine cN_ ?_ _) | (with_reducible refine cD_ ?_))); (case side2 => exact (Kd.R_reads' HO_13.out).2.1); (case side3 => repeat (first | exact (Kd.R_reads' HO467.out).2.2 | (with_reducible refine cA_ ?_ _) | (with_reducible refine cN_ ?_ _) | (with_reducible refine cD_ ?_))); (case side4 => exact (Kd.R_reads' HO467.out).2.1); rintro e w76 ⟨rfl, hb⟩; refine ⟨_, rfl, ?_⟩; have n0_ := aM_ (rB_ (rb_ HO_10.out) hb); have n1_ := aM_ (rB_ (rb_ HO_13.out) hb); have n2_ := aM_ (rB_ (rb_ HO_14.out) hb); have n3_ := aM_ (rB_ (rb_ HO_446003.out) hb); have n4_ := aM_ (rB_ (rb_ HO463.out) hb); have n5_ := aM_ (rB_ (rb_ HO467.out) hb); have n6_ := aM_ (bB_ (g := gb418) (o := .cells #[.int .i64 a0_0, .int .i64 a0_1, .int .i64 a0_2, .slice A0_3 l0_3.length c0_3] 24 (0, 0)) (kb_ BK418.out) hb); have n7_ := aM_ (bB_ (g := gb419) (o := .cells #[.int .i64 a2_0, .int .i64 a2_1, .int .i64 a2_2, .int .i64 a2_3] 39 (0, 0)) (kb_ BK419.out) hb); have n8_ := aM_ (bB_ (g := gb445) (o := .cells #[.int .i64 t439, .int .i64 t440, .int .i64 t441, .slice Ao46 t442.length co46] 31 (0, 0)) (kb_ BK445.out) hb); have n9_ := aM_ (wS_ (bw_) hb); clear HO_10; clear HO_13; clear HO_14; clear HO_446003; clear HO463; clear HO467; clear BK418; clear BK419; clear BK445; clear HB; have HO_10 := n0_; have HO_13 := n1_; have HO_14 := n2_; have HO_446003 := n3_; have HO463 := n4_; have HO467 := n5_; have BK418 := n6_; have BK419 := n7_; have BK445 := n8_; have HB := n9_; clear n0_ n1_ n2_ n3_ n4_ n5_ n6_ n7_ n8_ n9_; (try clear hb); (try clear hb2); (try clear hk); (try clear hi); have hnb77 := NB445_418.out; have hnc77 := NB418_445.out; have hnb78 := NB445_419.out; have hnc78 := NB419_445.out; have hcz79_0 : w76.cell? ⟨gb445, 0, none⟩ = some (.int .i64 t439) := (blk_cell BK445.out 0).trans rfl; have hcz79_1 : w76.cell? ⟨gb445, 1, none⟩ = some (.int .i64 t440) := (blk_cell BK445.out 1).trans rfl; have hcz79_2 : w76.cell? ⟨gb445, 2, none⟩ = some (.int .i64 t441) := (blk_cell BK445.out 2).trans rfl; have hcz79_3 : w76.cell? ⟨gb445, 3, none⟩ = some (.slice Ao46 t442.length co46) := (blk_cell BK445.out 3).trans rfl; have hfz79_0 := blk_frozen BK445.out 0; have hfz79_1 := blk_frozen BK445.out 1; have hfz79_2 := blk_frozen BK445.out 2; have hfz79_3 := blk_frozen BK445.out 3) | ((with_reducible refine gate_callee (f := 22) rfl ?_); refine goesL_ (some 76) rfl rfl Try.func22 (by kernel_rfl) rfl #[.agg #[.int .i64 t439, .int .i64 t440, .int .i64 t441, .slice Ao46 t442.length co46], .int .i64 1] rfl (by (try simp only [List.map_toArray, List.map_cons, List.map_nil]); first | done | rfl | (simp only [List.length_drop, List.length_take]; rfl)) ?_; (with_reducible refine (laws_markProgram.calls t439 t440 t441 ?P_ (.slice Ao46 t442.length co46) t442 1 t469 w _ ?side1 ?side2 A67.out).mono ?_); (case side1 => repeat (first | (with_reducible first | exact HB.out | apply wA_ | apply wN_ | apply wD_ | refine wE_ ?_ GE418.out | refine wE_ ?_ GE419.out | refine wE_ ?_ GE445.out) | exact HB.out)); (case side2 => exact Kd.R_bound (HO_446003.out)); rintro e w80 ⟨rfl, hb, hkp⟩; refine ⟨_, rfl, ?_⟩; have n0_ := aM_ (Kd.R_mono (ok := fun k_ => some k_ = (v436 : Value).ownBlock) (ok' := fun k_ => some k_ ≠ (.slice Ao50 t446.length co50 : Value).ownBlock ∧ some k_ ≠ (v454 : Value).ownBlock ∧ some k_ ≠ (.slice Ao75 t465.length co75 : Value).ownBlock) (Kd.R_mono (Kd.R_keptB (Kd.R_tight rfl (HO_10.out)) hkp (fun k_ hk_ hs_ => (by obtain ⟨c_, hc_⟩ := Kd.R_typed (HO_10.out) k_ hk_.symm; exact not_types_ hc_ hs_.2.2.2 (by decide)))) (fun _ h_ => h_.1)) (fun k_ hk_ => ⟨(by have p_ := ((HO_10.out).1 k_ hk_.symm); revert p_; (try simp only [and_imp]); repeat (first | assumption | intro _)), (by have p_ := ((HO_10.out).1 k_ hk_.symm); revert p_; (try simp only [and_imp]); repeat (first | assumption | intro _)), (by have p_ := ((HO_10.out).1 k_ hk_.symm); revert p_; (try simp only [and_imp]); repeat (first | assumption | intro _))⟩)); have n1_ := aM_ (Kd.R_mono (ok := fun k_ => some k_ = (.slice Ao50 t446.length co50 : Value).ownBlock) (ok' := fun k_ => some k_ ≠ (v436 : Value).ownBlock ∧ some k_ ≠ (v454 : Value).ownBlock ∧ some k_ ≠ (.slice Ao75 t465.length co75 : Value).ownBlock) (Kd.R_mono (Kd.R_keptB (Kd.R_tight rfl (HO_13.out)) hkp (fun k_ hk_ hs_ => (by obtain ⟨c_, hc_⟩ := Kd.R_typed (HO_13.out) k_ hk_.symm; exact not_types_ hc_ hs_.2.2.2 (by decide)))) (fun _ h_ => h_.1)) (fun k_ hk_ => ⟨(by have p_ := ((HO_13.out).1 k_ hk_.symm); revert p_; (try simp only [and_imp]); repeat (first | assumption | intro _)), (by have p_ := ((HO_13.out).1 k_ hk_.symm); revert p_; (try simp only [and_imp]); repeat (first | assumption | intro _)), (by have p_ := ((HO_13.out).1 k_ hk_.symm); revert p_; (try simp only [and_imp]); repeat (first | assumption | intro _))⟩)); have n2_ := aM_ (Kd.R_mono (ok := fun k_ => some k_ = (v454 : Value).ownBlock) (ok' := fun k_ => some k_ ≠ (v436 : Value).ownBlock ∧ some k_ ≠ (.slice Ao50 t446.length co50 : Value).ownBlock ∧ some k_ ≠ (.slice Ao75 t465.length co75 : Value).ownBlock) (Kd.R_mono (Kd.R_keptB (Kd.R_tight rfl (HO_14.out)) hkp (fun k_ hk_ hs_ => (by obtain ⟨c_, hc_⟩ := Kd.R_typed (HO_14.out) k_ hk_.symm; exact not_types_ hc_ hs_.2.2.2 (by decide)))) (fun _ h_ => h_.1)) (fun k_ hk_ => ⟨(by have p_ := ((HO_14.out).1 k_ hk_.symm); revert p_; (try simp only [and_imp]); repeat (first | assumption | intro _)), (by have p_ := ((HO_14.out).1 k_ hk_.symm); revert p_; (try simp only [and_imp]); repeat (first | assumption | intro _)), (by have p_ := ((HO_14.out).1 k_ hk_.symm); revert p_; (try simp only [and_imp]); repeat (first | assumption | intro _))⟩)); have n3_ := aM_ (blk_kept (kb_ BK418.out) hkp (fun hs_ => not_types_ (kb_ BK418.out) hs_.2.2.2 (by decide))); have n4_ := aM_ (blk_kept (kb_ BK419.out) hkp (fun hs_ => not_types_ (kb_ BK419.out) hs_.2.2.2 (by decide))); have n5_ := aM_ (blk_kept (kb_ BK445.out) hkp (fun hs_ => not_types_ (kb_ BK445.out) hs_.2.2.2 (by decide))); have n6_ := aM_ (Kd.R_mono (ok := fun k_ => some k_ = (.slice Ao75 t465.length co75 : Value).ownBlock) (ok' := fun k_ => some k_ ≠ (v436 : Value).ownBlock ∧ some k_ ≠ (.slice Ao50 t446.length co50 : Value).ownBlock ∧ some k_ ≠ (v454 : Value).ownBlock) (Kd.R_mono (Kd.R_keptB (Kd.R_tight rfl (HO467.out)) hkp (fun k_ hk_ hs_ => (by obtain ⟨c_, hc_⟩ := Kd.R_typed (HO467.out) k_ hk_.symm; exact not_types_ hc_ hs_.2.2.2 (by decide)))) (fun _ h_ => h_.1)) (fun k_ hk_ => ⟨(by have p_ := ((HO467.out).1 k_ hk_.symm); revert p_; (try simp only [and_imp]); repeat (first | assumption | intro _)), (by have p_ := ((HO467.out).1 k_ hk_.symm); revert p_; (try simp only [and_imp]); repeat (first | assumption | intro _)), (by have p_ := ((HO467.out).1 k_ hk_.symm); revert p_; (try simp only [and_imp]); repeat (first | assumption | intro _))⟩)); have n7_ := aM_ (hb); clear HO_10; clear HO_13; clear HO_14; clear BK418; clear BK419; clear BK445; clear HO467; clear HB; clear HO_446003; clear HO463; have HO_10 := n0_; have HO_13 := n1_; have HO_14 := n2_; have BK418 := n3_; have BK419 := n4_; have BK445 := n5_; have HO467 := n6_; have HB := n7_; clear n0_ n1_ n2_ n3_ n4_ n5_ n6_ n7_; (try clear hb); (try clear hkp)) | ((with_reducible refine gate_callee (f := 23) rfl ?_); refine goesL_ (some 79) rfl rfl Try.func23 (by kernel_rfl) rfl #[.slice Ao50 t446.length co50, .int .i64 t469] rfl (by (try simp only [List.map_toArray, List.map_cons, List.map_nil]); first | done | rfl | (simp only [List.length_drop, List.length_take]; rfl)) ?_; (with_reducible refine (laws_markFlowS.calls kj26 (fun k_ => some k_ = (.slice Ao50 t446.length co50 : Value).ownBlock) (.slice Ao50 t446.length co50) t446 t469 t470 t471 w _ ?side1 ?side2 A68.out).mono ?_); (case side1 => repeat (first | (with_reducible first | exact HB.out | apply wA_ | apply wN_ | apply wD_ | refine wE_ ?_ GE418.out | refine wE_ ?_ GE419.out | refine wE_ ?_ GE445.out) | exact HB.out)); (case side2 => exact Kd.R_tight rfl HO_13.out); rintro e w81 ⟨rfl, hy0, hb, hkp⟩; refine ⟨_, rfl, ?_⟩; have n0_ := aM_ (Kd.R_mono (ok' := fun k_ => some k_ ≠ (.slice Ao50 t446.length co50 : Value).ownBlock ∧ some k_ ≠ (v454 : Value).ownBlock ∧ some k_ ≠ (.slice Ao75 t465.length co75 : Value).ownBlock) (Kd.R_keptB (HO_10.out) hkp (fun k_ hk_ hs_ => (hk_.1) hs_)) (fun k_ hk_ => ⟨hk_.1.1, hk_.1.2.1, hk_.1.2.2⟩)); have n1_ := aM_ (Kd.R_reok rfl hy0 (fun k_ e_ => HO_13.out.1 k_ e_)); have n2_ := aM_ (Kd.R_mono (ok' := fun k_ => some k_ ≠ (v436 : Value).ownBlock ∧ some k_ ≠ (.slice Ao50 t446.length co50 : Value).ownBlock ∧ some k_ ≠ (.slice Ao75 t465.length co75 : Value).ownBlock) (Kd.R_keptB (HO_14.out) hkp (fun k_ hk_ hs_ => (hk_.2.1) hs_)) (fun k_ hk_ => ⟨hk_.1.1, hk_.1.2.1, hk_.1.2.2⟩)); have n3_ := aM_ (blk_kept (kb_ BK418.out) hkp (fun hs_ => (fun e_ => (Kd.R_ne HO_13.out BK418.out (by decide)) e_) hs_)); have n4_ := aM_ (blk_kept (kb_ BK419.out) hkp (fun hs_ => (fun e_ => (Kd.R_ne HO_13.out BK419.out (by decide)) e_) hs_)); have n5_ := aM_ (blk_kept (kb_ BK445.out) hkp (fun hs_ => (fun e_ => (Kd.R_ne HO_13.out BK445.out (by decide)) e_) hs_)); have n6_ := aM_ (Kd.R_mono (ok' := fun k_ => some k_ ≠ (v436 : Value).ownBlock ∧ some k_ ≠ (.slice Ao50 t446.length co50 : Value).ownBlock ∧ some k_ ≠ (v454 : Value).ownBlock) (Kd.R_keptB (HO467.out) hkp (fun k_ hk_ hs_ => (hk_.2.1) hs_)) (fun k_ hk_ => ⟨hk_.1.1, hk_.1.2.1, hk_.1.2.2⟩)); have n7_ := aM_ (hb); clear HO_10; clear HO_13; clear HO_14; clear BK418; clear BK419; clear BK445; clear HO467; clear HB; have HO_10 := n0_; have HO_13 := n1_; have HO_14 := n2_; have BK418 := n3_; have BK419 := n4_; have BK445 := n5_; have HO467 := n6_; have HB := n7_; clear n0_ n1_ n2_ n3_ n4_ n5_ n6_ n7_; (try clear hb); (try clear hkp); (try clear hy0)))
        (try simp only [Act.put, List.setIfInBounds_toArray, List.set_cons_zero, List.set_cons_succ])
        go_cut [92] (fun v92 wc => ∃ (kq : Nat) (x92_68 : Bool), v92 = .bool x92_68 ∧ Aside0 (laws_FnExactAdmitFlow.j1 kq l1 a3 t435 t438 t453 x92_68 a0_0 a0_1 a0_2 l0_3 a2_0 a2_1 a2_2 a2_3 = some r) ∧ Aside0 (kq ≤ kj26) ∧ Aside0 (Kd.R k42 42 wc w.heap.size (fun k_ => some k_ ≠ (v454 : Value).ownBlock) v436 t435) ∧ Aside0 (Kd.R k42 42 wc w.heap.size (fun k_ => some k_ ≠ (v436 : Value).ownBlock) v454 t453) ∧ Aside0 (wc.heap[gb418]? = some (.cells #[.int .i64 a0_0, .int .i64 a0_1, .int .i64 a0_2, (.slice A0_3 l0_3.length c0_3)] 24 (0, 0))) ∧ Aside0 (wc.heap[gb419]? = some (.cells #[.int .i64 a2_0, .int .i64 a2_1, .int .i64 a2_2, .int .i64 a2_3] 39 (0, 0))) ∧ Aside0 (Below w.heap.size w wc))
        case first =>
         have H := HC69.out; clear HC69
         by_cases c82 : t470 < 0
         ·rw [if_pos c82] at H
          have c82b0 : decide (t470 < 0) = true := decide_eq_true c82
          clear c82
          (first | rw [c82b0] | (simp only [i64_w, i32_w]; rw [c82b0]) | skip)
          have H' := aM_ H
          clear H
          go_wp2
          go_meet
          case rel => exact ⟨_, (true), (by first | rfl | (simp; done) | (simp [*]; done)), H', ⟨by have := HJ26.out; first | omega | exact Nat.le_refl _⟩, ⟨by (with_reducible repeat (first | apply rA_ | apply rN_ | apply rD_)); exact Kd.R_mono HO_10.out (fun _ hk => hk.2.1)⟩, ⟨by (with_reducible repeat (first | apply rA_ | apply rN_ | apply rD_)); exact Kd.R_mono HO_14.out (fun _ hk => hk.1)⟩, ⟨by (with_reducible repeat (first | refine bN_ ?_ _ | refine bD_ ?_ | refine bA_ ?_ _)); exact BK418.out⟩, ⟨by (with_reducible repeat (first | refine bN_ ?_ _ | refine bD_ ?_ | refine bA_ ?_ _)); exact BK419.out⟩, ⟨bw_⟩⟩
         ·rw [if_neg c82] at H
          have c82b0 : decide (t470 < 0) = false := decide_eq_false c82
          clear c82
          (first | rw [c82b0] | (simp only [i64_w, i32_w]; rw [c82b0]) | skip)
          replace H := Option.bind_eq_some_iff.mp H
          obtain ⟨t472, A830, H⟩ := H
          (try dsimp only at H)
          have A83 := aM_ A830; clear A830
          by_cases c84 : t472 = true
          ·subst c84
           have H1 : (laws_FnExactAdmitFlow.j1 kj26 l1 a3 t435 t438 t453 (t456 != t438) a0_0 a0_1 a0_2 l0_3 a2_0 a2_1 a2_2 a2_3) = some r := by rw [if_pos rfl] at H; exact H
           clear H; have H := H1; clear H1
           have H' := aM_ H
           clear H
           obtain ⟨Ao85, co85, eo85⟩ := Kd.R_slice HO_14.out
           subst eo85
           obtain ⟨Ao86, co86, eo86⟩ := Kd.R_slice HO_10.out
           subst eo86
           go_wp2_with (first | (go_at_call 18; (with_reducible refine (laws_eqFlowS.calls kj26 _ _ t453 _ _ t435 true _ ?side1 ?side2 ?side3 ?side4 A83.out).mono ?_); (case side1 => repeat (first | exact (Kd.R_reads' HO_14.out).2.2 | (with_reducible refine cA_ ?_ _) | (with_reducible refine cN_ ?_ _) | (with_reducible refine cD_ ?_))); (case side2 => exact (Kd.R_reads' HO_14.out).2.1); (case side3 => repeat (first | exact (Kd.R_reads' HO_10.out).2.2 | (with_reducible refine cA_ ?_ _) | (with_reducible refine cN_ ?_ _) | (with_reducible refine cD_ ?_))); (case side4 => exact (Kd.R_reads' HO_10.out).2.1); rintro e w87 ⟨rfl, hb⟩; have n0_ := aM_ (rB_ (rb_ HO_10.out) hb); have n1_ := aM_ (rB_ (rb_ HO_13.out) hb); have n2_ := aM_ (rB_ (rb_ HO_14.out) hb); have n3_ := aM_ (rB_ (rb_ HO467.out) hb); have n4_ := aM_ (bB_ (g := gb418) (o := .cells #[.int .i64 a0_0, .int .i64 a0_1, .int .i64 a0_2, .slice A0_3 l0_3.length c0_3] 24 (0, 0)) (kb_ BK418.out) hb); have n5_ := aM_ (bB_ (g := gb419) (o := .cells #[.int .i64 a2_0, .int .i64 a2_1, .int .i64 a2_2, .int .i64 a2_3] 39 (0, 0)) (kb_ BK419.out) hb); have n6_ := aM_ (bB_ (g := gb445) (o := .cells #[.int .i64 t439, .int .i64 t440, .int .i64 t441, .slice Ao46 t442.length co46] 31 (0, 0)) (kb_ BK445.out) hb); have n7_ := aM_ (wS_ (bw_) hb); clear HO_10; clear HO_13; clear HO_14; clear HO467; clear BK418; clear BK419; clear BK445; clear HB; have HO_10 := n0_; have HO_13 := n1_; have HO_14 := n2_; have HO467 := n3_; have BK418 := n4_; have BK419 := n5_; have BK445 := n6_; have HB := n7_; clear n0_ n1_ n2_ n3_ n4_ n5_ n6_ n7_; (try clear hb); (try clear hb2); (try clear hk); (try clear hi)))
           go_meet
           case rel => exact ⟨_, ((t456 != t438)), (by first | rfl | (simp; done) | (simp [*]; done)), H', ⟨by have := HJ26.out; first | omega | exact Nat.le_refl _⟩, ⟨by (with_reducible repeat (first | apply rA_ | apply rN_ | apply rD_)); exact Kd.R_mono HO_10.out (fun _ hk => hk.2.1)⟩, ⟨by (with_reducible repeat (first | apply rA_ | apply rN_ | apply rD_)); exact Kd.R_mono HO_14.out (fun _ hk => hk.1)⟩, ⟨by (with_reducible repeat (first | refine bN_ ?_ _ | refine bD_ ?_ | refine bA_ ?_ _)); exact BK418.out⟩, ⟨by (with_reducible repeat (first | refine bN_ ?_ _ | refine bD_ ?_ | refine bA_ ?_ _)); exact BK419.out⟩, ⟨bw_⟩⟩
          ·replace c84 := Bool.eq_false_iff.mpr c84
           subst c84
           have H1 : (laws_FnExactAdmitFlow.j1 kj26 l1 a3 t435 t438 t453 true a0_0 a0_1 a0_2 l0_3 a2_0 a2_1 a2_2 a2_3) = some r := by rw [if_neg (show ¬ (false = true) by decide)] at H; exact H
           clear H; have H := H1; clear H1
           have H' := aM_ H
           clear H
           obtain ⟨Ao88, co88, eo88⟩ := Kd.R_slice HO_14.out
           subst eo88
           obtain ⟨Ao89, co89, eo89⟩ := Kd.R_slice HO_10.out
           subst eo89
           go_wp2_with (first | (go_at_call 18; (with_reducible refine (laws_eqFlowS.calls kj26 _ _ t453 _ _ t435 false _ ?side1 ?side2 ?side3 ?side4 A83.out).mono ?_); (case side1 => repeat (first | exact (Kd.R_reads' HO_14.out).2.2 | (with_reducible refine cA_ ?_ _) | (with_reducible refine cN_ ?_ _) | (with_reducible refine cD_ ?_))); (case side2 => exact (Kd.R_reads' HO_14.out).2.1); (case side3 => repeat (first | exact (Kd.R_reads' HO_10.out).2.2 | (with_reducible refine cA_ ?_ _) | (with_reducible refine cN_ ?_ _) | (with_reducible refine cD_ ?_))); (case side4 => exact (Kd.R_reads' HO_10.out).2.1); rintro e w90 ⟨rfl, hb⟩; have n0_ := aM_ (rB_ (rb_ HO_10.out) hb); have n1_ := aM_ (rB_ (rb_ HO_13.out) hb); have n2_ := aM_ (rB_ (rb_ HO_14.out) hb); have n3_ := aM_ (rB_ (rb_ HO467.out) hb); have n4_ := aM_ (bB_ (g := gb418) (o := .cells #[.int .i64 a0_0, .int .i64 a0_1, .int .i64 a0_2, .slice A0_3 l0_3.length c0_3] 24 (0, 0)) (kb_ BK418.out) hb); have n5_ := aM_ (bB_ (g := gb419) (o := .cells #[.int .i64 a2_0, .int .i64 a2_1, .int .i64 a2_2, .int .i64 a2_3] 39 (0, 0)) (kb_ BK419.out) hb); have n6_ := aM_ (bB_ (g := gb445) (o := .cells #[.int .i64 t439, .int .i64 t440, .int .i64 t441, .slice Ao46 t442.length co46] 31 (0, 0)) (kb_ BK445.out) hb); have n7_ := aM_ (wS_ (bw_) hb); clear HO_10; clear HO_13; clear HO_14; clear HO467; clear BK418; clear BK419; clear BK445; clear HB; have HO_10 := n0_; have HO_13 := n1_; have HO_14 := n2_; have HO467 := n3_; have BK418 := n4_; have BK419 := n5_; have BK445 := n6_; have HB := n7_; clear n0_ n1_ n2_ n3_ n4_ n5_ n6_ n7_; (try clear hb); (try clear hb2); (try clear hk); (try clear hi)))
           go_meet
           case rel => exact ⟨_, (true), (by first | rfl | (simp; done) | (simp [*]; done)), H', ⟨by have := HJ26.out; first | omega | exact Nat.le_refl _⟩, ⟨by (with_reducible repeat (first | apply rA_ | apply rN_ | apply rD_)); exact Kd.R_mono HO_10.out (fun _ hk => hk.2.1)⟩, ⟨by (with_reducible repeat (first | apply rA_ | apply rN_ | apply rD_)); exact Kd.R_mono HO_14.out (fun _ hk => hk.1)⟩, ⟨by (with_reducible repeat (first | refine bN_ ?_ _ | refine bD_ ?_ | refine bA_ ?_ _)); exact BK418.out⟩, ⟨by (with_reducible repeat (first | refine bN_ ?_ _ | refine bD_ ?_ | refine bA_ ?_ _)); exact BK419.out⟩, ⟨bw_⟩⟩
        case rest =>
         clear HC69
         try clear c1
         try clear c2
         try clear p2
         try clear c3
         try clear c4
         try clear c5
         try clear c6
         try clear c6b0
         try clear c7
         try clear c8
         try clear c9
         try clear c11
         try clear c12
         try clear c13
         try clear c13b0
         try clear c14
         try clear c15
         try clear c16
         try clear c17
         try clear c18
         try clear c19
         try clear c20
         try clear c21
         try clear c22
         try clear c23
         try clear c30
         try clear c43
         try clear c44
         try clear c53
         try clear c60
         try clear c63
         try clear c66
         try clear c77
         try clear c78
         try clear c82
         try clear c82b0
         try clear c84
         try clear hcz10_0
         try clear hcz10_1
         try clear hcz10_2
         try clear hcz10_3
         try clear hcz17_0
         try clear hcz17_1
         try clear hcz17_2
         try clear hcz17_3
         try clear hcz31_0
         try clear hcz31_1
         try clear hcz31_2
         try clear hcz31_3
         try clear hcz40_0
         try clear hcz40_1
         try clear hcz40_2
         try clear hcz40_3
         try clear hcz45_0
         try clear hcz45_1
         try clear hcz45_2
         try clear hcz45_3
         try clear hcz79_0
         try clear hcz79_1
         try clear hcz79_2
         try clear hcz79_3
         try clear hfz10_0
         try clear hfz10_1
         try clear hfz10_2
         try clear hfz10_3
         try clear hfz17_0
         try clear hfz17_1
         try clear hfz17_2
         try clear hfz17_3
         try clear hfz31_0
         try clear hfz31_1
         try clear hfz31_2
         try clear hfz31_3
         try clear hfz40_0
         try clear hfz40_1
         try clear hfz40_2
         try clear hfz40_3
         try clear hfz45_0
         try clear hfz45_1
         try clear hfz45_2
         try clear hfz45_3
         try clear hfz79_0
         try clear hfz79_1
         try clear hfz79_2
         try clear hfz79_3
         try clear p2
         obtain ⟨kq, x92_68, rfl, HA, HJ68, HO_10, HO_14, BK418, BK419, HB⟩ := hcut
         cases kq with
         | zero => exact absurd HA.out (by simp [laws_FnExactAdmitFlow.j1])
         | succ kj68 =>
          have H := HA.out; clear HA
          simp only [laws_FnExactAdmitFlow.j1] at H
          by_cases c91 : x92_68 = true
          ·subst c91
           have H1 : (some false) = some r := by rw [if_pos rfl] at H; exact H
           clear H; have H := H1; clear H1
           exact absurd ((Option.some.inj H).trans HTRUE.out) (by decide)
          ·replace c91 := Bool.eq_false_iff.mpr c91
           subst c91
           have H1 : ((laws_markFlowS.f kj68 t453 1).bind fun bt473 => ((laws_heldFlowS.f kj68 bt473.2 1).bind fun t475 => (if t475 < 0 then (some false) else (if t475 = bt473.1 then ((laws_toProgram.f kj68 a0_0 a0_1 a0_2 l0_3).bind fun bt476 => ((laws_toFlowS.f kj68 l1).bind fun t482 => ((laws_toFlow.f a2_0 a2_1 a2_2 a2_3).bind fun bt485 => ((impl_AdmitFlow.f kj68 bt476.1 bt476.2.1 bt476.2.2.1 bt476.2.2.2 t482 bt485.1 bt485.2.1 bt485.2.2.1 bt485.2.2.2 a3).bind fun bt489 => ((laws_eqFlowS.f kj68 bt489.1 t435).bind fun t493 => (if t493 = true then (laws_FnExactAdmitFlow.j2 kj68 bt473.2 bt473.1 (bt489.2 != t438)) else (laws_FnExactAdmitFlow.j2 kj68 bt473.2 bt473.1 true))))))) else (some false))))) = some r := by rw [if_neg (show ¬ (false = true) by decide)] at H; exact H
           clear H; have H := H1; clear H1
           replace H := Option.bind_eq_some_iff.mp H
           obtain ⟨⟨t473, t474⟩, A920, H⟩ := H
           (try dsimp only at H)
           have A92 := aM_ A920; clear A920
           replace H := Option.bind_eq_some_iff.mp H
           obtain ⟨t475, A930, H⟩ := H
           (try dsimp only at H)
           have A93 := aM_ A930; clear A930
           by_cases c94 : t475 < 0
           ·rw [if_pos c94] at H
            have c94b0 : decide (t475 < 0) = true := decide_eq_true c94
            clear c94
            exact absurd ((Option.some.inj H).trans HTRUE.out) (by decide)
           ·rw [if_neg c94] at H
            have c94b0 : decide (t475 < 0) = false := decide_eq_false c94
            clear c94
            by_cases c95 : t475 = t473
            ·rw [if_pos c95] at H
             have c95b0 : (t475 == t473) = true := beq_iff_eq.mpr c95
             have c95b1 : (t475 != t473) = false := bne_eq_false_iff_eq.mpr c95
             clear c95
             replace H := Option.bind_eq_some_iff.mp H
             obtain ⟨⟨t476, t477, t478, t479⟩, A960, H⟩ := H
             (try dsimp only at H)
             have A96 := aM_ A960; clear A960
             replace H := Option.bind_eq_some_iff.mp H
             obtain ⟨t482, A970, H⟩ := H
             (try dsimp only at H)
             have A97 := aM_ A970; clear A970
             replace H := Option.bind_eq_some_iff.mp H
             obtain ⟨⟨t485, t486, t487, t488⟩, A980, H⟩ := H
             (try dsimp only at H)
             have A98 := aM_ A980; clear A980
             replace H := Option.bind_eq_some_iff.mp H
             obtain ⟨⟨t489, t492⟩, A990, H⟩ := H
             (try dsimp only at H)
             have A99 := aM_ A990; clear A990; have HC100 := aM_ H; clear H
             obtain ⟨Ao101, co101, eo101⟩ := Kd.R_slice HO_14.out
             subst eo101
             try go_wp2_with (first | ((with_reducible refine gate_callee (f := 23) rfl ?_); refine goesL_ (some 95) rfl rfl Try.func23 (by kernel_rfl) rfl #[.slice Ao101 t453.length co101, .int .i64 1] rfl (by (try simp only [List.map_toArray, List.map_cons, List.map_nil]); first | done | rfl | (simp only [List.length_drop, List.length_take]; rfl)) ?_; (with_reducible refine (laws_markFlowS.calls kj68 (fun k_ => some k_ = (.slice Ao101 t453.length co101 : Value).ownBlock) (.slice Ao101 t453.length co101) t453 1 t473 t474 w _ ?side1 ?side2 A92.out).mono ?_); (case side1 => repeat (first | (with_reducible first | exact HB.out | apply wA_ | apply wN_ | apply wD_ | refine wE_ ?_ GE418.out | refine wE_ ?_ GE419.out) | exact HB.out)); (case side2 => exact Kd.R_tight rfl HO_14.out); rintro e w102 ⟨rfl, hy0, hb, hkp⟩; refine ⟨_, rfl, ?_⟩; have n0_ := aM_ (Kd.R_mono (ok' := fun k_ => some k_ ≠ (.slice Ao101 t453.length co101 : Value).ownBlock) (Kd.R_keptB (HO_10.out) hkp (fun k_ hk_ hs_ => (hk_) hs_)) (fun k_ hk_ => hk_.1)); have n1_ := aM_ (Kd.R_reok rfl hy0 (fun k_ e_ => HO_14.out.1 k_ e_)); have n2_ := aM_ (blk_kept (kb_ BK418.out) hkp (fun hs_ => (fun e_ => (Kd.R_ne HO_14.out BK418.out (by decide)) e_) hs_)); have n3_ := aM_ (blk_kept (kb_ BK419.out) hkp (fun hs_ => (fun e_ => (Kd.R_ne HO_14.out BK419.out (by decide)) e_) hs_)); have n4_ := aM_ (hb); clear HO_10; clear HO_14; clear BK418; clear BK419; clear HB; have HO_10 := n0_; have HO_14 := n1_; have BK418 := n2_; have BK419 := n3_; have HB := n4_; clear n0_ n1_ n2_ n3_ n4_; (try clear hb); (try clear hkp); (try clear hy0)) | ((with_reducible refine gate_callee (f := 24) rfl ?_); refine goesL_ (some 98) rfl rfl Try.func24 (by kernel_rfl) rfl #[.slice Ao101 t474.length co101, .int .i64 1] rfl (by (try simp only [List.map_toArray, List.map_cons, List.map_nil]); first | done | (rw [show t474.length = t453.length from (Kd.R_reads' HO_14.out).1.symm] <;> rfl) | rfl | (simp only [List.length_drop, List.length_take]; rfl)) ?_; (with_reducible refine (laws_heldFlowS.calls kj68 _ _ t474 1 t475 _ ?side1 ?side2 A93.out).mono ?_); (case side1 => repeat (first | exact (Kd.R_reads' HO_14.out).2.2 | (with_reducible refine cA_ ?_ _) | (with_reducible refine cN_ ?_ _) | (with_reducible refine cD_ ?_))); (case side2 => rw [show t474.length = t453.length from (Kd.R_reads' HO_14.out).1.symm]; exact (Kd.R_reads' HO_14.out).2.1); rintro e w' ⟨rfl, ⟨nd, rfl⟩⟩; refine ⟨_, rfl, ?_⟩))
             (try (rw [drewN_self w102]; generalize hq_ : World.drewN w102 _ = w102; have n0_ : Aside0 (Kd.R k42 42 w102 w.heap.size (fun k_ => some k_ ≠ (.slice Ao101 t453.length co101 : Value).ownBlock) v436 t435) := ⟨by rw [← hq_]; exact (rb_ HO_10.out)⟩; have n1_ : Aside0 (Kd.R k42 42 w102 w.heap.size (fun k_ => some k_ ≠ (v436 : Value).ownBlock) (.slice Ao101 t453.length co101) t474) := ⟨by rw [← hq_]; exact (rb_ HO_14.out)⟩; have n2_ : Aside0 (w102.heap[gb418]? = some (.cells #[.int .i64 a0_0, .int .i64 a0_1, .int .i64 a0_2, .slice A0_3 l0_3.length c0_3] 24 (0, 0))) := ⟨by rw [← hq_]; exact (kb_ BK418.out)⟩; have n3_ : Aside0 (w102.heap[gb419]? = some (.cells #[.int .i64 a2_0, .int .i64 a2_1, .int .i64 a2_2, .int .i64 a2_3] 39 (0, 0))) := ⟨by rw [← hq_]; exact (kb_ BK419.out)⟩; have n4_ : Aside0 (Below w.heap.size w w102) := ⟨by rw [← hq_]; exact (bw_)⟩; clear HO_10 HO_14 BK418 BK419 HB hq_; have HO_10 := n0_; have HO_14 := n1_; have BK418 := n2_; have BK419 := n3_; have HB := n4_; clear n0_ n1_ n2_ n3_ n4_))
             have n0_ := aM_ (rD_ HO_10.out); have n1_ := aM_ (rD_ HO_14.out); have n2_ := aM_ (bD_ BK418.out); have n3_ := aM_ (bD_ BK419.out); have n4_ := aM_ (wD_ HB.out); clear HO_10 HO_14 BK418 BK419 HB; have HO_10 := n0_; have HO_14 := n1_; have BK418 := n2_; have BK419 := n3_; have HB := n4_; clear n0_ n1_ n2_ n3_ n4_
             refine start_ (n := 13) (S := fun w' => w'.cell? ⟨gb418, 0, none⟩ = some (.int .i64 a0_0) ∧ w'.cell? ⟨gb418, 1, none⟩ = some (.int .i64 a0_1) ∧ w'.cell? ⟨gb418, 2, none⟩ = some (.int .i64 a0_2) ∧ w'.cell? ⟨gb418, 3, none⟩ = some (.slice A0_3 l0_3.length c0_3) ∧ w'.cell? ⟨gb419, 0, none⟩ = some (.int .i64 a2_0) ∧ w'.cell? ⟨gb419, 1, none⟩ = some (.int .i64 a2_1) ∧ w'.cell? ⟨gb419, 2, none⟩ = some (.int .i64 a2_2) ∧ w'.cell? ⟨gb419, 3, none⟩ = some (.int .i64 a2_3)) (ds := []) #[false, false, false, false, false, false, false, false, false, false, false, false, false] (by kernel_rfl) rfl rfl ⟨(blk_cell BK418.out 0).trans rfl, (blk_cell BK418.out 1).trans rfl, (blk_cell BK418.out 2).trans rfl, (blk_cell BK418.out 3).trans rfl, (blk_cell BK419.out 0).trans rfl, (blk_cell BK419.out 1).trans rfl, (blk_cell BK419.out 2).trans rfl, (blk_cell BK419.out 3).trans rfl⟩ (fun hHeld => ?_); refine with_tabW laws_FnExactAdmitFlow.tab31 laws_FnExactAdmitFlow.bits31 (fun HT_ HW_ => ?_)
             generalize w102.drew = w103 at HO_10 HO_14 BK418 BK419 HB hHeld ⊢
             refine pure_ (i := 2) (N := some 107) (v := ?_) (a' := ?_) #[false, false, true, false, false, false, false, false, false, false, false, false, false] rfl rfl (any_of HT_.out (by kernel_rfl)) (fun _ _ _ h => h) (Or.inl ⟨by rfl, ?_⟩) ?_ ?_
             rotate_left
             ·intro w'
              go_simp
              with_reducible rfl
             rotate_left
             ·simp only [Act.put, List.setIfInBounds_toArray, List.set_cons_zero, List.set_cons_succ, i64_w, i32_w]
              rfl
             refine pure_ (i := 6) (N := some 111) (v := ?_) (a' := ?_) #[false, false, true, false, false, false, true, false, false, false, false, false, false] rfl rfl (any_of HT_.out (by kernel_rfl)) (fun _ _ _ h => h) (Or.inl ⟨by rfl, ?_⟩) ?_ ?_
             rotate_left
             ·intro w'
              go_simp
              with_reducible rfl
             rotate_left
             ·simp only [Act.put, List.setIfInBounds_toArray, List.set_cons_zero, List.set_cons_succ, i64_w, i32_w]
              rfl
             refine take_ (i := 0) (N := some 105) (v := ?_) (a' := ?_) #[true, false, true, false, false, false, true, false, false, false, false, false, false] rfl rfl (take_ofW HT_.out HW_.out (by kernel_rfl)) (fun _ _ _ h => h) (Or.inl ⟨by rfl, ?_⟩) hHeld ?_ ?_
             rotate_left
             ·rintro w' ⟨s0, s1, s2, s3, s4, s5, s6, s7⟩
              go_simp
              with_reducible rfl
             rotate_left
             ·simp only [Act.put, List.setIfInBounds_toArray, List.set_cons_zero, List.set_cons_succ, i64_w, i32_w]
              rfl
             refine take_ (i := 4) (N := some 109) (v := ?_) (a' := ?_) #[true, false, true, false, true, false, true, false, false, false, false, false, false] rfl rfl (take_ofW HT_.out HW_.out (by kernel_rfl)) (fun _ _ _ h => h) (Or.inl ⟨by rfl, ?_⟩) hHeld ?_ ?_
             rotate_left
             ·rintro w' ⟨s0, s1, s2, s3, s4, s5, s6, s7⟩
              go_simp
              with_reducible rfl
             rotate_left
             ·simp only [Act.put, List.setIfInBounds_toArray, List.set_cons_zero, List.set_cons_succ, i64_w, i32_w]
              rfl
             refine one_ (i := 1) (N := some 106) #[true, true, true, false, true, false, true, false, false, false, false, false, false] rfl rfl (one_of HT_.out (by kernel_rfl)) (by decide) (fun K hK => ?_)
             refine goes_ Try.func14 (by kernel_rfl) rfl #[.agg #[.int .i64 a0_0, .int .i64 a0_1, .int .i64 a0_2, .slice A0_3 l0_3.length c0_3]] (by rfl) rfl rfl (by (try simp only [List.map_toArray, List.map_cons, List.map_nil]); first | done | rfl | (simp only [List.length_drop, List.length_take]; rfl)) ?_
             with_reducible refine (laws_toProgram.calls kj68 a0_0 a0_1 a0_2 _ _ l0_3 t476 t477 t478 t479 _ ?side1 ?side2 A96.out).mono ?_
             (case side1 => repeat (first | exact (Kd.C_below HR0_3.out HB.out) | (with_reducible refine cA_ ?_ _) | (with_reducible refine cN_ ?_ _) | (with_reducible refine cD_ ?_)))
             (case side2 => exact HC0_3.out)
             rintro e w104 ⟨v480, rfl, ho0, hb⟩
             refine ⟨_, rfl, ?_⟩
             have n0_ := aM_ (rB_ (rb_ HO_10.out) hb); have n1_ := aM_ (rB_ (rb_ HO_14.out) hb); have n2_ := aM_ (Kd.R_lower ho0 (sZ_ (bw_))); have n3_ := aM_ (bB_ (g := gb418) (o := .cells #[.int .i64 a0_0, .int .i64 a0_1, .int .i64 a0_2, .slice A0_3 l0_3.length c0_3] 24 (0, 0)) (kb_ BK418.out) hb); have n4_ := aM_ (bB_ (g := gb419) (o := .cells #[.int .i64 a2_0, .int .i64 a2_1, .int .i64 a2_2, .int .i64 a2_3] 39 (0, 0)) (kb_ BK419.out) hb); have n5_ := aM_ (wS_ (bw_) hb); clear HO_10 HO_14 BK418 BK419 HB; have HO_10 := n0_; have HO_14 := n1_; have HO481 := n2_; have BK418 := n3_; have BK419 := n4_; have HB := n5_; clear n0_ n1_ n2_ n3_ n4_ n5_; (try clear hb); (try clear hb2); (try clear hk); (try clear hi); (try clear ho0)
             refine hK.out _ _ ⟨(blk_cell BK418.out 0).trans rfl, (blk_cell BK418.out 1).trans rfl, (blk_cell BK418.out 2).trans rfl, (blk_cell BK418.out 3).trans rfl, (blk_cell BK419.out 0).trans rfl, (blk_cell BK419.out 1).trans rfl, (blk_cell BK419.out 2).trans rfl, (blk_cell BK419.out 3).trans rfl⟩ (fun hHeld => ?_)
             clear hK K
             refine norm_ (a' := ?_) ?_ ?_
             rotate_left
             ·show Act.put _ (some 106) _ = _
              simp only [Act.put, List.setIfInBounds_toArray, List.set_cons_zero, List.set_cons_succ, i64_w, i32_w]
              rfl
             refine one_ (i := 3) (N := some 108) #[true, true, true, true, true, false, true, false, false, false, false, false, false] rfl rfl (one_of HT_.out (by kernel_rfl)) (by decide) (fun K hK => ?_)
             refine goes_ Try.func15 (by kernel_rfl) rfl #[.slice A1 l1.length c1] (by rfl) rfl rfl (by (try simp only [List.map_toArray, List.map_cons, List.map_nil]); first | done | rfl | (simp only [List.length_drop, List.length_take]; rfl)) ?_
             with_reducible refine (laws_toFlowS.calls kj68 _ _ l1 t482 _ ?side1 ?side2 A97.out).mono ?_
             (case side1 => repeat (first | exact (Kd.C_below HR1.out HB.out) | (with_reducible refine cA_ ?_ _) | (with_reducible refine cN_ ?_ _) | (with_reducible refine cD_ ?_)))
             (case side2 => exact HC1.out)
             rintro e w105 ⟨v483, rfl, ho0, hb⟩
             refine ⟨_, rfl, ?_⟩
             have n0_ := aM_ (Kd.R_elder' (rb_ HO_10.out) (Kd.R_base ho0) hb); have n1_ := aM_ (Kd.R_elder' (rb_ HO_14.out) (Kd.R_base ho0) hb); have n2_ := aM_ (rB_ (rb_ HO481.out) hb); have n3_ := aM_ (Kd.R_lower (Kd.R_new' (Kd.R_new' ho0 (Kd.R_lt (rb_ HO_10.out))) (Kd.R_lt (rb_ HO_14.out))) (sZ_ (bw_))); have n4_ := aM_ (bB_ (g := gb418) (o := .cells #[.int .i64 a0_0, .int .i64 a0_1, .int .i64 a0_2, .slice A0_3 l0_3.length c0_3] 24 (0, 0)) (kb_ BK418.out) hb); have n5_ := aM_ (bB_ (g := gb419) (o := .cells #[.int .i64 a2_0, .int .i64 a2_1, .int .i64 a2_2, .int .i64 a2_3] 39 (0, 0)) (kb_ BK419.out) hb); have n6_ := aM_ (wS_ (bw_) hb); clear HO_10 HO_14 HO481 BK418 BK419 HB; have HO_10 := n0_; have HO_14 := n1_; have HO481 := n2_; have HO484 := n3_; have BK418 := n4_; have BK419 := n5_; have HB := n6_; clear n0_ n1_ n2_ n3_ n4_ n5_ n6_; (try clear hb); (try clear hb2); (try clear hk); (try clear hi); (try clear ho0)
             refine hK.out _ _ ⟨(blk_cell BK418.out 0).trans rfl, (blk_cell BK418.out 1).trans rfl, (blk_cell BK418.out 2).trans rfl, (blk_cell BK418.out 3).trans rfl, (blk_cell BK419.out 0).trans rfl, (blk_cell BK419.out 1).trans rfl, (blk_cell BK419.out 2).trans rfl, (blk_cell BK419.out 3).trans rfl⟩ (fun hHeld => ?_)
             clear hK K
             refine norm_ (a' := ?_) ?_ ?_
             rotate_left
             ·show Act.put _ (some 108) _ = _
              simp only [Act.put, List.setIfInBounds_toArray, List.set_cons_zero, List.set_cons_succ, i64_w, i32_w]
              rfl
             refine one_ (i := 5) (N := some 110) #[true, true, true, true, true, true, true, false, false, false, false, false, false] rfl rfl (one_of HT_.out (by kernel_rfl)) (by decide) (fun K hK => ?_)
             refine goes_ Try.func20 (by kernel_rfl) rfl #[.agg #[.int .i64 a2_0, .int .i64 a2_1, .int .i64 a2_2, .int .i64 a2_3]] (by rfl) rfl rfl (by (try simp only [List.map_toArray, List.map_cons, List.map_nil]); first | done | rfl | (simp only [List.length_drop, List.length_take]; rfl)) ?_
             with_reducible refine (laws_toFlow.calls a2_0 a2_1 a2_2 a2_3 t485 t486 t487 t488 _ A98.out).mono ?_
             rintro e w106 ⟨rfl, hb⟩
             refine ⟨_, rfl, ?_⟩
             have n0_ := aM_ (rB_ (rb_ HO_10.out) hb); have n1_ := aM_ (rB_ (rb_ HO_14.out) hb); have n2_ := aM_ (rB_ (rb_ HO481.out) hb); have n3_ := aM_ (rB_ (rb_ HO484.out) hb); have n4_ := aM_ (bB_ (g := gb418) (o := .cells #[.int .i64 a0_0, .int .i64 a0_1, .int .i64 a0_2, .slice A0_3 l0_3.length c0_3] 24 (0, 0)) (kb_ BK418.out) hb); have n5_ := aM_ (bB_ (g := gb419) (o := .cells #[.int .i64 a2_0, .int .i64 a2_1, .int .i64 a2_2, .int .i64 a2_3] 39 (0, 0)) (kb_ BK419.out) hb); have n6_ := aM_ (wS_ (bw_) hb); clear HO_10 HO_14 HO481 HO484 BK418 BK419 HB; have HO_10 := n0_; have HO_14 := n1_; have HO481 := n2_; have HO484 := n3_; have BK418 := n4_; have BK419 := n5_; have HB := n6_; clear n0_ n1_ n2_ n3_ n4_ n5_ n6_; (try clear hb); (try clear hb2); (try clear hk); (try clear hi)
             obtain ⟨Ao107, co107, eo107⟩ := Kd.R_slice HO481.out
             (first | subst eo107 | (injection eo107 with f1_ f2_ f3_; have f4_ := f1_.symm; have f5_ := f3_.symm; clear f1_ f2_ f3_; subst f4_; subst f5_))
             obtain ⟨Ao108, co108, eo108⟩ := Kd.R_slice HO484.out
             (first | subst eo108 | (injection eo108 with f1_ f2_ f3_; have f4_ := f1_.symm; have f5_ := f3_.symm; clear f1_ f2_ f3_; subst f4_; subst f5_))
             refine hK.out _ _ ⟨(blk_cell BK418.out 0).trans rfl, (blk_cell BK418.out 1).trans rfl, (blk_cell BK418.out 2).trans rfl, (blk_cell BK418.out 3).trans rfl, (blk_cell BK419.out 0).trans rfl, (blk_cell BK419.out 1).trans rfl, (blk_cell BK419.out 2).trans rfl, (blk_cell BK419.out 3).trans rfl⟩ (fun hHeld => ?_)
             clear hK K
             refine norm_ (a' := ?_) ?_ ?_
             rotate_left
             ·show Act.put _ (some 110) _ = _
              simp only [Act.put, List.setIfInBounds_toArray, List.set_cons_zero, List.set_cons_succ, i64_w, i32_w]
              rfl
             refine one_ (i := 7) (N := some 112) #[true, true, true, true, true, true, true, true, false, false, false, false, false] rfl rfl (one_of HT_.out (by kernel_rfl)) (by decide) (fun K hK => ?_)
             refine goes_ Try.func21 (by kernel_rfl) rfl #[.agg #[.int .i64 t476, .int .i64 t477, .int .i64 t478, .slice Ao107 t479.length co107], .slice Ao108 t482.length co108, .agg #[.int .i64 t485, .int .i64 t486, .int .i64 t487, .int .i64 t488], .int .i64 a3] (by rfl) rfl rfl (by (try simp only [List.map_toArray, List.map_cons, List.map_nil]); first | done | rfl | (simp only [List.length_drop, List.length_take]; rfl)) ?_
             with_reducible refine (impl_AdmitFlow.calls kj68 t476 t477 t478 _ _ t479 _ _ t482 t485 t486 t487 t488 a3 t489 t492 _ ?side1 ?side2 ?side3 ?side4 A99.out).mono ?_
             (case side1 => repeat (first | exact (Kd.R_reads' HO481.out).2.2 | (with_reducible refine cA_ ?_ _) | (with_reducible refine cN_ ?_ _) | (with_reducible refine cD_ ?_)))
             (case side2 => exact (Kd.R_reads' HO481.out).2.1)
             (case side3 => repeat (first | exact (Kd.R_reads' HO484.out).2.2 | (with_reducible refine cA_ ?_ _) | (with_reducible refine cN_ ?_ _) | (with_reducible refine cD_ ?_)))
             (case side4 => exact (Kd.R_reads' HO484.out).2.1)
             rintro e w109 ⟨v490, rfl, ho0, hb⟩
             refine ⟨_, rfl, ?_⟩
             have n0_ := aM_ (Kd.R_elder' (rb_ HO_10.out) (Kd.R_base ho0) hb); have n1_ := aM_ (Kd.R_elder' (rb_ HO_14.out) (Kd.R_base ho0) hb); have n2_ := aM_ (rB_ (rb_ HO481.out) hb); have n3_ := aM_ (Kd.R_elder' (rb_ HO484.out) (Kd.R_base ho0) hb); have n4_ := aM_ (Kd.R_lower (Kd.R_new' (Kd.R_new' (Kd.R_new' ho0 (Kd.R_lt (rb_ HO_10.out))) (Kd.R_lt (rb_ HO_14.out))) (Kd.R_lt (rb_ HO484.out))) (sZ_ (bw_))); have n5_ := aM_ (bB_ (g := gb418) (o := .cells #[.int .i64 a0_0, .int .i64 a0_1, .int .i64 a0_2, .slice A0_3 l0_3.length c0_3] 24 (0, 0)) (kb_ BK418.out) hb); have n6_ := aM_ (bB_ (g := gb419) (o := .cells #[.int .i64 a2_0, .int .i64 a2_1, .int .i64 a2_2, .int .i64 a2_3] 39 (0, 0)) (kb_ BK419.out) hb); have n7_ := aM_ (wS_ (bw_) hb); clear HO_10 HO_14 HO481 HO484 BK418 BK419 HB; have HO_10 := n0_; have HO_14 := n1_; have HO481 := n2_; have HO484 := n3_; have HO491 := n4_; have BK418 := n5_; have BK419 := n6_; have HB := n7_; clear n0_ n1_ n2_ n3_ n4_ n5_ n6_ n7_; (try clear hb); (try clear hb2); (try clear hk); (try clear hi); (try clear ho0)
             refine hK.out _ _ ⟨(blk_cell BK418.out 0).trans rfl, (blk_cell BK418.out 1).trans rfl, (blk_cell BK418.out 2).trans rfl, (blk_cell BK418.out 3).trans rfl, (blk_cell BK419.out 0).trans rfl, (blk_cell BK419.out 1).trans rfl, (blk_cell BK419.out 2).trans rfl, (blk_cell BK419.out 3).trans rfl⟩ (fun hHeld => ?_)
             clear hK K
             refine norm_ (a' := ?_) ?_ ?_
             rotate_left
             ·show Act.put _ (some 112) _ = _
              simp only [Act.put, List.setIfInBounds_toArray, List.set_cons_zero, List.set_cons_succ, i64_w, i32_w]
              rfl
             refine pure_ (i := 8) (N := some 104) (v := ?_) (a' := ?_) #[true, true, true, true, true, true, true, true, true, false, false, false, false] rfl rfl (any_of HT_.out (by kernel_rfl)) (fun _ _ _ h => h) (Or.inl ⟨by rfl, ?_⟩) ?_ ?_
             rotate_left
             ·intro w'
              go_simp
              with_reducible rfl
             rotate_left
             ·simp only [Act.put, List.setIfInBounds_toArray, List.set_cons_zero, List.set_cons_succ, i64_w, i32_w]
              rfl
             refine pure_ (i := 9) (N := some 113) (v := ?_) (a' := ?_) #[true, true, true, true, true, true, true, true, true, true, false, false, false] rfl rfl (any_of HT_.out (by kernel_rfl)) (fun _ _ _ h => h) (Or.inl ⟨by rfl, ?_⟩) ?_ ?_
             rotate_left
             ·intro w'
              go_simp
              with_reducible rfl
             rotate_left
             ·simp only [Act.put, List.setIfInBounds_toArray, List.set_cons_zero, List.set_cons_succ, i64_w, i32_w]
              rfl
             refine pure_ (i := 10) (N := some 114) (v := ?_) (a' := ?_) #[true, true, true, true, true, true, true, true, true, true, true, false, false] rfl rfl (any_of HT_.out (by kernel_rfl)) (fun _ _ _ h => h) (Or.inl ⟨by rfl, ?_⟩) ?_ ?_
             rotate_left
             ·intro w'
              go_simp
              with_reducible rfl
             rotate_left
             ·simp only [Act.put, List.setIfInBounds_toArray, List.set_cons_zero, List.set_cons_succ, i64_w, i32_w]
              rfl
             refine pure_ (i := 11) (N := some 19) (v := ?_) (a' := ?_) #[true, true, true, true, true, true, true, true, true, true, true, true, false] rfl rfl (any_of HT_.out (by kernel_rfl)) (fun _ _ _ h => h) (Or.inl ⟨by rfl, ?_⟩) ?_ ?_
             rotate_left
             ·intro w'
              go_simp
              with_reducible rfl
             rotate_left
             ·simp only [Act.put, List.setIfInBounds_toArray, List.set_cons_zero, List.set_cons_succ, i64_w, i32_w]
              rfl
             refine pure_ (i := 12) (N := some 20) (v := ?_) (a' := ?_) #[true, true, true, true, true, true, true, true, true, true, true, true, true] rfl rfl (any_of HT_.out (by kernel_rfl)) (fun _ _ _ h => h) (Or.inl ⟨by rfl, ?_⟩) ?_ ?_
             rotate_left
             ·intro w'
              go_simp
              with_reducible rfl
             rotate_left
             ·simp only [Act.put, List.setIfInBounds_toArray, List.set_cons_zero, List.set_cons_succ, i64_w, i32_w]
              rfl
             refine done_ (done_of HT_.out (by kernel_rfl)) ?_
             go_upto_region 32 with (fail)
             go_cut [123] (fun v123 wc => ∃ (kq : Nat) (x123_99 : Bool), v123 = .bool x123_99 ∧ Aside0 (laws_FnExactAdmitFlow.j2 kq t474 t473 x123_99 = some r) ∧ Aside0 (kq ≤ kj68) ∧ Aside0 (Kd.R k42 42 wc w.heap.size (fun _ => True) (.slice Ao101 t453.length co101) t474) ∧ Aside0 (wc.heap[gb418]? = some (.cells #[.int .i64 a0_0, .int .i64 a0_1, .int .i64 a0_2, (.slice A0_3 l0_3.length c0_3)] 24 (0, 0))) ∧ Aside0 (wc.heap[gb419]? = some (.cells #[.int .i64 a2_0, .int .i64 a2_1, .int .i64 a2_2, .int .i64 a2_3] 39 (0, 0))) ∧ Aside0 (Below w.heap.size w wc))
             case first =>
              have H := HC100.out; clear HC100
              replace H := Option.bind_eq_some_iff.mp H
              obtain ⟨t493, A1100, H⟩ := H
              (try dsimp only at H)
              have A110 := aM_ A1100; clear A1100
              by_cases c111 : t493 = true
              ·subst c111
               have H1 : (laws_FnExactAdmitFlow.j2 kj68 t474 t473 (t492 != t438)) = some r := by rw [if_pos rfl] at H; exact H
               clear H; have H := H1; clear H1
               have H' := aM_ H
               clear H
               obtain ⟨Ao112, co112, eo112⟩ := Kd.R_slice HO491.out
               subst eo112
               obtain ⟨Ao113, co113, eo113⟩ := Kd.R_slice HO_10.out
               subst eo113
               go_wp2_with (first | ((with_reducible refine gate_callee (f := 18) rfl ?_); refine goesL_ (some 117) rfl rfl Try.func18 (by kernel_rfl) rfl #[.slice Ao112 t489.length co112, .slice Ao113 t435.length co113] rfl (by (try simp only [List.map_toArray, List.map_cons, List.map_nil]); first | done | rfl | (simp only [List.length_drop, List.length_take]; rfl)) ?_; (with_reducible refine (laws_eqFlowS.calls kj68 _ _ t489 _ _ t435 true _ ?side1 ?side2 ?side3 ?side4 A110.out).mono ?_); (case side1 => repeat (first | exact (Kd.R_reads' HO491.out).2.2 | (with_reducible refine cA_ ?_ _) | (with_reducible refine cN_ ?_ _) | (with_reducible refine cD_ ?_))); (case side2 => exact (Kd.R_reads' HO491.out).2.1); (case side3 => repeat (first | exact (Kd.R_reads' HO_10.out).2.2 | (with_reducible refine cA_ ?_ _) | (with_reducible refine cN_ ?_ _) | (with_reducible refine cD_ ?_))); (case side4 => exact (Kd.R_reads' HO_10.out).2.1); rintro e w114 ⟨rfl, hb⟩; refine ⟨_, rfl, ?_⟩; have n0_ := aM_ (rB_ (rb_ HO_10.out) hb); have n1_ := aM_ (rB_ (rb_ HO_14.out) hb); have n2_ := aM_ (rB_ (rb_ HO481.out) hb); have n3_ := aM_ (rB_ (rb_ HO484.out) hb); have n4_ := aM_ (rB_ (rb_ HO491.out) hb); have n5_ := aM_ (bB_ (g := gb418) (o := .cells #[.int .i64 a0_0, .int .i64 a0_1, .int .i64 a0_2, .slice A0_3 l0_3.length c0_3] 24 (0, 0)) (kb_ BK418.out) hb); have n6_ := aM_ (bB_ (g := gb419) (o := .cells #[.int .i64 a2_0, .int .i64 a2_1, .int .i64 a2_2, .int .i64 a2_3] 39 (0, 0)) (kb_ BK419.out) hb); have n7_ := aM_ (wS_ (bw_) hb); clear HO_10; clear HO_14; clear HO481; clear HO484; clear HO491; clear BK418; clear BK419; clear HB; have HO_10 := n0_; have HO_14 := n1_; have HO481 := n2_; have HO484 := n3_; have HO491 := n4_; have BK418 := n5_; have BK419 := n6_; have HB := n7_; clear n0_ n1_ n2_ n3_ n4_ n5_ n6_ n7_; (try clear hb); (try clear hb2); (try clear hk); (try clear hi)))
               go_meet
               case rel => exact ⟨_, ((t492 != t438)), (by first | rfl | (simp; done) | (simp [*]; done)), H', ⟨by have := HJ26.out; have := HJ68.out; first | omega | exact Nat.le_refl _⟩, ⟨by (with_reducible repeat (first | apply rA_ | apply rN_ | apply rD_)); exact Kd.R_mono HO_14.out (fun _ hk => trivial)⟩, ⟨by (with_reducible repeat (first | refine bN_ ?_ _ | refine bD_ ?_ | refine bA_ ?_ _)); exact BK418.out⟩, ⟨by (with_reducible repeat (first | refine bN_ ?_ _ | refine bD_ ?_ | refine bA_ ?_ _)); exact BK419.out⟩, ⟨bw_⟩⟩
              ·replace c111 := Bool.eq_false_iff.mpr c111
               subst c111
               have H1 : (laws_FnExactAdmitFlow.j2 kj68 t474 t473 true) = some r := by rw [if_neg (show ¬ (false = true) by decide)] at H; exact H
               clear H; have H := H1; clear H1
               have H' := aM_ H
               clear H
               obtain ⟨Ao115, co115, eo115⟩ := Kd.R_slice HO491.out
               subst eo115
               obtain ⟨Ao116, co116, eo116⟩ := Kd.R_slice HO_10.out
               subst eo116
               go_wp2_with (first | ((with_reducible refine gate_callee (f := 18) rfl ?_); refine goesL_ (some 117) rfl rfl Try.func18 (by kernel_rfl) rfl #[.slice Ao115 t489.length co115, .slice Ao116 t435.length co116] rfl (by (try simp only [List.map_toArray, List.map_cons, List.map_nil]); first | done | rfl | (simp only [List.length_drop, List.length_take]; rfl)) ?_; (with_reducible refine (laws_eqFlowS.calls kj68 _ _ t489 _ _ t435 false _ ?side1 ?side2 ?side3 ?side4 A110.out).mono ?_); (case side1 => repeat (first | exact (Kd.R_reads' HO491.out).2.2 | (with_reducible refine cA_ ?_ _) | (with_reducible refine cN_ ?_ _) | (with_reducible refine cD_ ?_))); (case side2 => exact (Kd.R_reads' HO491.out).2.1); (case side3 => repeat (first | exact (Kd.R_reads' HO_10.out).2.2 | (with_reducible refine cA_ ?_ _) | (with_reducible refine cN_ ?_ _) | (with_reducible refine cD_ ?_))); (case side4 => exact (Kd.R_reads' HO_10.out).2.1); rintro e w117 ⟨rfl, hb⟩; refine ⟨_, rfl, ?_⟩; have n0_ := aM_ (rB_ (rb_ HO_10.out) hb); have n1_ := aM_ (rB_ (rb_ HO_14.out) hb); have n2_ := aM_ (rB_ (rb_ HO481.out) hb); have n3_ := aM_ (rB_ (rb_ HO484.out) hb); have n4_ := aM_ (rB_ (rb_ HO491.out) hb); have n5_ := aM_ (bB_ (g := gb418) (o := .cells #[.int .i64 a0_0, .int .i64 a0_1, .int .i64 a0_2, .slice A0_3 l0_3.length c0_3] 24 (0, 0)) (kb_ BK418.out) hb); have n6_ := aM_ (bB_ (g := gb419) (o := .cells #[.int .i64 a2_0, .int .i64 a2_1, .int .i64 a2_2, .int .i64 a2_3] 39 (0, 0)) (kb_ BK419.out) hb); have n7_ := aM_ (wS_ (bw_) hb); clear HO_10; clear HO_14; clear HO481; clear HO484; clear HO491; clear BK418; clear BK419; clear HB; have HO_10 := n0_; have HO_14 := n1_; have HO481 := n2_; have HO484 := n3_; have HO491 := n4_; have BK418 := n5_; have BK419 := n6_; have HB := n7_; clear n0_ n1_ n2_ n3_ n4_ n5_ n6_ n7_; (try clear hb); (try clear hb2); (try clear hk); (try clear hi)))
               go_meet
               case rel => exact ⟨_, (true), (by first | rfl | (simp; done) | (simp [*]; done)), H', ⟨by have := HJ26.out; have := HJ68.out; first | omega | exact Nat.le_refl _⟩, ⟨by (with_reducible repeat (first | apply rA_ | apply rN_ | apply rD_)); exact Kd.R_mono HO_14.out (fun _ hk => trivial)⟩, ⟨by (with_reducible repeat (first | refine bN_ ?_ _ | refine bD_ ?_ | refine bA_ ?_ _)); exact BK418.out⟩, ⟨by (with_reducible repeat (first | refine bN_ ?_ _ | refine bD_ ?_ | refine bA_ ?_ _)); exact BK419.out⟩, ⟨bw_⟩⟩
             case rest =>
              clear HC100
              try clear c1
              try clear c2
              try clear p2
              try clear c3
              try clear c4
              try clear c5
              try clear c6
              try clear c6b0
              try clear c7
              try clear c8
              try clear c9
              try clear c11
              try clear c12
              try clear c13
              try clear c13b0
              try clear c14
              try clear c15
              try clear c16
              try clear c17
              try clear c18
              try clear c19
              try clear c20
              try clear c21
              try clear c22
              try clear c23
              try clear c24
              try clear c30
              try clear c43
              try clear c44
              try clear c53
              try clear c60
              try clear c63
              try clear c66
              try clear c77
              try clear c78
              try clear c82
              try clear c82b0
              try clear c84
              try clear c91
              try clear c94
              try clear c94b0
              try clear c95
              try clear c95b0
              try clear c95b1
              try clear c111
              try clear hcz10_0
              try clear hcz10_1
              try clear hcz10_2
              try clear hcz10_3
              try clear hcz17_0
              try clear hcz17_1
              try clear hcz17_2
              try clear hcz17_3
              try clear hcz31_0
              try clear hcz31_1
              try clear hcz31_2
              try clear hcz31_3
              try clear hcz40_0
              try clear hcz40_1
              try clear hcz40_2
              try clear hcz40_3
              try clear hcz45_0
              try clear hcz45_1
              try clear hcz45_2
              try clear hcz45_3
              try clear hcz79_0
              try clear hcz79_1
              try clear hcz79_2
              try clear hcz79_3
              try clear hfz10_0
              try clear hfz10_1
              try clear hfz10_2
              try clear hfz10_3
              try clear hfz17_0
              try clear hfz17_1
              try clear hfz17_2
              try clear hfz17_3
              try clear hfz31_0
              try clear hfz31_1
              try clear hfz31_2
              try clear hfz31_3
              try clear hfz40_0
              try clear hfz40_1
              try clear hfz40_2
              try clear hfz40_3
              try clear hfz45_0
              try clear hfz45_1
              try clear hfz45_2
              try clear hfz45_3
              try clear hfz79_0
              try clear hfz79_1
              try clear hfz79_2
              try clear hfz79_3
              try clear p2
              obtain ⟨kq, x123_99, rfl, HA, HJ99, HO_14, BK418, BK419, HB⟩ := hcut
              have hl14_99 := (Kd.R_reads' HO_14.out).1
              rw [hl14_99] at HO_14
              (try simp only [hl14_99])
              (try simp only [hl14_99] at BK418)
              (try simp only [hl14_99] at BK419)
              cases kq with
              | zero => exact absurd HA.out (by simp [laws_FnExactAdmitFlow.j2])
              | succ kj99 =>
               have H := HA.out; clear HA
               simp only [laws_FnExactAdmitFlow.j2] at H
               by_cases c118 : x123_99 = true
               ·subst c118
                have H1 : (some false) = some r := by rw [if_pos rfl] at H; exact H
                clear H; have H := H1; clear H1
                exact absurd ((Option.some.inj H).trans HTRUE.out) (by decide)
               ·replace c118 := Bool.eq_false_iff.mpr c118
                subst c118
                have H1 : ((laws_heldFlowS.f kj99 t474 1).bind fun t494 => (if t494 < 0 then (some false) else (if t494 = t473 then (some true) else (some false)))) = some r := by rw [if_neg (show ¬ (false = true) by decide)] at H; exact H
                clear H; have H := H1; clear H1
                replace H := Option.bind_eq_some_iff.mp H
                obtain ⟨t494, A1190, H⟩ := H
                (try dsimp only at H)
                have A119 := aM_ A1190; clear A1190
                by_cases c120 : t494 < 0
                ·rw [if_pos c120] at H
                 have c120b0 : decide (t494 < 0) = true := decide_eq_true c120
                 clear c120
                 exact absurd ((Option.some.inj H).trans HTRUE.out) (by decide)
                ·rw [if_neg c120] at H
                 have c120b0 : decide (t494 < 0) = false := decide_eq_false c120
                 clear c120
                 by_cases c121 : t494 = t473
                 ·rw [if_pos c121] at H
                  have c121b0 : (t494 == t473) = true := beq_iff_eq.mpr c121
                  have c121b1 : (t494 != t473) = false := bne_eq_false_iff_eq.mpr c121
                  clear c121
                  obtain rfl := Option.some.inj H
                  go_wp2_with (first | ((with_reducible refine gate_callee (f := 24) rfl ?_); refine goesL_ (some 126) rfl rfl Try.func24 (by kernel_rfl) rfl #[.slice Ao101 t474.length co101, .int .i64 1] rfl (by (try simp only [List.map_toArray, List.map_cons, List.map_nil]); first | done | rfl | (simp only [List.length_drop, List.length_take]; rfl)) ?_; (with_reducible refine (laws_heldFlowS.calls kj99 _ _ t474 1 t494 _ ?side1 ?side2 A119.out).mono ?_); (case side1 => repeat (first | exact (Kd.R_reads' HO_14.out).2.2 | (with_reducible refine cA_ ?_ _) | (with_reducible refine cN_ ?_ _) | (with_reducible refine cD_ ?_))); (case side2 => exact (Kd.R_reads' HO_14.out).2.1); rintro e w' ⟨rfl, ⟨nd, rfl⟩⟩; refine ⟨_, rfl, ?_⟩))
                  go_ret
                  exact ⟨by first | rfl | (simp [errW_none, errW_some] <;> rfl) | (simp [*, errW_none, errW_some] <;> rfl), bw_⟩
                 ·rw [if_neg c121] at H
                  have c121b0 : (t494 == t473) = false := beq_eq_false_iff_ne.mpr c121
                  have c121b1 : (t494 != t473) = true := bne_iff_ne.mpr c121
                  exact absurd ((Option.some.inj H).trans HTRUE.out) (by decide)
            ·rw [if_neg c95] at H
             have c95b0 : (t475 == t473) = false := beq_eq_false_iff_ne.mpr c95
             have c95b1 : (t475 != t473) = true := bne_iff_ne.mpr c95
             exact absurd ((Option.some.inj H).trans HTRUE.out) (by decide)
       ·replace c66 := Bool.eq_false_iff.mpr c66
        subst c66
        have H1 : (some false) = some r := by rw [if_neg (show ¬ (false = true) by decide)] at H; exact H
        clear H; have H := H1; clear H1
        exact absurd ((Option.some.inj H).trans HTRUE.out) (by decide)
      ·replace c63 := Bool.eq_false_iff.mpr c63
       subst c63
       have H1 : (some false) = some r := by rw [if_neg (show ¬ (false = true) by decide)] at H; exact H
       clear H; have H := H1; clear H1
       exact absurd ((Option.some.inj H).trans HTRUE.out) (by decide)

end Go.Proofs.Ytdodogkgmpaioaa.PFnExactAdmitFlow
