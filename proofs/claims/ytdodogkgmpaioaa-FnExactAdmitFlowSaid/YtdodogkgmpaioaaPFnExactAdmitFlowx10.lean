/- The functions that the law reaches, as plain Lean functions, each with the proof that the Go code comes to its answers; conditions: those that each theorem names. (printed by a program of this session) -/
import Derived.Test.YtdodogkgmpaioaaPFnExactAdmitFlowx0
import Derived.Test.YtdodogkgmpaioaaPFnExactAdmitFlowx6
import Derived.Test.YtdodogkgmpaioaaPFnExactAdmitFlowx9
namespace Go.Proofs.Ytdodogkgmpaioaa.PFnExactAdmitFlow
open Go.RowKit Go.Proofs.YtdodogkgmpaioaaW.PrintWords Go.Proofs.YtdodogkgmpaioaaW.PrintLast Go.Proofs.YtdodogkgmpaioaaW.PrintMore
attribute [local go_sem] max2_int min2_int max_two min_two max_three min_three max_four min_four   -- for this text's walks alone
set_option linter.unusedVariables false
set_option linter.unusedSimpArgs false

/-! ### spec_AdmitFlow: function 19 -/
mutual
def spec_AdmitFlow.j0 : Nat → List (S42) → Int → List (S42) → Bool → Int → Int → Int → List (S103) → Int → Int → Int → Int → Option ((List (S42)) × Bool)
  | 0, _, _, _, _, _, _, _, _, _, _, _, _ => none
  | k + 1, x1, x3, x10, x24, x306000, x306001, x306002, x306003, x307000, x307001, x307002, x307003 => if x24 = true then (some (x10, false)) else (spec_AdmitFlow.l0 k x1 x3 x10 0 x306000 x306001 x306002 x306003 x307000 x307001 x307002 x307003)
def spec_AdmitFlow.l0 : Nat → List (S42) → Int → List (S42) → Int → Int → Int → Int → List (S103) → Int → Int → Int → Int → Option ((List (S42)) × Bool)
  | 0, _, _, _, _, _, _, _, _, _, _, _, _ => none
  | k + 1, x1, x3, x10, x11, x306000, x306001, x306002, x306003, x307000, x307001, x307002, x307003 => if x11 < (x1.length : Int) then (if 0 ≤ x11 then (if ((rd_T42 x1 x11).f0) = x307000 then (some (x10, false)) else (spec_AdmitFlow.l0 k x1 x3 x10 (wrap64 (x11 + 1)) x306000 x306001 x306002 x306003 x307000 x307001 x307002 x307003)) else (none)) else (if x307003 = 1 then ((spec_HasRoom.f k x306000 x306001 x306002 x306003 x1 x307000 x307001 x307002 x307003 x3).bind fun t315 => (spec_AdmitFlow.j2 k x10 (!t315) x307000 x307001 x307002 x307003)) else (spec_AdmitFlow.j2 k x10 false x307000 x307001 x307002 x307003))
def spec_AdmitFlow.j2 : Nat → List (S42) → Bool → Int → Int → Int → Int → Option ((List (S42)) × Bool)
  | 0, _, _, _, _, _, _ => none
  | k + 1, x10, x51, x307000, x307001, x307002, x307003 => if x51 = true then (some (x10, false)) else (if x10.length < 4398046511104 then (some ((x10 ++ [(⟨x307000, x307001, x307002, x307003⟩ : S42)]), true)) else (none))
end
def spec_AdmitFlow.f (k : Nat) (a0_0 : Int) (a0_1 : Int) (a0_2 : Int) (l0_3 : List (S103)) (l1 : List (S42)) (a2_0 : Int) (a2_1 : Int) (a2_2 : Int) (a2_3 : Int) (a3 : Int) : Option ((List (S42)) × Bool) := (some (([] : List (S42)) : List (S42))).bind fun y307 => (if y307.length + l1.length < 4398046511104 then ((some (y307 ++ l1 : List (S42))).bind fun y310 => ((spec_IsFlow.f a2_0 a2_1 a2_2 a2_3 a0_0).bind fun t313 => (if t313 = true then (spec_AdmitFlow.j0 k l1 a3 y310 (decide ((l1.length : Int) ≥ 8)) a0_0 a0_1 a0_2 l0_3 a2_0 a2_1 a2_2 a2_3) else (spec_AdmitFlow.j0 k l1 a3 y310 true a0_0 a0_1 a0_2 l0_3 a2_0 a2_1 a2_2 a2_3)))) else (none))
set_option maxHeartbeats 8000000 in
set_option maxRecDepth 100000 in
theorem spec_AdmitFlow.calls (k : Nat) (a0_0 : Int) (a0_1 : Int) (a0_2 : Int) (A0_3 : Option Addr) (c0_3 : Nat) (l0_3 : List (S103)) (A1 : Option Addr) (c1 : Nat) (l1 : List (S42)) (a2_0 : Int) (a2_1 : Int) (a2_2 : Int) (a2_3 : Int) (a3 : Int) (r1 : List (S42)) (r2 : Bool) (w : World) (hr0_3 : Kd.C k103 w A0_3 l0_3.length l0_3) (hc0_3 : l0_3.length ≤ c0_3) (hr1 : Kd.C k42 w A1 l1.length l1) (hc1 : l1.length ≤ c1) (h : spec_AdmitFlow.f k a0_0 a0_1 a0_2 l0_3 l1 a2_0 a2_1 a2_2 a2_3 a3 = some (r1, r2)) :
  Calls Try.prog 19 #[.agg #[.int .i64 a0_0, .int .i64 a0_1, .int .i64 a0_2, .slice A0_3 l0_3.length c0_3], .slice A1 l1.length c1, .agg #[.int .i64 a2_0, .int .i64 a2_1, .int .i64 a2_2, .int .i64 a2_3], .int .i64 a3] w fun e w' => ∃ v0_ : Value, e = .returned (.tuple #[v0_, .bool r2]) ∧ Kd.R k42 42 w' w.heap.size (fun _ => True) v0_ r1 ∧ Below w.heap.size w w' := by
 have hu31 := Try.underlying31; have hu42 := Try.underlying42; have HR0_3 := aM_ hr0_3; have HC0_3 := aM_ hc0_3; clear hr0_3 hc0_3; have HR1 := aM_ hr1; have HC1 := aM_ hc1; clear hr1 hc1; have HB := aM_ (Below.refl w.heap.size w)
 have H : ((some (([] : List (S42)) : List (S42))).bind fun y307 => (if y307.length + l1.length < 4398046511104 then ((some (y307 ++ l1 : List (S42))).bind fun y310 => ((spec_IsFlow.f a2_0 a2_1 a2_2 a2_3 a0_0).bind fun t313 => (if t313 = true then (spec_AdmitFlow.j0 k l1 a3 y310 (decide ((l1.length : Int) ≥ 8)) a0_0 a0_1 a0_2 l0_3 a2_0 a2_1 a2_2 a2_3) else (spec_AdmitFlow.j0 k l1 a3 y310 true a0_0 a0_1 a0_2 l0_3 a2_0 a2_1 a2_2 a2_3)))) else (none))) = some (r1, r2) := h
 clear h
 obtain ⟨y307, hy307⟩ : ∃ y_ : List (S42), y_ = (([] : List (S42))) := ⟨_, rfl⟩
 replace H : (if y307.length + l1.length < 4398046511104 then ((some (y307 ++ l1 : List (S42))).bind fun y310 => ((spec_IsFlow.f a2_0 a2_1 a2_2 a2_3 a0_0).bind fun t313 => (if t313 = true then (spec_AdmitFlow.j0 k l1 a3 y310 (decide ((l1.length : Int) ≥ 8)) a0_0 a0_1 a0_2 l0_3 a2_0 a2_1 a2_2 a2_3) else (spec_AdmitFlow.j0 k l1 a3 y310 true a0_0 a0_1 a0_2 l0_3 a2_0 a2_1 a2_2 a2_3)))) else (none)) = some (r1, r2) := by first | (rw [hy307]; with_reducible exact H) | (have H2_ := (Option.bind_some _ _).symm.trans H; rw [hy307]; with_reducible exact H2_) | (have H2_ := (Option.bind_some _ _).symm.trans H; with_reducible exact H2_) | with_reducible exact H | (rw [hy307]; exact H) | exact H
 have Ny307 := aM_ hy307; clear hy307
 by_cases c5 : y307.length + l1.length < 4398046511104
 ·rw [if_pos c5] at H
  have LMc5 := aM_ c5; clear c5
  obtain ⟨y310, hy310⟩ : ∃ y_ : List (S42), y_ = (y307 ++ l1) := ⟨_, rfl⟩
  replace H : ((spec_IsFlow.f a2_0 a2_1 a2_2 a2_3 a0_0).bind fun t313 => (if t313 = true then (spec_AdmitFlow.j0 k l1 a3 y310 (decide ((l1.length : Int) ≥ 8)) a0_0 a0_1 a0_2 l0_3 a2_0 a2_1 a2_2 a2_3) else (spec_AdmitFlow.j0 k l1 a3 y310 true a0_0 a0_1 a0_2 l0_3 a2_0 a2_1 a2_2 a2_3))) = some (r1, r2) := by first | (rw [hy310]; with_reducible exact H) | (have H2_ := (Option.bind_some _ _).symm.trans H; rw [hy310]; with_reducible exact H2_) | (have H2_ := (Option.bind_some _ _).symm.trans H; with_reducible exact H2_) | with_reducible exact H | (rw [hy310]; exact H) | exact H
  have Ny310 := aM_ hy310; clear hy310; have HC6 := aM_ H; clear H
  go_enter Try.func19, Try.ntmps19
  go_upto_region 2 with (first | ((with_reducible refine gate_dst (N := 4) rfl ?_); (try (refine gate_guard (by rfl) ?_; dsimp only)); refine box_event ?hg (N := 4) ?hd (cs := #[.int .i64 a0_0, .int .i64 a0_1, .int .i64 a0_2, .slice A0_3 l0_3.length c0_3]) (t := 31) ?hr ?_; (case hd => rfl); (case hg => rfl); (case hr => first | (go_simp; done) | (go_simp; rfl)); intro gb305 hg w7 hbox hb; have n0_ := aM_ (wS_ (bw_) hb); have n1_ := aM_ (hbox); have n2_ := aM_ ((by rw [hg]; exact (sZ_ (bw_)) : w.heap.size ≤ gb305)); have n3_ := aM_ ((by rw [hg]; exact (sZ_ (bw_)) : w.heap.size ≤ gb305)); clear HB; have HB := n0_; have BK305 := n1_; have GW305 := n2_; have GE305 := n3_; clear n0_ n1_ n2_ n3_; clear hb hbox hg) | ((with_reducible refine gate_dst (N := 6) rfl ?_); (try (refine gate_guard (by rfl) ?_; dsimp only)); refine box_event ?hg (N := 6) ?hd (cs := #[.int .i64 a2_0, .int .i64 a2_1, .int .i64 a2_2, .int .i64 a2_3]) (t := 42) ?hr ?_; (case hd => rfl); (case hg => rfl); (case hr => first | (go_simp; done) | (go_simp; rfl)); intro gb306 hg w8 hbox hb; have n0_ := aM_ (bB_ (g := gb305) (o := .cells #[.int .i64 a0_0, .int .i64 a0_1, .int .i64 a0_2, .slice A0_3 l0_3.length c0_3] 31 (0, 0)) (kb_ BK305.out) hb); have n1_ := aM_ (wS_ (bw_) hb); have n2_ := aM_ (hbox); have n3_ := aM_ ((by rw [hg]; exact (sZ_ (bw_)) : w.heap.size ≤ gb306)); have n4_ := aM_ ((by rw [hg]; exact (sZ_ (bw_)) : w.heap.size ≤ gb306)); have n5_ := aM_ ((by rw [hg]; exact Nat.ne_of_lt (blk_lt (g := gb305) (o := .cells #[.int .i64 a0_0, .int .i64 a0_1, .int .i64 a0_2, .slice A0_3 l0_3.length c0_3] 31 (0, 0)) (kb_ BK305.out)) : gb305 ≠ gb306)); have n6_ := aM_ ((by rw [hg]; exact Nat.ne_of_gt (blk_lt (g := gb305) (o := .cells #[.int .i64 a0_0, .int .i64 a0_1, .int .i64 a0_2, .slice A0_3 l0_3.length c0_3] 31 (0, 0)) (kb_ BK305.out)) : gb306 ≠ gb305)); clear BK305; clear HB; have BK305 := n0_; have HB := n1_; have BK306 := n2_; have GW306 := n3_; have GE306 := n4_; have NB305_306 := n5_; have NB306_305 := n6_; clear n0_ n1_ n2_ n3_ n4_ n5_ n6_; clear hb hbox hg) | ((with_reducible refine gate_dst (N := 12) rfl ?_); (try (refine gate_guard (by rfl) ?_; dsimp only)); refine Kd.R_lit k42 _ 42 ?hg (N := 12) ?hd (xs := ([] : List (S42))) (inner := []) (ok := fun _ => True) (okp := fun _ => True) ?hr ?hp (fun _ hk => hk) trivial (Below.refl _ _) (Nat.le_refl _) (by simp) ?_; (case hd => rfl); (case hg => rfl); (case hr => first | (go_simp; done) | (go_simp; rfl)); (case hp => exact (Reps.none _ _)); intro v308 w9 ho10 hb hg_ hnew_; clear hg_ hnew_; (first | rw [← Ny307.out] at ho10 | (simp only [Int.reduceToNat] at ho10; rw [← Ny307.out] at ho10)); have n0_ := aM_ (Kd.R_lower (Kd.R_newB ho10 (g := gb306) (o := .cells #[.int .i64 a2_0, .int .i64 a2_1, .int .i64 a2_2, .int .i64 a2_3] 42 (0, 0)) (kb_ BK306.out)) (sZ_ (bw_))); have n1_ := aM_ (bB_ (g := gb305) (o := .cells #[.int .i64 a0_0, .int .i64 a0_1, .int .i64 a0_2, .slice A0_3 l0_3.length c0_3] 31 (0, 0)) (kb_ BK305.out) hb); have n2_ := aM_ (bB_ (g := gb306) (o := .cells #[.int .i64 a2_0, .int .i64 a2_1, .int .i64 a2_2, .int .i64 a2_3] 42 (0, 0)) (kb_ BK306.out) hb); have n3_ := aM_ (wS_ (bw_) hb); clear BK305; clear BK306; clear HB; have HO309 := n0_; have BK305 := n1_; have BK306 := n2_; have HB := n3_; clear n0_ n1_ n2_ n3_; clear hb ho10) | ((with_reducible refine gate_builtin (b := .append) (xs := #[.tmp 12, .tmp 13]) rfl ?_); (try (refine gate_guard (by rfl) ?_; dsimp only)); at_builtin; refine Kd.R_append_rows k42 (w0 := w) w.heap.size rfl (.tmp 12) (.tmp 13) 33 42 (.agg #[(.int .i64 0), (.int .i64 0), (.int .i64 0), (.int .i64 0)]) 32 rfl Try.underlying33 info42 rfl (by decide) (by omega) v308 y307 l1 _ _ _ (fun k_ => k_ ≠ gb306) (fun _ => False) rfl rfl ?aO ?aR (fun _ _ h => h) (fun _ h => h.elim) ?aF ?aB ?aS ?aL ?_; (case aR => repeat (first | exact (Kd.C_below HR1.out HB.out) | (with_reducible refine cA_ ?_ _) | (with_reducible refine cN_ ?_ _) | (with_reducible refine cD_ ?_))); (case aB => exact (bw_)); (case aF => exact (fun k_ hk => Kd.freshB (g := gb306) (o := .cells #[.int .i64 a2_0, .int .i64 a2_1, .int .i64 a2_2, .int .i64 a2_3] 42 (0, 0)) (kb_ BK306.out) k_ hk)); (case aO => exact (by (with_reducible repeat (first | apply rA_ | apply rN_ | apply rD_)); exact Kd.R_mono HO309.out (fun _ hk => hk.2))); (case aS => exact (sZ_ (bw_))); (case aL => have := LMc5.out; omega); intro v311 w11 ho hb hg hat; rw [← Ny310.out] at ho; have n0_ := aM_ (blk_grown (g := gb305) (o := .cells #[.int .i64 a0_0, .int .i64 a0_1, .int .i64 a0_2, .slice A0_3 l0_3.length c0_3] 31 (0, 0)) (kb_ BK305.out) hg (Kd.R_ne HO309.out BK305.out (by decide))); have n1_ := aM_ (blk_grown (g := gb306) (o := .cells #[.int .i64 a2_0, .int .i64 a2_1, .int .i64 a2_2, .int .i64 a2_3] 42 (0, 0)) (kb_ BK306.out) hg (Kd.R_away HO309.out (fun _ hk => hk.2))); have n2_ := aM_ (hb); have n3_ := aM_ (ho); clear BK305; clear BK306; clear HB; clear HO309; have BK305 := n0_; have BK306 := n1_; have HB := n2_; have HO312 := n3_; clear n0_ n1_ n2_ n3_; clear ho hb hg hat))
  repeat (go_quiet (first | ((with_reducible refine gate_dst (N := 4) rfl ?_); (try (refine gate_guard (by rfl) ?_; dsimp only)); refine box_event ?hg (N := 4) ?hd (cs := #[.int .i64 a0_0, .int .i64 a0_1, .int .i64 a0_2, .slice A0_3 l0_3.length c0_3]) (t := 31) ?hr ?_; (case hd => rfl); (case hg => rfl); (case hr => first | (go_simp; done) | (go_simp; rfl)); intro gb305 hg w7 hbox hb; have n0_ := aM_ (wS_ (bw_) hb); have n1_ := aM_ (hbox); have n2_ := aM_ ((by rw [hg]; exact (sZ_ (bw_)) : w.heap.size ≤ gb305)); have n3_ := aM_ ((by rw [hg]; exact (sZ_ (bw_)) : w.heap.size ≤ gb305)); clear HB; have HB := n0_; have BK305 := n1_; have GW305 := n2_; have GE305 := n3_; clear n0_ n1_ n2_ n3_; clear hb hbox hg) | ((with_reducible refine gate_dst (N := 6) rfl ?_); (try (refine gate_guard (by rfl) ?_; dsimp only)); refine box_event ?hg (N := 6) ?hd (cs := #[.int .i64 a2_0, .int .i64 a2_1, .int .i64 a2_2, .int .i64 a2_3]) (t := 42) ?hr ?_; (case hd => rfl); (case hg => rfl); (case hr => first | (go_simp; done) | (go_simp; rfl)); intro gb306 hg w8 hbox hb; have n0_ := aM_ (bB_ (g := gb305) (o := .cells #[.int .i64 a0_0, .int .i64 a0_1, .int .i64 a0_2, .slice A0_3 l0_3.length c0_3] 31 (0, 0)) (kb_ BK305.out) hb); have n1_ := aM_ (wS_ (bw_) hb); have n2_ := aM_ (hbox); have n3_ := aM_ ((by rw [hg]; exact (sZ_ (bw_)) : w.heap.size ≤ gb306)); have n4_ := aM_ ((by rw [hg]; exact (sZ_ (bw_)) : w.heap.size ≤ gb306)); have n5_ := aM_ ((by rw [hg]; exact Nat.ne_of_lt (blk_lt (g := gb305) (o := .cells #[.int .i64 a0_0, .int .i64 a0_1, .int .i64 a0_2, .slice A0_3 l0_3.length c0_3] 31 (0, 0)) (kb_ BK305.out)) : gb305 ≠ gb306)); have n6_ := aM_ ((by rw [hg]; exact Nat.ne_of_gt (blk_lt (g := gb305) (o := .cells #[.int .i64 a0_0, .int .i64 a0_1, .int .i64 a0_2, .slice A0_3 l0_3.length c0_3] 31 (0, 0)) (kb_ BK305.out)) : gb306 ≠ gb305)); clear BK305; clear HB; have BK305 := n0_; have HB := n1_; have BK306 := n2_; have GW306 := n3_; have GE306 := n4_; have NB305_306 := n5_; have NB306_305 := n6_; clear n0_ n1_ n2_ n3_ n4_ n5_ n6_; clear hb hbox hg) | ((with_reducible refine gate_dst (N := 12) rfl ?_); (try (refine gate_guard (by rfl) ?_; dsimp only)); refine Kd.R_lit k42 _ 42 ?hg (N := 12) ?hd (xs := ([] : List (S42))) (inner := []) (ok := fun _ => True) (okp := fun _ => True) ?hr ?hp (fun _ hk => hk) trivial (Below.refl _ _) (Nat.le_refl _) (by simp) ?_; (case hd => rfl); (case hg => rfl); (case hr => first | (go_simp; done) | (go_simp; rfl)); (case hp => exact (Reps.none _ _)); intro v308 w9 ho10 hb hg_ hnew_; clear hg_ hnew_; (first | rw [← Ny307.out] at ho10 | (simp only [Int.reduceToNat] at ho10; rw [← Ny307.out] at ho10)); have n0_ := aM_ (Kd.R_lower (Kd.R_newB ho10 (g := gb306) (o := .cells #[.int .i64 a2_0, .int .i64 a2_1, .int .i64 a2_2, .int .i64 a2_3] 42 (0, 0)) (kb_ BK306.out)) (sZ_ (bw_))); have n1_ := aM_ (bB_ (g := gb305) (o := .cells #[.int .i64 a0_0, .int .i64 a0_1, .int .i64 a0_2, .slice A0_3 l0_3.length c0_3] 31 (0, 0)) (kb_ BK305.out) hb); have n2_ := aM_ (bB_ (g := gb306) (o := .cells #[.int .i64 a2_0, .int .i64 a2_1, .int .i64 a2_2, .int .i64 a2_3] 42 (0, 0)) (kb_ BK306.out) hb); have n3_ := aM_ (wS_ (bw_) hb); clear BK305; clear BK306; clear HB; have HO309 := n0_; have BK305 := n1_; have BK306 := n2_; have HB := n3_; clear n0_ n1_ n2_ n3_; clear hb ho10) | ((with_reducible refine gate_builtin (b := .append) (xs := #[.tmp 12, .tmp 13]) rfl ?_); (try (refine gate_guard (by rfl) ?_; dsimp only)); at_builtin; refine Kd.R_append_rows k42 (w0 := w) w.heap.size rfl (.tmp 12) (.tmp 13) 33 42 (.agg #[(.int .i64 0), (.int .i64 0), (.int .i64 0), (.int .i64 0)]) 32 rfl Try.underlying33 info42 rfl (by decide) (by omega) v308 y307 l1 _ _ _ (fun k_ => k_ ≠ gb306) (fun _ => False) rfl rfl ?aO ?aR (fun _ _ h => h) (fun _ h => h.elim) ?aF ?aB ?aS ?aL ?_; (case aR => repeat (first | exact (Kd.C_below HR1.out HB.out) | (with_reducible refine cA_ ?_ _) | (with_reducible refine cN_ ?_ _) | (with_reducible refine cD_ ?_))); (case aB => exact (bw_)); (case aF => exact (fun k_ hk => Kd.freshB (g := gb306) (o := .cells #[.int .i64 a2_0, .int .i64 a2_1, .int .i64 a2_2, .int .i64 a2_3] 42 (0, 0)) (kb_ BK306.out) k_ hk)); (case aO => exact (by (with_reducible repeat (first | apply rA_ | apply rN_ | apply rD_)); exact Kd.R_mono HO309.out (fun _ hk => hk.2))); (case aS => exact (sZ_ (bw_))); (case aL => have := LMc5.out; omega); intro v311 w11 ho hb hg hat; rw [← Ny310.out] at ho; have n0_ := aM_ (blk_grown (g := gb305) (o := .cells #[.int .i64 a0_0, .int .i64 a0_1, .int .i64 a0_2, .slice A0_3 l0_3.length c0_3] 31 (0, 0)) (kb_ BK305.out) hg (Kd.R_ne HO309.out BK305.out (by decide))); have n1_ := aM_ (blk_grown (g := gb306) (o := .cells #[.int .i64 a2_0, .int .i64 a2_1, .int .i64 a2_2, .int .i64 a2_3] 42 (0, 0)) (kb_ BK306.out) hg (Kd.R_away HO309.out (fun _ hk => hk.2))); have n2_ := aM_ (hb); have n3_ := aM_ (ho); clear BK305; clear BK306; clear HB; clear HO309; have BK305 := n0_; have BK306 := n1_; have HB := n2_; have HO312 := n3_; clear n0_ n1_ n2_ n3_; clear ho hb hg hat)); go_upto_region 2 with (first | ((with_reducible refine gate_dst (N := 4) rfl ?_); (try (refine gate_guard (by rfl) ?_; dsimp only)); refine box_event ?hg (N := 4) ?hd (cs := #[.int .i64 a0_0, .int .i64 a0_1, .int .i64 a0_2, .slice A0_3 l0_3.length c0_3]) (t := 31) ?hr ?_; (case hd => rfl); (case hg => rfl); (case hr => first | (go_simp; done) | (go_simp; rfl)); intro gb305 hg w7 hbox hb; have n0_ := aM_ (wS_ (bw_) hb); have n1_ := aM_ (hbox); have n2_ := aM_ ((by rw [hg]; exact (sZ_ (bw_)) : w.heap.size ≤ gb305)); have n3_ := aM_ ((by rw [hg]; exact (sZ_ (bw_)) : w.heap.size ≤ gb305)); clear HB; have HB := n0_; have BK305 := n1_; have GW305 := n2_; have GE305 := n3_; clear n0_ n1_ n2_ n3_; clear hb hbox hg) | ((with_reducible refine gate_dst (N := 6) rfl ?_); (try (refine gate_guard (by rfl) ?_; dsimp only)); refine box_event ?hg (N := 6) ?hd (cs := #[.int .i64 a2_0, .int .i64 a2_1, .int .i64 a2_2, .int .i64 a2_3]) (t := 42) ?hr ?_; (case hd => rfl); (case hg => rfl); (case hr => first | (go_simp; done) | (go_simp; rfl)); intro gb306 hg w8 hbox hb; have n0_ := aM_ (bB_ (g := gb305) (o := .cells #[.int .i64 a0_0, .int .i64 a0_1, .int .i64 a0_2, .slice A0_3 l0_3.length c0_3] 31 (0, 0)) (kb_ BK305.out) hb); have n1_ := aM_ (wS_ (bw_) hb); have n2_ := aM_ (hbox); have n3_ := aM_ ((by rw [hg]; exact (sZ_ (bw_)) : w.heap.size ≤ gb306)); have n4_ := aM_ ((by rw [hg]; exact (sZ_ (bw_)) : w.heap.size ≤ gb306)); have n5_ := aM_ ((by rw [hg]; exact Nat.ne_of_lt (blk_lt (g := gb305) (o := .cells #[.int .i64 a0_0, .int .i64 a0_1, .int .i64 a0_2, .slice A0_3 l0_3.length c0_3] 31 (0, 0)) (kb_ BK305.out)) : gb305 ≠ gb306)); have n6_ := aM_ ((by rw [hg]; exact Nat.ne_of_gt (blk_lt (g := gb305) (o := .cells #[.int .i64 a0_0, .int .i64 a0_1, .int .i64 a0_2, .slice A0_3 l0_3.length c0_3] 31 (0, 0)) (kb_ BK305.out)) : gb306 ≠ gb305)); clear BK305; clear HB; have BK305 := n0_; have HB := n1_; have BK306 := n2_; have GW306 := n3_; have GE306 := n4_; have NB305_306 := n5_; have NB306_305 := n6_; clear n0_ n1_ n2_ n3_ n4_ n5_ n6_; clear hb hbox hg) | ((with_reducible refine gate_dst (N := 12) rfl ?_); (try (refine gate_guard (by rfl) ?_; dsimp only)); refine Kd.R_lit k42 _ 42 ?hg (N := 12) ?hd (xs := ([] : List (S42))) (inner := []) (ok := fun _ => True) (okp := fun _ => True) ?hr ?hp (fun _ hk => hk) trivial (Below.refl _ _) (Nat.le_refl _) (by simp) ?_; (case hd => rfl); (case hg => rfl); (case hr => first | (go_simp; done) | (go_simp; rfl)); (case hp => exact (Reps.none _ _)); intro v308 w9 ho10 hb hg_ hnew_; clear hg_ hnew_; (first | rw [← Ny307.out] at ho10 | (simp only [Int.reduceToNat] at ho10; rw [← Ny307.out] at ho10)); have n0_ := aM_ (Kd.R_lower (Kd.R_newB ho10 (g := gb306) (o := .cells #[.int .i64 a2_0, .int .i64 a2_1, .int .i64 a2_2, .int .i64 a2_3] 42 (0, 0)) (kb_ BK306.out)) (sZ_ (bw_))); have n1_ := aM_ (bB_ (g := gb305) (o := .cells #[.int .i64 a0_0, .int .i64 a0_1, .int .i64 a0_2, .slice A0_3 l0_3.length c0_3] 31 (0, 0)) (kb_ BK305.out) hb); have n2_ := aM_ (bB_ (g := gb306) (o := .cells #[.int .i64 a2_0, .int .i64 a2_1, .int .i64 a2_2, .int .i64 a2_3] 42 (0, 0)) (kb_ BK306.out) hb); have n3_ := aM_ (wS_ (bw_) hb); clear BK305; clear BK306; clear HB; have HO309 := n0_; have BK305 := n1_; have BK306 := n2_; have HB := n3_; clear n0_ n1_ n2_ n3_; clear hb ho10) | ((with_reducible refine gate_builtin (b := .append) (xs := #[.tmp 12, .tmp 13]) rfl ?_); (try (refine gate_guard (by rfl) ?_; dsimp only)); at_builtin; refine Kd.R_append_rows k42 (w0 := w) w.heap.size rfl (.tmp 12) (.tmp 13) 33 42 (.agg #[(.int .i64 0), (.int .i64 0), (.int .i64 0), (.int .i64 0)]) 32 rfl Try.underlying33 info42 rfl (by decide) (by omega) v308 y307 l1 _ _ _ (fun k_ => k_ ≠ gb306) (fun _ => False) rfl rfl ?aO ?aR (fun _ _ h => h) (fun _ h => h.elim) ?aF ?aB ?aS ?aL ?_; (case aR => repeat (first | exact (Kd.C_below HR1.out HB.out) | (with_reducible refine cA_ ?_ _) | (with_reducible refine cN_ ?_ _) | (with_reducible refine cD_ ?_))); (case aB => exact (bw_)); (case aF => exact (fun k_ hk => Kd.freshB (g := gb306) (o := .cells #[.int .i64 a2_0, .int .i64 a2_1, .int .i64 a2_2, .int .i64 a2_3] 42 (0, 0)) (kb_ BK306.out) k_ hk)); (case aO => exact (by (with_reducible repeat (first | apply rA_ | apply rN_ | apply rD_)); exact Kd.R_mono HO309.out (fun _ hk => hk.2))); (case aS => exact (sZ_ (bw_))); (case aL => have := LMc5.out; omega); intro v311 w11 ho hb hg hat; rw [← Ny310.out] at ho; have n0_ := aM_ (blk_grown (g := gb305) (o := .cells #[.int .i64 a0_0, .int .i64 a0_1, .int .i64 a0_2, .slice A0_3 l0_3.length c0_3] 31 (0, 0)) (kb_ BK305.out) hg (Kd.R_ne HO309.out BK305.out (by decide))); have n1_ := aM_ (blk_grown (g := gb306) (o := .cells #[.int .i64 a2_0, .int .i64 a2_1, .int .i64 a2_2, .int .i64 a2_3] 42 (0, 0)) (kb_ BK306.out) hg (Kd.R_away HO309.out (fun _ hk => hk.2))); have n2_ := aM_ (hb); have n3_ := aM_ (ho); clear BK305; clear BK306; clear HB; clear HO309; have BK305 := n0_; have BK306 := n1_; have HB := n2_; have HO312 := n3_; clear n0_ n1_ n2_ n3_; clear ho hb hg hat)))
  (try simp only [Act.put, List.setIfInBounds_toArray, List.set_cons_zero, List.set_cons_succ])
  go_cut [24] (fun v24 wc => ∃ (kq : Nat) (x24_5 : Bool), v24 = .bool x24_5 ∧ Aside0 (spec_AdmitFlow.j0 kq l1 a3 y310 x24_5 a0_0 a0_1 a0_2 l0_3 a2_0 a2_1 a2_2 a2_3 = some (r1, r2)) ∧ Aside0 (kq ≤ k) ∧ Aside0 (Kd.R k42 42 wc w.heap.size (fun k_ => k_ ≠ gb306) v311 y310) ∧ Aside0 (wc.heap[gb305]? = some (.cells #[.int .i64 a0_0, .int .i64 a0_1, .int .i64 a0_2, (.slice A0_3 l0_3.length c0_3)] 31 (0, 0))) ∧ Aside0 (wc.heap[gb306]? = some (.cells #[.int .i64 a2_0, .int .i64 a2_1, .int .i64 a2_2, .int .i64 a2_3] 42 (0, 0))) ∧ Aside0 (Below w.heap.size w wc))
  case first =>
   have H := HC6.out; clear HC6
   replace H := Option.bind_eq_some_iff.mp H
   obtain ⟨t313, A120, H⟩ := H
   (try dsimp only at H)
   have A12 := aM_ A120; clear A120
   by_cases c13 : t313 = true
   ·subst c13
    have H1 : (spec_AdmitFlow.j0 k l1 a3 y310 (decide ((l1.length : Int) ≥ 8)) a0_0 a0_1 a0_2 l0_3 a2_0 a2_1 a2_2 a2_3) = some (r1, r2) := by rw [if_pos rfl] at H; exact H
    clear H; have H := H1; clear H1
    have H' := aM_ H
    clear H; have hnb14 := NB306_305.out; have hnc14 := NB305_306.out
    have hcz15_0 : w11.cell? ⟨gb306, 0, none⟩ = some (.int .i64 a2_0) := (blk_cell BK306.out 0).trans rfl
    have hcz15_1 : w11.cell? ⟨gb306, 1, none⟩ = some (.int .i64 a2_1) := (blk_cell BK306.out 1).trans rfl
    have hcz15_2 : w11.cell? ⟨gb306, 2, none⟩ = some (.int .i64 a2_2) := (blk_cell BK306.out 2).trans rfl
    have hcz15_3 : w11.cell? ⟨gb306, 3, none⟩ = some (.int .i64 a2_3) := (blk_cell BK306.out 3).trans rfl
    have hfz15_0 := blk_frozen BK306.out 0; have hfz15_1 := blk_frozen BK306.out 1; have hfz15_2 := blk_frozen BK306.out 2; have hfz15_3 := blk_frozen BK306.out 3
    have hcz16_0 : w11.cell? ⟨gb305, 0, none⟩ = some (.int .i64 a0_0) := (blk_cell BK305.out 0).trans rfl
    have hcz16_1 : w11.cell? ⟨gb305, 1, none⟩ = some (.int .i64 a0_1) := (blk_cell BK305.out 1).trans rfl
    have hcz16_2 : w11.cell? ⟨gb305, 2, none⟩ = some (.int .i64 a0_2) := (blk_cell BK305.out 2).trans rfl
    have hcz16_3 : w11.cell? ⟨gb305, 3, none⟩ = some (.slice A0_3 l0_3.length c0_3) := (blk_cell BK305.out 3).trans rfl
    have hfz16_0 := blk_frozen BK305.out 0; have hfz16_1 := blk_frozen BK305.out 1; have hfz16_2 := blk_frozen BK305.out 2; have hfz16_3 := blk_frozen BK305.out 3
    go_wp2_with (first | (go_at_call 51; (with_reducible refine (spec_IsFlow.calls a2_0 a2_1 a2_2 a2_3 a0_0 true _ A12.out).mono ?_); rintro e w17 ⟨rfl, hb⟩; have n0_ := aM_ (rB_ (rb_ HO312.out) hb); have n1_ := aM_ (bB_ (g := gb305) (o := .cells #[.int .i64 a0_0, .int .i64 a0_1, .int .i64 a0_2, .slice A0_3 l0_3.length c0_3] 31 (0, 0)) (kb_ BK305.out) hb); have n2_ := aM_ (bB_ (g := gb306) (o := .cells #[.int .i64 a2_0, .int .i64 a2_1, .int .i64 a2_2, .int .i64 a2_3] 42 (0, 0)) (kb_ BK306.out) hb); have n3_ := aM_ (wS_ (bw_) hb); clear HO312; clear BK305; clear BK306; clear HB; have HO312 := n0_; have BK305 := n1_; have BK306 := n2_; have HB := n3_; clear n0_ n1_ n2_ n3_; (try clear hb); (try clear hb2); (try clear hk); (try clear hi)))
    repeat (go_quiet (first | (go_at_call 51; (with_reducible refine (spec_IsFlow.calls a2_0 a2_1 a2_2 a2_3 a0_0 true _ A12.out).mono ?_); rintro e w17 ⟨rfl, hb⟩; have n0_ := aM_ (rB_ (rb_ HO312.out) hb); have n1_ := aM_ (bB_ (g := gb305) (o := .cells #[.int .i64 a0_0, .int .i64 a0_1, .int .i64 a0_2, .slice A0_3 l0_3.length c0_3] 31 (0, 0)) (kb_ BK305.out) hb); have n2_ := aM_ (bB_ (g := gb306) (o := .cells #[.int .i64 a2_0, .int .i64 a2_1, .int .i64 a2_2, .int .i64 a2_3] 42 (0, 0)) (kb_ BK306.out) hb); have n3_ := aM_ (wS_ (bw_) hb); clear HO312; clear BK305; clear BK306; clear HB; have HO312 := n0_; have BK305 := n1_; have BK306 := n2_; have HB := n3_; clear n0_ n1_ n2_ n3_; (try clear hb); (try clear hb2); (try clear hk); (try clear hi))); try go_wp2_with (first | (go_at_call 51; (with_reducible refine (spec_IsFlow.calls a2_0 a2_1 a2_2 a2_3 a0_0 true _ A12.out).mono ?_); rintro e w17 ⟨rfl, hb⟩; have n0_ := aM_ (rB_ (rb_ HO312.out) hb); have n1_ := aM_ (bB_ (g := gb305) (o := .cells #[.int .i64 a0_0, .int .i64 a0_1, .int .i64 a0_2, .slice A0_3 l0_3.length c0_3] 31 (0, 0)) (kb_ BK305.out) hb); have n2_ := aM_ (bB_ (g := gb306) (o := .cells #[.int .i64 a2_0, .int .i64 a2_1, .int .i64 a2_2, .int .i64 a2_3] 42 (0, 0)) (kb_ BK306.out) hb); have n3_ := aM_ (wS_ (bw_) hb); clear HO312; clear BK305; clear BK306; clear HB; have HO312 := n0_; have BK305 := n1_; have BK306 := n2_; have HB := n3_; clear n0_ n1_ n2_ n3_; (try clear hb); (try clear hb2); (try clear hk); (try clear hi))))
    go_meet
    case rel => exact ⟨_, (decide ((l1.length : Int) ≥ 8)), (by first | rfl | (simp; done) | (simp [*]; done)), H', ⟨by first | omega | exact Nat.le_refl _⟩, ⟨by (with_reducible repeat (first | apply rA_ | apply rN_ | apply rD_)); exact HO312.out⟩, ⟨by (with_reducible repeat (first | refine bN_ ?_ _ | refine bD_ ?_ | refine bA_ ?_ _)); exact BK305.out⟩, ⟨by (with_reducible repeat (first | refine bN_ ?_ _ | refine bD_ ?_ | refine bA_ ?_ _)); exact BK306.out⟩, ⟨bw_⟩⟩
   ·replace c13 := Bool.eq_false_iff.mpr c13
    subst c13
    have H1 : (spec_AdmitFlow.j0 k l1 a3 y310 true a0_0 a0_1 a0_2 l0_3 a2_0 a2_1 a2_2 a2_3) = some (r1, r2) := by rw [if_neg (show ¬ (false = true) by decide)] at H; exact H
    clear H; have H := H1; clear H1
    have H' := aM_ H
    clear H; have hnb18 := NB306_305.out; have hnc18 := NB305_306.out
    have hcz19_0 : w11.cell? ⟨gb306, 0, none⟩ = some (.int .i64 a2_0) := (blk_cell BK306.out 0).trans rfl
    have hcz19_1 : w11.cell? ⟨gb306, 1, none⟩ = some (.int .i64 a2_1) := (blk_cell BK306.out 1).trans rfl
    have hcz19_2 : w11.cell? ⟨gb306, 2, none⟩ = some (.int .i64 a2_2) := (blk_cell BK306.out 2).trans rfl
    have hcz19_3 : w11.cell? ⟨gb306, 3, none⟩ = some (.int .i64 a2_3) := (blk_cell BK306.out 3).trans rfl
    have hfz19_0 := blk_frozen BK306.out 0; have hfz19_1 := blk_frozen BK306.out 1; have hfz19_2 := blk_frozen BK306.out 2; have hfz19_3 := blk_frozen BK306.out 3
    have hcz20_0 : w11.cell? ⟨gb305, 0, none⟩ = some (.int .i64 a0_0) := (blk_cell BK305.out 0).trans rfl
    have hcz20_1 : w11.cell? ⟨gb305, 1, none⟩ = some (.int .i64 a0_1) := (blk_cell BK305.out 1).trans rfl
    have hcz20_2 : w11.cell? ⟨gb305, 2, none⟩ = some (.int .i64 a0_2) := (blk_cell BK305.out 2).trans rfl
    have hcz20_3 : w11.cell? ⟨gb305, 3, none⟩ = some (.slice A0_3 l0_3.length c0_3) := (blk_cell BK305.out 3).trans rfl
    have hfz20_0 := blk_frozen BK305.out 0; have hfz20_1 := blk_frozen BK305.out 1; have hfz20_2 := blk_frozen BK305.out 2; have hfz20_3 := blk_frozen BK305.out 3
    go_wp2_with (first | (go_at_call 51; (with_reducible refine (spec_IsFlow.calls a2_0 a2_1 a2_2 a2_3 a0_0 false _ A12.out).mono ?_); rintro e w21 ⟨rfl, hb⟩; have n0_ := aM_ (rB_ (rb_ HO312.out) hb); have n1_ := aM_ (bB_ (g := gb305) (o := .cells #[.int .i64 a0_0, .int .i64 a0_1, .int .i64 a0_2, .slice A0_3 l0_3.length c0_3] 31 (0, 0)) (kb_ BK305.out) hb); have n2_ := aM_ (bB_ (g := gb306) (o := .cells #[.int .i64 a2_0, .int .i64 a2_1, .int .i64 a2_2, .int .i64 a2_3] 42 (0, 0)) (kb_ BK306.out) hb); have n3_ := aM_ (wS_ (bw_) hb); clear HO312; clear BK305; clear BK306; clear HB; have HO312 := n0_; have BK305 := n1_; have BK306 := n2_; have HB := n3_; clear n0_ n1_ n2_ n3_; (try clear hb); (try clear hb2); (try clear hk); (try clear hi)))
    repeat (go_quiet (first | (go_at_call 51; (with_reducible refine (spec_IsFlow.calls a2_0 a2_1 a2_2 a2_3 a0_0 false _ A12.out).mono ?_); rintro e w21 ⟨rfl, hb⟩; have n0_ := aM_ (rB_ (rb_ HO312.out) hb); have n1_ := aM_ (bB_ (g := gb305) (o := .cells #[.int .i64 a0_0, .int .i64 a0_1, .int .i64 a0_2, .slice A0_3 l0_3.length c0_3] 31 (0, 0)) (kb_ BK305.out) hb); have n2_ := aM_ (bB_ (g := gb306) (o := .cells #[.int .i64 a2_0, .int .i64 a2_1, .int .i64 a2_2, .int .i64 a2_3] 42 (0, 0)) (kb_ BK306.out) hb); have n3_ := aM_ (wS_ (bw_) hb); clear HO312; clear BK305; clear BK306; clear HB; have HO312 := n0_; have BK305 := n1_; have BK306 := n2_; have HB := n3_; clear n0_ n1_ n2_ n3_; (try clear hb); (try clear hb2); (try clear hk); (try clear hi))); try go_wp2_with (first | (go_at_call 51; (with_reducible refine (spec_IsFlow.calls a2_0 a2_1 a2_2 a2_3 a0_0 false _ A12.out).mono ?_); rintro e w21 ⟨rfl, hb⟩; have n0_ := aM_ (rB_ (rb_ HO312.out) hb); have n1_ := aM_ (bB_ (g := gb305) (o := .cells #[.int .i64 a0_0, .int .i64 a0_1, .int .i64 a0_2, .slice A0_3 l0_3.length c0_3] 31 (0, 0)) (kb_ BK305.out) hb); have n2_ := aM_ (bB_ (g := gb306) (o := .cells #[.int .i64 a2_0, .int .i64 a2_1, .int .i64 a2_2, .int .i64 a2_3] 42 (0, 0)) (kb_ BK306.out) hb); have n3_ := aM_ (wS_ (bw_) hb); clear HO312; clear BK305; clear BK306; clear HB; have HO312 := n0_; have BK305 := n1_; have BK306 := n2_; have HB := n3_; clear n0_ n1_ n2_ n3_; (try clear hb); (try clear hb2); (try clear hk); (try clear hi))))
    go_meet
    case rel => exact ⟨_, (true), (by first | rfl | (simp; done) | (simp [*]; done)), H', ⟨by first | omega | exact Nat.le_refl _⟩, ⟨by (with_reducible repeat (first | apply rA_ | apply rN_ | apply rD_)); exact HO312.out⟩, ⟨by (with_reducible repeat (first | refine bN_ ?_ _ | refine bD_ ?_ | refine bA_ ?_ _)); exact BK305.out⟩, ⟨by (with_reducible repeat (first | refine bN_ ?_ _ | refine bD_ ?_ | refine bA_ ?_ _)); exact BK306.out⟩, ⟨bw_⟩⟩
  case rest =>
   clear HC6
   try clear c1
   try clear p2
   try clear c5
   try clear c13
   try clear c14
   try clear c18
   try clear c19
   try clear hcz15_0
   try clear hcz15_1
   try clear hcz15_2
   try clear hcz15_3
   try clear hcz16_0
   try clear hcz16_1
   try clear hcz16_2
   try clear hcz16_3
   try clear hcz19_0
   try clear hcz19_1
   try clear hcz19_2
   try clear hcz19_3
   try clear hcz20_0
   try clear hcz20_1
   try clear hcz20_2
   try clear hcz20_3
   try clear hfz15_0
   try clear hfz15_1
   try clear hfz15_2
   try clear hfz15_3
   try clear hfz16_0
   try clear hfz16_1
   try clear hfz16_2
   try clear hfz16_3
   try clear hfz19_0
   try clear hfz19_1
   try clear hfz19_2
   try clear hfz19_3
   try clear hfz20_0
   try clear hfz20_1
   try clear hfz20_2
   try clear hfz20_3
   obtain ⟨kq, x24_5, rfl, HA, HJ5, HO_10, BK305, BK306, HB⟩ := hcut
   cases kq with
   | zero => exact absurd HA.out (by simp [spec_AdmitFlow.j0])
   | succ kj5 =>
    have H := HA.out; clear HA
    simp only [spec_AdmitFlow.j0] at H
    by_cases c22 : x24_5 = true
    ·subst c22
     have H1 : (some (y310, false)) = some (r1, r2) := by rw [if_pos rfl] at H; exact H
     clear H; have H := H1; clear H1
     simp only [Option.some.injEq, Prod.mk.injEq] at H
     obtain ⟨rfl, rfl⟩ := H
     go_wp2
     repeat (go_quiet (fail); try go_wp2)
     go_ret2
     exact ⟨_, by first | rfl | (simp [errW_none, errW_some] <;> rfl) | (simp [*, errW_none, errW_some] <;> rfl), by (with_reducible repeat (first | apply rA_ | apply rN_ | apply rD_)); exact Kd.R_mono HO_10.out (fun _ hk => trivial), bw_⟩
    ·replace c22 := Bool.eq_false_iff.mpr c22
     subst c22
     have H1 : (spec_AdmitFlow.l0 kj5 l1 a3 y310 0 a0_0 a0_1 a0_2 l0_3 a2_0 a2_1 a2_2 a2_3) = some (r1, r2) := by rw [if_neg (show ¬ (false = true) by decide)] at H; exact H
     clear H; have H := H1; clear H1
     have H' := aM_ H
     clear H
     go_wp2
     repeat (go_quiet (fail); try go_wp2)
     go_loopg [11] kj5 (fun kq v11 w' => ∃ (x11_2 : Int), v11 = .int .i64 x11_2 ∧ Aside0 (spec_AdmitFlow.l0 kq l1 a3 y310 x11_2 a0_0 a0_1 a0_2 l0_3 a2_0 a2_1 a2_2 a2_3 = some (r1, r2)) ∧ Aside0 (kq ≤ kj5) ∧ Aside0 (Kd.R k42 42 w' w.heap.size (fun k_ => k_ ≠ gb306) v311 y310) ∧ Aside0 (w'.heap[gb305]? = some (.cells #[.int .i64 a0_0, .int .i64 a0_1, .int .i64 a0_2, (.slice A0_3 l0_3.length c0_3)] 31 (0, 0))) ∧ Aside0 (w'.heap[gb306]? = some (.cells #[.int .i64 a2_0, .int .i64 a2_1, .int .i64 a2_2, .int .i64 a2_3] 42 (0, 0))) ∧ Aside0 (Below w.heap.size w w'))
     case atStart => exact ⟨(0), (by first | rfl | (simp; done) | (simp [*]; done)), H', ⟨Nat.le_refl _⟩, ⟨by (with_reducible repeat (first | apply rA_ | apply rN_ | apply rD_)); exact HO_10.out⟩, ⟨by (with_reducible repeat (first | refine bN_ ?_ _ | refine bD_ ?_ | refine bA_ ?_ _)); exact BK305.out⟩, ⟨by (with_reducible repeat (first | refine bN_ ?_ _ | refine bD_ ?_ | refine bA_ ?_ _)); exact BK306.out⟩, ⟨bw_⟩⟩
     case round =>
      clear H'
      try clear c1
      try clear c2
      try clear p2
      try clear c5
      try clear c13
      try clear c14
      try clear c18
      try clear c19
      try clear c22
      try clear hcz15_0
      try clear hcz15_1
      try clear hcz15_2
      try clear hcz15_3
      try clear hcz16_0
      try clear hcz16_1
      try clear hcz16_2
      try clear hcz16_3
      try clear hcz19_0
      try clear hcz19_1
      try clear hcz19_2
      try clear hcz19_3
      try clear hcz20_0
      try clear hcz20_1
      try clear hcz20_2
      try clear hcz20_3
      try clear hfz15_0
      try clear hfz15_1
      try clear hfz15_2
      try clear hfz15_3
      try clear hfz16_0
      try clear hfz16_1
      try clear hfz16_2
      try clear hfz16_3
      try clear hfz19_0
      try clear hfz19_1
      try clear hfz19_2
      try clear hfz19_3
      try clear hfz20_0
      try clear hfz20_1
      try clear hfz20_2
      try clear hfz20_3
      try clear p2
      obtain ⟨x11_2, rfl, HA, HK2, HO_10, BK305, BK306, HB⟩ := hrel
      cases gk with
      | zero => exact absurd HA.out (by simp [spec_AdmitFlow.l0])
      | succ k2 =>
       have H := HA.out; clear HA
       simp only [spec_AdmitFlow.l0] at H
       by_cases c23 : x11_2 < (l1.length : Int)
       ·rw [if_pos c23] at H
        have c23b0 : decide (x11_2 < (l1.length : Int)) = true := decide_eq_true c23
        clear c23
        by_cases c24 : 0 ≤ x11_2
        ·rw [if_pos c24] at H
         have c24b0 : decide (0 ≤ x11_2) = true := decide_eq_true c24
         clear c24
         by_cases c25 : ((rd_T42 l1 x11_2).f0) = a2_0
         ·rw [if_pos c25] at H
          have c25b0 : (((rd_T42 l1 x11_2).f0) == a2_0) = true := beq_iff_eq.mpr c25
          have c25b1 : (((rd_T42 l1 x11_2).f0) != a2_0) = false := bne_eq_false_iff_eq.mpr c25
          clear c25
          simp only [Option.some.injEq, Prod.mk.injEq] at H
          obtain ⟨rfl, rfl⟩ := H
          have p314 : 0 ≤ (x11_2 : Int) := dT_
          have q314 : x11_2 < (l1.length : Int) := dT_
          obtain ⟨ad314, e314, hx314_0, hx314_1, hx314_2, hx314_3⟩ := at_T42 HR1.out x11_2 p314 q314
          cases e314
          replace hx314_0 := (HB.out.cell (World.block_lt_of_cell? w _ hx314_0)).trans hx314_0
          replace hx314_1 := (HB.out.cell (World.block_lt_of_cell? w _ hx314_1)).trans hx314_1
          replace hx314_2 := (HB.out.cell (World.block_lt_of_cell? w _ hx314_2)).trans hx314_2
          replace hx314_3 := (HB.out.cell (World.block_lt_of_cell? w _ hx314_3)).trans hx314_3
          replace p314 := eq_true p314; replace q314 := eq_true q314; have hnb26 := NB306_305.out; have hnc26 := NB305_306.out
          have hcz27_0 : wr.cell? ⟨gb306, 0, none⟩ = some (.int .i64 a2_0) := (blk_cell BK306.out 0).trans rfl
          have hcz27_1 : wr.cell? ⟨gb306, 1, none⟩ = some (.int .i64 a2_1) := (blk_cell BK306.out 1).trans rfl
          have hcz27_2 : wr.cell? ⟨gb306, 2, none⟩ = some (.int .i64 a2_2) := (blk_cell BK306.out 2).trans rfl
          have hcz27_3 : wr.cell? ⟨gb306, 3, none⟩ = some (.int .i64 a2_3) := (blk_cell BK306.out 3).trans rfl
          have hfz27_0 := blk_frozen BK306.out 0; have hfz27_1 := blk_frozen BK306.out 1; have hfz27_2 := blk_frozen BK306.out 2; have hfz27_3 := blk_frozen BK306.out 3
          go_wp2
          repeat (go_quiet (fail); try go_wp2)
          go_ret2
          exact ⟨_, by first | rfl | (simp [errW_none, errW_some] <;> rfl) | (simp [*, errW_none, errW_some] <;> rfl), by (with_reducible repeat (first | apply rA_ | apply rN_ | apply rD_)); exact Kd.R_mono HO_10.out (fun _ hk => trivial), bw_⟩
         ·rw [if_neg c25] at H
          have c25b0 : (((rd_T42 l1 x11_2).f0) == a2_0) = false := beq_eq_false_iff_ne.mpr c25
          have c25b1 : (((rd_T42 l1 x11_2).f0) != a2_0) = true := bne_iff_ne.mpr c25
          have H' := aM_ H
          clear H
          have p314 : 0 ≤ (x11_2 : Int) := dT_
          have q314 : x11_2 < (l1.length : Int) := dT_
          obtain ⟨ad314, e314, hx314_0, hx314_1, hx314_2, hx314_3⟩ := at_T42 HR1.out x11_2 p314 q314
          cases e314
          replace hx314_0 := (HB.out.cell (World.block_lt_of_cell? w _ hx314_0)).trans hx314_0
          replace hx314_1 := (HB.out.cell (World.block_lt_of_cell? w _ hx314_1)).trans hx314_1
          replace hx314_2 := (HB.out.cell (World.block_lt_of_cell? w _ hx314_2)).trans hx314_2
          replace hx314_3 := (HB.out.cell (World.block_lt_of_cell? w _ hx314_3)).trans hx314_3
          replace p314 := eq_true p314; replace q314 := eq_true q314; have hnb28 := NB306_305.out; have hnc28 := NB305_306.out
          have hcz29_0 : wr.cell? ⟨gb306, 0, none⟩ = some (.int .i64 a2_0) := (blk_cell BK306.out 0).trans rfl
          have hcz29_1 : wr.cell? ⟨gb306, 1, none⟩ = some (.int .i64 a2_1) := (blk_cell BK306.out 1).trans rfl
          have hcz29_2 : wr.cell? ⟨gb306, 2, none⟩ = some (.int .i64 a2_2) := (blk_cell BK306.out 2).trans rfl
          have hcz29_3 : wr.cell? ⟨gb306, 3, none⟩ = some (.int .i64 a2_3) := (blk_cell BK306.out 3).trans rfl
          have hfz29_0 := blk_frozen BK306.out 0; have hfz29_1 := blk_frozen BK306.out 1; have hfz29_2 := blk_frozen BK306.out 2; have hfz29_3 := blk_frozen BK306.out 3
          go_wp2
          repeat (go_quiet (fail); try go_wp2)
          go_roundg k2
          case measure => have := HJ5.out; have := HK2.out; omega
          case rel => exact ⟨(wrap64 (x11_2 + 1)), (by first | rfl | (simp; done) | (simp [*]; done)), H', ⟨by have := HJ5.out; have := HK2.out; omega⟩, ⟨by (with_reducible repeat (first | apply rA_ | apply rN_ | apply rD_)); exact HO_10.out⟩, ⟨by (with_reducible repeat (first | refine bN_ ?_ _ | refine bD_ ?_ | refine bA_ ?_ _)); exact BK305.out⟩, ⟨by (with_reducible repeat (first | refine bN_ ?_ _ | refine bD_ ?_ | refine bA_ ?_ _)); exact BK306.out⟩, ⟨bw_⟩⟩
        ·rw [if_neg c24] at H
         exact absurd H (by simp)
       ·rw [if_neg c23] at H
        have c23b0 : decide (x11_2 < (l1.length : Int)) = false := decide_eq_false c23
        clear c23; have HC30 := aM_ H; clear H
        go_upto_region 9 with (fail)
        repeat (go_quiet (fail); go_upto_region 9 with (fail))
        go_cut [51] (fun v51 wc => ∃ (kq : Nat) (x51_29 : Bool), v51 = .bool x51_29 ∧ Aside0 (spec_AdmitFlow.j2 kq y310 x51_29 a2_0 a2_1 a2_2 a2_3 = some (r1, r2)) ∧ Aside0 (kq ≤ k2) ∧ Aside0 (Kd.R k42 42 wc w.heap.size (fun k_ => k_ ≠ gb306) v311 y310) ∧ Aside0 (wc.heap[gb305]? = some (.cells #[.int .i64 a0_0, .int .i64 a0_1, .int .i64 a0_2, (.slice A0_3 l0_3.length c0_3)] 31 (0, 0))) ∧ Aside0 (wc.heap[gb306]? = some (.cells #[.int .i64 a2_0, .int .i64 a2_1, .int .i64 a2_2, .int .i64 a2_3] 42 (0, 0))) ∧ Aside0 (Below w.heap.size w wc))
        case first =>
         have H := HC30.out; clear HC30
         by_cases c31 : a2_3 = 1
         ·rw [if_pos c31] at H
          have c31b0 : (a2_3 == 1) = true := beq_iff_eq.mpr c31
          have c31b1 : (a2_3 != 1) = false := bne_eq_false_iff_eq.mpr c31
          clear c31
          (first | rw [c31b0] | (simp only [i64_w, i32_w]; rw [c31b0]) | skip)
          replace H := Option.bind_eq_some_iff.mp H
          obtain ⟨t315, A320, H⟩ := H
          (try dsimp only at H)
          have A32 := aM_ A320; clear A320
          have H' := aM_ H
          clear H; have hnb33 := NB306_305.out; have hnc33 := NB305_306.out
          have hcz34_0 : wr.cell? ⟨gb306, 0, none⟩ = some (.int .i64 a2_0) := (blk_cell BK306.out 0).trans rfl
          have hcz34_1 : wr.cell? ⟨gb306, 1, none⟩ = some (.int .i64 a2_1) := (blk_cell BK306.out 1).trans rfl
          have hcz34_2 : wr.cell? ⟨gb306, 2, none⟩ = some (.int .i64 a2_2) := (blk_cell BK306.out 2).trans rfl
          have hcz34_3 : wr.cell? ⟨gb306, 3, none⟩ = some (.int .i64 a2_3) := (blk_cell BK306.out 3).trans rfl
          have hfz34_0 := blk_frozen BK306.out 0; have hfz34_1 := blk_frozen BK306.out 1; have hfz34_2 := blk_frozen BK306.out 2; have hfz34_3 := blk_frozen BK306.out 3
          have hcz35_0 : wr.cell? ⟨gb305, 0, none⟩ = some (.int .i64 a0_0) := (blk_cell BK305.out 0).trans rfl
          have hcz35_1 : wr.cell? ⟨gb305, 1, none⟩ = some (.int .i64 a0_1) := (blk_cell BK305.out 1).trans rfl
          have hcz35_2 : wr.cell? ⟨gb305, 2, none⟩ = some (.int .i64 a0_2) := (blk_cell BK305.out 2).trans rfl
          have hcz35_3 : wr.cell? ⟨gb305, 3, none⟩ = some (.slice A0_3 l0_3.length c0_3) := (blk_cell BK305.out 3).trans rfl
          have hfz35_0 := blk_frozen BK305.out 0; have hfz35_1 := blk_frozen BK305.out 1; have hfz35_2 := blk_frozen BK305.out 2; have hfz35_3 := blk_frozen BK305.out 3
          go_wp2_with (first | (go_at_call 52; (with_reducible refine (spec_HasRoom.calls k2 a0_0 a0_1 a0_2 _ _ l0_3 _ _ l1 a2_0 a2_1 a2_2 a2_3 a3 t315 _ ?side1 ?side2 ?side3 ?side4 A32.out).mono ?_); (case side1 => repeat (first | exact (Kd.C_below HR0_3.out HB.out) | (with_reducible refine cA_ ?_ _) | (with_reducible refine cN_ ?_ _) | (with_reducible refine cD_ ?_))); (case side2 => exact HC0_3.out); (case side3 => repeat (first | exact (Kd.C_below HR1.out HB.out) | (with_reducible refine cA_ ?_ _) | (with_reducible refine cN_ ?_ _) | (with_reducible refine cD_ ?_))); (case side4 => exact HC1.out); rintro e w36 ⟨rfl, hb⟩; have n0_ := aM_ (rB_ (rb_ HO_10.out) hb); have n1_ := aM_ (bB_ (g := gb305) (o := .cells #[.int .i64 a0_0, .int .i64 a0_1, .int .i64 a0_2, .slice A0_3 l0_3.length c0_3] 31 (0, 0)) (kb_ BK305.out) hb); have n2_ := aM_ (bB_ (g := gb306) (o := .cells #[.int .i64 a2_0, .int .i64 a2_1, .int .i64 a2_2, .int .i64 a2_3] 42 (0, 0)) (kb_ BK306.out) hb); have n3_ := aM_ (wS_ (bw_) hb); clear HO_10; clear BK305; clear BK306; clear HB; have HO_10 := n0_; have BK305 := n1_; have BK306 := n2_; have HB := n3_; clear n0_ n1_ n2_ n3_; (try clear hb); (try clear hb2); (try clear hk); (try clear hi)))
          repeat (go_quiet (first | (go_at_call 52; (with_reducible refine (spec_HasRoom.calls k2 a0_0 a0_1 a0_2 _ _ l0_3 _ _ l1 a2_0 a2_1 a2_2 a2_3 a3 t315 _ ?side1 ?side2 ?side3 ?side4 A32.out).mono ?_); (case side1 => repeat (first | exact (Kd.C_below HR0_3.out HB.out) | (with_reducible refine cA_ ?_ _) | (with_reducible refine cN_ ?_ _) | (with_reducible refine cD_ ?_))); (case side2 => exact HC0_3.out); (case side3 => repeat (first | exact (Kd.C_below HR1.out HB.out) | (with_reducible refine cA_ ?_ _) | (with_reducible refine cN_ ?_ _) | (with_reducible refine cD_ ?_))); (case side4 => exact HC1.out); rintro e w36 ⟨rfl, hb⟩; have n0_ := aM_ (rB_ (rb_ HO_10.out) hb); have n1_ := aM_ (bB_ (g := gb305) (o := .cells #[.int .i64 a0_0, .int .i64 a0_1, .int .i64 a0_2, .slice A0_3 l0_3.length c0_3] 31 (0, 0)) (kb_ BK305.out) hb); have n2_ := aM_ (bB_ (g := gb306) (o := .cells #[.int .i64 a2_0, .int .i64 a2_1, .int .i64 a2_2, .int .i64 a2_3] 42 (0, 0)) (kb_ BK306.out) hb); have n3_ := aM_ (wS_ (bw_) hb); clear HO_10; clear BK305; clear BK306; clear HB; have HO_10 := n0_; have BK305 := n1_; have BK306 := n2_; have HB := n3_; clear n0_ n1_ n2_ n3_; (try clear hb); (try clear hb2); (try clear hk); (try clear hi))); try go_wp2_with (first | (go_at_call 52; (with_reducible refine (spec_HasRoom.calls k2 a0_0 a0_1 a0_2 _ _ l0_3 _ _ l1 a2_0 a2_1 a2_2 a2_3 a3 t315 _ ?side1 ?side2 ?side3 ?side4 A32.out).mono ?_); (case side1 => repeat (first | exact (Kd.C_below HR0_3.out HB.out) | (with_reducible refine cA_ ?_ _) | (with_reducible refine cN_ ?_ _) | (with_reducible refine cD_ ?_))); (case side2 => exact HC0_3.out); (case side3 => repeat (first | exact (Kd.C_below HR1.out HB.out) | (with_reducible refine cA_ ?_ _) | (with_reducible refine cN_ ?_ _) | (with_reducible refine cD_ ?_))); (case side4 => exact HC1.out); rintro e w36 ⟨rfl, hb⟩; have n0_ := aM_ (rB_ (rb_ HO_10.out) hb); have n1_ := aM_ (bB_ (g := gb305) (o := .cells #[.int .i64 a0_0, .int .i64 a0_1, .int .i64 a0_2, .slice A0_3 l0_3.length c0_3] 31 (0, 0)) (kb_ BK305.out) hb); have n2_ := aM_ (bB_ (g := gb306) (o := .cells #[.int .i64 a2_0, .int .i64 a2_1, .int .i64 a2_2, .int .i64 a2_3] 42 (0, 0)) (kb_ BK306.out) hb); have n3_ := aM_ (wS_ (bw_) hb); clear HO_10; clear BK305; clear BK306; clear HB; have HO_10 := n0_; have BK305 := n1_; have BK306 := n2_; have HB := n3_; clear n0_ n1_ n2_ n3_; (try clear hb); (try clear hb2); (try clear hk); (try clear hi))))
          go_meet
          case rel => exact ⟨_, (!t315), (by first | rfl | (simp; done) | (simp [*]; done)), H', ⟨by have := HJ5.out; have := HK2.out; first | omega | exact Nat.le_refl _⟩, ⟨by (with_reducible repeat (first | apply rA_ | apply rN_ | apply rD_)); exact HO_10.out⟩, ⟨by (with_reducible repeat (first | refine bN_ ?_ _ | refine bD_ ?_ | refine bA_ ?_ _)); exact BK305.out⟩, ⟨by (with_reducible repeat (first | refine bN_ ?_ _ | refine bD_ ?_ | refine bA_ ?_ _)); exact BK306.out⟩, ⟨bw_⟩⟩
         ·rw [if_neg c31] at H
          have c31b0 : (a2_3 == 1) = false := beq_eq_false_iff_ne.mpr c31
          have c31b1 : (a2_3 != 1) = true := bne_iff_ne.mpr c31
          (first | rw [c31b0] | (simp only [i64_w, i32_w]; rw [c31b0]) | skip)
          have H' := aM_ H
          clear H; have hnb37 := NB306_305.out; have hnc37 := NB305_306.out
          have hcz38_0 : wr.cell? ⟨gb306, 0, none⟩ = some (.int .i64 a2_0) := (blk_cell BK306.out 0).trans rfl
          have hcz38_1 : wr.cell? ⟨gb306, 1, none⟩ = some (.int .i64 a2_1) := (blk_cell BK306.out 1).trans rfl
          have hcz38_2 : wr.cell? ⟨gb306, 2, none⟩ = some (.int .i64 a2_2) := (blk_cell BK306.out 2).trans rfl
          have hcz38_3 : wr.cell? ⟨gb306, 3, none⟩ = some (.int .i64 a2_3) := (blk_cell BK306.out 3).trans rfl
          have hfz38_0 := blk_frozen BK306.out 0; have hfz38_1 := blk_frozen BK306.out 1; have hfz38_2 := blk_frozen BK306.out 2; have hfz38_3 := blk_frozen BK306.out 3
          go_wp2
          repeat (go_quiet (fail); try go_wp2)
          go_meet
          case rel => exact ⟨_, (false), (by first | rfl | (simp; done) | (simp [*]; done)), H', ⟨by have := HJ5.out; have := HK2.out; first | omega | exact Nat.le_refl _⟩, ⟨by (with_reducible repeat (first | apply rA_ | apply rN_ | apply rD_)); exact HO_10.out⟩, ⟨by (with_reducible repeat (first | refine bN_ ?_ _ | refine bD_ ?_ | refine bA_ ?_ _)); exact BK305.out⟩, ⟨by (with_reducible repeat (first | refine bN_ ?_ _ | refine bD_ ?_ | refine bA_ ?_ _)); exact BK306.out⟩, ⟨bw_⟩⟩
        case rest =>
         clear HC30
         try clear c1
         try clear c2
         try clear p2
         try clear c3
         try clear p3
         try clear q3
         try clear hx3
         try clear c5
         try clear p6
         try clear c13
         try clear c14
         try clear c18
         try clear c19
         try clear c22
         try clear c23
         try clear c23b0
         try clear c24
         try clear c24b0
         try clear c25
         try clear c25b0
         try clear c25b1
         try clear c26
         try clear c28
         try clear c31
         try clear c31b0
         try clear c31b1
         try clear p31
         try clear q31
         try clear hx31
         try clear c33
         try clear c37
         try clear hcz15_0
         try clear hcz15_1
         try clear hcz15_2
         try clear hcz15_3
         try clear hcz16_0
         try clear hcz16_1
         try clear hcz16_2
         try clear hcz16_3
         try clear hcz19_0
         try clear hcz19_1
         try clear hcz19_2
         try clear hcz19_3
         try clear hcz20_0
         try clear hcz20_1
         try clear hcz20_2
         try clear hcz20_3
         try clear hcz27_0
         try clear hcz27_1
         try clear hcz27_2
         try clear hcz27_3
         try clear hcz29_0
         try clear hcz29_1
         try clear hcz29_2
         try clear hcz29_3
         try clear hcz34_0
         try clear hcz34_1
         try clear hcz34_2
         try clear hcz34_3
         try clear hcz35_0
         try clear hcz35_1
         try clear hcz35_2
         try clear hcz35_3
         try clear hcz38_0
         try clear hcz38_1
         try clear hcz38_2
         try clear hcz38_3
         try clear hfz15_0
         try clear hfz15_1
         try clear hfz15_2
         try clear hfz15_3
         try clear hfz16_0
         try clear hfz16_1
         try clear hfz16_2
         try clear hfz16_3
         try clear hfz19_0
         try clear hfz19_1
         try clear hfz19_2
         try clear hfz19_3
         try clear hfz20_0
         try clear hfz20_1
         try clear hfz20_2
         try clear hfz20_3
         try clear hfz27_0
         try clear hfz27_1
         try clear hfz27_2
         try clear hfz27_3
         try clear hfz29_0
         try clear hfz29_1
         try clear hfz29_2
         try clear hfz29_3
         try clear hfz34_0
         try clear hfz34_1
         try clear hfz34_2
         try clear hfz34_3
         try clear hfz35_0
         try clear hfz35_1
         try clear hfz35_2
         try clear hfz35_3
         try clear hfz38_0
         try clear hfz38_1
         try clear hfz38_2
         try clear hfz38_3
         try clear hx314_0
         try clear hx314_1
         try clear hx314_2
         try clear hx314_3
         try clear p2
         try clear p314
         try clear q314
         obtain ⟨kq, x51_29, rfl, HA, HJ29, HO_10, BK305, BK306, HB⟩ := hcut
         cases kq with
         | zero => exact absurd HA.out (by simp [spec_AdmitFlow.j2])
         | succ kj29 =>
          have H := HA.out; clear HA
          simp only [spec_AdmitFlow.j2] at H
          by_cases c39 : x51_29 = true
          ·subst c39
           have H1 : (some (y310, false)) = some (r1, r2) := by rw [if_pos rfl] at H; exact H
           clear H; have H := H1; clear H1
           simp only [Option.some.injEq, Prod.mk.injEq] at H
           obtain ⟨rfl, rfl⟩ := H
           go_wp2
           repeat (go_quiet (fail); try go_wp2)
           go_ret2
           exact ⟨_, by first | rfl | (simp [errW_none, errW_some] <;> rfl) | (simp [*, errW_none, errW_some] <;> rfl), by (with_reducible repeat (first | apply rA_ | apply rN_ | apply rD_)); exact Kd.R_mono HO_10.out (fun _ hk => trivial), bw_⟩
          ·replace c39 := Bool.eq_false_iff.mpr c39
           subst c39
           have H1 : (if y310.length < 4398046511104 then (some ((y310 ++ [(⟨a2_0, a2_1, a2_2, a2_3⟩ : S42)]), true)) else (none)) = some (r1, r2) := by rw [if_neg (show ¬ (false = true) by decide)] at H; exact H
           clear H; have H := H1; clear H1
           by_cases c40 : y310.length < 4398046511104
           ·rw [if_pos c40] at H
            have LMc40 := aM_ c40; clear c40
            obtain ⟨y316, hy316⟩ : ∃ y_ : List (S42), y_ = (y310 ++ [(⟨a2_0, a2_1, a2_2, a2_3⟩ : S42)]) := ⟨_, rfl⟩
            replace H : (some (y316, true)) = some (r1, r2) := by first | (rw [hy316]; with_reducible exact H) | (have H2_ := (Option.bind_some _ _).symm.trans H; rw [hy316]; with_reducible exact H2_) | (have H2_ := (Option.bind_some _ _).symm.trans H; with_reducible exact H2_) | with_reducible exact H | (rw [hy316]; exact H) | exact H
            have Ny316 := aM_ hy316; clear hy316
            simp only [Option.some.injEq, Prod.mk.injEq] at H
            obtain ⟨rfl, rfl⟩ := H
            have hnb41 := NB306_305.out; have hnc41 := NB305_306.out
            have hcz42_0 : wc.cell? ⟨gb306, 0, none⟩ = some (.int .i64 a2_0) := (blk_cell BK306.out 0).trans rfl
            have hcz42_1 : wc.cell? ⟨gb306, 1, none⟩ = some (.int .i64 a2_1) := (blk_cell BK306.out 1).trans rfl
            have hcz42_2 : wc.cell? ⟨gb306, 2, none⟩ = some (.int .i64 a2_2) := (blk_cell BK306.out 2).trans rfl
            have hcz42_3 : wc.cell? ⟨gb306, 3, none⟩ = some (.int .i64 a2_3) := (blk_cell BK306.out 3).trans rfl
            have hfz42_0 := blk_frozen BK306.out 0; have hfz42_1 := blk_frozen BK306.out 1; have hfz42_2 := blk_frozen BK306.out 2; have hfz42_3 := blk_frozen BK306.out 3
            go_wp2_with (first | ((with_reducible refine gate_builtin (b := .append) (xs := #[.tmp 53, .tmp 55]) rfl ?_); (try (refine gate_guard (by rfl) ?_; dsimp only)); at_builtin; refine Kd.R_append k42 (w0 := w) w.heap.size rfl (.tmp 53) (.tmp 55) 33 42 (.agg #[(.int .i64 0), (.int .i64 0), (.int .i64 0), (.int .i64 0)]) 32 rfl Try.underlying33 info42 rfl (by decide) (by omega) v311 y310 (⟨a2_0, a2_1, a2_2, a2_3⟩ : S42) [.int .i64 a2_0, .int .i64 a2_1, .int .i64 a2_2, .int .i64 a2_3] (fun k_ => k_ ≠ gb306) (fun _ => False) rfl rfl ?aP (fun _ hk => hk.elim) ?aF ?aO ?aB ?aS ?aL ?_; (case aP => exact k42_mkM _ _ _ (⟨a2_0, a2_1, a2_2, a2_3⟩ : S42)); (case aB => exact (bw_)); (case aF => exact (fun k_ hk => Kd.freshB (g := gb306) (o := .cells #[.int .i64 a2_0, .int .i64 a2_1, .int .i64 a2_2, .int .i64 a2_3] 42 (0, 0)) (kb_ BK306.out) k_ hk)); (case aO => exact (rb_ HO_10.out)); (case aS => exact (sZ_ (bw_))); (case aL => have := LMc40.out; omega); intro v317 w43 ho hb hg hat; rw [← Ny316.out] at ho; have n0_ := aM_ (blk_grown (g := gb305) (o := .cells #[.int .i64 a0_0, .int .i64 a0_1, .int .i64 a0_2, .slice A0_3 l0_3.length c0_3] 31 (0, 0)) (kb_ BK305.out) hg (Kd.R_ne HO_10.out BK305.out (by decide))); have n1_ := aM_ (blk_grown (g := gb306) (o := .cells #[.int .i64 a2_0, .int .i64 a2_1, .int .i64 a2_2, .int .i64 a2_3] 42 (0, 0)) (kb_ BK306.out) hg (Kd.R_away HO_10.out (fun _ hk => hk))); have n2_ := aM_ (hb); have n3_ := aM_ (ho); clear BK305; clear BK306; clear HB; clear HO_10; have BK305 := n0_; have BK306 := n1_; have HB := n2_; have HO318 := n3_; clear n0_ n1_ n2_ n3_; clear ho hb hg hat))
            repeat (go_quiet (first | ((with_reducible refine gate_builtin (b := .append) (xs := #[.tmp 53, .tmp 55]) rfl ?_); (try (refine gate_guard (by rfl) ?_; dsimp only)); at_builtin; refine Kd.R_append k42 (w0 := w) w.heap.size rfl (.tmp 53) (.tmp 55) 33 42 (.agg #[(.int .i64 0), (.int .i64 0), (.int .i64 0), (.int .i64 0)]) 32 rfl Try.underlying33 info42 rfl (by decide) (by omega) v311 y310 (⟨a2_0, a2_1, a2_2, a2_3⟩ : S42) [.int .i64 a2_0, .int .i64 a2_1, .int .i64 a2_2, .int .i64 a2_3] (fun k_ => k_ ≠ gb306) (fun _ => False) rfl rfl ?aP (fun _ hk => hk.elim) ?aF ?aO ?aB ?aS ?aL ?_; (case aP => exact k42_mkM _ _ _ (⟨a2_0, a2_1, a2_2, a2_3⟩ : S42)); (case aB => exact (bw_)); (case aF => exact (fun k_ hk => Kd.freshB (g := gb306) (o := .cells #[.int .i64 a2_0, .int .i64 a2_1, .int .i64 a2_2, .int .i64 a2_3] 42 (0, 0)) (kb_ BK306.out) k_ hk)); (case aO => exact (rb_ HO_10.out)); (case aS => exact (sZ_ (bw_))); (case aL => have := LMc40.out; omega); intro v317 w43 ho hb hg hat; rw [← Ny316.out] at ho; have n0_ := aM_ (blk_grown (g := gb305) (o := .cells #[.int .i64 a0_0, .int .i64 a0_1, .int .i64 a0_2, .slice A0_3 l0_3.length c0_3] 31 (0, 0)) (kb_ BK305.out) hg (Kd.R_ne HO_10.out BK305.out (by decide))); have n1_ := aM_ (blk_grown (g := gb306) (o := .cells #[.int .i64 a2_0, .int .i64 a2_1, .int .i64 a2_2, .int .i64 a2_3] 42 (0, 0)) (kb_ BK306.out) hg (Kd.R_away HO_10.out (fun _ hk => hk))); have n2_ := aM_ (hb); have n3_ := aM_ (ho); clear BK305; clear BK306; clear HB; clear HO_10; have BK305 := n0_; have BK306 := n1_; have HB := n2_; have HO318 := n3_; clear n0_ n1_ n2_ n3_; clear ho hb hg hat)); try go_wp2_with (first | ((with_reducible refine gate_builtin (b := .append) (xs := #[.tmp 53, .tmp 55]) rfl ?_); (try (refine gate_guard (by rfl) ?_; dsimp only)); at_builtin; refine Kd.R_append k42 (w0 := w) w.heap.size rfl (.tmp 53) (.tmp 55) 33 42 (.agg #[(.int .i64 0), (.int .i64 0), (.int .i64 0), (.int .i64 0)]) 32 rfl Try.underlying33 info42 rfl (by decide) (by omega) v311 y310 (⟨a2_0, a2_1, a2_2, a2_3⟩ : S42) [.int .i64 a2_0, .int .i64 a2_1, .int .i64 a2_2, .int .i64 a2_3] (fun k_ => k_ ≠ gb306) (fun _ => False) rfl rfl ?aP (fun _ hk => hk.elim) ?aF ?aO ?aB ?aS ?aL ?_; (case aP => exact k42_mkM _ _ _ (⟨a2_0, a2_1, a2_2, a2_3⟩ : S42)); (case aB => exact (bw_)); (case aF => exact (fun k_ hk => Kd.freshB (g := gb306) (o := .cells #[.int .i64 a2_0, .int .i64 a2_1, .int .i64 a2_2, .int .i64 a2_3] 42 (0, 0)) (kb_ BK306.out) k_ hk)); (case aO => exact (rb_ HO_10.out)); (case aS => exact (sZ_ (bw_))); (case aL => have := LMc40.out; omega); intro v317 w43 ho hb hg hat; rw [← Ny316.out] at ho; have n0_ := aM_ (blk_grown (g := gb305) (o := .cells #[.int .i64 a0_0, .int .i64 a0_1, .int .i64 a0_2, .slice A0_3 l0_3.length c0_3] 31 (0, 0)) (kb_ BK305.out) hg (Kd.R_ne HO_10.out BK305.out (by decide))); have n1_ := aM_ (blk_grown (g := gb306) (o := .cells #[.int .i64 a2_0, .int .i64 a2_1, .int .i64 a2_2, .int .i64 a2_3] 42 (0, 0)) (kb_ BK306.out) hg (Kd.R_away HO_10.out (fun _ hk => hk))); have n2_ := aM_ (hb); have n3_ := aM_ (ho); clear BK305; clear BK306; clear HB; clear HO_10; have BK305 := n0_; have BK306 := n1_; have HB := n2_; have HO318 := n3_; clear n0_ n1_ n2_ n3_; clear ho hb hg hat)))
            go_ret2
            exact ⟨_, by first | rfl | (simp [errW_none, errW_some] <;> rfl) | (simp [*, errW_none, errW_some] <;> rfl), by (with_reducible repeat (first | apply rA_ | apply rN_ | apply rD_)); exact Kd.R_mono HO318.out (fun _ hk => trivial), bw_⟩
           ·rw [if_neg c40] at H
            exact absurd H (by simp)
 ·rw [if_neg c5] at H
  exact absurd H (by simp)

/-! ### slices_Clone_impl_Flow_impl_Flow: function 53 -/
def slices_Clone_impl_Flow_impl_Flow.f (l0 : List (S42)) : Option (List (S42)) := if l0.length < 4398046511104 then some l0 else none
set_option maxHeartbeats 8000000 in
set_option maxRecDepth 100000 in
theorem slices_Clone_impl_Flow_impl_Flow.calls (A0 : Option Addr) (c0 : Nat) (l0 : List (S42)) (r : List (S42)) (w : World) (hr0 : Kd.C k42 w A0 l0.length l0) (hc0 : l0.length ≤ c0) (h : slices_Clone_impl_Flow_impl_Flow.f l0 = some r) :
    Calls Try.prog 53 #[.slice A0 l0.length c0] w fun e w' => ∃ v0_ : Value, e = .returned (v0_) ∧ Kd.R k42 42 w' w.heap.size (fun _ => True) v0_ r ∧ Below w.heap.size w w' := by
  unfold slices_Clone_impl_Flow_impl_Flow.f at h
  have q22 : ∀ (w : World) (a : Option Addr) (n c n' c' : Nat), (binOp .eql 33 (.slice a n c) (.slice none n' c')).run Try.prog w = .ok (.bool a.isNone) w := fun w a n c n' c' => Lib.run_eql_slice_nil w _ _ a n c n' c' Try.underlying33
  by_cases hlim : l0.length < 4398046511104
  · rw [if_pos hlim] at h
    obtain rfl := Option.some.inj h
    cases A0 with
    | none =>
      have h0 : l0.length = 0 := by
        rcases Nat.eq_zero_or_pos l0.length with h | h
        · exact h
        · obtain ⟨ad, e, _⟩ := hr0.2.2 h
          cases e
      obtain rfl : l0 = [] := List.length_eq_zero_iff.1 h0
      go_enter Try.func53, Try.ntmps53
      go_wp2
      go_ret
      exact ⟨_, rfl, Kd.R_nil _ _ _ _ _, Below.refl _ _⟩
    | some ad =>
      have HR0 := aM_ hr0
      have HC0 := aM_ hc0
      have LM := aM_ hlim
      have HB := aM_ (Below.refl w.heap.size w)
      clear hr0 hc0 hlim h
      go_enter Try.func53, Try.ntmps53
      go_wp2_with (first | ((with_reducible refine gate_dst (N := 5) rfl ?_); refine Kd.R_lit k42 _ 42 ?hg (N := 5) ?hd (xs := ([] : List (S42))) (inner := []) (ok := fun _ => True) (okp := fun _ => True) ?hr ?hp (fun _ hk => hk) trivial (Below.refl _ _) (Nat.le_refl _) (by simp) ?_; (case hd => rfl); (case hg => rfl); (case hr => first | (go_simp; done) | (go_simp; rfl)); (case hp => exact (Reps.none _ _)); intro v106 w5 ho6 hb hg_ hnew_; clear hg_ hnew_; have n0_ := aM_ (Kd.R_lower ho6 (sZ_ (bw_))); have n3_ := aM_ (wS_ (bw_) hb); clear HB; have HO107 := n0_; have HB := n3_; clear n0_ n3_; clear hb ho6) | ((with_reducible refine gate_builtin (b := .append) (xs := #[.tmp 5, .tmp 6]) rfl ?_); at_builtin; refine Kd.R_append_rows k42 (w0 := w) w.heap.size rfl (.tmp 5) (.tmp 6) 33 42 ((.agg #[(.int .i64 0), (.int .i64 0), (.int .i64 0), (.int .i64 0)])) 32 rfl Try.underlying33 info42 rfl (by decide) (by omega) v106 ([] : List (S42)) l0 _ _ _ (fun _ => True) (fun _ => False) rfl rfl ?aO ?aR (fun _ _ h => h) (fun _ h => h.elim) ?aF ?aB ?aS ?aL ?_; (case aR => repeat (first | exact (Kd.C_below HR0.out HB.out) | (with_reducible refine cA_ ?_ _) | (with_reducible refine cN_ ?_ _) | (with_reducible refine cD_ ?_))); (case aB => exact (bw_)); (case aF => exact (fun _ _ => trivial)); (case aO => exact (rb_ HO107.out)); (case aS => exact (sZ_ (bw_))); (case aL => have := LM.out; simp only [List.length_nil]; omega); intro v109 w9 ho hb hg hat; rw [List.nil_append] at ho; have n2_ := aM_ (hb); have n3_ := aM_ (ho); clear HB; clear HO107; have HB := n2_; have HO110 := n3_; clear n2_ n3_; clear ho hb hg hat))
      go_ret
      exact ⟨_, rfl, HO110.out, HB.out⟩
  · rw [if_neg hlim] at h
    cases h

/-! ### impl_isIndex: function 62 -/
def impl_isIndex.f (a0 : Int) (a1 : Int) : Option (Bool) := if a0 ≥ 0 then (some (decide (a0 < a1))) else (some false)
set_option maxHeartbeats 8000000 in
set_option maxRecDepth 100000 in
theorem impl_isIndex.calls (a0 : Int) (a1 : Int) (r : Bool) (w : World) (h : impl_isIndex.f a0 a1 = some r) :
    Calls Try.prog 62 #[.int .i64 a0, .int .i64 a1] w fun e w' => e = .returned (.bool r) ∧ Drawn0 w w' := by
  have H : (if a0 ≥ 0 then (some (decide (a0 < a1))) else (some false)) = some r := h
  clear h
  by_cases c3 : a0 ≥ 0
  · rw [if_pos c3] at H
    have c3b0 : decide (0 ≤ a0) = true := decide_eq_true c3
    clear c3
    obtain rfl := Option.some.inj H
    go_enter Try.func62, Try.ntmps62
    go_wp2
    go_ret
    exact ⟨by first | rfl | (simp; done) | (simp [*]; done), by repeat (first | exact Drawn0.refl _ | apply Drawn0.step)⟩
  · rw [if_neg c3] at H
    have c3b0 : decide (0 ≤ a0) = false := decide_eq_false c3
    clear c3
    obtain rfl := Option.some.inj H
    go_enter Try.func62, Try.ntmps62
    go_wp2
    go_ret
    exact ⟨by first | rfl | (simp; done) | (simp [*]; done), by repeat (first | exact Drawn0.refl _ | apply Drawn0.step)⟩

/-! ### impl_InRange: function 76 -/
def impl_InRange.f (a0 : Int) (a1 : Int) (a2 : Int) : Option (Bool) := if a1 ≤ a0 then (some (decide (a0 ≤ a2))) else (some false)
set_option maxHeartbeats 8000000 in
set_option maxRecDepth 100000 in
theorem impl_InRange.calls (a0 : Int) (a1 : Int) (a2 : Int) (r : Bool) (w : World) (h : impl_InRange.f a0 a1 a2 = some r) :
    Calls Try.prog 76 #[.int .i64 a0, .int .i64 a1, .int .i64 a2] w fun e w' => e = .returned (.bool r) ∧ Drawn0 w w' := by
  have H : (if a1 ≤ a0 then (some (decide (a0 ≤ a2))) else (some false)) = some r := h
  clear h
  by_cases c4 : a1 ≤ a0
  · rw [if_pos c4] at H
    have c4b0 : decide (a1 ≤ a0) = true := decide_eq_true c4
    clear c4
    obtain rfl := Option.some.inj H
    go_enter Try.func76, Try.ntmps76
    go_wp2
    go_ret
    exact ⟨by first | rfl | (simp; done) | (simp [*]; done), by repeat (first | exact Drawn0.refl _ | apply Drawn0.step)⟩
  · rw [if_neg c4] at H
    have c4b0 : decide (a1 ≤ a0) = false := decide_eq_false c4
    clear c4
    obtain rfl := Option.some.inj H
    go_enter Try.func76, Try.ntmps76
    go_wp2
    go_ret
    exact ⟨by first | rfl | (simp; done) | (simp [*]; done), by repeat (first | exact Drawn0.refl _ | apply Drawn0.step)⟩

/-! ### impl_IsFlow: function 54 -/
def impl_IsFlow.f (a0_0 : Int) (a0_1 : Int) (a0_2 : Int) (a0_3 : Int) (a1 : Int) : Option (Bool) := (impl_InRange.f a0_0 0 9999).bind fun t320 => (if t320 = true then ((impl_isIndex.f a0_1 a1).bind fun t321 => (if t321 = true then ((impl_isIndex.f a0_2 a1).bind fun t322 => (if t322 = true then (if a0_1 = a0_2 then (some false) else ((impl_InRange.f a0_3 0 1).bind fun t323 => (some t323))) else (some false))) else (some false))) else (some false))
set_option maxHeartbeats 8000000 in
set_option maxRecDepth 100000 in
theorem impl_IsFlow.calls (a0_0 : Int) (a0_1 : Int) (a0_2 : Int) (a0_3 : Int) (a1 : Int) (r : Bool) (w : World) (h : impl_IsFlow.f a0_0 a0_1 a0_2 a0_3 a1 = some r) :
  Calls Try.prog 54 #[.agg #[.int .i64 a0_0, .int .i64 a0_1, .int .i64 a0_2, .int .i64 a0_3], .int .i64 a1] w fun e w' => e = .returned (.bool r) ∧ Below w.heap.size w w' := by
 have hu42 := Try.underlying42; have HB := aM_ (Below.refl w.heap.size w)
 have H : ((impl_InRange.f a0_0 0 9999).bind fun t320 => (if t320 = true then ((impl_isIndex.f a0_1 a1).bind fun t321 => (if t321 = true then ((impl_isIndex.f a0_2 a1).bind fun t322 => (if t322 = true then (if a0_1 = a0_2 then (some false) else ((impl_InRange.f a0_3 0 1).bind fun t323 => (some t323))) else (some false))) else (some false))) else (some false))) = some r := h
 clear h
 replace H := Option.bind_eq_some_iff.mp H
 obtain ⟨t320, A30, H⟩ := H
 (try dsimp only at H)
 have A3 := aM_ A30; clear A30
 by_cases c4 : t320 = true
 ·subst c4
  have H1 : ((impl_isIndex.f a0_1 a1).bind fun t321 => (if t321 = true then ((impl_isIndex.f a0_2 a1).bind fun t322 => (if t322 = true then (if a0_1 = a0_2 then (some false) else ((impl_InRange.f a0_3 0 1).bind fun t323 => (some t323))) else (some false))) else (some false))) = some r := by rw [if_pos rfl] at H; exact H
  clear H; have H := H1; clear H1
  replace H := Option.bind_eq_some_iff.mp H
  obtain ⟨t321, A50, H⟩ := H
  (try dsimp only at H)
  have A5 := aM_ A50; clear A50
  by_cases c6 : t321 = true
  ·subst c6
   have H1 : ((impl_isIndex.f a0_2 a1).bind fun t322 => (if t322 = true then (if a0_1 = a0_2 then (some false) else ((impl_InRange.f a0_3 0 1).bind fun t323 => (some t323))) else (some false))) = some r := by rw [if_pos rfl] at H; exact H
   clear H; have H := H1; clear H1
   replace H := Option.bind_eq_some_iff.mp H
   obtain ⟨t322, A70, H⟩ := H
   (try dsimp only at H)
   have A7 := aM_ A70; clear A70
   by_cases c8 : t322 = true
   ·subst c8
    have H1 : (if a0_1 = a0_2 then (some false) else ((impl_InRange.f a0_3 0 1).bind fun t323 => (some t323))) = some r := by rw [if_pos rfl] at H; exact H
    clear H; have H := H1; clear H1
    by_cases c9 : a0_1 = a0_2
    ·rw [if_pos c9] at H
     have c9b0 : (a0_1 == a0_2) = true := beq_iff_eq.mpr c9
     have c9b1 : (a0_1 != a0_2) = false := bne_eq_false_iff_eq.mpr c9
     clear c9
     obtain rfl := Option.some.inj H
     go_enter Try.func54, Try.ntmps54
     go_wp2_with (first | ((with_reducible refine gate_dst (N := 2) rfl ?_); refine box_event ?hg (N := 2) ?hd (cs := #[.int .i64 a0_0, .int .i64 a0_1, .int .i64 a0_2, .int .i64 a0_3]) (t := 42) ?hr ?_; (case hd => rfl); (case hg => rfl); (case hr => first | (go_simp; done) | (go_simp; rfl)); intro gb319 hg w10 hbox hb; have n0_ := aM_ (wS_ (bw_) hb); have n1_ := aM_ (hbox); have n2_ := aM_ ((by rw [hg]; exact (sZ_ (bw_)) : w.heap.size ≤ gb319)); have n3_ := aM_ ((by rw [hg]; exact (sZ_ (bw_)) : w.heap.size ≤ gb319)); clear HB; have HB := n0_; have BK319 := n1_; have GW319 := n2_; have GE319 := n3_; clear n0_ n1_ n2_ n3_; clear hb hbox hg; have hcz11_0 : w10.cell? ⟨gb319, 0, none⟩ = some (.int .i64 a0_0) := (blk_cell BK319.out 0).trans rfl; have hcz11_1 : w10.cell? ⟨gb319, 1, none⟩ = some (.int .i64 a0_1) := (blk_cell BK319.out 1).trans rfl; have hcz11_2 : w10.cell? ⟨gb319, 2, none⟩ = some (.int .i64 a0_2) := (blk_cell BK319.out 2).trans rfl; have hcz11_3 : w10.cell? ⟨gb319, 3, none⟩ = some (.int .i64 a0_3) := (blk_cell BK319.out 3).trans rfl; have hfz11_0 := blk_frozen BK319.out 0; have hfz11_1 := blk_frozen BK319.out 1; have hfz11_2 := blk_frozen BK319.out 2; have hfz11_3 := blk_frozen BK319.out 3) | ((with_reducible refine gate_callee (f := 76) rfl ?_); refine goesL_ (some 7) rfl rfl Try.func76 (by kernel_rfl) rfl #[.int .i64 a0_0, .int .i64 0, .int .i64 9999] rfl (by (try simp only [List.map_toArray, List.map_cons, List.map_nil]); first | done | rfl | (simp only [List.length_drop, List.length_take]; rfl)) ?_; (with_reducible refine (impl_InRange.calls a0_0 0 9999 true _ A3.out).mono ?_); rintro e w' ⟨rfl, ⟨nd, rfl⟩⟩; refine ⟨_, rfl, ?_⟩) | (go_at_call 62; (with_reducible refine (impl_isIndex.calls a0_1 a1 true _ A5.out).mono ?_); rintro e w' ⟨rfl, ⟨nd, rfl⟩⟩) | (go_at_call 62; (with_reducible refine (impl_isIndex.calls a0_2 a1 true _ A7.out).mono ?_); rintro e w' ⟨rfl, ⟨nd, rfl⟩⟩))
     go_ret
     exact ⟨by first | rfl | (simp [errW_none, errW_some] <;> rfl) | (simp [*, errW_none, errW_some] <;> rfl), bw_⟩
    ·rw [if_neg c9] at H
     have c9b0 : (a0_1 == a0_2) = false := beq_eq_false_iff_ne.mpr c9
     have c9b1 : (a0_1 != a0_2) = true := bne_iff_ne.mpr c9
     replace H := Option.bind_eq_some_iff.mp H
     obtain ⟨t323, A120, H⟩ := H
     (try dsimp only at H)
     have A12 := aM_ A120; clear A120
     obtain rfl := Option.some.inj H
     go_enter Try.func54, Try.ntmps54
     go_wp2_with (first | ((with_reducible refine gate_dst (N := 2) rfl ?_); refine box_event ?hg (N := 2) ?hd (cs := #[.int .i64 a0_0, .int .i64 a0_1, .int .i64 a0_2, .int .i64 a0_3]) (t := 42) ?hr ?_; (case hd => rfl); (case hg => rfl); (case hr => first | (go_simp; done) | (go_simp; rfl)); intro gb319 hg w13 hbox hb; have n0_ := aM_ (wS_ (bw_) hb); have n1_ := aM_ (hbox); have n2_ := aM_ ((by rw [hg]; exact (sZ_ (bw_)) : w.heap.size ≤ gb319)); have n3_ := aM_ ((by rw [hg]; exact (sZ_ (bw_)) : w.heap.size ≤ gb319)); clear HB; have HB := n0_; have BK319 := n1_; have GW319 := n2_; have GE319 := n3_; clear n0_ n1_ n2_ n3_; clear hb hbox hg; have hcz14_0 : w13.cell? ⟨gb319, 0, none⟩ = some (.int .i64 a0_0) := (blk_cell BK319.out 0).trans rfl; have hcz14_1 : w13.cell? ⟨gb319, 1, none⟩ = some (.int .i64 a0_1) := (blk_cell BK319.out 1).trans rfl; have hcz14_2 : w13.cell? ⟨gb319, 2, none⟩ = some (.int .i64 a0_2) := (blk_cell BK319.out 2).trans rfl; have hcz14_3 : w13.cell? ⟨gb319, 3, none⟩ = some (.int .i64 a0_3) := (blk_cell BK319.out 3).trans rfl; have hfz14_0 := blk_frozen BK319.out 0; have hfz14_1 := blk_frozen BK319.out 1; have hfz14_2 := blk_frozen BK319.out 2; have hfz14_3 := blk_frozen BK319.out 3) | ((with_reducible refine gate_callee (f := 76) rfl ?_); refine goesL_ (some 7) rfl rfl Try.func76 (by kernel_rfl) rfl #[.int .i64 a0_0, .int .i64 0, .int .i64 9999] rfl (by (try simp only [List.map_toArray, List.map_cons, List.map_nil]); first | done | rfl | (simp only [List.length_drop, List.length_take]; rfl)) ?_; (with_reducible refine (impl_InRange.calls a0_0 0 9999 true _ A3.out).mono ?_); rintro e w' ⟨rfl, ⟨nd, rfl⟩⟩; refine ⟨_, rfl, ?_⟩) | (go_at_call 62; (with_reducible refine (impl_isIndex.calls a0_1 a1 true _ A5.out).mono ?_); rintro e w' ⟨rfl, ⟨nd, rfl⟩⟩) | (go_at_call 62; (with_reducible refine (impl_isIndex.calls a0_2 a1 true _ A7.out).mono ?_); rintro e w' ⟨rfl, ⟨nd, rfl⟩⟩) | (go_at_call 76; (with_reducible refine (impl_InRange.calls a0_3 0 1 t323 _ A12.out).mono ?_); rintro e w' ⟨rfl, ⟨nd, rfl⟩⟩))
     go_ret
     exact ⟨by first | rfl | (simp [errW_none, errW_some] <;> rfl) | (simp [*, errW_none, errW_some] <;> rfl), bw_⟩
   ·replace c8 := Bool.eq_false_iff.mpr c8
    subst c8
    have H1 : (some false) = some r := by rw [if_neg (show ¬ (false = true) by decide)] at H; exact H
    clear H; have H := H1; clear H1
    obtain rfl := Option.some.inj H
    go_enter Try.func54, Try.ntmps54
    go_wp2_with (first | ((with_reducible refine gate_dst (N := 2) rfl ?_); refine box_event ?hg (N := 2) ?hd (cs := #[.int .i64 a0_0, .int .i64 a0_1, .int .i64 a0_2, .int .i64 a0_3]) (t := 42) ?hr ?_; (case hd => rfl); (case hg => rfl); (case hr => first | (go_simp; done) | (go_simp; rfl)); intro gb319 hg w15 hbox hb; have n0_ := aM_ (wS_ (bw_) hb); have n1_ := aM_ (hbox); have n2_ := aM_ ((by rw [hg]; exact (sZ_ (bw_)) : w.heap.size ≤ gb319)); have n3_ := aM_ ((by rw [hg]; exact (sZ_ (bw_)) : w.heap.size ≤ gb319)); clear HB; have HB := n0_; have BK319 := n1_; have GW319 := n2_; have GE319 := n3_; clear n0_ n1_ n2_ n3_; clear hb hbox hg; have hcz16_0 : w15.cell? ⟨gb319, 0, none⟩ = some (.int .i64 a0_0) := (blk_cell BK319.out 0).trans rfl; have hcz16_1 : w15.cell? ⟨gb319, 1, none⟩ = some (.int .i64 a0_1) := (blk_cell BK319.out 1).trans rfl; have hcz16_2 : w15.cell? ⟨gb319, 2, none⟩ = some (.int .i64 a0_2) := (blk_cell BK319.out 2).trans rfl; have hcz16_3 : w15.cell? ⟨gb319, 3, none⟩ = some (.int .i64 a0_3) := (blk_cell BK319.out 3).trans rfl; have hfz16_0 := blk_frozen BK319.out 0; have hfz16_1 := blk_frozen BK319.out 1; have hfz16_2 := blk_frozen BK319.out 2; have hfz16_3 := blk_frozen BK319.out 3) | ((with_reducible refine gate_callee (f := 76) rfl ?_); refine goesL_ (some 7) rfl rfl Try.func76 (by kernel_rfl) rfl #[.int .i64 a0_0, .int .i64 0, .int .i64 9999] rfl (by (try simp only [List.map_toArray, List.map_cons, List.map_nil]); first | done | rfl | (simp only [List.length_drop, List.length_take]; rfl)) ?_; (with_reducible refine (impl_InRange.calls a0_0 0 9999 true _ A3.out).mono ?_); rintro e w' ⟨rfl, ⟨nd, rfl⟩⟩; refine ⟨_, rfl, ?_⟩) | (go_at_call 62; (with_reducible refine (impl_isIndex.calls a0_1 a1 true _ A5.out).mono ?_); rintro e w' ⟨rfl, ⟨nd, rfl⟩⟩) | (go_at_call 62; (with_reducible refine (impl_isIndex.calls a0_2 a1 false _ A7.out).mono ?_); rintro e w' ⟨rfl, ⟨nd, rfl⟩⟩))
    go_ret
    exact ⟨by first | rfl | (simp [errW_none, errW_some] <;> rfl) | (simp [*, errW_none, errW_some] <;> rfl), bw_⟩
  ·replace c6 := Bool.eq_false_iff.mpr c6
   subst c6
   have H1 : (some false) = some r := by rw [if_neg (show ¬ (false = true) by decide)] at H; exact H
   clear H; have H := H1; clear H1
   obtain rfl := Option.some.inj H
   go_enter Try.func54, Try.ntmps54
   go_wp2_with (first | ((with_reducible refine gate_dst (N := 2) rfl ?_); refine box_event ?hg (N := 2) ?hd (cs := #[.int .i64 a0_0, .int .i64 a0_1, .int .i64 a0_2, .int .i64 a0_3]) (t := 42) ?hr ?_; (case hd => rfl); (case hg => rfl); (case hr => first | (go_simp; done) | (go_simp; rfl)); intro gb319 hg w17 hbox hb; have n0_ := aM_ (wS_ (bw_) hb); have n1_ := aM_ (hbox); have n2_ := aM_ ((by rw [hg]; exact (sZ_ (bw_)) : w.heap.size ≤ gb319)); have n3_ := aM_ ((by rw [hg]; exact (sZ_ (bw_)) : w.heap.size ≤ gb319)); clear HB; have HB := n0_; have BK319 := n1_; have GW319 := n2_; have GE319 := n3_; clear n0_ n1_ n2_ n3_; clear hb hbox hg; have hcz18_0 : w17.cell? ⟨gb319, 0, none⟩ = some (.int .i64 a0_0) := (blk_cell BK319.out 0).trans rfl; have hcz18_1 : w17.cell? ⟨gb319, 1, none⟩ = some (.int .i64 a0_1) := (blk_cell BK319.out 1).trans rfl; have hcz18_2 : w17.cell? ⟨gb319, 2, none⟩ = some (.int .i64 a0_2) := (blk_cell BK319.out 2).trans rfl; have hcz18_3 : w17.cell? ⟨gb319, 3, none⟩ = some (.int .i64 a0_3) := (blk_cell BK319.out 3).trans rfl; have hfz18_0 := blk_frozen BK319.out 0; have hfz18_1 := blk_frozen BK319.out 1; have hfz18_2 := blk_frozen BK319.out 2; have hfz18_3 := blk_frozen BK319.out 3) | ((with_reducible refine gate_callee (f := 76) rfl ?_); refine goesL_ (some 7) rfl rfl Try.func76 (by kernel_rfl) rfl #[.int .i64 a0_0, .int .i64 0, .int .i64 9999] rfl (by (try simp only [List.map_toArray, List.map_cons, List.map_nil]); first | done | rfl | (simp only [List.length_drop, List.length_take]; rfl)) ?_; (with_reducible refine (impl_InRange.calls a0_0 0 9999 true _ A3.out).mono ?_); rintro e w' ⟨rfl, ⟨nd, rfl⟩⟩; refine ⟨_, rfl, ?_⟩) | (go_at_call 62; (with_reducible refine (impl_isIndex.calls a0_1 a1 false _ A5.out).mono ?_); rintro e w' ⟨rfl, ⟨nd, rfl⟩⟩))
   go_ret
   exact ⟨by first | rfl | (simp [errW_none, errW_some] <;> rfl) | (simp [*, errW_none, errW_some] <;> rfl), bw_⟩
 ·replace c4 := Bool.eq_false_iff.mpr c4
  subst c4
  have H1 : (some false) = some r := by rw [if_neg (show ¬ (false = true) by decide)] at H; exact H
  clear H; have H := H1; clear H1
  obtain rfl := Option.some.inj H
  go_enter Try.func54, Try.ntmps54
  go_wp2_with (first | ((with_reducible refine gate_dst (N := 2) rfl ?_); refine box_event ?hg (N := 2) ?hd (cs := #[.int .i64 a0_0, .int .i64 a0_1, .int .i64 a0_2, .int .i64 a0_3]) (t := 42) ?hr ?_; (case hd => rfl); (case hg => rfl); (case hr => first | (go_simp; done) | (go_simp; rfl)); intro gb319 hg w19 hbox hb; have n0_ := aM_ (wS_ (bw_) hb); have n1_ := aM_ (hbox); have n2_ := aM_ ((by rw [hg]; exact (sZ_ (bw_)) : w.heap.size ≤ gb319)); have n3_ := aM_ ((by rw [hg]; exact (sZ_ (bw_)) : w.heap.size ≤ gb319)); clear HB; have HB := n0_; have BK319 := n1_; have GW319 := n2_; have GE319 := n3_; clear n0_ n1_ n2_ n3_; clear hb hbox hg; have hcz20_0 : w19.cell? ⟨gb319, 0, none⟩ = some (.int .i64 a0_0) := (blk_cell BK319.out 0).trans rfl; have hcz20_1 : w19.cell? ⟨gb319, 1, none⟩ = some (.int .i64 a0_1) := (blk_cell BK319.out 1).trans rfl; have hcz20_2 : w19.cell? ⟨gb319, 2, none⟩ = some (.int .i64 a0_2) := (blk_cell BK319.out 2).trans rfl; have hcz20_3 : w19.cell? ⟨gb319, 3, none⟩ = some (.int .i64 a0_3) := (blk_cell BK319.out 3).trans rfl; have hfz20_0 := blk_frozen BK319.out 0; have hfz20_1 := blk_frozen BK319.out 1; have hfz20_2 := blk_frozen BK319.out 2; have hfz20_3 := blk_frozen BK319.out 3) | ((with_reducible refine gate_callee (f := 76) rfl ?_); refine goesL_ (some 7) rfl rfl Try.func76 (by kernel_rfl) rfl #[.int .i64 a0_0, .int .i64 0, .int .i64 9999] rfl (by (try simp only [List.map_toArray, List.map_cons, List.map_nil]); first | done | rfl | (simp only [List.length_drop, List.length_take]; rfl)) ?_; (with_reducible refine (impl_InRange.calls a0_0 0 9999 false _ A3.out).mono ?_); rintro e w' ⟨rfl, ⟨nd, rfl⟩⟩; refine ⟨_, rfl, ?_⟩))
  go_ret
  exact ⟨by first | rfl | (simp [errW_none, errW_some] <;> rfl) | (simp [*, errW_none, errW_some] <;> rfl), bw_⟩

-- NOT PRINTED: function 56 (impl_AdmitFlow_1)

/-! ### slices_IndexFunc_impl_Flow_impl_Flow: function 79 -/
def slices_IndexFunc_impl_Flow_impl_Flow.idxAt (p : S42 → Bool) : List S42 → Nat → Int
  | [], _ => -1
  | x :: l, i => if p x = true then ((i : Nat) : Int) else slices_IndexFunc_impl_Flow_impl_Flow.idxAt p l (i + 1)
def slices_IndexFunc_impl_Flow_impl_Flow.idx (p : S42 → Bool) (l : List S42) : Int := slices_IndexFunc_impl_Flow_impl_Flow.idxAt p l 0
theorem slices_IndexFunc_impl_Flow_impl_Flow.drop_cons (l : List S42) {i : Nat} (h : i < l.length) : l.drop i = l.getD i z42 :: l.drop (i + 1) := by
  rw [List.drop_eq_getElem_cons h, List.getD_eq_getElem?_getD, List.getElem?_eq_getElem h]
  rfl
theorem slices_IndexFunc_impl_Flow_impl_Flow.spot_of {w : World} {b off n : Nat} {spot : Option Nat} {l : List S42} (h : Kd.C k42 w (some ⟨b, off, spot⟩) n l) (hn : 0 < n) : spot = none ∧ b < w.heap.size := by
  obtain ⟨ad, cs, e0, hlen, hK, hcell⟩ := Kd.C_get h z42 0 (by omega) (by omega)
  obtain rfl := Option.some.inj e0
  have hl : 0 < cs.length := by rw [hlen]; exact (by decide : 0 < 4)
  have h1 : w.cell? (⟨b, off, spot⟩ : Addr) = some cs[0] := hcell 0 cs[0] (List.getElem?_eq_getElem hl)
  exact ⟨World.cell?_spot h1, World.block_lt_of_cell? w _ h1⟩
set_option maxHeartbeats 2000000 in
set_option maxRecDepth 100000 in
theorem slices_IndexFunc_impl_Flow_impl_Flow.walk (A0 : Option Addr) (c0 : Nat) (l0 : List S42) (p : S42 → Bool) (g : Nat) (lb : Array Value) (eg : ∀ args w, (callFunc g args).run Try.prog w = .ok (.enter g args) w) (w : World)
    (hr0 : Kd.C k42 w A0 l0.length l0)
    (hp : ∀ (W : World) (x : S42) (cs : List Value), Below w.heap.size w W → (k42).K w x cs → Calls Try.prog g (#[.agg cs.toArray] ++ lb) W fun e w' => e = .returned (.bool (p x)) ∧ Below w.heap.size w w') :
    Calls Try.prog 79 #[.slice A0 l0.length c0, .func (.func g) #[] lb] w fun e w' => e = .returned (.int .i64 (slices_IndexFunc_impl_Flow_impl_Flow.idx p l0)) ∧ Below w.heap.size w w' := by
  have hmax : l0.length ≤ 9223372036854775807 := hr0.2.1
  have HR0 := aM_ hr0
  have HP := aM_ hp
  clear hr0 hp
  go_enter Try.func79, Try.ntmps79
  go_wp2
  go_loopg [5, 8] l0.length (fun gg _ s8 wr => ∃ kk : Nat, kk ≤ l0.length ∧ l0.length - kk ≤ gg ∧ s8 = .int .i64 kk ∧ Aside0 (Below w.heap.size w wr) ∧ Aside0 (slices_IndexFunc_impl_Flow_impl_Flow.idx p l0 = slices_IndexFunc_impl_Flow_impl_Flow.idxAt p (l0.drop kk) kk))
  case atStart => exact ⟨0, Nat.zero_le _, by omega, rfl, ⟨Below.refl _ w⟩, ⟨rfl⟩⟩
  case round =>
    obtain ⟨kk, hkk, hg, rfl, BW, IX⟩ := hrel
    by_cases hlt : kk < l0.length
    · have hltz : (kk : Int) < (l0.length : Int) := by omega
      obtain ⟨ad, cs, e0, hlen, hK, hcell⟩ := Kd.C_get HR0.out z42 (kk : Int) (by omega) (by omega)
      subst e0
      obtain ⟨b, off, spot⟩ := ad
      obtain ⟨c0, c1, c2, c3, rfl⟩ : ∃ c0 c1 c2 c3, cs = [c0, c1, c2, c3] := by
        match cs, (show cs.length = 4 from hlen) with
        | [c0, c1, c2, c3], _ => exact ⟨c0, c1, c2, c3, rfl⟩
      obtain ⟨rfl, hbk⟩ := slices_IndexFunc_impl_Flow_impl_Flow.spot_of HR0.out (by omega)
      have hx0 : wr.cell? ⟨b, off + kk * 4, none⟩ = some c0 := by
        have h2 : w.cell? ((⟨b, off, none⟩ : Addr).add (kk * 4 + 0)) = some c0 := hcell 0 c0 rfl
        rw [Go.WideShapes.add_plain] at h2
        exact (BW.out.cell (p := ⟨b, off + kk * 4, none⟩) hbk).trans (by rw [show off + kk * 4 = off + (kk * 4 + 0) from rfl]; exact h2)
      have hx1 : wr.cell? ⟨b, off + kk * 4 + 1, none⟩ = some c1 := by
        have h2 : w.cell? ((⟨b, off, none⟩ : Addr).add (kk * 4 + 1)) = some c1 := hcell 1 c1 rfl
        rw [Go.WideShapes.add_plain] at h2
        exact (BW.out.cell (p := ⟨b, off + kk * 4 + 1, none⟩) hbk).trans (by rw [Nat.add_assoc]; exact h2)
      have hx2 : wr.cell? ⟨b, off + kk * 4 + 2, none⟩ = some c2 := by
        have h2 : w.cell? ((⟨b, off, none⟩ : Addr).add (kk * 4 + 2)) = some c2 := hcell 2 c2 rfl
        rw [Go.WideShapes.add_plain] at h2
        exact (BW.out.cell (p := ⟨b, off + kk * 4 + 2, none⟩) hbk).trans (by rw [Nat.add_assoc]; exact h2)
      have hx3 : wr.cell? ⟨b, off + kk * 4 + 3, none⟩ = some c3 := by
        have h2 : w.cell? ((⟨b, off, none⟩ : Addr).add (kk * 4 + 3)) = some c3 := hcell 3 c3 rfl
        rw [Go.WideShapes.add_plain] at h2
        exact (BW.out.cell (p := ⟨b, off + kk * 4 + 3, none⟩) hbk).trans (by rw [Nat.add_assoc]; exact h2)
      have hcall := HP.out wr (l0.getD kk z42) [c0, c1, c2, c3] BW.out hK
      have hnext := aM_ (slices_IndexFunc_impl_Flow_impl_Flow.drop_cons l0 hlt)
      have HH := aM_ hcall
      clear hcall hcell hlen
      generalize hy : l0.getD kk z42 = y at HH hnext
      clear hK
      have HY := aM_ hy
      clear hy
      cases hq : p y with
      | true =>
        have HC := aM_ (show Calls Try.prog g (#[.agg #[c0, c1, c2, c3]] ++ lb) wr fun e w' => e = .returned (.bool true) ∧ Below w.heap.size w w' by rw [← hq]; exact HH.out)
        have HQ := aM_ hq
        clear HH hq
        go_wp2_with (go_at_fn g; refine HC.out.mono ?_; rintro e w' ⟨rfl, hb'⟩)
        go_ret
        refine ⟨?_, hb'⟩
        rw [IX.out, hnext.out, slices_IndexFunc_impl_Flow_impl_Flow.idxAt, if_pos HQ.out]
        rfl
      | false =>
        have HC := aM_ (show Calls Try.prog g (#[.agg #[c0, c1, c2, c3]] ++ lb) wr fun e w' => e = .returned (.bool false) ∧ Below w.heap.size w w' by rw [← hq]; exact HH.out)
        have HQ := aM_ hq
        clear HH hq
        go_wp2_with (go_at_fn g; refine HC.out.mono ?_; rintro e w' ⟨rfl, hb'⟩)
        go_roundg (l0.length - (kk + 1))
        case measure => omega
        case rel =>
          refine ⟨kk + 1, by omega, by omega, by go_num, ⟨hb'⟩, ⟨?_⟩⟩
          rw [IX.out, hnext.out, slices_IndexFunc_impl_Flow_impl_Flow.idxAt, if_neg (by rw [HQ.out]; simp)]
    · have hltz : ¬ (kk : Int) < (l0.length : Int) := by omega
      have : kk = l0.length := by omega
      subst this
      go_wp2
      go_ret
      refine ⟨?_, BW.out⟩
      rw [IX.out, List.drop_length]
      rfl

end Go.Proofs.Ytdodogkgmpaioaa.PFnExactAdmitFlow
