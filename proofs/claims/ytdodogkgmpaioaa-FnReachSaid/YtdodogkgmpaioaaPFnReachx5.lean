/- The functions that the law reaches, as plain Lean functions, each with the proof that the Go code comes to its answers; conditions: those that each theorem names. (printed by a program of this session) -/
import Derived.Test.YtdodogkgmpaioaaPFnReachx0
import Derived.Test.YtdodogkgmpaioaaPFnReachx4
namespace Go.Proofs.Ytdodogkgmpaioaa.PFnReach
open Go.RowKit Go.Proofs.YtdodogkgmpaioaaW.PrintWords Go.Proofs.YtdodogkgmpaioaaW.PrintLast Go.Proofs.YtdodogkgmpaioaaW.PrintMore
attribute [local go_sem] max2_int min2_int max_two min_two max_three min_three max_four min_four   -- for this text's walks alone
set_option linter.unusedVariables false
set_option linter.unusedSimpArgs false

/-! ### spec_ReachFrom: function 33 -/
mutual
def spec_ReachFrom.j0 : Nat → Int → Int → Int → List Int → Bool → Int → Int → Int → List (S103) → Option (List Int)
  | 0, _, _, _, _, _, _, _, _, _ => none
  | k + 1, x1, x2, x3, x9, x35, x147000, x147001, x147002, x147003 => if x35 = true then (some x9) else (spec_ReachFrom.l0 k x1 x2 x3 x9 0 x147000 x147001 x147002 x147003)
def spec_ReachFrom.l0 : Nat → Int → Int → Int → List Int → Int → Int → Int → Int → List (S103) → Option (List Int)
  | 0, _, _, _, _, _, _, _, _, _ => none
  | k + 1, x1, x2, x3, x9, x10, x147000, x147001, x147002, x147003 => if x10 < x147000 then (if x9.length < 17592186044416 then (spec_ReachFrom.l0 k x1 x2 x3 (x9 ++ [(-1)]) (wrap64 (x10 + 1)) x147000 x147001 x147002 x147003) else (none)) else (if 0 ≤ x1 then (if x1 < (x9.length : Int) then (spec_ReachFrom.l1 k x1 x3 (x9.set (x1 : Int).toNat x2) x2 x147000 x147001 x147002 x147003) else (none)) else (none))
def spec_ReachFrom.l1 : Nat → Int → Int → List Int → Int → Int → Int → Int → List (S103) → Option (List Int)
  | 0, _, _, _, _, _, _, _, _ => none
  | k + 1, x1, x3, x9, x11, x147000, x147001, x147002, x147003 => if x11 < x3 then ((some (([] : List Int) : List Int)).bind fun y156 => (if y156.length + x9.length < 17592186044416 then (spec_ReachFrom.l2 k x1 x3 x9 x11 (y156 ++ x9) 0 x147000 x147001 x147002 x147003) else (none))) else (some x9)
def spec_ReachFrom.l2 : Nat → Int → Int → List Int → Int → List Int → Int → Int → Int → Int → List (S103) → Option (List Int)
  | 0, _, _, _, _, _, _, _, _, _, _ => none
  | k + 1, x1, x3, x9, x11, x12, x13, x147000, x147001, x147002, x147003 => if x13 < x147000 then (spec_ReachFrom.l3 k x1 x3 x9 x11 x12 x13 0 x147000 x147001 x147002 x147003) else (spec_ReachFrom.l1 k x1 x3 x12 (wrap64 (x11 + 1)) x147000 x147001 x147002 x147003)
def spec_ReachFrom.l3 : Nat → Int → Int → List Int → Int → List Int → Int → Int → Int → Int → Int → List (S103) → Option (List Int)
  | 0, _, _, _, _, _, _, _, _, _, _, _ => none
  | k + 1, x1, x3, x9, x11, x12, x13, x14, x147000, x147001, x147002, x147003 => if x14 < x147000 then (if 0 ≤ x13 then (if x13 < (x9.length : Int) then (if (rd x9 x13) ≥ 0 then (if x13 < x147001 then (spec_ReachFrom.j5 k x1 x3 x9 x11 x12 x13 x14 true x147000 x147001 x147002 x147003) else (spec_ReachFrom.j5 k x1 x3 x9 x11 x12 x13 x14 (x13 == x1) x147000 x147001 x147002 x147003)) else (spec_ReachFrom.j5 k x1 x3 x9 x11 x12 x13 x14 false x147000 x147001 x147002 x147003)) else (none)) else (none)) else (spec_ReachFrom.j5 k x1 x3 x9 x11 x12 x13 x14 false x147000 x147001 x147002 x147003)
def spec_ReachFrom.j5 : Nat → Int → Int → List Int → Int → List Int → Int → Int → Bool → Int → Int → Int → List (S103) → Option (List Int)
  | 0, _, _, _, _, _, _, _, _, _, _, _, _ => none
  | k + 1, x1, x3, x9, x11, x12, x13, x14, x86, x147000, x147001, x147002, x147003 => if x86 = true then (if 0 ≤ x14 then (if x14 < (x12.length : Int) then (if (rd x12 x14) < 0 then ((spec_IsLinked.f k x147000 x147001 x147002 x147003 x13 x14 x11).bind fun t164 => (if t164 = true then (spec_ReachFrom.l3 k x1 x3 x9 x11 (x12.set (x14 : Int).toNat (wrap64 (x11 + 1))) x13 (wrap64 (x14 + 1)) x147000 x147001 x147002 x147003) else (spec_ReachFrom.l3 k x1 x3 x9 x11 x12 x13 (wrap64 (x14 + 1)) x147000 x147001 x147002 x147003))) else (spec_ReachFrom.l3 k x1 x3 x9 x11 x12 x13 (wrap64 (x14 + 1)) x147000 x147001 x147002 x147003)) else (none)) else (none)) else (spec_ReachFrom.l2 k x1 x3 x9 x11 x12 (wrap64 (x13 + 1)) x147000 x147001 x147002 x147003)
end
def spec_ReachFrom.f (k : Nat) (a0_0 : Int) (a0_1 : Int) (a0_2 : Int) (l0_3 : List (S103)) (a1 : Int) (a2 : Int) (a3 : Int) : Option (List Int) := (some (([] : List Int) : List Int)).bind fun y147 => ((spec_l1In.f a0_0 1 12).bind fun t150 => (if t150 = true then ((spec_l1In.f a1 0 (wrap64 (a0_0 - 1))).bind fun t151 => (if t151 = true then (if a2 < 0 then (spec_ReachFrom.j0 k a1 a2 a3 y147 true a0_0 a0_1 a0_2 l0_3) else (spec_ReachFrom.j0 k a1 a2 a3 y147 (decide (a3 > 1000)) a0_0 a0_1 a0_2 l0_3)) else (spec_ReachFrom.j0 k a1 a2 a3 y147 true a0_0 a0_1 a0_2 l0_3))) else (spec_ReachFrom.j0 k a1 a2 a3 y147 true a0_0 a0_1 a0_2 l0_3)))
set_option maxHeartbeats 8000000 in
set_option maxRecDepth 100000 in
theorem spec_ReachFrom.calls (k : Nat) (a0_0 : Int) (a0_1 : Int) (a0_2 : Int) (A0_3 : Option Addr) (c0_3 : Nat) (l0_3 : List (S103)) (a1 : Int) (a2 : Int) (a3 : Int) (r : List Int) (w : World) (hr0_3 : Kd.C k103 w A0_3 l0_3.length l0_3) (hc0_3 : l0_3.length ≤ c0_3) (h : spec_ReachFrom.f k a0_0 a0_1 a0_2 l0_3 a1 a2 a3 = some r) :
  Calls Try.prog 33 #[.agg #[.int .i64 a0_0, .int .i64 a0_1, .int .i64 a0_2, .slice A0_3 l0_3.length c0_3], .int .i64 a1, .int .i64 a2, .int .i64 a3] w fun e w' => ∃ v0_ : Value, e = .returned (v0_) ∧ Kd.R (Kd.int .i64) 3 w' w.heap.size (fun _ => True) v0_ r ∧ Below w.heap.size w w' := by
 have hu31 := Try.underlying31; have HR0_3 := aM_ hr0_3; have HC0_3 := aM_ hc0_3; clear hr0_3 hc0_3; have HB := aM_ (Below.refl w.heap.size w)
 have H : ((some (([] : List Int) : List Int)).bind fun y147 => ((spec_l1In.f a0_0 1 12).bind fun t150 => (if t150 = true then ((spec_l1In.f a1 0 (wrap64 (a0_0 - 1))).bind fun t151 => (if t151 = true then (if a2 < 0 then (spec_ReachFrom.j0 k a1 a2 a3 y147 true a0_0 a0_1 a0_2 l0_3) else (spec_ReachFrom.j0 k a1 a2 a3 y147 (decide (a3 > 1000)) a0_0 a0_1 a0_2 l0_3)) else (spec_ReachFrom.j0 k a1 a2 a3 y147 true a0_0 a0_1 a0_2 l0_3))) else (spec_ReachFrom.j0 k a1 a2 a3 y147 true a0_0 a0_1 a0_2 l0_3)))) = some r := h
 clear h
 obtain ⟨y147, hy147⟩ : ∃ y_ : List Int, y_ = (([] : List Int)) := ⟨_, rfl⟩
 replace H : ((spec_l1In.f a0_0 1 12).bind fun t150 => (if t150 = true then ((spec_l1In.f a1 0 (wrap64 (a0_0 - 1))).bind fun t151 => (if t151 = true then (if a2 < 0 then (spec_ReachFrom.j0 k a1 a2 a3 y147 true a0_0 a0_1 a0_2 l0_3) else (spec_ReachFrom.j0 k a1 a2 a3 y147 (decide (a3 > 1000)) a0_0 a0_1 a0_2 l0_3)) else (spec_ReachFrom.j0 k a1 a2 a3 y147 true a0_0 a0_1 a0_2 l0_3))) else (spec_ReachFrom.j0 k a1 a2 a3 y147 true a0_0 a0_1 a0_2 l0_3))) = some r := by first | (rw [hy147]; with_reducible exact H) | (have H2_ := (Option.bind_some _ _).symm.trans H; rw [hy147]; with_reducible exact H2_) | (have H2_ := (Option.bind_some _ _).symm.trans H; with_reducible exact H2_) | with_reducible exact H | (rw [hy147]; exact H) | exact H
 have Ny147 := aM_ hy147; clear hy147; have HC5 := aM_ H; clear H
 go_enter Try.func33, Try.ntmps33
 go_upto_region 2 with (first | ((with_reducible refine gate_dst (N := 4) rfl ?_); refine box_event ?hg (N := 4) ?hd (cs := #[.int .i64 a0_0, .int .i64 a0_1, .int .i64 a0_2, .slice A0_3 l0_3.length c0_3]) (t := 31) ?hr ?_; (case hd => rfl); (case hg => rfl); (case hr => first | (go_simp; done) | (go_simp; rfl)); intro gb146 hg w6 hbox hb; have n0_ := aM_ (wS_ (bw_) hb); have n1_ := aM_ (hbox); have n2_ := aM_ ((by rw [hg]; exact (sZ_ (bw_)) : w.heap.size ≤ gb146)); have n3_ := aM_ ((by rw [hg]; exact (sZ_ (bw_)) : w.heap.size ≤ gb146)); clear HB; have HB := n0_; have BK146 := n1_; have GW146 := n2_; have GE146 := n3_; clear n0_ n1_ n2_ n3_ hb hbox hg) | ((with_reducible refine gate_dst (N := 15) rfl ?_); refine Kd.R_lit (Kd.int .i64) _ 3 ?hg (N := 15) ?hd (xs := ([] : List Int)) (inner := []) (ok := fun _ => True) (okp := fun _ => True) ?hr ?hp (fun _ hk => hk) trivial (Below.refl _ _) (Nat.le_refl _) (by simp) ?_; (case hd => rfl); (case hg => rfl); (case hr => first | (go_simp; done) | (go_simp; rfl)); (case hp => exact (Reps.none _ _)); intro v148 w7 ho8 hb hg_ hnew_; clear hg_ hnew_; (first | rw [← Ny147.out] at ho8 | (simp only [Int.reduceToNat] at ho8; rw [← Ny147.out] at ho8)); have n0_ := aM_ (Kd.R_lower ho8 (sZ_ (bw_))); have n1_ := aM_ (bB_ (kb_ BK146.out) hb); have n2_ := aM_ (wS_ (bw_) hb); clear BK146 HB; have HO149 := n0_; have BK146 := n1_; have HB := n2_; clear n0_ n1_ n2_ hb ho8))
 (try simp only [Act.put, List.setIfInBounds_toArray, List.set_cons_zero, List.set_cons_succ])
 go_cut [35] (fun v35 wc => ∃ (kq : Nat) (x35_4 : Bool), v35 = .bool x35_4 ∧ Aside0 (spec_ReachFrom.j0 kq a1 a2 a3 y147 x35_4 a0_0 a0_1 a0_2 l0_3 = some r) ∧ Aside0 (kq ≤ k) ∧ Aside0 (Kd.R (Kd.int .i64) 3 wc w.heap.size (fun _ => True) v148 y147) ∧ Aside0 (wc.heap[gb146]? = some (.cells #[.int .i64 a0_0, .int .i64 a0_1, .int .i64 a0_2, (.slice A0_3 l0_3.length c0_3)] 31 (0, 0))) ∧ Aside0 (Below w.heap.size w wc))
 case first =>
  have H := HC5.out; clear HC5
  replace H := Option.bind_eq_some_iff.mp H
  obtain ⟨t150, A90, H⟩ := H
  (try dsimp only at H)
  have A9 := aM_ A90; clear A90
  by_cases c10 : t150 = true
  ·subst c10
   have H1 : ((spec_l1In.f a1 0 (wrap64 (a0_0 - 1))).bind fun t151 => (if t151 = true then (if a2 < 0 then (spec_ReachFrom.j0 k a1 a2 a3 y147 true a0_0 a0_1 a0_2 l0_3) else (spec_ReachFrom.j0 k a1 a2 a3 y147 (decide (a3 > 1000)) a0_0 a0_1 a0_2 l0_3)) else (spec_ReachFrom.j0 k a1 a2 a3 y147 true a0_0 a0_1 a0_2 l0_3))) = some r := by rw [if_pos rfl] at H; exact H
   clear H; have H := H1; clear H1
   replace H := Option.bind_eq_some_iff.mp H
   obtain ⟨t151, A110, H⟩ := H
   (try dsimp only at H)
   have A11 := aM_ A110; clear A110
   by_cases c12 : t151 = true
   ·subst c12
    have H1 : (if a2 < 0 then (spec_ReachFrom.j0 k a1 a2 a3 y147 true a0_0 a0_1 a0_2 l0_3) else (spec_ReachFrom.j0 k a1 a2 a3 y147 (decide (a3 > 1000)) a0_0 a0_1 a0_2 l0_3)) = some r := by rw [if_pos rfl] at H; exact H
    clear H; have H := H1; clear H1
    by_cases c13 : a2 < 0
    ·rw [if_pos c13] at H
     have c13b0 : decide (a2 < 0) = true := decide_eq_true c13
     clear c13
     (first | rw [c13b0] | (simp only [i64_w, i32_w]; rw [c13b0]) | skip)
     have H' := aM_ H
     clear H
     have hcz14_0 : w7.cell? ⟨gb146, 0, none⟩ = some (.int .i64 a0_0) := (blk_cell BK146.out 0).trans rfl
     have hcz14_1 : w7.cell? ⟨gb146, 1, none⟩ = some (.int .i64 a0_1) := (blk_cell BK146.out 1).trans rfl
     have hcz14_2 : w7.cell? ⟨gb146, 2, none⟩ = some (.int .i64 a0_2) := (blk_cell BK146.out 2).trans rfl
     have hcz14_3 : w7.cell? ⟨gb146, 3, none⟩ = some (.slice A0_3 l0_3.length c0_3) := (blk_cell BK146.out 3).trans rfl
     have hfz14_0 := blk_frozen BK146.out 0; have hfz14_1 := blk_frozen BK146.out 1; have hfz14_2 := blk_frozen BK146.out 2; have hfz14_3 := blk_frozen BK146.out 3
     go_wp2_with (first | ((with_reducible refine gate_callee (f := 43) rfl ?_); refine goesL_ (some 18) rfl rfl Try.func43 (by kernel_rfl) rfl #[.int .i64 a0_0, .int .i64 1, .int .i64 12] rfl (by (try simp only [List.map_toArray, List.map_cons, List.map_nil]); first | done | rfl | (simp only [List.length_drop, List.length_take]; rfl)) ?_; (with_reducible refine (spec_l1In.calls a0_0 1 12 true _ A9.out).mono ?_); rintro e w' ⟨rfl, ⟨nd, rfl⟩⟩; refine ⟨_, rfl, ?_⟩) | (go_at_call 43; (first | (with_reducible refine (spec_l1In.calls a1 0 (wrap64 (a0_0 - 1)) true _ A11.out).mono ?_) | (with_reducible refine (spec_l1In.calls a1 0 (IntKind.i64.wrap (a0_0 - 1)) true _ (by rw [i64_w]; exact A11.out)).mono ?_)); rintro e w' ⟨rfl, ⟨nd, rfl⟩⟩))
     go_meet
     case rel => exact ⟨_, (true), (by first | rfl | (simp; done) | (simp [*]; done)), H', ⟨by first | omega | exact Nat.le_refl _⟩, ⟨by (with_reducible repeat (first | apply rA_ | apply rN_ | apply rD_)); exact HO149.out⟩, ⟨by (with_reducible repeat (first | refine bN_ ?_ _ | refine bD_ ?_ | refine bA_ ?_ _)); exact BK146.out⟩, ⟨bw_⟩⟩
    ·rw [if_neg c13] at H
     have c13b0 : decide (a2 < 0) = false := decide_eq_false c13
     clear c13
     (first | rw [c13b0] | (simp only [i64_w, i32_w]; rw [c13b0]) | skip)
     have H' := aM_ H
     clear H
     have hcz15_0 : w7.cell? ⟨gb146, 0, none⟩ = some (.int .i64 a0_0) := (blk_cell BK146.out 0).trans rfl
     have hcz15_1 : w7.cell? ⟨gb146, 1, none⟩ = some (.int .i64 a0_1) := (blk_cell BK146.out 1).trans rfl
     have hcz15_2 : w7.cell? ⟨gb146, 2, none⟩ = some (.int .i64 a0_2) := (blk_cell BK146.out 2).trans rfl
     have hcz15_3 : w7.cell? ⟨gb146, 3, none⟩ = some (.slice A0_3 l0_3.length c0_3) := (blk_cell BK146.out 3).trans rfl
     have hfz15_0 := blk_frozen BK146.out 0; have hfz15_1 := blk_frozen BK146.out 1; have hfz15_2 := blk_frozen BK146.out 2; have hfz15_3 := blk_frozen BK146.out 3
     go_wp2_with (first | ((with_reducible refine gate_callee (f := 43) rfl ?_); refine goesL_ (some 18) rfl rfl Try.func43 (by kernel_rfl) rfl #[.int .i64 a0_0, .int .i64 1, .int .i64 12] rfl (by (try simp only [List.map_toArray, List.map_cons, List.map_nil]); first | done | rfl | (simp only [List.length_drop, List.length_take]; rfl)) ?_; (with_reducible refine (spec_l1In.calls a0_0 1 12 true _ A9.out).mono ?_); rintro e w' ⟨rfl, ⟨nd, rfl⟩⟩; refine ⟨_, rfl, ?_⟩) | (go_at_call 43; (first | (with_reducible refine (spec_l1In.calls a1 0 (wrap64 (a0_0 - 1)) true _ A11.out).mono ?_) | (with_reducible refine (spec_l1In.calls a1 0 (IntKind.i64.wrap (a0_0 - 1)) true _ (by rw [i64_w]; exact A11.out)).mono ?_)); rintro e w' ⟨rfl, ⟨nd, rfl⟩⟩))
     go_meet
     case rel => exact ⟨_, (decide (a3 > 1000)), (by first | rfl | (simp; done) | (simp [*]; done)), H', ⟨by first | omega | exact Nat.le_refl _⟩, ⟨by (with_reducible repeat (first | apply rA_ | apply rN_ | apply rD_)); exact HO149.out⟩, ⟨by (with_reducible repeat (first | refine bN_ ?_ _ | refine bD_ ?_ | refine bA_ ?_ _)); exact BK146.out⟩, ⟨bw_⟩⟩
   ·replace c12 := Bool.eq_false_iff.mpr c12
    subst c12
    have H1 : (spec_ReachFrom.j0 k a1 a2 a3 y147 true a0_0 a0_1 a0_2 l0_3) = some r := by rw [if_neg (show ¬ (false = true) by decide)] at H; exact H
    clear H; have H := H1; clear H1
    have H' := aM_ H
    clear H
    have hcz16_0 : w7.cell? ⟨gb146, 0, none⟩ = some (.int .i64 a0_0) := (blk_cell BK146.out 0).trans rfl
    have hcz16_1 : w7.cell? ⟨gb146, 1, none⟩ = some (.int .i64 a0_1) := (blk_cell BK146.out 1).trans rfl
    have hcz16_2 : w7.cell? ⟨gb146, 2, none⟩ = some (.int .i64 a0_2) := (blk_cell BK146.out 2).trans rfl
    have hcz16_3 : w7.cell? ⟨gb146, 3, none⟩ = some (.slice A0_3 l0_3.length c0_3) := (blk_cell BK146.out 3).trans rfl
    have hfz16_0 := blk_frozen BK146.out 0; have hfz16_1 := blk_frozen BK146.out 1; have hfz16_2 := blk_frozen BK146.out 2; have hfz16_3 := blk_frozen BK146.out 3
    go_wp2_with (first | ((with_reducible refine gate_callee (f := 43) rfl ?_); refine goesL_ (some 18) rfl rfl Try.func43 (by kernel_rfl) rfl #[.int .i64 a0_0, .int .i64 1, .int .i64 12] rfl (by (try simp only [List.map_toArray, List.map_cons, List.map_nil]); first | done | rfl | (simp only [List.length_drop, List.length_take]; rfl)) ?_; (with_reducible refine (spec_l1In.calls a0_0 1 12 true _ A9.out).mono ?_); rintro e w' ⟨rfl, ⟨nd, rfl⟩⟩; refine ⟨_, rfl, ?_⟩) | (go_at_call 43; (first | (with_reducible refine (spec_l1In.calls a1 0 (wrap64 (a0_0 - 1)) false _ A11.out).mono ?_) | (with_reducible refine (spec_l1In.calls a1 0 (IntKind.i64.wrap (a0_0 - 1)) false _ (by rw [i64_w]; exact A11.out)).mono ?_)); rintro e w' ⟨rfl, ⟨nd, rfl⟩⟩))
    go_meet
    case rel => exact ⟨_, (true), (by first | rfl | (simp; done) | (simp [*]; done)), H', ⟨by first | omega | exact Nat.le_refl _⟩, ⟨by (with_reducible repeat (first | apply rA_ | apply rN_ | apply rD_)); exact HO149.out⟩, ⟨by (with_reducible repeat (first | refine bN_ ?_ _ | refine bD_ ?_ | refine bA_ ?_ _)); exact BK146.out⟩, ⟨bw_⟩⟩
  ·replace c10 := Bool.eq_false_iff.mpr c10
   subst c10
   have H1 : (spec_ReachFrom.j0 k a1 a2 a3 y147 true a0_0 a0_1 a0_2 l0_3) = some r := by rw [if_neg (show ¬ (false = true) by decide)] at H; exact H
   clear H; have H := H1; clear H1
   have H' := aM_ H
   clear H
   have hcz17_0 : w7.cell? ⟨gb146, 0, none⟩ = some (.int .i64 a0_0) := (blk_cell BK146.out 0).trans rfl
   have hcz17_1 : w7.cell? ⟨gb146, 1, none⟩ = some (.int .i64 a0_1) := (blk_cell BK146.out 1).trans rfl
   have hcz17_2 : w7.cell? ⟨gb146, 2, none⟩ = some (.int .i64 a0_2) := (blk_cell BK146.out 2).trans rfl
   have hcz17_3 : w7.cell? ⟨gb146, 3, none⟩ = some (.slice A0_3 l0_3.length c0_3) := (blk_cell BK146.out 3).trans rfl
   have hfz17_0 := blk_frozen BK146.out 0; have hfz17_1 := blk_frozen BK146.out 1; have hfz17_2 := blk_frozen BK146.out 2; have hfz17_3 := blk_frozen BK146.out 3
   go_wp2_with (first | ((with_reducible refine gate_callee (f := 43) rfl ?_); refine goesL_ (some 18) rfl rfl Try.func43 (by kernel_rfl) rfl #[.int .i64 a0_0, .int .i64 1, .int .i64 12] rfl (by (try simp only [List.map_toArray, List.map_cons, List.map_nil]); first | done | rfl | (simp only [List.length_drop, List.length_take]; rfl)) ?_; (with_reducible refine (spec_l1In.calls a0_0 1 12 false _ A9.out).mono ?_); rintro e w' ⟨rfl, ⟨nd, rfl⟩⟩; refine ⟨_, rfl, ?_⟩))
   go_meet
   case rel => exact ⟨_, (true), (by first | rfl | (simp; done) | (simp [*]; done)), H', ⟨by first | omega | exact Nat.le_refl _⟩, ⟨by (with_reducible repeat (first | apply rA_ | apply rN_ | apply rD_)); exact HO149.out⟩, ⟨by (with_reducible repeat (first | refine bN_ ?_ _ | refine bD_ ?_ | refine bA_ ?_ _)); exact BK146.out⟩, ⟨bw_⟩⟩
 case rest =>
  clear HC5
  try clear c13b0
  try clear hcz14_0
  try clear hcz14_1
  try clear hcz14_2
  try clear hcz14_3
  try clear hcz15_0
  try clear hcz15_1
  try clear hcz15_2
  try clear hcz15_3
  try clear hcz16_0
  try clear hcz16_1
  try clear hcz16_2
  try clear hcz16_3
  try clear hcz17_0
  try clear hcz17_1
  try clear hcz17_2
  try clear hcz17_3
  try clear hfz14_0
  try clear hfz14_1
  try clear hfz14_2
  try clear hfz14_3
  try clear hfz15_0
  try clear hfz15_1
  try clear hfz15_2
  try clear hfz15_3
  try clear hfz16_0
  try clear hfz16_1
  try clear hfz16_2
  try clear hfz16_3
  try clear hfz17_0
  try clear hfz17_1
  try clear hfz17_2
  try clear hfz17_3
  obtain ⟨kq, x35_4, rfl, HA, HJ4, HO_9, BK146, HB⟩ := hcut
  cases kq with
  | zero => exact absurd HA.out (by simp [spec_ReachFrom.j0])
  | succ kj4 =>
   have H := HA.out; clear HA
   simp only [spec_ReachFrom.j0] at H
   by_cases c18 : x35_4 = true
   ·subst c18
    have H1 : (some y147) = some r := by rw [if_pos rfl] at H; exact H
    clear H; have H := H1; clear H1
    obtain rfl := Option.some.inj H
    go_wp2
    go_ret
    exact ⟨_, by first | rfl | (simp [errW_none, errW_some] <;> rfl) | (simp [*, errW_none, errW_some] <;> rfl), by (with_reducible repeat (first | apply rA_ | apply rN_ | apply rD_)); exact HO_9.out, bw_⟩
   ·replace c18 := Bool.eq_false_iff.mpr c18
    subst c18
    have H1 : (spec_ReachFrom.l0 kj4 a1 a2 a3 y147 0 a0_0 a0_1 a0_2 l0_3) = some r := by rw [if_neg (show ¬ (false = true) by decide)] at H; exact H
    clear H; have H := H1; clear H1
    have H' := aM_ H
    clear H
    go_wp2
    go_loopg [9, 10] kj4 (fun kq v9 v10 w' => ∃ (x9_2 : List Int) (x10_2 : Int), v10 = .int .i64 x10_2 ∧ Aside0 (spec_ReachFrom.l0 kq a1 a2 a3 x9_2 x10_2 a0_0 a0_1 a0_2 l0_3 = some r) ∧ Aside0 (kq ≤ kj4) ∧ Aside0 (Kd.R (Kd.int .i64) 3 w' w.heap.size (fun _ => True) v9 x9_2) ∧ Aside0 (w'.heap[gb146]? = some (.cells #[.int .i64 a0_0, .int .i64 a0_1, .int .i64 a0_2, (.slice A0_3 l0_3.length c0_3)] 31 (0, 0))) ∧ Aside0 (Below w.heap.size w w'))
    case atStart => exact ⟨(y147), (0), (by first | rfl | (simp; done) | (simp [*]; done)), H', ⟨Nat.le_refl _⟩, ⟨by (with_reducible repeat (first | apply rA_ | apply rN_ | apply rD_)); exact HO_9.out⟩, ⟨by (with_reducible repeat (first | refine bN_ ?_ _ | refine bD_ ?_ | refine bA_ ?_ _)); exact BK146.out⟩, ⟨bw_⟩⟩
    case round =>
     clear H'
     try clear c13b0
     try clear hcz14_0
     try clear hcz14_1
     try clear hcz14_2
     try clear hcz14_3
     try clear hcz15_0
     try clear hcz15_1
     try clear hcz15_2
     try clear hcz15_3
     try clear hcz16_0
     try clear hcz16_1
     try clear hcz16_2
     try clear hcz16_3
     try clear hcz17_0
     try clear hcz17_1
     try clear hcz17_2
     try clear hcz17_3
     try clear hfz14_0
     try clear hfz14_1
     try clear hfz14_2
     try clear hfz14_3
     try clear hfz15_0
     try clear hfz15_1
     try clear hfz15_2
     try clear hfz15_3
     try clear hfz16_0
     try clear hfz16_1
     try clear hfz16_2
     try clear hfz16_3
     try clear hfz17_0
     try clear hfz17_1
     try clear hfz17_2
     try clear hfz17_3
     obtain ⟨x9_2, x10_2, rfl, HA, HK2, HO_9, BK146, HB⟩ := hrel
     cases gk with
     | zero => exact absurd HA.out (by simp [spec_ReachFrom.l0])
     | succ k2 =>
      have H := HA.out; clear HA
      simp only [spec_ReachFrom.l0] at H
      by_cases c19 : x10_2 < a0_0
      ·rw [if_pos c19] at H
       have c19b0 : decide (x10_2 < a0_0) = true := decide_eq_true c19
       clear c19
       by_cases c20 : x9_2.length < 17592186044416
       ·rw [if_pos c20] at H
        have LMc20 := aM_ c20; clear c20
        obtain ⟨y152, hy152⟩ : ∃ y_ : List Int, y_ = (x9_2 ++ [(-1)]) := ⟨_, rfl⟩
        replace H : (spec_ReachFrom.l0 k2 a1 a2 a3 y152 (wrap64 (x10_2 + 1)) a0_0 a0_1 a0_2 l0_3) = some r := by first | (rw [hy152]; with_reducible exact H) | (have H2_ := (Option.bind_some _ _).symm.trans H; rw [hy152]; with_reducible exact H2_) | (have H2_ := (Option.bind_some _ _).symm.trans H; with_reducible exact H2_) | with_reducible exact H | (rw [hy152]; exact H) | exact H
        have Ny152 := aM_ hy152; clear hy152
        have H' := aM_ H
        clear H
        have hcz21_0 : wr.cell? ⟨gb146, 0, none⟩ = some (.int .i64 a0_0) := (blk_cell BK146.out 0).trans rfl
        have hcz21_1 : wr.cell? ⟨gb146, 1, none⟩ = some (.int .i64 a0_1) := (blk_cell BK146.out 1).trans rfl
        have hcz21_2 : wr.cell? ⟨gb146, 2, none⟩ = some (.int .i64 a0_2) := (blk_cell BK146.out 2).trans rfl
        have hcz21_3 : wr.cell? ⟨gb146, 3, none⟩ = some (.slice A0_3 l0_3.length c0_3) := (blk_cell BK146.out 3).trans rfl
        have hfz21_0 := blk_frozen BK146.out 0; have hfz21_1 := blk_frozen BK146.out 1; have hfz21_2 := blk_frozen BK146.out 2; have hfz21_3 := blk_frozen BK146.out 3
        go_wp2_with (first | ((with_reducible refine gate_builtin (b := .append) (xs := #[.tmp 43, .tmp 44]) rfl ?_); at_builtin; refine Kd.R_append (Kd.int .i64) (w0 := w) w.heap.size rfl (.tmp 43) (.tmp 44) 51 3 (.int .i64 0) 8 rfl Try.underlying51 info3 rfl (by decide) (by omega) u9 x9_2 (-1) [.int .i64 (-1)] (fun _ => True) (fun _ => False) rfl rfl ?aP (fun _ hk => hk.elim) ?aF ?aO ?aB ?aS ?aL ?_; (case aP => exact rfl); (case aB => exact (bw_)); (case aF => exact (fun _ _ => trivial)); (case aO => exact (rb_ HO_9.out)); (case aS => exact (sZ_ (bw_))); (case aL => have := LMc20.out; omega); intro v153 w22 ho hb hg hat; rw [← Ny152.out] at ho; have n0_ := aM_ (blk_grown (kb_ BK146.out) hg (Kd.R_ne HO_9.out BK146.out (by decide))); have n1_ := aM_ (hb); have n2_ := aM_ (ho); clear BK146 HB HO_9; have BK146 := n0_; have HB := n1_; have HO154 := n2_; clear n0_ n1_ n2_ ho hb hg hat))
        go_roundg k2
        case measure => have := HJ4.out; have := HK2.out; omega
        case rel => exact ⟨(y152), (wrap64 (x10_2 + 1)), (by first | rfl | (simp; done) | (simp [*]; done)), H', ⟨by have := HJ4.out; have := HK2.out; omega⟩, ⟨by (with_reducible repeat (first | apply rA_ | apply rN_ | apply rD_)); exact HO154.out⟩, ⟨by (with_reducible repeat (first | refine bN_ ?_ _ | refine bD_ ?_ | refine bA_ ?_ _)); exact BK146.out⟩, ⟨bw_⟩⟩
       ·rw [if_neg c20] at H
        exact absurd H (by simp)
      ·rw [if_neg c19] at H
       have c19b0 : decide (x10_2 < a0_0) = false := decide_eq_false c19
       clear c19
       by_cases c23 : 0 ≤ a1
       ·rw [if_pos c23] at H
        have c23b0 : decide (0 ≤ a1) = true := decide_eq_true c23
        clear c23
        by_cases c24 : a1 < (x9_2.length : Int)
        ·rw [if_pos c24] at H
         have c24b0 : decide (a1 < (x9_2.length : Int)) = true := decide_eq_true c24
         clear c24
         obtain ⟨y155, hy155⟩ : ∃ y_ : List Int, y_ = (x9_2.set (a1 : Int).toNat a2) := ⟨_, rfl⟩
         replace H : (spec_ReachFrom.l1 k2 a1 a3 y155 a2 a0_0 a0_1 a0_2 l0_3) = some r := by first | (rw [hy155]; with_reducible exact H) | (have H2_ := (Option.bind_some _ _).symm.trans H; rw [hy155]; with_reducible exact H2_) | (have H2_ := (Option.bind_some _ _).symm.trans H; with_reducible exact H2_) | with_reducible exact H | (rw [hy155]; exact H) | exact H
         have Ny155 := aM_ hy155; clear hy155
         have H' := aM_ H
         clear H
         have hcz26_0 : wr.cell? ⟨gb146, 0, none⟩ = some (.int .i64 a0_0) := (blk_cell BK146.out 0).trans rfl
         have hcz26_1 : wr.cell? ⟨gb146, 1, none⟩ = some (.int .i64 a0_1) := (blk_cell BK146.out 1).trans rfl
         have hcz26_2 : wr.cell? ⟨gb146, 2, none⟩ = some (.int .i64 a0_2) := (blk_cell BK146.out 2).trans rfl
         have hcz26_3 : wr.cell? ⟨gb146, 3, none⟩ = some (.slice A0_3 l0_3.length c0_3) := (blk_cell BK146.out 3).trans rfl
         have hfz26_0 := blk_frozen BK146.out 0; have hfz26_1 := blk_frozen BK146.out 1; have hfz26_2 := blk_frozen BK146.out 2; have hfz26_3 := blk_frozen BK146.out 3
         have p25 : 0 ≤ (a1 : Int) := dT_
         have q25 : (a1 : Int) < ((x9_2.length : Int) : Int) := dT_
         obtain ⟨go25, co25, eo25, gb25, gl25, cl25, HG25⟩ := Kd.R_form HO_9.out (by omega)
         (first | cases eo25 | (injection eo25 with ea_ en_ ec_; (first | subst ea_ | (injection ea_ with ea_; subst ea_)); subst ec_; clear en_))
         have GB25 := aM_ gb25; have GG25 := aM_ HG25; clear gb25 gl25 HG25
         obtain ⟨hx25_0, hf25_0⟩ := Kd.R_celln 0 HO_9.out (a1 : Int) p25 q25
         replace p25 := eq_true p25; replace q25 := eq_true q25; have HP27 := Kd.R_putg HO_9.out (a1 : Int) a2
         go_wp2_with (first | ((with_reducible refine gate_store (t := 3) (p := 49) rfl ?_); refine store_event (t := 3) (p := 49) (v := ?vo_w28) (w1 := (wr.setCell ⟨go25, (a1 : Int).toNat, none⟩ (.int .i64 a2))) ?hg ?ho ?hn ?hr ?_; (case ho => rfl); (case hg => rfl); (case hn => rfl); (case hr => first | (go_simp; done) | (go_simp; rfl)); intro w28 hw; have hg : wr.grownBy w28 (some go25) := (by rw [hw]; exact HP27.2); have hp_ : Kd.R (Kd.int .i64) 3 w28 w.heap.size (fun _ => True) (.slice (some ⟨go25, 0, none⟩) x9_2.length co25) y155 := (by rw [hw, Ny155.out]; exact HP27.1); clear HP27; have n0_ := aM_ (hp_); have n1_ := aM_ (blk_grown (kb_ BK146.out) hg (Kd.R_ne HO_9.out BK146.out (by decide))); have n2_ := aM_ ((by rw [hw]; exact wE_ (HB.out) GB25.out : Below w.heap.size w w28)); clear HO_9 BK146 HB; have HO_9 := n0_; have BK146 := n1_; have HB := n2_; clear n0_ n1_ n2_ hg hw hp_))
         go_loopg [9, 11] k2 (fun kq v9 v11 w' => ∃ (x9_3 : List Int) (x11_3 : Int), v11 = .int .i64 x11_3 ∧ Aside0 (spec_ReachFrom.l1 kq a1 a3 x9_3 x11_3 a0_0 a0_1 a0_2 l0_3 = some r) ∧ Aside0 (kq ≤ k2) ∧ Aside0 (Kd.R (Kd.int .i64) 3 w' w.heap.size (fun _ => True) v9 x9_3) ∧ Aside0 (w'.heap[gb146]? = some (.cells #[.int .i64 a0_0, .int .i64 a0_1, .int .i64 a0_2, (.slice A0_3 l0_3.length c0_3)] 31 (0, 0))) ∧ Aside0 (Below w.heap.size w w'))
         case atStart => exact ⟨(y155), (a2), (by first | rfl | (simp; done) | (simp [*]; done)), H', ⟨Nat.le_refl _⟩, ⟨by (with_reducible repeat (first | apply rA_ | apply rN_ | apply rD_)); exact HO_9.out⟩, ⟨by (with_reducible repeat (first | refine bN_ ?_ _ | refine bD_ ?_ | refine bA_ ?_ _)); exact BK146.out⟩, ⟨bw_⟩⟩
         case round =>
          clear H'
          try clear hx2
          try clear c13b0
          try clear c19b0
          try clear c23b0
          try clear c24b0
          try clear hx25
          try clear hf25
          try clear hcz14_0
          try clear hcz14_1
          try clear hcz14_2
          try clear hcz14_3
          try clear hcz15_0
          try clear hcz15_1
          try clear hcz15_2
          try clear hcz15_3
          try clear hcz16_0
          try clear hcz16_1
          try clear hcz16_2
          try clear hcz16_3
          try clear hcz17_0
          try clear hcz17_1
          try clear hcz17_2
          try clear hcz17_3
          try clear hcz21_0
          try clear hcz21_1
          try clear hcz21_2
          try clear hcz21_3
          try clear hcz26_0
          try clear hcz26_1
          try clear hcz26_2
          try clear hcz26_3
          try clear hfz14_0
          try clear hfz14_1
          try clear hfz14_2
          try clear hfz14_3
          try clear hfz15_0
          try clear hfz15_1
          try clear hfz15_2
          try clear hfz15_3
          try clear hfz16_0
          try clear hfz16_1
          try clear hfz16_2
          try clear hfz16_3
          try clear hfz17_0
          try clear hfz17_1
          try clear hfz17_2
          try clear hfz17_3
          try clear hfz21_0
          try clear hfz21_1
          try clear hfz21_2
          try clear hfz21_3
          try clear hfz26_0
          try clear hfz26_1
          try clear hfz26_2
          try clear hfz26_3
          try clear hx25_0
          obtain ⟨x9_3, x11_3, rfl, HA, HK3, HO_9, BK146, HB⟩ := hrel
          cases gk with
          | zero => exact absurd HA.out (by simp [spec_ReachFrom.l1])
          | succ k3 =>
           have H := HA.out; clear HA
           simp only [spec_ReachFrom.l1] at H
           by_cases c29 : x11_3 < a3
           ·rw [if_pos c29] at H
            have c29b0 : decide (x11_3 < a3) = true := decide_eq_true c29
            clear c29
            obtain ⟨y156, hy156⟩ : ∃ y_ : List Int, y_ = (([] : List Int)) := ⟨_, rfl⟩
            replace H : (if y156.length + x9_3.length < 17592186044416 then (spec_ReachFrom.l2 k3 a1 a3 x9_3 x11_3 (y156 ++ x9_3) 0 a0_0 a0_1 a0_2 l0_3) else (none)) = some r := by first | (rw [hy156]; with_reducible exact H) | (have H2_ := (Option.bind_some _ _).symm.trans H; rw [hy156]; with_reducible exact H2_) | (have H2_ := (Option.bind_some _ _).symm.trans H; with_reducible exact H2_) | with_reducible exact H | (rw [hy156]; exact H) | exact H
            have Ny156 := aM_ hy156; clear hy156
            by_cases c30 : y156.length + x9_3.length < 17592186044416
            ·rw [if_pos c30] at H
             have LMc30 := aM_ c30; clear c30
             obtain ⟨y159, hy159⟩ : ∃ y_ : List Int, y_ = (y156 ++ x9_3) := ⟨_, rfl⟩
             replace H : (spec_ReachFrom.l2 k3 a1 a3 x9_3 x11_3 y159 0 a0_0 a0_1 a0_2 l0_3) = some r := by first | (rw [hy159]; with_reducible exact H) | (have H2_ := (Option.bind_some _ _).symm.trans H; rw [hy159]; with_reducible exact H2_) | (have H2_ := (Option.bind_some _ _).symm.trans H; with_reducible exact H2_) | with_reducible exact H | (rw [hy159]; exact H) | exact H
             have Ny159 := aM_ hy159; clear hy159
             have H' := aM_ H
             clear H
             go_wp2_with (first | ((with_reducible refine gate_dst (N := 56) rfl ?_); refine Kd.R_lit (Kd.int .i64) _ 3 ?hg (N := 56) ?hd (xs := ([] : List Int)) (inner := []) (ok := fun _ => True) (okp := fun _ => True) ?hr ?hp (fun _ hk => hk) trivial (Below.refl _ _) (Nat.le_refl _) (by simp) ?_; (case hd => rfl); (case hg => rfl); (case hr => first | (go_simp; done) | (go_simp; rfl)); (case hp => exact (Reps.none _ _)); intro v157 w31 ho32 hb hg_ hnew_; clear hg_ hnew_; (first | rw [← Ny156.out] at ho32 | (simp only [Int.reduceToNat] at ho32; rw [← Ny156.out] at ho32)); have n0_ := aM_ (Kd.R_elder' (rb_ HO_9.out) (Kd.R_base ho32) hb); have n1_ := aM_ (Kd.R_lower (Kd.R_new' ho32 (Kd.R_lt (rb_ HO_9.out))) (sZ_ (bw_))); have n2_ := aM_ (bB_ (kb_ BK146.out) hb); have n3_ := aM_ (wS_ (bw_) hb); clear HO_9 BK146 HB; have HO_9 := n0_; have HO158 := n1_; have BK146 := n2_; have HB := n3_; clear n0_ n1_ n2_ n3_ hb ho32; obtain ⟨Ao34, co34, eo34⟩ := Kd.R_slice HO_9.out; subst eo34) | ((with_reducible refine gate_builtin (b := .append) (xs := #[.tmp 56, .tmp 57]) rfl ?_); at_builtin; refine Kd.R_append_rows (Kd.int .i64) (w0 := w) w.heap.size rfl (.tmp 56) (.tmp 57) 51 3 (.int .i64 0) 8 rfl Try.underlying51 info3 rfl (by decide) (by omega) v157 y156 x9_3 _ _ _ (fun k_ => some k_ ≠ (.slice Ao34 x9_3.length co34 : Value).ownBlock) (fun _ => False) rfl rfl ?aO ?aR (fun _ _ h => h) (fun _ h => h.elim) ?aF ?aB ?aS ?aL ?_; (case aR => repeat (first | exact (Kd.R_reads' HO_9.out).2.2 | (with_reducible refine cA_ ?_ _) | (with_reducible refine cN_ ?_ _) | (with_reducible refine cD_ ?_))); (case aB => exact (bw_)); (case aF => exact (fun k_ hk => Kd.fresh' (Kd.R_lt (rb_ HO_9.out)) k_ hk)); (case aO => exact (by (with_reducible repeat (first | apply rA_ | apply rN_ | apply rD_)); exact Kd.R_mono HO158.out (fun _ hk => hk.2))); (case aS => exact (sZ_ (bw_))); (case aL => have := LMc30.out; omega); intro v160 w33 ho hb hg hat; rw [← Ny159.out] at ho; have n0_ := aM_ (Kd.R_after (ok := (fun _ => True)) (rb_ HO_9.out) hg hat); have n1_ := aM_ (blk_grown (kb_ BK146.out) hg (Kd.R_ne HO158.out BK146.out (by decide))); have n2_ := aM_ (hb); have n3_ := aM_ (ho); clear HO_9 BK146 HB HO158; have HO_9 := n0_; have BK146 := n1_; have HB := n2_; have HO161 := n3_; clear n0_ n1_ n2_ n3_ ho hb hg hat))
             go_loopg [13] k3 (fun kq v13 w' => ∃ (x12_4 : List Int) (x13_4 : Int), v13 = .int .i64 x13_4 ∧ Aside0 (spec_ReachFrom.l2 kq a1 a3 x9_3 x11_3 x12_4 x13_4 a0_0 a0_1 a0_2 l0_3 = some r) ∧ Aside0 (kq ≤ k3) ∧ Aside0 (Kd.R (Kd.int .i64) 3 w' w.heap.size (fun k_ => some k_ ≠ (v160 : Value).ownBlock) (.slice Ao34 x9_3.length co34) x9_3) ∧ Aside0 (Kd.R (Kd.int .i64) 3 w' w.heap.size (fun k_ => some k_ ≠ ((.slice Ao34 x9_3.length co34) : Value).ownBlock) v160 x12_4) ∧ Aside0 (w'.heap[gb146]? = some (.cells #[.int .i64 a0_0, .int .i64 a0_1, .int .i64 a0_2, (.slice A0_3 l0_3.length c0_3)] 31 (0, 0))) ∧ Aside0 (Below w.heap.size w w'))
             case atStart => exact ⟨(y159), (0), (by first | rfl | (simp; done) | (simp [*]; done)), H', ⟨Nat.le_refl _⟩, ⟨by (with_reducible repeat (first | apply rA_ | apply rN_ | apply rD_)); exact Kd.R_mono HO_9.out (fun _ hk => hk.2)⟩, ⟨by (with_reducible repeat (first | apply rA_ | apply rN_ | apply rD_)); exact HO161.out⟩, ⟨by (with_reducible repeat (first | refine bN_ ?_ _ | refine bD_ ?_ | refine bA_ ?_ _)); exact BK146.out⟩, ⟨bw_⟩⟩
             case round =>
              clear H'
              try clear hx2
              try clear c13b0
              try clear c19b0
              try clear c23b0
              try clear c24b0
              try clear hx25
              try clear hf25
              try clear c29b0
              try clear hcz14_0
              try clear hcz14_1
              try clear hcz14_2
              try clear hcz14_3
              try clear hcz15_0
              try clear hcz15_1
              try clear hcz15_2
              try clear hcz15_3
              try clear hcz16_0
              try clear hcz16_1
              try clear hcz16_2
              try clear hcz16_3
              try clear hcz17_0
              try clear hcz17_1
              try clear hcz17_2
              try clear hcz17_3
              try clear hcz21_0
              try clear hcz21_1
              try clear hcz21_2
              try clear hcz21_3
              try clear hcz26_0
              try clear hcz26_1
              try clear hcz26_2
              try clear hcz26_3
              try clear hfz14_0
              try clear hfz14_1
              try clear hfz14_2
              try clear hfz14_3
              try clear hfz15_0
              try clear hfz15_1
              try clear hfz15_2
              try clear hfz15_3
              try clear hfz16_0
              try clear hfz16_1
              try clear hfz16_2
              try clear hfz16_3
              try clear hfz17_0
              try clear hfz17_1
              try clear hfz17_2
              try clear hfz17_3
              try clear hfz21_0
              try clear hfz21_1
              try clear hfz21_2
              try clear hfz21_3
              try clear hfz26_0
              try clear hfz26_1
              try clear hfz26_2
              try clear hfz26_3
              try clear hx25_0
              obtain ⟨x12_4, x13_4, rfl, HA, HK4, HO_9, HO_12, BK146, HB⟩ := hrel
              cases gk with
              | zero => exact absurd HA.out (by simp [spec_ReachFrom.l2])
              | succ k4 =>
               have H := HA.out; clear HA
               simp only [spec_ReachFrom.l2] at H
               by_cases c35 : x13_4 < a0_0
               ·rw [if_pos c35] at H
                have c35b0 : decide (x13_4 < a0_0) = true := decide_eq_true c35
                clear c35
                have H' := aM_ H
                clear H
                have hcz36_0 : wr.cell? ⟨gb146, 0, none⟩ = some (.int .i64 a0_0) := (blk_cell BK146.out 0).trans rfl
                have hcz36_1 : wr.cell? ⟨gb146, 1, none⟩ = some (.int .i64 a0_1) := (blk_cell BK146.out 1).trans rfl
                have hcz36_2 : wr.cell? ⟨gb146, 2, none⟩ = some (.int .i64 a0_2) := (blk_cell BK146.out 2).trans rfl
                have hcz36_3 : wr.cell? ⟨gb146, 3, none⟩ = some (.slice A0_3 l0_3.length c0_3) := (blk_cell BK146.out 3).trans rfl
                have hfz36_0 := blk_frozen BK146.out 0; have hfz36_1 := blk_frozen BK146.out 1; have hfz36_2 := blk_frozen BK146.out 2; have hfz36_3 := blk_frozen BK146.out 3
                go_wp2
                go_loopg [14] k4 (fun kq v14 w' => ∃ (x12_5 : List Int) (x14_5 : Int), v14 = .int .i64 x14_5 ∧ Aside0 (spec_ReachFrom.l3 kq a1 a3 x9_3 x11_3 x12_5 x13_4 x14_5 a0_0 a0_1 a0_2 l0_3 = some r) ∧ Aside0 (kq ≤ k4) ∧ Aside0 (Kd.R (Kd.int .i64) 3 w' w.heap.size (fun k_ => some k_ ≠ (v160 : Value).ownBlock) (.slice Ao34 x9_3.length co34) x9_3) ∧ Aside0 (Kd.R (Kd.int .i64) 3 w' w.heap.size (fun k_ => some k_ ≠ ((.slice Ao34 x9_3.length co34) : Value).ownBlock) v160 x12_5) ∧ Aside0 (w'.heap[gb146]? = some (.cells #[.int .i64 a0_0, .int .i64 a0_1, .int .i64 a0_2, (.slice A0_3 l0_3.length c0_3)] 31 (0, 0))) ∧ Aside0 (Below w.heap.size w w'))
                case atStart => exact ⟨(x12_4), (0), (by first | rfl | (simp; done) | (simp [*]; done)), H', ⟨Nat.le_refl _⟩, ⟨by (with_reducible repeat (first | apply rA_ | apply rN_ | apply rD_)); exact HO_9.out⟩, ⟨by (with_reducible repeat (first | apply rA_ | apply rN_ | apply rD_)); exact HO_12.out⟩, ⟨by (with_reducible repeat (first | refine bN_ ?_ _ | refine bD_ ?_ | refine bA_ ?_ _)); exact BK146.out⟩, ⟨bw_⟩⟩
                case round =>
                 clear H'
                 try clear hx2
                 try clear c13b0
                 try clear c19b0
                 try clear c23b0
                 try clear c24b0
                 try clear hx25
                 try clear hf25
                 try clear c29b0
                 try clear c35b0
                 try clear hcz14_0
                 try clear hcz14_1
                 try clear hcz14_2
                 try clear hcz14_3
                 try clear hcz15_0
                 try clear hcz15_1
                 try clear hcz15_2
                 try clear hcz15_3
                 try clear hcz16_0
                 try clear hcz16_1
                 try clear hcz16_2
                 try clear hcz16_3
                 try clear hcz17_0
                 try clear hcz17_1
                 try clear hcz17_2
                 try clear hcz17_3
                 try clear hcz21_0
                 try clear hcz21_1
                 try clear hcz21_2
                 try clear hcz21_3
                 try clear hcz26_0
                 try clear hcz26_1
                 try clear hcz26_2
                 try clear hcz26_3
                 try clear hcz36_0
                 try clear hcz36_1
                 try clear hcz36_2
                 try clear hcz36_3
                 try clear hfz14_0
                 try clear hfz14_1
                 try clear hfz14_2
                 try clear hfz14_3
                 try clear hfz15_0
                 try clear hfz15_1
                 try clear hfz15_2
                 try clear hfz15_3
                 try clear hfz16_0
                 try clear hfz16_1
                 try clear hfz16_2
                 try clear hfz16_3
                 try clear hfz17_0
                 try clear hfz17_1
                 try clear hfz17_2
                 try clear hfz17_3
                 try clear hfz21_0
                 try clear hfz21_1
                 try clear hfz21_2
                 try clear hfz21_3
                 try clear hfz26_0
                 try clear hfz26_1
                 try clear hfz26_2
                 try clear hfz26_3
                 try clear hfz36_0
                 try clear hfz36_1
                 try clear hfz36_2
                 try clear hfz36_3
                 try clear hx25_0
                 obtain ⟨x12_5, x14_5, rfl, HA, HK5, HO_9, HO_12, BK146, HB⟩ := hrel
                 cases gk with
                 | zero => exact absurd HA.out (by simp [spec_ReachFrom.l3])
                 | succ k5 =>
                  have H := HA.out; clear HA
                  simp only [spec_ReachFrom.l3] at H
                  have HC37 := aM_ H; clear H
                  go_upto_region 17 with (fail)
                  go_cut [86] (fun v86 wc => ∃ (kq : Nat) (x86_36 : Bool), v86 = .bool x86_36 ∧ Aside0 (spec_ReachFrom.j5 kq a1 a3 x9_3 x11_3 x12_5 x13_4 x14_5 x86_36 a0_0 a0_1 a0_2 l0_3 = some r) ∧ Aside0 (kq ≤ k5) ∧ Aside0 (Kd.R (Kd.int .i64) 3 wc w.heap.size (fun k_ => some k_ ≠ (v160 : Value).ownBlock) (.slice Ao34 x9_3.length co34) x9_3) ∧ Aside0 (Kd.R (Kd.int .i64) 3 wc w.heap.size (fun k_ => some k_ ≠ ((.slice Ao34 x9_3.length co34) : Value).ownBlock) v160 x12_5) ∧ Aside0 (wc.heap[gb146]? = some (.cells #[.int .i64 a0_0, .int .i64 a0_1, .int .i64 a0_2, (.slice A0_3 l0_3.length c0_3)] 31 (0, 0))) ∧ Aside0 (Below w.heap.size w wc))
                  case first =>
                   have H := HC37.out; clear HC37
                   by_cases c38 : x14_5 < a0_0
                   ·rw [if_pos c38] at H
                    have c38b0 : decide (x14_5 < a0_0) = true := decide_eq_true c38
                    clear c38
                    (first | rw [c38b0] | (simp only [i64_w, i32_w]; rw [c38b0]) | skip)
                    by_cases c39 : 0 ≤ x13_4
                    ·rw [if_pos c39] at H
                     have c39b0 : decide (0 ≤ x13_4) = true := decide_eq_true c39
                     clear c39
                     by_cases c40 : x13_4 < (x9_3.length : Int)
                     ·rw [if_pos c40] at H
                      have c40b0 : decide (x13_4 < (x9_3.length : Int)) = true := decide_eq_true c40
                      clear c40
                      by_cases c41 : (rd x9_3 x13_4) ≥ 0
                      ·rw [if_pos c41] at H
                       have c41b0 : decide (0 ≤ (rd x9_3 x13_4)) = true := decide_eq_true c41
                       clear c41
                       by_cases c42 : x13_4 < a0_1
                       ·rw [if_pos c42] at H
                        have c42b0 : decide (x13_4 < a0_1) = true := decide_eq_true c42
                        clear c42
                        have H' := aM_ H
                        clear H
                        have hcz43_0 : wr.cell? ⟨gb146, 0, none⟩ = some (.int .i64 a0_0) := (blk_cell BK146.out 0).trans rfl
                        have hcz43_1 : wr.cell? ⟨gb146, 1, none⟩ = some (.int .i64 a0_1) := (blk_cell BK146.out 1).trans rfl
                        have hcz43_2 : wr.cell? ⟨gb146, 2, none⟩ = some (.int .i64 a0_2) := (blk_cell BK146.out 2).trans rfl
                        have hcz43_3 : wr.cell? ⟨gb146, 3, none⟩ = some (.slice A0_3 l0_3.length c0_3) := (blk_cell BK146.out 3).trans rfl
                        have hfz43_0 := blk_frozen BK146.out 0; have hfz43_1 := blk_frozen BK146.out 1; have hfz43_2 := blk_frozen BK146.out 2; have hfz43_3 := blk_frozen BK146.out 3
                        have p162 : 0 ≤ (x13_4 : Int) := dT_
                        have q162 : x13_4 < (x9_3.length : Int) := dT_
                        obtain ⟨ad162, e162, hx162_0⟩ := Kd.at_int (Kd.R_reads' HO_9.out).2.2 x13_4 p162 q162
                        cases e162
                        replace p162 := eq_true p162; replace q162 := eq_true q162
                        go_wp2
                        go_meet
                        case rel => exact ⟨_, (true), (by first | rfl | (simp; done) | (simp [*]; done)), H', ⟨by have := HJ4.out; have := HK2.out; have := HK3.out; have := HK4.out; have := HK5.out; first | omega | exact Nat.le_refl _⟩, ⟨by (with_reducible repeat (first | apply rA_ | apply rN_ | apply rD_)); exact HO_9.out⟩, ⟨by (with_reducible repeat (first | apply rA_ | apply rN_ | apply rD_)); exact HO_12.out⟩, ⟨by (with_reducible repeat (first | refine bN_ ?_ _ | refine bD_ ?_ | refine bA_ ?_ _)); exact BK146.out⟩, ⟨bw_⟩⟩
                       ·rw [if_neg c42] at H
                        have c42b0 : decide (x13_4 < a0_1) = false := decide_eq_false c42
                        clear c42
                        have H' := aM_ H
                        clear H
                        have hcz44_0 : wr.cell? ⟨gb146, 0, none⟩ = some (.int .i64 a0_0) := (blk_cell BK146.out 0).trans rfl
                        have hcz44_1 : wr.cell? ⟨gb146, 1, none⟩ = some (.int .i64 a0_1) := (blk_cell BK146.out 1).trans rfl
                        have hcz44_2 : wr.cell? ⟨gb146, 2, none⟩ = some (.int .i64 a0_2) := (blk_cell BK146.out 2).trans rfl
                        have hcz44_3 : wr.cell? ⟨gb146, 3, none⟩ = some (.slice A0_3 l0_3.length c0_3) := (blk_cell BK146.out 3).trans rfl
                        have hfz44_0 := blk_frozen BK146.out 0; have hfz44_1 := blk_frozen BK146.out 1; have hfz44_2 := blk_frozen BK146.out 2; have hfz44_3 := blk_frozen BK146.out 3
                        have p162 : 0 ≤ (x13_4 : Int) := dT_
                        have q162 : x13_4 < (x9_3.length : Int) := dT_
                        obtain ⟨ad162, e162, hx162_0⟩ := Kd.at_int (Kd.R_reads' HO_9.out).2.2 x13_4 p162 q162
                        cases e162
                        replace p162 := eq_true p162; replace q162 := eq_true q162
                        go_wp2
                        go_meet
                        case rel => exact ⟨_, ((x13_4 == a1)), (by first | rfl | (simp; done) | (simp [*]; done)), H', ⟨by have := HJ4.out; have := HK2.out; have := HK3.out; have := HK4.out; have := HK5.out; first | omega | exact Nat.le_refl _⟩, ⟨by (with_reducible repeat (first | apply rA_ | apply rN_ | apply rD_)); exact HO_9.out⟩, ⟨by (with_reducible repeat (first | apply rA_ | apply rN_ | apply rD_)); exact HO_12.out⟩, ⟨by (with_reducible repeat (first | refine bN_ ?_ _ | refine bD_ ?_ | refine bA_ ?_ _)); exact BK146.out⟩, ⟨bw_⟩⟩
                      ·rw [if_neg c41] at H
                       have c41b0 : decide (0 ≤ (rd x9_3 x13_4)) = false := decide_eq_false c41
                       clear c41
                       have H' := aM_ H
                       clear H
                       have hcz45_0 : wr.cell? ⟨gb146, 0, none⟩ = some (.int .i64 a0_0) := (blk_cell BK146.out 0).trans rfl
                       have hcz45_1 : wr.cell? ⟨gb146, 1, none⟩ = some (.int .i64 a0_1) := (blk_cell BK146.out 1).trans rfl
                       have hcz45_2 : wr.cell? ⟨gb146, 2, none⟩ = some (.int .i64 a0_2) := (blk_cell BK146.out 2).trans rfl
                       have hcz45_3 : wr.cell? ⟨gb146, 3, none⟩ = some (.slice A0_3 l0_3.length c0_3) := (blk_cell BK146.out 3).trans rfl
                       have hfz45_0 := blk_frozen BK146.out 0; have hfz45_1 := blk_frozen BK146.out 1; have hfz45_2 := blk_frozen BK146.out 2; have hfz45_3 := blk_frozen BK146.out 3
                       have p162 : 0 ≤ (x13_4 : Int) := dT_
                       have q162 : x13_4 < (x9_3.length : Int) := dT_
                       obtain ⟨ad162, e162, hx162_0⟩ := Kd.at_int (Kd.R_reads' HO_9.out).2.2 x13_4 p162 q162
                       cases e162
                       replace p162 := eq_true p162; replace q162 := eq_true q162
                       go_wp2
                       go_meet
                       case rel => exact ⟨_, (false), (by first | rfl | (simp; done) | (simp [*]; done)), H', ⟨by have := HJ4.out; have := HK2.out; have := HK3.out; have := HK4.out; have := HK5.out; first | omega | exact Nat.le_refl _⟩, ⟨by (with_reducible repeat (first | apply rA_ | apply rN_ | apply rD_)); exact HO_9.out⟩, ⟨by (with_reducible repeat (first | apply rA_ | apply rN_ | apply rD_)); exact HO_12.out⟩, ⟨by (with_reducible repeat (first | refine bN_ ?_ _ | refine bD_ ?_ | refine bA_ ?_ _)); exact BK146.out⟩, ⟨bw_⟩⟩
                     ·rw [if_neg c40] at H
                      exact absurd H (by simp)
                    ·rw [if_neg c39] at H
                     exact absurd H (by simp)
                   ·rw [if_neg c38] at H
                    have c38b0 : decide (x14_5 < a0_0) = false := decide_eq_false c38
                    clear c38
                    (first | rw [c38b0] | (simp only [i64_w, i32_w]; rw [c38b0]) | skip)
                    have H' := aM_ H
                    clear H
                    have hcz46_0 : wr.cell? ⟨gb146, 0, none⟩ = some (.int .i64 a0_0) := (blk_cell BK146.out 0).trans rfl
                    have hcz46_1 : wr.cell? ⟨gb146, 1, none⟩ = some (.int .i64 a0_1) := (blk_cell BK146.out 1).trans rfl
                    have hcz46_2 : wr.cell? ⟨gb146, 2, none⟩ = some (.int .i64 a0_2) := (blk_cell BK146.out 2).trans rfl
                    have hcz46_3 : wr.cell? ⟨gb146, 3, none⟩ = some (.slice A0_3 l0_3.length c0_3) := (blk_cell BK146.out 3).trans rfl
                    have hfz46_0 := blk_frozen BK146.out 0; have hfz46_1 := blk_frozen BK146.out 1; have hfz46_2 := blk_frozen BK146.out 2; have hfz46_3 := blk_frozen BK146.out 3
                    go_wp2
                    go_meet
                    case rel => exact ⟨_, (false), (by first | rfl | (simp; done) | (simp [*]; done)), H', ⟨by have := HJ4.out; have := HK2.out; have := HK3.out; have := HK4.out; have := HK5.out; first | omega | exact Nat.le_refl _⟩, ⟨by (with_reducible repeat (first | apply rA_ | apply rN_ | apply rD_)); exact HO_9.out⟩, ⟨by (with_reducible repeat (first | apply rA_ | apply rN_ | apply rD_)); exact HO_12.out⟩, ⟨by (with_reducible repeat (first | refine bN_ ?_ _ | refine bD_ ?_ | refine bA_ ?_ _)); exact BK146.out⟩, ⟨bw_⟩⟩
                  case rest =>
                   clear HC37
                   try clear hx1
                   try clear hx2
                   try clear c13b0
                   try clear hx16
                   try clear c19b0
                   try clear c23b0
                   try clear c24b0
                   try clear hx25
                   try clear hf25
                   try clear c29b0
                   try clear c35b0
                   try clear c38b0
                   try clear c39b0
                   try clear c40b0
                   try clear c41b0
                   try clear c42b0
                   try clear hcz14_0
                   try clear hcz14_1
                   try clear hcz14_2
                   try clear hcz14_3
                   try clear hcz15_0
                   try clear hcz15_1
                   try clear hcz15_2
                   try clear hcz15_3
                   try clear hcz16_0
                   try clear hcz16_1
                   try clear hcz16_2
                   try clear hcz16_3
                   try clear hcz17_0
                   try clear hcz17_1
                   try clear hcz17_2
                   try clear hcz17_3
                   try clear hcz21_0
                   try clear hcz21_1
                   try clear hcz21_2
                   try clear hcz21_3
                   try clear hcz26_0
                   try clear hcz26_1
                   try clear hcz26_2
                   try clear hcz26_3
                   try clear hcz36_0
                   try clear hcz36_1
                   try clear hcz36_2
                   try clear hcz36_3
                   try clear hcz43_0
                   try clear hcz43_1
                   try clear hcz43_2
                   try clear hcz43_3
                   try clear hcz44_0
                   try clear hcz44_1
                   try clear hcz44_2
                   try clear hcz44_3
                   try clear hcz45_0
                   try clear hcz45_1
                   try clear hcz45_2
                   try clear hcz45_3
                   try clear hcz46_0
                   try clear hcz46_1
                   try clear hcz46_2
                   try clear hcz46_3
                   try clear hfz14_0
                   try clear hfz14_1
                   try clear hfz14_2
                   try clear hfz14_3
                   try clear hfz15_0
                   try clear hfz15_1
                   try clear hfz15_2
                   try clear hfz15_3
                   try clear hfz16_0
                   try clear hfz16_1
                   try clear hfz16_2
                   try clear hfz16_3
                   try clear hfz17_0
                   try clear hfz17_1
                   try clear hfz17_2
                   try clear hfz17_3
                   try clear hfz21_0
                   try clear hfz21_1
                   try clear hfz21_2
                   try clear hfz21_3
                   try clear hfz26_0
                   try clear hfz26_1
                   try clear hfz26_2
                   try clear hfz26_3
                   try clear hfz36_0
                   try clear hfz36_1
                   try clear hfz36_2
                   try clear hfz36_3
                   try clear hfz43_0
                   try clear hfz43_1
                   try clear hfz43_2
                   try clear hfz43_3
                   try clear hfz44_0
                   try clear hfz44_1
                   try clear hfz44_2
                   try clear hfz44_3
                   try clear hfz45_0
                   try clear hfz45_1
                   try clear hfz45_2
                   try clear hfz45_3
                   try clear hfz46_0
                   try clear hfz46_1
                   try clear hfz46_2
                   try clear hfz46_3
                   try clear hx162_0
                   try clear hx25_0
                   obtain ⟨kq, x86_36, rfl, HA, HJ36, HO_9, HO_12, BK146, HB⟩ := hcut
                   cases kq with
                   | zero => exact absurd HA.out (by simp [spec_ReachFrom.j5])
                   | succ kj36 =>
                    have H := HA.out; clear HA
                    simp only [spec_ReachFrom.j5] at H
                    by_cases c47 : x86_36 = true
                    ·subst c47
                     have H1 : (if 0 ≤ x14_5 then (if x14_5 < (x12_5.length : Int) then (if (rd x12_5 x14_5) < 0 then ((spec_IsLinked.f kj36 a0_0 a0_1 a0_2 l0_3 x13_4 x14_5 x11_3).bind fun t164 => (if t164 = true then (spec_ReachFrom.l3 kj36 a1 a3 x9_3 x11_3 (x12_5.set (x14_5 : Int).toNat (wrap64 (x11_3 + 1))) x13_4 (wrap64 (x14_5 + 1)) a0_0 a0_1 a0_2 l0_3) else (spec_ReachFrom.l3 kj36 a1 a3 x9_3 x11_3 x12_5 x13_4 (wrap64 (x14_5 + 1)) a0_0 a0_1 a0_2 l0_3))) else (spec_ReachFrom.l3 kj36 a1 a3 x9_3 x11_3 x12_5 x13_4 (wrap64 (x14_5 + 1)) a0_0 a0_1 a0_2 l0_3)) else (none)) else (none)) = some r := by rw [if_pos rfl] at H; exact H
                     clear H; have H := H1; clear H1
                     by_cases c48 : 0 ≤ x14_5
                     ·rw [if_pos c48] at H
                      have c48b0 : decide (0 ≤ x14_5) = true := decide_eq_true c48
                      clear c48
                      by_cases c49 : x14_5 < (x12_5.length : Int)
                      ·rw [if_pos c49] at H
                       have c49b0 : decide (x14_5 < (x12_5.length : Int)) = true := decide_eq_true c49
                       clear c49
                       by_cases c50 : (rd x12_5 x14_5) < 0
                       ·rw [if_pos c50] at H
                        have c50b0 : decide ((rd x12_5 x14_5) < 0) = true := decide_eq_true c50
                        clear c50
                        replace H := Option.bind_eq_some_iff.mp H
                        obtain ⟨t164, A510, H⟩ := H
                        (try dsimp only at H)
                        have A51 := aM_ A510; clear A510
                        by_cases c52 : t164 = true
                        ·subst c52
                         have H1 : (spec_ReachFrom.l3 kj36 a1 a3 x9_3 x11_3 (x12_5.set (x14_5 : Int).toNat (wrap64 (x11_3 + 1))) x13_4 (wrap64 (x14_5 + 1)) a0_0 a0_1 a0_2 l0_3) = some r := by rw [if_pos rfl] at H; exact H
                         clear H; have H := H1; clear H1
                         obtain ⟨y165, hy165⟩ : ∃ y_ : List Int, y_ = (x12_5.set (x14_5 : Int).toNat (wrap64 (x11_3 + 1))) := ⟨_, rfl⟩
                         replace H : (spec_ReachFrom.l3 kj36 a1 a3 x9_3 x11_3 y165 x13_4 (wrap64 (x14_5 + 1)) a0_0 a0_1 a0_2 l0_3) = some r := by first | (rw [hy165]; with_reducible exact H) | (have H2_ := (Option.bind_some _ _).symm.trans H; rw [hy165]; with_reducible exact H2_) | (have H2_ := (Option.bind_some _ _).symm.trans H; with_reducible exact H2_) | with_reducible exact H | (rw [hy165]; exact H) | exact H
                         have Ny165 := aM_ hy165; clear hy165
                         have H' := aM_ H
                         clear H
                         obtain ⟨Ao54, co54, eo54⟩ := Kd.R_slice HO_12.out
                         subst eo54
                         have p163 : 0 ≤ (x14_5 : Int) := dT_
                         have q163 : x14_5 < (x12_5.length : Int) := dT_
                         obtain ⟨ad163, e163, hx163_0⟩ := Kd.at_int (Kd.R_reads' HO_12.out).2.2 x14_5 p163 q163
                         cases e163
                         replace p163 := eq_true p163; replace q163 := eq_true q163
                         have hcz55_0 : wc.cell? ⟨gb146, 0, none⟩ = some (.int .i64 a0_0) := (blk_cell BK146.out 0).trans rfl
                         have hcz55_1 : wc.cell? ⟨gb146, 1, none⟩ = some (.int .i64 a0_1) := (blk_cell BK146.out 1).trans rfl
                         have hcz55_2 : wc.cell? ⟨gb146, 2, none⟩ = some (.int .i64 a0_2) := (blk_cell BK146.out 2).trans rfl
                         have hcz55_3 : wc.cell? ⟨gb146, 3, none⟩ = some (.slice A0_3 l0_3.length c0_3) := (blk_cell BK146.out 3).trans rfl
                         have hfz55_0 := blk_frozen BK146.out 0; have hfz55_1 := blk_frozen BK146.out 1; have hfz55_2 := blk_frozen BK146.out 2; have hfz55_3 := blk_frozen BK146.out 3
                         go_wp2_with (first | (go_at_call 65; (with_reducible refine (spec_IsLinked.calls kj36 a0_0 a0_1 a0_2 _ _ l0_3 x13_4 x14_5 x11_3 true _ ?side1 ?side2 A51.out).mono ?_); (case side1 => repeat (first | exact (Kd.C_below HR0_3.out HB.out) | (with_reducible refine cA_ ?_ _) | (with_reducible refine cN_ ?_ _) | (with_reducible refine cD_ ?_))); (case side2 => exact HC0_3.out); rintro e w56 ⟨rfl, hb⟩; have n0_ := aM_ (rB_ (rb_ HO_9.out) hb); have n1_ := aM_ (rB_ (rb_ HO_12.out) hb); have n2_ := aM_ (bB_ (kb_ BK146.out) hb); have n3_ := aM_ (wS_ (bw_) hb); clear HO_9 HO_12 BK146 HB; have HO_9 := n0_; have HO_12 := n1_; have BK146 := n2_; have HB := n3_; clear n0_ n1_ n2_ n3_; (try clear hb); (try clear hb2); (try clear hk); (try clear hi); have p53 : 0 ≤ (x14_5 : Int) := dT_; have q53 : (x14_5 : Int) < ((x12_5.length : Int) : Int) := dT_; obtain ⟨go53, co53, eo53, gb53, gl53, cl53, HG53⟩ := Kd.R_form HO_12.out (by omega); (first | cases eo53 | (injection eo53 with ea_ en_ ec_; (first | subst ea_ | (injection ea_ with ea_; subst ea_)); subst ec_; clear en_)); have GB53 := aM_ gb53; have GG53 := aM_ HG53; clear gb53 gl53 HG53; (first | simp only [add_plain] at hx163_0 | skip); obtain ⟨hx53_0, hf53_0⟩ := Kd.R_celln 0 HO_12.out (x14_5 : Int) p53 q53; replace p53 := eq_true p53; replace q53 := eq_true q53; obtain ⟨hy57_, hz57_⟩ := Kd.R_celln 0 HO_12.out (x14_5 : Int) (dT_) (dT_); have HP57 := Kd.R_putg HO_12.out (x14_5 : Int) (wrap64 (x11_3 + 1))) | ((with_reducible refine gate_store (t := 3) (p := 105) rfl ?_); refine store_event (t := 3) (p := 105) (v := ?vo_w58) (w1 := (w56.setCell ⟨go53, (x14_5 : Int).toNat, none⟩ (.int .i64 (wrap64 (x11_3 + 1))))) ?hg ?ho ?hn ?hr ?_; (case ho => rfl); (case hg => rfl); (case hn => rfl); (case hr => first | (go_simp; done) | (go_simp; rfl)); intro w58 hw; have hg : w56.grownBy w58 (some go53) := (by rw [hw]; exact HP57.2); have hp_ : Kd.R (Kd.int .i64) 3 w58 w.heap.size (fun k_ => some k_ ≠ (.slice Ao34 x9_3.length co34 : Value).ownBlock) (.slice (some ⟨go53, 0, none⟩) x12_5.length co54) y165 := (by rw [hw, Ny165.out]; exact HP57.1); clear HP57; have n0_ := aM_ (Kd.R_after (v := (.slice (some ⟨go53, 0, none⟩) x12_5.length co54)) (v1 := (.slice (some ⟨go53, 0, none⟩) x12_5.length co54)) (ok := (fun _ => True)) (by (with_reducible repeat (first | apply rA_ | apply rN_ | apply rD_)); exact Kd.R_mono HO_9.out (fun _ hk => ⟨trivial, hk⟩)) hg (.inl rfl)); have n1_ := aM_ (hp_); have n2_ := aM_ (blk_grown (kb_ BK146.out) hg (Kd.R_ne HO_12.out BK146.out (by decide))); have n3_ := aM_ ((by rw [hw]; exact wE_ (HB.out) GB53.out : Below w.heap.size w w58)); clear HO_9 HO_12 BK146 HB; have HO_9 := n0_; have HO_12 := n1_; have BK146 := n2_; have HB := n3_; clear n0_ n1_ n2_ n3_ hg hw hp_))
                         go_roundg kj36
                         case measure => have := HJ4.out; have := HK2.out; have := HK3.out; have := HK4.out; have := HK5.out; have := HJ36.out; omega
                         case rel => exact ⟨(y165), (wrap64 (x14_5 + 1)), (by first | rfl | (simp; done) | (simp [*]; done)), H', ⟨by have := HJ4.out; have := HK2.out; have := HK3.out; have := HK4.out; have := HK5.out; have := HJ36.out; omega⟩, ⟨by (with_reducible repeat (first | apply rA_ | apply rN_ | apply rD_)); exact Kd.R_mono HO_9.out (fun _ hk => hk.2)⟩, ⟨by (with_reducible repeat (first | apply rA_ | apply rN_ | apply rD_)); exact HO_12.out⟩, ⟨by (with_reducible repeat (first | refine bN_ ?_ _ | refine bD_ ?_ | refine bA_ ?_ _)); exact BK146.out⟩, ⟨bw_⟩⟩
                        ·replace c52 := Bool.eq_false_iff.mpr c52
                         subst c52
                         have H1 : (spec_ReachFrom.l3 kj36 a1 a3 x9_3 x11_3 x12_5 x13_4 (wrap64 (x14_5 + 1)) a0_0 a0_1 a0_2 l0_3) = some r := by rw [if_neg (show ¬ (false = true) by decide)] at H; exact H
                         clear H; have H := H1; clear H1
                         have H' := aM_ H
                         clear H
                         obtain ⟨Ao59, co59, eo59⟩ := Kd.R_slice HO_12.out
                         subst eo59
                         have p163 : 0 ≤ (x14_5 : Int) := dT_
                         have q163 : x14_5 < (x12_5.length : Int) := dT_
                         obtain ⟨ad163, e163, hx163_0⟩ := Kd.at_int (Kd.R_reads' HO_12.out).2.2 x14_5 p163 q163
                         cases e163
                         replace p163 := eq_true p163; replace q163 := eq_true q163
                         have hcz60_0 : wc.cell? ⟨gb146, 0, none⟩ = some (.int .i64 a0_0) := (blk_cell BK146.out 0).trans rfl
                         have hcz60_1 : wc.cell? ⟨gb146, 1, none⟩ = some (.int .i64 a0_1) := (blk_cell BK146.out 1).trans rfl
                         have hcz60_2 : wc.cell? ⟨gb146, 2, none⟩ = some (.int .i64 a0_2) := (blk_cell BK146.out 2).trans rfl
                         have hcz60_3 : wc.cell? ⟨gb146, 3, none⟩ = some (.slice A0_3 l0_3.length c0_3) := (blk_cell BK146.out 3).trans rfl
                         have hfz60_0 := blk_frozen BK146.out 0; have hfz60_1 := blk_frozen BK146.out 1; have hfz60_2 := blk_frozen BK146.out 2; have hfz60_3 := blk_frozen BK146.out 3
                         go_wp2_with (first | (go_at_call 65; (with_reducible refine (spec_IsLinked.calls kj36 a0_0 a0_1 a0_2 _ _ l0_3 x13_4 x14_5 x11_3 false _ ?side1 ?side2 A51.out).mono ?_); (case side1 => repeat (first | exact (Kd.C_below HR0_3.out HB.out) | (with_reducible refine cA_ ?_ _) | (with_reducible refine cN_ ?_ _) | (with_reducible refine cD_ ?_))); (case side2 => exact HC0_3.out); rintro e w61 ⟨rfl, hb⟩; have n0_ := aM_ (rB_ (rb_ HO_9.out) hb); have n1_ := aM_ (rB_ (rb_ HO_12.out) hb); have n2_ := aM_ (bB_ (kb_ BK146.out) hb); have n3_ := aM_ (wS_ (bw_) hb); clear HO_9 HO_12 BK146 HB; have HO_9 := n0_; have HO_12 := n1_; have BK146 := n2_; have HB := n3_; clear n0_ n1_ n2_ n3_; (try clear hb); (try clear hb2); (try clear hk); (try clear hi)))
                         go_roundg kj36
                         case measure => have := HJ4.out; have := HK2.out; have := HK3.out; have := HK4.out; have := HK5.out; have := HJ36.out; omega
                         case rel => exact ⟨(x12_5), (wrap64 (x14_5 + 1)), (by first | rfl | (simp; done) | (simp [*]; done)), H', ⟨by have := HJ4.out; have := HK2.out; have := HK3.out; have := HK4.out; have := HK5.out; have := HJ36.out; omega⟩, ⟨by (with_reducible repeat (first | apply rA_ | apply rN_ | apply rD_)); exact HO_9.out⟩, ⟨by (with_reducible repeat (first | apply rA_ | apply rN_ | apply rD_)); exact HO_12.out⟩, ⟨by (with_reducible repeat (first | refine bN_ ?_ _ | refine bD_ ?_ | refine bA_ ?_ _)); exact BK146.out⟩, ⟨bw_⟩⟩
                       ·rw [if_neg c50] at H
                        have c50b0 : decide ((rd x12_5 x14_5) < 0) = false := decide_eq_false c50
                        clear c50
                        have H' := aM_ H
                        clear H
                        obtain ⟨Ao62, co62, eo62⟩ := Kd.R_slice HO_12.out
                        subst eo62
                        have p163 : 0 ≤ (x14_5 : Int) := dT_
                        have q163 : x14_5 < (x12_5.length : Int) := dT_
                        obtain ⟨ad163, e163, hx163_0⟩ := Kd.at_int (Kd.R_reads' HO_12.out).2.2 x14_5 p163 q163
                        cases e163
                        replace p163 := eq_true p163; replace q163 := eq_true q163
                        go_wp2
                        go_roundg kj36
                        case measure => have := HJ4.out; have := HK2.out; have := HK3.out; have := HK4.out; have := HK5.out; have := HJ36.out; omega
                        case rel => exact ⟨(x12_5), (wrap64 (x14_5 + 1)), (by first | rfl | (simp; done) | (simp [*]; done)), H', ⟨by have := HJ4.out; have := HK2.out; have := HK3.out; have := HK4.out; have := HK5.out; have := HJ36.out; omega⟩, ⟨by (with_reducible repeat (first | apply rA_ | apply rN_ | apply rD_)); exact HO_9.out⟩, ⟨by (with_reducible repeat (first | apply rA_ | apply rN_ | apply rD_)); exact HO_12.out⟩, ⟨by (with_reducible repeat (first | refine bN_ ?_ _ | refine bD_ ?_ | refine bA_ ?_ _)); exact BK146.out⟩, ⟨bw_⟩⟩
                      ·rw [if_neg c49] at H
                       exact absurd H (by simp)
                     ·rw [if_neg c48] at H
                      exact absurd H (by simp)
                    ·replace c47 := Bool.eq_false_iff.mpr c47
                     subst c47
                     have H1 : (spec_ReachFrom.l2 kj36 a1 a3 x9_3 x11_3 x12_5 (wrap64 (x13_4 + 1)) a0_0 a0_1 a0_2 l0_3) = some r := by rw [if_neg (show ¬ (false = true) by decide)] at H; exact H
                     clear H; have H := H1; clear H1
                     have H' := aM_ H
                     clear H
                     go_wp2
                     go_roundg kj36
                     case measure => have := HJ4.out; have := HK2.out; have := HK3.out; have := HK4.out; have := HK5.out; have := HJ36.out; omega
                     case rel => exact ⟨(x12_5), (wrap64 (x13_4 + 1)), (by first | rfl | (simp; done) | (simp [*]; done)), H', ⟨by have := HJ4.out; have := HK2.out; have := HK3.out; have := HK4.out; have := HK5.out; have := HJ36.out; omega⟩, ⟨by (with_reducible repeat (first | apply rA_ | apply rN_ | apply rD_)); exact HO_9.out⟩, ⟨by (with_reducible repeat (first | apply rA_ | apply rN_ | apply rD_)); exact HO_12.out⟩, ⟨by (with_reducible repeat (first | refine bN_ ?_ _ | refine bD_ ?_ | refine bA_ ?_ _)); exact BK146.out⟩, ⟨bw_⟩⟩
               ·rw [if_neg c35] at H
                have c35b0 : decide (x13_4 < a0_0) = false := decide_eq_false c35
                clear c35
                have H' := aM_ H
                clear H
                have hcz63_0 : wr.cell? ⟨gb146, 0, none⟩ = some (.int .i64 a0_0) := (blk_cell BK146.out 0).trans rfl
                have hcz63_1 : wr.cell? ⟨gb146, 1, none⟩ = some (.int .i64 a0_1) := (blk_cell BK146.out 1).trans rfl
                have hcz63_2 : wr.cell? ⟨gb146, 2, none⟩ = some (.int .i64 a0_2) := (blk_cell BK146.out 2).trans rfl
                have hcz63_3 : wr.cell? ⟨gb146, 3, none⟩ = some (.slice A0_3 l0_3.length c0_3) := (blk_cell BK146.out 3).trans rfl
                have hfz63_0 := blk_frozen BK146.out 0; have hfz63_1 := blk_frozen BK146.out 1; have hfz63_2 := blk_frozen BK146.out 2; have hfz63_3 := blk_frozen BK146.out 3
                go_wp2
                go_roundg k4
                case measure => have := HJ4.out; have := HK2.out; have := HK3.out; have := HK4.out; omega
                case rel => exact ⟨(x12_4), (wrap64 (x11_3 + 1)), (by first | rfl | (simp; done) | (simp [*]; done)), H', ⟨by have := HJ4.out; have := HK2.out; have := HK3.out; have := HK4.out; omega⟩, ⟨by (with_reducible repeat (first | apply rA_ | apply rN_ | apply rD_)); exact Kd.R_mono HO_12.out (fun _ hk => trivial)⟩, ⟨by (with_reducible repeat (first | refine bN_ ?_ _ | refine bD_ ?_ | refine bA_ ?_ _)); exact BK146.out⟩, ⟨bw_⟩⟩
            ·rw [if_neg c30] at H
             exact absurd H (by simp)
           ·rw [if_neg c29] at H
            have c29b0 : decide (x11_3 < a3) = false := decide_eq_false c29
            clear c29
            obtain rfl := Option.some.inj H
            go_wp2
            go_ret
            exact ⟨_, by first | rfl | (simp [errW_none, errW_some] <;> rfl) | (simp [*, errW_none, errW_some] <;> rfl), by (with_reducible repeat (first | apply rA_ | apply rN_ | apply rD_)); exact HO_9.out, bw_⟩
        ·rw [if_neg c24] at H
         exact absurd H (by simp)
       ·rw [if_neg c23] at H
        exact absurd H (by simp)

end Go.Proofs.Ytdodogkgmpaioaa.PFnReach
