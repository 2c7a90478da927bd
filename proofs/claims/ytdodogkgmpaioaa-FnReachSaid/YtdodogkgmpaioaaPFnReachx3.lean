/- The functions that the law reaches, as plain Lean functions, each with the proof that the Go code comes to its answers; conditions: those that each theorem names. (printed by a program of this session) -/
import Derived.Test.YtdodogkgmpaioaaPFnReachx0
import Derived.Test.YtdodogkgmpaioaaPFnReachx2
namespace Go.Proofs.Ytdodogkgmpaioaa.PFnReach
open Go.RowKit Go.Proofs.YtdodogkgmpaioaaW.PrintWords Go.Proofs.YtdodogkgmpaioaaW.PrintLast Go.Proofs.YtdodogkgmpaioaaW.PrintMore
attribute [local go_sem] max2_int min2_int max_two min_two max_three min_three max_four min_four   -- for this text's walks alone
set_option linter.unusedVariables false
set_option linter.unusedSimpArgs false

/-! ### impl_ReachFrom: function 34 -/
mutual
def impl_ReachFrom.j0 : Nat → Int → Int → Int → List Int → Bool → Int → Int → Int → List (S103) → Option (List Int)
  | 0, _, _, _, _, _, _, _, _, _ => none
  | k + 1, x1, x2, x3, x9, x32, x106000, x106001, x106002, x106003 => if x32 = true then (some x9) else (impl_ReachFrom.l0 k x1 x2 x3 x9 x106000 0 x106000 x106001 x106002 x106003)
def impl_ReachFrom.l0 : Nat → Int → Int → Int → List Int → Int → Int → Int → Int → Int → List (S103) → Option (List Int)
  | 0, _, _, _, _, _, _, _, _, _, _ => none
  | k + 1, x1, x2, x3, x9, x35, x36, x106000, x106001, x106002, x106003 => if x36 < x35 then (if x9.length < 17592186044416 then (impl_ReachFrom.l0 k x1 x2 x3 (x9 ++ [(-1)]) x35 (wrap64 (x36 + 1)) x106000 x106001 x106002 x106003) else (none)) else (if 0 ≤ x1 then (if x1 < (x9.length : Int) then (impl_ReachFrom.l1 k x1 x3 (x9.set (x1 : Int).toNat x2) x2 x106000 x106001 x106002 x106003) else (none)) else (none))
def impl_ReachFrom.l1 : Nat → Int → Int → List Int → Int → Int → Int → Int → List (S103) → Option (List Int)
  | 0, _, _, _, _, _, _, _, _ => none
  | k + 1, x1, x3, x9, x10, x106000, x106001, x106002, x106003 => if x10 < x3 then (impl_ReachFrom.l2 k x1 x3 x9 x10 x106000 0 x106000 x106001 x106002 x106003) else (some x9)
def impl_ReachFrom.l2 : Nat → Int → Int → List Int → Int → Int → Int → Int → Int → Int → List (S103) → Option (List Int)
  | 0, _, _, _, _, _, _, _, _, _, _ => none
  | k + 1, x1, x3, x9, x10, x53, x54, x106000, x106001, x106002, x106003 => if x54 < x53 then (if 0 ≤ x54 then (if x54 < (x9.length : Int) then (if (rd x9 x54) < 0 then (impl_ReachFrom.j4 k x1 x3 x9 x10 x54 x53 x54 true x106000 x106001 x106002 x106003) else (if (rd x9 x54) > x10 then (impl_ReachFrom.j4 k x1 x3 x9 x10 x54 x53 x54 true x106000 x106001 x106002 x106003) else (if x54 ≥ x106001 then (impl_ReachFrom.j4 k x1 x3 x9 x10 x54 x53 x54 (x54 != x1) x106000 x106001 x106002 x106003) else (impl_ReachFrom.j4 k x1 x3 x9 x10 x54 x53 x54 false x106000 x106001 x106002 x106003)))) else (none)) else (none)) else (impl_ReachFrom.l1 k x1 x3 x9 (wrap64 (x10 + 1)) x106000 x106001 x106002 x106003)
def impl_ReachFrom.j4 : Nat → Int → Int → List Int → Int → Int → Int → Int → Bool → Int → Int → Int → List (S103) → Option (List Int)
  | 0, _, _, _, _, _, _, _, _, _, _, _, _ => none
  | k + 1, x1, x3, x9, x10, x11, x53, x54, x80, x106000, x106001, x106002, x106003 => if x80 = true then (impl_ReachFrom.l2 k x1 x3 x9 x10 x53 (wrap64 (x54 + 1)) x106000 x106001 x106002 x106003) else (impl_ReachFrom.l3 k x1 x3 x9 x10 x11 x53 x54 x106000 0 x106000 x106001 x106002 x106003)
def impl_ReachFrom.l3 : Nat → Int → Int → List Int → Int → Int → Int → Int → Int → Int → Int → Int → Int → List (S103) → Option (List Int)
  | 0, _, _, _, _, _, _, _, _, _, _, _, _, _ => none
  | k + 1, x1, x3, x9, x10, x11, x53, x54, x82, x83, x106000, x106001, x106002, x106003 => if x83 < x82 then (if 0 ≤ x83 then (if x83 < (x9.length : Int) then (if (rd x9 x83) < 0 then ((impl_IsLinked.f x106000 x106001 x106002 x106003 x11 x83 x10).bind fun t118 => (if t118 = true then (impl_ReachFrom.l3 k x1 x3 (x9.set (x83 : Int).toNat (wrap64 (x10 + 1))) x10 x11 x53 x54 x82 (wrap64 (x83 + 1)) x106000 x106001 x106002 x106003) else (impl_ReachFrom.l3 k x1 x3 x9 x10 x11 x53 x54 x82 (wrap64 (x83 + 1)) x106000 x106001 x106002 x106003))) else (impl_ReachFrom.l3 k x1 x3 x9 x10 x11 x53 x54 x82 (wrap64 (x83 + 1)) x106000 x106001 x106002 x106003)) else (none)) else (none)) else (impl_ReachFrom.l2 k x1 x3 x9 x10 x53 (wrap64 (x54 + 1)) x106000 x106001 x106002 x106003)
end
def impl_ReachFrom.f (k : Nat) (a0_0 : Int) (a0_1 : Int) (a0_2 : Int) (l0_3 : List (S103)) (a1 : Int) (a2 : Int) (a3 : Int) : Option (List Int) := (some (([] : List Int) : List Int)).bind fun y106 => ((impl_isNumber.f a0_0).bind fun t109 => (if t109 = true then ((impl_isIndex.f a1 a0_0).bind fun t110 => (if t110 = true then (if a2 < 0 then (impl_ReachFrom.j0 k a1 a2 a3 y106 true a0_0 a0_1 a0_2 l0_3) else (impl_ReachFrom.j0 k a1 a2 a3 y106 (decide (a3 > 1000)) a0_0 a0_1 a0_2 l0_3)) else (impl_ReachFrom.j0 k a1 a2 a3 y106 true a0_0 a0_1 a0_2 l0_3))) else (impl_ReachFrom.j0 k a1 a2 a3 y106 true a0_0 a0_1 a0_2 l0_3)))
set_option maxHeartbeats 8000000 in
set_option maxRecDepth 100000 in
theorem impl_ReachFrom.calls (k : Nat) (a0_0 : Int) (a0_1 : Int) (a0_2 : Int) (A0_3 : Option Addr) (c0_3 : Nat) (l0_3 : List (S103)) (a1 : Int) (a2 : Int) (a3 : Int) (r : List Int) (w : World) (hr0_3 : Kd.C k103 w A0_3 l0_3.length l0_3) (hc0_3 : l0_3.length ≤ c0_3) (h : impl_ReachFrom.f k a0_0 a0_1 a0_2 l0_3 a1 a2 a3 = some r) :
  Calls Try.prog 34 #[.agg #[.int .i64 a0_0, .int .i64 a0_1, .int .i64 a0_2, .slice A0_3 l0_3.length c0_3], .int .i64 a1, .int .i64 a2, .int .i64 a3] w fun e w' => ∃ v0_ : Value, e = .returned (v0_) ∧ Kd.R (Kd.int .i64) 3 w' w.heap.size (fun _ => True) v0_ r ∧ Below w.heap.size w w' := by
 have hu31 := Try.underlying31; have HR0_3 := aM_ hr0_3; have HC0_3 := aM_ hc0_3; clear hr0_3 hc0_3; have HB := aM_ (Below.refl w.heap.size w)
 have H : ((some (([] : List Int) : List Int)).bind fun y106 => ((impl_isNumber.f a0_0).bind fun t109 => (if t109 = true then ((impl_isIndex.f a1 a0_0).bind fun t110 => (if t110 = true then (if a2 < 0 then (impl_ReachFrom.j0 k a1 a2 a3 y106 true a0_0 a0_1 a0_2 l0_3) else (impl_ReachFrom.j0 k a1 a2 a3 y106 (decide (a3 > 1000)) a0_0 a0_1 a0_2 l0_3)) else (impl_ReachFrom.j0 k a1 a2 a3 y106 true a0_0 a0_1 a0_2 l0_3))) else (impl_ReachFrom.j0 k a1 a2 a3 y106 true a0_0 a0_1 a0_2 l0_3)))) = some r := h
 clear h
 obtain ⟨y106, hy106⟩ : ∃ y_ : List Int, y_ = (([] : List Int)) := ⟨_, rfl⟩
 replace H : ((impl_isNumber.f a0_0).bind fun t109 => (if t109 = true then ((impl_isIndex.f a1 a0_0).bind fun t110 => (if t110 = true then (if a2 < 0 then (impl_ReachFrom.j0 k a1 a2 a3 y106 true a0_0 a0_1 a0_2 l0_3) else (impl_ReachFrom.j0 k a1 a2 a3 y106 (decide (a3 > 1000)) a0_0 a0_1 a0_2 l0_3)) else (impl_ReachFrom.j0 k a1 a2 a3 y106 true a0_0 a0_1 a0_2 l0_3))) else (impl_ReachFrom.j0 k a1 a2 a3 y106 true a0_0 a0_1 a0_2 l0_3))) = some r := by first | (rw [hy106]; with_reducible exact H) | (have H2_ := (Option.bind_some _ _).symm.trans H; rw [hy106]; with_reducible exact H2_) | (have H2_ := (Option.bind_some _ _).symm.trans H; with_reducible exact H2_) | with_reducible exact H | (rw [hy106]; exact H) | exact H
 have Ny106 := aM_ hy106; clear hy106; have HC5 := aM_ H; clear H
 go_enter Try.func34, Try.ntmps34
 go_upto_region 2 with (first | ((with_reducible refine gate_dst (N := 4) rfl ?_); refine box_event ?hg (N := 4) ?hd (cs := #[.int .i64 a0_0, .int .i64 a0_1, .int .i64 a0_2, .slice A0_3 l0_3.length c0_3]) (t := 31) ?hr ?_; (case hd => rfl); (case hg => rfl); (case hr => first | (go_simp; done) | (go_simp; rfl)); intro gb105 hg w6 hbox hb; have n0_ := aM_ (wS_ (bw_) hb); have n1_ := aM_ (hbox); have n2_ := aM_ ((by rw [hg]; exact (sZ_ (bw_)) : w.heap.size ≤ gb105)); have n3_ := aM_ ((by rw [hg]; exact (sZ_ (bw_)) : w.heap.size ≤ gb105)); clear HB; have HB := n0_; have BK105 := n1_; have GW105 := n2_; have GE105 := n3_; clear n0_ n1_ n2_ n3_ hb hbox hg) | ((with_reducible refine gate_dst (N := 13) rfl ?_); refine Kd.R_lit (Kd.int .i64) _ 3 ?hg (N := 13) ?hd (xs := ([] : List Int)) (inner := []) (ok := fun _ => True) (okp := fun _ => True) ?hr ?hp (fun _ hk => hk) trivial (Below.refl _ _) (Nat.le_refl _) (by simp) ?_; (case hd => rfl); (case hg => rfl); (case hr => first | (go_simp; done) | (go_simp; rfl)); (case hp => exact (Reps.none _ _)); intro v107 w7 ho8 hb hg_ hnew_; clear hg_ hnew_; (first | rw [← Ny106.out] at ho8 | (simp only [Int.reduceToNat] at ho8; rw [← Ny106.out] at ho8)); have n0_ := aM_ (Kd.R_lower ho8 (sZ_ (bw_))); have n1_ := aM_ (bB_ (kb_ BK105.out) hb); have n2_ := aM_ (wS_ (bw_) hb); clear BK105 HB; have HO108 := n0_; have BK105 := n1_; have HB := n2_; clear n0_ n1_ n2_ hb ho8))
 (try simp only [Act.put, List.setIfInBounds_toArray, List.set_cons_zero, List.set_cons_succ])
 go_cut [32] (fun v32 wc => ∃ (kq : Nat) (x32_4 : Bool), v32 = .bool x32_4 ∧ Aside0 (impl_ReachFrom.j0 kq a1 a2 a3 y106 x32_4 a0_0 a0_1 a0_2 l0_3 = some r) ∧ Aside0 (kq ≤ k) ∧ Aside0 (Kd.R (Kd.int .i64) 3 wc w.heap.size (fun _ => True) v107 y106) ∧ Aside0 (wc.heap[gb105]? = some (.cells #[.int .i64 a0_0, .int .i64 a0_1, .int .i64 a0_2, (.slice A0_3 l0_3.length c0_3)] 31 (0, 0))) ∧ Aside0 (Below w.heap.size w wc))
 case first =>
  have H := HC5.out; clear HC5
  replace H := Option.bind_eq_some_iff.mp H
  obtain ⟨t109, A90, H⟩ := H
  (try dsimp only at H)
  have A9 := aM_ A90; clear A90
  by_cases c10 : t109 = true
  ·subst c10
   have H1 : ((impl_isIndex.f a1 a0_0).bind fun t110 => (if t110 = true then (if a2 < 0 then (impl_ReachFrom.j0 k a1 a2 a3 y106 true a0_0 a0_1 a0_2 l0_3) else (impl_ReachFrom.j0 k a1 a2 a3 y106 (decide (a3 > 1000)) a0_0 a0_1 a0_2 l0_3)) else (impl_ReachFrom.j0 k a1 a2 a3 y106 true a0_0 a0_1 a0_2 l0_3))) = some r := by rw [if_pos rfl] at H; exact H
   clear H; have H := H1; clear H1
   replace H := Option.bind_eq_some_iff.mp H
   obtain ⟨t110, A110, H⟩ := H
   (try dsimp only at H)
   have A11 := aM_ A110; clear A110
   by_cases c12 : t110 = true
   ·subst c12
    have H1 : (if a2 < 0 then (impl_ReachFrom.j0 k a1 a2 a3 y106 true a0_0 a0_1 a0_2 l0_3) else (impl_ReachFrom.j0 k a1 a2 a3 y106 (decide (a3 > 1000)) a0_0 a0_1 a0_2 l0_3)) = some r := by rw [if_pos rfl] at H; exact H
    clear H; have H := H1; clear H1
    by_cases c13 : a2 < 0
    ·rw [if_pos c13] at H
     have c13b0 : decide (a2 < 0) = true := decide_eq_true c13
     clear c13
     (first | rw [c13b0] | (simp only [i64_w, i32_w]; rw [c13b0]) | skip)
     have H' := aM_ H
     clear H
     have hcz14_0 : w7.cell? ⟨gb105, 0, none⟩ = some (.int .i64 a0_0) := (blk_cell BK105.out 0).trans rfl
     have hcz14_1 : w7.cell? ⟨gb105, 1, none⟩ = some (.int .i64 a0_1) := (blk_cell BK105.out 1).trans rfl
     have hcz14_2 : w7.cell? ⟨gb105, 2, none⟩ = some (.int .i64 a0_2) := (blk_cell BK105.out 2).trans rfl
     have hcz14_3 : w7.cell? ⟨gb105, 3, none⟩ = some (.slice A0_3 l0_3.length c0_3) := (blk_cell BK105.out 3).trans rfl
     have hfz14_0 := blk_frozen BK105.out 0; have hfz14_1 := blk_frozen BK105.out 1; have hfz14_2 := blk_frozen BK105.out 2; have hfz14_3 := blk_frozen BK105.out 3
     go_wp2_with (first | ((with_reducible refine gate_callee (f := 47) rfl ?_); refine goesL_ (some 16) rfl rfl Try.func47 (by kernel_rfl) rfl #[.int .i64 a0_0] rfl (by (try simp only [List.map_toArray, List.map_cons, List.map_nil]); first | done | rfl | (simp only [List.length_drop, List.length_take]; rfl)) ?_; (with_reducible refine (impl_isNumber.calls a0_0 true _ A9.out).mono ?_); rintro e w' ⟨rfl, ⟨nd, rfl⟩⟩; refine ⟨_, rfl, ?_⟩) | (go_at_call 62; (with_reducible refine (impl_isIndex.calls a1 a0_0 true _ A11.out).mono ?_); rintro e w' ⟨rfl, ⟨nd, rfl⟩⟩))
     go_meet
     case rel => exact ⟨_, (true), (by first | rfl | (simp; done) | (simp [*]; done)), H', ⟨by first | omega | exact Nat.le_refl _⟩, ⟨by (with_reducible repeat (first | apply rA_ | apply rN_ | apply rD_)); exact HO108.out⟩, ⟨by (with_reducible repeat (first | refine bN_ ?_ _ | refine bD_ ?_ | refine bA_ ?_ _)); exact BK105.out⟩, ⟨bw_⟩⟩
    ·rw [if_neg c13] at H
     have c13b0 : decide (a2 < 0) = false := decide_eq_false c13
     clear c13
     (first | rw [c13b0] | (simp only [i64_w, i32_w]; rw [c13b0]) | skip)
     have H' := aM_ H
     clear H
     have hcz15_0 : w7.cell? ⟨gb105, 0, none⟩ = some (.int .i64 a0_0) := (blk_cell BK105.out 0).trans rfl
     have hcz15_1 : w7.cell? ⟨gb105, 1, none⟩ = some (.int .i64 a0_1) := (blk_cell BK105.out 1).trans rfl
     have hcz15_2 : w7.cell? ⟨gb105, 2, none⟩ = some (.int .i64 a0_2) := (blk_cell BK105.out 2).trans rfl
     have hcz15_3 : w7.cell? ⟨gb105, 3, none⟩ = some (.slice A0_3 l0_3.length c0_3) := (blk_cell BK105.out 3).trans rfl
     have hfz15_0 := blk_frozen BK105.out 0; have hfz15_1 := blk_frozen BK105.out 1; have hfz15_2 := blk_frozen BK105.out 2; have hfz15_3 := blk_frozen BK105.out 3
     go_wp2_with (first | ((with_reducible refine gate_callee (f := 47) rfl ?_); refine goesL_ (some 16) rfl rfl Try.func47 (by kernel_rfl) rfl #[.int .i64 a0_0] rfl (by (try simp only [List.map_toArray, List.map_cons, List.map_nil]); first | done | rfl | (simp only [List.length_drop, List.length_take]; rfl)) ?_; (with_reducible refine (impl_isNumber.calls a0_0 true _ A9.out).mono ?_); rintro e w' ⟨rfl, ⟨nd, rfl⟩⟩; refine ⟨_, rfl, ?_⟩) | (go_at_call 62; (with_reducible refine (impl_isIndex.calls a1 a0_0 true _ A11.out).mono ?_); rintro e w' ⟨rfl, ⟨nd, rfl⟩⟩))
     go_meet
     case rel => exact ⟨_, (decide (a3 > 1000)), (by first | rfl | (simp; done) | (simp [*]; done)), H', ⟨by first | omega | exact Nat.le_refl _⟩, ⟨by (with_reducible repeat (first | apply rA_ | apply rN_ | apply rD_)); exact HO108.out⟩, ⟨by (with_reducible repeat (first | refine bN_ ?_ _ | refine bD_ ?_ | refine bA_ ?_ _)); exact BK105.out⟩, ⟨bw_⟩⟩
   ·replace c12 := Bool.eq_false_iff.mpr c12
    subst c12
    have H1 : (impl_ReachFrom.j0 k a1 a2 a3 y106 true a0_0 a0_1 a0_2 l0_3) = some r := by rw [if_neg (show ¬ (false = true) by decide)] at H; exact H
    clear H; have H := H1; clear H1
    have H' := aM_ H
    clear H
    have hcz16_0 : w7.cell? ⟨gb105, 0, none⟩ = some (.int .i64 a0_0) := (blk_cell BK105.out 0).trans rfl
    have hcz16_1 : w7.cell? ⟨gb105, 1, none⟩ = some (.int .i64 a0_1) := (blk_cell BK105.out 1).trans rfl
    have hcz16_2 : w7.cell? ⟨gb105, 2, none⟩ = some (.int .i64 a0_2) := (blk_cell BK105.out 2).trans rfl
    have hcz16_3 : w7.cell? ⟨gb105, 3, none⟩ = some (.slice A0_3 l0_3.length c0_3) := (blk_cell BK105.out 3).trans rfl
    have hfz16_0 := blk_frozen BK105.out 0; have hfz16_1 := blk_frozen BK105.out 1; have hfz16_2 := blk_frozen BK105.out 2; have hfz16_3 := blk_frozen BK105.out 3
    go_wp2_with (first | ((with_reducible refine gate_callee (f := 47) rfl ?_); refine goesL_ (some 16) rfl rfl Try.func47 (by kernel_rfl) rfl #[.int .i64 a0_0] rfl (by (try simp only [List.map_toArray, List.map_cons, List.map_nil]); first | done | rfl | (simp only [List.length_drop, List.length_take]; rfl)) ?_; (with_reducible refine (impl_isNumber.calls a0_0 true _ A9.out).mono ?_); rintro e w' ⟨rfl, ⟨nd, rfl⟩⟩; refine ⟨_, rfl, ?_⟩) | (go_at_call 62; (with_reducible refine (impl_isIndex.calls a1 a0_0 false _ A11.out).mono ?_); rintro e w' ⟨rfl, ⟨nd, rfl⟩⟩))
    go_meet
    case rel => exact ⟨_, (true), (by first | rfl | (simp; done) | (simp [*]; done)), H', ⟨by first | omega | exact Nat.le_refl _⟩, ⟨by (with_reducible repeat (first | apply rA_ | apply rN_ | apply rD_)); exact HO108.out⟩, ⟨by (with_reducible repeat (first | refine bN_ ?_ _ | refine bD_ ?_ | refine bA_ ?_ _)); exact BK105.out⟩, ⟨bw_⟩⟩
  ·replace c10 := Bool.eq_false_iff.mpr c10
   subst c10
   have H1 : (impl_ReachFrom.j0 k a1 a2 a3 y106 true a0_0 a0_1 a0_2 l0_3) = some r := by rw [if_neg (show ¬ (false = true) by decide)] at H; exact H
   clear H; have H := H1; clear H1
   have H' := aM_ H
   clear H
   have hcz17_0 : w7.cell? ⟨gb105, 0, none⟩ = some (.int .i64 a0_0) := (blk_cell BK105.out 0).trans rfl
   have hcz17_1 : w7.cell? ⟨gb105, 1, none⟩ = some (.int .i64 a0_1) := (blk_cell BK105.out 1).trans rfl
   have hcz17_2 : w7.cell? ⟨gb105, 2, none⟩ = some (.int .i64 a0_2) := (blk_cell BK105.out 2).trans rfl
   have hcz17_3 : w7.cell? ⟨gb105, 3, none⟩ = some (.slice A0_3 l0_3.length c0_3) := (blk_cell BK105.out 3).trans rfl
   have hfz17_0 := blk_frozen BK105.out 0; have hfz17_1 := blk_frozen BK105.out 1; have hfz17_2 := blk_frozen BK105.out 2; have hfz17_3 := blk_frozen BK105.out 3
   go_wp2_with (first | ((with_reducible refine gate_callee (f := 47) rfl ?_); refine goesL_ (some 16) rfl rfl Try.func47 (by kernel_rfl) rfl #[.int .i64 a0_0] rfl (by (try simp only [List.map_toArray, List.map_cons, List.map_nil]); first | done | rfl | (simp only [List.length_drop, List.length_take]; rfl)) ?_; (with_reducible refine (impl_isNumber.calls a0_0 false _ A9.out).mono ?_); rintro e w' ⟨rfl, ⟨nd, rfl⟩⟩; refine ⟨_, rfl, ?_⟩))
   go_meet
   case rel => exact ⟨_, (true), (by first | rfl | (simp; done) | (simp [*]; done)), H', ⟨by first | omega | exact Nat.le_refl _⟩, ⟨by (with_reducible repeat (first | apply rA_ | apply rN_ | apply rD_)); exact HO108.out⟩, ⟨by (with_reducible repeat (first | refine bN_ ?_ _ | refine bD_ ?_ | refine bA_ ?_ _)); exact BK105.out⟩, ⟨bw_⟩⟩
 case rest =>
  clear HC5
  try clear c13b0
  try clear hcz14_0
  try clear hcz14_1
  try clear hcz14_2
  try clear hcz14_3
  try clear hcz15_0
  try clear hcz15_1
  try clear hcz15_2
  try clear hcz15_3
  try clear hcz16_0
  try clear hcz16_1
  try clear hcz16_2
  try clear hcz16_3
  try clear hcz17_0
  try clear hcz17_1
  try clear hcz17_2
  try clear hcz17_3
  try clear hfz14_0
  try clear hfz14_1
  try clear hfz14_2
  try clear hfz14_3
  try clear hfz15_0
  try clear hfz15_1
  try clear hfz15_2
  try clear hfz15_3
  try clear hfz16_0
  try clear hfz16_1
  try clear hfz16_2
  try clear hfz16_3
  try clear hfz17_0
  try clear hfz17_1
  try clear hfz17_2
  try clear hfz17_3
  obtain ⟨kq, x32_4, rfl, HA, HJ4, HO_9, BK105, HB⟩ := hcut
  cases kq with
  | zero => exact absurd HA.out (by simp [impl_ReachFrom.j0])
  | succ kj4 =>
   have H := HA.out; clear HA
   simp only [impl_ReachFrom.j0] at H
   by_cases c18 : x32_4 = true
   ·subst c18
    have H1 : (some y106) = some r := by rw [if_pos rfl] at H; exact H
    clear H; have H := H1; clear H1
    obtain rfl := Option.some.inj H
    go_wp2
    go_ret
    exact ⟨_, by first | rfl | (simp [errW_none, errW_some] <;> rfl) | (simp [*, errW_none, errW_some] <;> rfl), by (with_reducible repeat (first | apply rA_ | apply rN_ | apply rD_)); exact HO_9.out, bw_⟩
   ·replace c18 := Bool.eq_false_iff.mpr c18
    subst c18
    have H1 : (impl_ReachFrom.l0 kj4 a1 a2 a3 y106 a0_0 0 a0_0 a0_1 a0_2 l0_3) = some r := by rw [if_neg (show ¬ (false = true) by decide)] at H; exact H
    clear H; have H := H1; clear H1
    have H' := aM_ H
    clear H
    have hcz19_0 : wc.cell? ⟨gb105, 0, none⟩ = some (.int .i64 a0_0) := (blk_cell BK105.out 0).trans rfl
    have hcz19_1 : wc.cell? ⟨gb105, 1, none⟩ = some (.int .i64 a0_1) := (blk_cell BK105.out 1).trans rfl
    have hcz19_2 : wc.cell? ⟨gb105, 2, none⟩ = some (.int .i64 a0_2) := (blk_cell BK105.out 2).trans rfl
    have hcz19_3 : wc.cell? ⟨gb105, 3, none⟩ = some (.slice A0_3 l0_3.length c0_3) := (blk_cell BK105.out 3).trans rfl
    have hfz19_0 := blk_frozen BK105.out 0; have hfz19_1 := blk_frozen BK105.out 1; have hfz19_2 := blk_frozen BK105.out 2; have hfz19_3 := blk_frozen BK105.out 3
    go_wp2
    go_loopg [9, 36] kj4 (fun kq v9 v36 w' => ∃ (x9_2 : List Int) (x36_2 : Int), v36 = .int .i64 x36_2 ∧ Aside0 (impl_ReachFrom.l0 kq a1 a2 a3 x9_2 a0_0 x36_2 a0_0 a0_1 a0_2 l0_3 = some r) ∧ Aside0 (kq ≤ kj4) ∧ Aside0 (Kd.R (Kd.int .i64) 3 w' w.heap.size (fun _ => True) v9 x9_2) ∧ Aside0 (w'.heap[gb105]? = some (.cells #[.int .i64 a0_0, .int .i64 a0_1, .int .i64 a0_2, (.slice A0_3 l0_3.length c0_3)] 31 (0, 0))) ∧ Aside0 (Below w.heap.size w w'))
    case atStart => exact ⟨(y106), (0), (by first | rfl | (simp; done) | (simp [*]; done)), H', ⟨Nat.le_refl _⟩, ⟨by (with_reducible repeat (first | apply rA_ | apply rN_ | apply rD_)); exact HO_9.out⟩, ⟨by (with_reducible repeat (first | refine bN_ ?_ _ | refine bD_ ?_ | refine bA_ ?_ _)); exact BK105.out⟩, ⟨bw_⟩⟩
    case round =>
     clear H'
     try clear c13b0
     try clear hcz14_0
     try clear hcz14_1
     try clear hcz14_2
     try clear hcz14_3
     try clear hcz15_0
     try clear hcz15_1
     try clear hcz15_2
     try clear hcz15_3
     try clear hcz16_0
     try clear hcz16_1
     try clear hcz16_2
     try clear hcz16_3
     try clear hcz17_0
     try clear hcz17_1
     try clear hcz17_2
     try clear hcz17_3
     try clear hcz19_0
     try clear hcz19_1
     try clear hcz19_2
     try clear hcz19_3
     try clear hfz14_0
     try clear hfz14_1
     try clear hfz14_2
     try clear hfz14_3
     try clear hfz15_0
     try clear hfz15_1
     try clear hfz15_2
     try clear hfz15_3
     try clear hfz16_0
     try clear hfz16_1
     try clear hfz16_2
     try clear hfz16_3
     try clear hfz17_0
     try clear hfz17_1
     try clear hfz17_2
     try clear hfz17_3
     try clear hfz19_0
     try clear hfz19_1
     try clear hfz19_2
     try clear hfz19_3
     obtain ⟨x9_2, x36_2, rfl, HA, HK2, HO_9, BK105, HB⟩ := hrel
     cases gk with
     | zero => exact absurd HA.out (by simp [impl_ReachFrom.l0])
     | succ k2 =>
      have H := HA.out; clear HA
      simp only [impl_ReachFrom.l0] at H
      by_cases c20 : x36_2 < a0_0
      ·rw [if_pos c20] at H
       have c20b0 : decide (x36_2 < a0_0) = true := decide_eq_true c20
       clear c20
       by_cases c21 : x9_2.length < 17592186044416
       ·rw [if_pos c21] at H
        have LMc21 := aM_ c21; clear c21
        obtain ⟨y111, hy111⟩ : ∃ y_ : List Int, y_ = (x9_2 ++ [(-1)]) := ⟨_, rfl⟩
        replace H : (impl_ReachFrom.l0 k2 a1 a2 a3 y111 a0_0 (wrap64 (x36_2 + 1)) a0_0 a0_1 a0_2 l0_3) = some r := by first | (rw [hy111]; with_reducible exact H) | (have H2_ := (Option.bind_some _ _).symm.trans H; rw [hy111]; with_reducible exact H2_) | (have H2_ := (Option.bind_some _ _).symm.trans H; with_reducible exact H2_) | with_reducible exact H | (rw [hy111]; exact H) | exact H
        have Ny111 := aM_ hy111; clear hy111
        have H' := aM_ H
        clear H
        go_wp2_with (first | ((with_reducible refine gate_builtin (b := .append) (xs := #[.tmp 38, .tmp 39]) rfl ?_); at_builtin; refine Kd.R_append (Kd.int .i64) (w0 := w) w.heap.size rfl (.tmp 38) (.tmp 39) 51 3 (.int .i64 0) 8 rfl Try.underlying51 info3 rfl (by decide) (by omega) u9 x9_2 (-1) [.int .i64 (-1)] (fun _ => True) (fun _ => False) rfl rfl ?aP (fun _ hk => hk.elim) ?aF ?aO ?aB ?aS ?aL ?_; (case aP => exact rfl); (case aB => exact (bw_)); (case aF => exact (fun _ _ => trivial)); (case aO => exact (rb_ HO_9.out)); (case aS => exact (sZ_ (bw_))); (case aL => have := LMc21.out; omega); intro v112 w22 ho hb hg hat; rw [← Ny111.out] at ho; have n0_ := aM_ (blk_grown (kb_ BK105.out) hg (Kd.R_ne HO_9.out BK105.out (by decide))); have n1_ := aM_ (hb); have n2_ := aM_ (ho); clear BK105 HB HO_9; have BK105 := n0_; have HB := n1_; have HO113 := n2_; clear n0_ n1_ n2_ ho hb hg hat))
        go_roundg k2
        case measure => have := HJ4.out; have := HK2.out; omega
        case rel => exact ⟨(y111), (wrap64 (x36_2 + 1)), (by first | rfl | (simp; done) | (simp [*]; done)), H', ⟨by have := HJ4.out; have := HK2.out; omega⟩, ⟨by (with_reducible repeat (first | apply rA_ | apply rN_ | apply rD_)); exact HO113.out⟩, ⟨by (with_reducible repeat (first | refine bN_ ?_ _ | refine bD_ ?_ | refine bA_ ?_ _)); exact BK105.out⟩, ⟨bw_⟩⟩
       ·rw [if_neg c21] at H
        exact absurd H (by simp)
      ·rw [if_neg c20] at H
       have c20b0 : decide (x36_2 < a0_0) = false := decide_eq_false c20
       clear c20
       by_cases c23 : 0 ≤ a1
       ·rw [if_pos c23] at H
        have c23b0 : decide (0 ≤ a1) = true := decide_eq_true c23
        clear c23
        by_cases c24 : a1 < (x9_2.length : Int)
        ·rw [if_pos c24] at H
         have c24b0 : decide (a1 < (x9_2.length : Int)) = true := decide_eq_true c24
         clear c24
         obtain ⟨y114, hy114⟩ : ∃ y_ : List Int, y_ = (x9_2.set (a1 : Int).toNat a2) := ⟨_, rfl⟩
         replace H : (impl_ReachFrom.l1 k2 a1 a3 y114 a2 a0_0 a0_1 a0_2 l0_3) = some r := by first | (rw [hy114]; with_reducible exact H) | (have H2_ := (Option.bind_some _ _).symm.trans H; rw [hy114]; with_reducible exact H2_) | (have H2_ := (Option.bind_some _ _).symm.trans H; with_reducible exact H2_) | with_reducible exact H | (rw [hy114]; exact H) | exact H
         have Ny114 := aM_ hy114; clear hy114
         have H' := aM_ H
         clear H
         have p25 : 0 ≤ (a1 : Int) := dT_
         have q25 : (a1 : Int) < ((x9_2.length : Int) : Int) := dT_
         obtain ⟨go25, co25, eo25, gb25, gl25, cl25, HG25⟩ := Kd.R_form HO_9.out (by omega)
         (first | cases eo25 | (injection eo25 with ea_ en_ ec_; (first | subst ea_ | (injection ea_ with ea_; subst ea_)); subst ec_; clear en_))
         have GB25 := aM_ gb25; have GG25 := aM_ HG25; clear gb25 gl25 HG25
         obtain ⟨hx25_0, hf25_0⟩ := Kd.R_celln 0 HO_9.out (a1 : Int) p25 q25
         replace p25 := eq_true p25; replace q25 := eq_true q25; have HP26 := Kd.R_putg HO_9.out (a1 : Int) a2
         go_wp2_with (first | ((with_reducible refine gate_store (t := 3) (p := 45) rfl ?_); refine store_event (t := 3) (p := 45) (v := ?vo_w27) (w1 := (wr.setCell ⟨go25, (a1 : Int).toNat, none⟩ (.int .i64 a2))) ?hg ?ho ?hn ?hr ?_; (case ho => rfl); (case hg => rfl); (case hn => rfl); (case hr => first | (go_simp; done) | (go_simp; rfl)); intro w27 hw; have hg : wr.grownBy w27 (some go25) := (by rw [hw]; exact HP26.2); have hp_ : Kd.R (Kd.int .i64) 3 w27 w.heap.size (fun _ => True) (.slice (some ⟨go25, 0, none⟩) x9_2.length co25) y114 := (by rw [hw, Ny114.out]; exact HP26.1); clear HP26; have n0_ := aM_ (hp_); have n1_ := aM_ (blk_grown (kb_ BK105.out) hg (Kd.R_ne HO_9.out BK105.out (by decide))); have n2_ := aM_ ((by rw [hw]; exact wE_ (HB.out) GB25.out : Below w.heap.size w w27)); clear HO_9 BK105 HB; have HO_9 := n0_; have BK105 := n1_; have HB := n2_; clear n0_ n1_ n2_ hg hw hp_))
         go_loopg [10] k2 (fun kq v10 w' => ∃ (x9_3 : List Int) (x10_3 : Int), v10 = .int .i64 x10_3 ∧ Aside0 (impl_ReachFrom.l1 kq a1 a3 x9_3 x10_3 a0_0 a0_1 a0_2 l0_3 = some r) ∧ Aside0 (kq ≤ k2) ∧ Aside0 (Kd.R (Kd.int .i64) 3 w' w.heap.size (fun _ => True) (.slice (some ⟨go25, 0, none⟩) x9_2.length co25) x9_3) ∧ Aside0 (w'.heap[gb105]? = some (.cells #[.int .i64 a0_0, .int .i64 a0_1, .int .i64 a0_2, (.slice A0_3 l0_3.length c0_3)] 31 (0, 0))) ∧ Aside0 (Below w.heap.size w w'))
         case atStart => exact ⟨(y114), (a2), (by first | rfl | (simp; done) | (simp [*]; done)), H', ⟨Nat.le_refl _⟩, ⟨by (with_reducible repeat (first | apply rA_ | apply rN_ | apply rD_)); exact HO_9.out⟩, ⟨by (with_reducible repeat (first | refine bN_ ?_ _ | refine bD_ ?_ | refine bA_ ?_ _)); exact BK105.out⟩, ⟨bw_⟩⟩
         case round =>
          clear H'
          try clear hx2
          try clear c13b0
          try clear c20b0
          try clear c23b0
          try clear c24b0
          try clear hx25
          try clear hf25
          try clear hcz14_0
          try clear hcz14_1
          try clear hcz14_2
          try clear hcz14_3
          try clear hcz15_0
          try clear hcz15_1
          try clear hcz15_2
          try clear hcz15_3
          try clear hcz16_0
          try clear hcz16_1
          try clear hcz16_2
          try clear hcz16_3
          try clear hcz17_0
          try clear hcz17_1
          try clear hcz17_2
          try clear hcz17_3
          try clear hcz19_0
          try clear hcz19_1
          try clear hcz19_2
          try clear hcz19_3
          try clear hfz14_0
          try clear hfz14_1
          try clear hfz14_2
          try clear hfz14_3
          try clear hfz15_0
          try clear hfz15_1
          try clear hfz15_2
          try clear hfz15_3
          try clear hfz16_0
          try clear hfz16_1
          try clear hfz16_2
          try clear hfz16_3
          try clear hfz17_0
          try clear hfz17_1
          try clear hfz17_2
          try clear hfz17_3
          try clear hfz19_0
          try clear hfz19_1
          try clear hfz19_2
          try clear hfz19_3
          try clear hx25_0
          obtain ⟨x9_3, x10_3, rfl, HA, HK3, HO_9, BK105, HB⟩ := hrel
          have hl9_3 := (Kd.R_reads' HO_9.out).1
          rw [hl9_3] at HO_9
          (try simp only [hl9_3])
          (try simp only [hl9_3] at BK105)
          cases gk with
          | zero => exact absurd HA.out (by simp [impl_ReachFrom.l1])
          | succ k3 =>
           have H := HA.out; clear HA
           simp only [impl_ReachFrom.l1] at H
           by_cases c28 : x10_3 < a3
           ·rw [if_pos c28] at H
            have c28b0 : decide (x10_3 < a3) = true := decide_eq_true c28
            clear c28
            have H' := aM_ H
            clear H
            have hcz29_0 : wr.cell? ⟨gb105, 0, none⟩ = some (.int .i64 a0_0) := (blk_cell BK105.out 0).trans rfl
            have hcz29_1 : wr.cell? ⟨gb105, 1, none⟩ = some (.int .i64 a0_1) := (blk_cell BK105.out 1).trans rfl
            have hcz29_2 : wr.cell? ⟨gb105, 2, none⟩ = some (.int .i64 a0_2) := (blk_cell BK105.out 2).trans rfl
            have hcz29_3 : wr.cell? ⟨gb105, 3, none⟩ = some (.slice A0_3 l0_3.length c0_3) := (blk_cell BK105.out 3).trans rfl
            have hfz29_0 := blk_frozen BK105.out 0; have hfz29_1 := blk_frozen BK105.out 1; have hfz29_2 := blk_frozen BK105.out 2; have hfz29_3 := blk_frozen BK105.out 3
            go_wp2
            go_loopg [54] k3 (fun kq v54 w' => ∃ (x9_4 : List Int) (x54_4 : Int), v54 = .int .i64 x54_4 ∧ Aside0 (impl_ReachFrom.l2 kq a1 a3 x9_4 x10_3 a0_0 x54_4 a0_0 a0_1 a0_2 l0_3 = some r) ∧ Aside0 (kq ≤ k3) ∧ Aside0 (Kd.R (Kd.int .i64) 3 w' w.heap.size (fun _ => True) (.slice (some ⟨go25, 0, none⟩) x9_3.length co25) x9_4) ∧ Aside0 (w'.heap[gb105]? = some (.cells #[.int .i64 a0_0, .int .i64 a0_1, .int .i64 a0_2, (.slice A0_3 l0_3.length c0_3)] 31 (0, 0))) ∧ Aside0 (Below w.heap.size w w'))
            case atStart => exact ⟨(x9_3), (0), (by first | rfl | (simp; done) | (simp [*]; done)), H', ⟨Nat.le_refl _⟩, ⟨by (try simp only [hl9_3]); (with_reducible repeat (first | apply rA_ | apply rN_ | apply rD_)); exact HO_9.out⟩, ⟨by (try simp only [hl9_3]); (with_reducible repeat (first | refine bN_ ?_ _ | refine bD_ ?_ | refine bA_ ?_ _)); exact BK105.out⟩, ⟨bw_⟩⟩
            case round =>
             clear H'
             try clear hx2
             try clear c13b0
             try clear c20b0
             try clear c23b0
             try clear c24b0
             try clear hx25
             try clear hf25
             try clear c28b0
             try clear hcz14_0
             try clear hcz14_1
             try clear hcz14_2
             try clear hcz14_3
             try clear hcz15_0
             try clear hcz15_1
             try clear hcz15_2
             try clear hcz15_3
             try clear hcz16_0
             try clear hcz16_1
             try clear hcz16_2
             try clear hcz16_3
             try clear hcz17_0
             try clear hcz17_1
             try clear hcz17_2
             try clear hcz17_3
             try clear hcz19_0
             try clear hcz19_1
             try clear hcz19_2
             try clear hcz19_3
             try clear hcz29_0
             try clear hcz29_1
             try clear hcz29_2
             try clear hcz29_3
             try clear hfz14_0
             try clear hfz14_1
             try clear hfz14_2
             try clear hfz14_3
             try clear hfz15_0
             try clear hfz15_1
             try clear hfz15_2
             try clear hfz15_3
             try clear hfz16_0
             try clear hfz16_1
             try clear hfz16_2
             try clear hfz16_3
             try clear hfz17_0
             try clear hfz17_1
             try clear hfz17_2
             try clear hfz17_3
             try clear hfz19_0
             try clear hfz19_1
             try clear hfz19_2
             try clear hfz19_3
             try clear hfz29_0
             try clear hfz29_1
             try clear hfz29_2
             try clear hfz29_3
             try clear hx25_0
             obtain ⟨x9_4, x54_4, rfl, HA, HK4, HO_9, BK105, HB⟩ := hrel
             have hl9_4 := (Kd.R_reads' HO_9.out).1
             rw [hl9_4] at HO_9
             (try simp only [hl9_4])
             (try simp only [hl9_4] at BK105)
             cases gk with
             | zero => exact absurd HA.out (by simp [impl_ReachFrom.l2])
             | succ k4 =>
              have H := HA.out; clear HA
              simp only [impl_ReachFrom.l2] at H
              by_cases c30 : x54_4 < a0_0
              ·rw [if_pos c30] at H
               have c30b0 : decide (x54_4 < a0_0) = true := decide_eq_true c30
               clear c30; have HC31 := aM_ H; clear H
               go_upto_region 15 with (fail)
               go_cut [80] (fun v80 wc => ∃ (kq : Nat) (x80_30 : Bool), v80 = .bool x80_30 ∧ Aside0 (impl_ReachFrom.j4 kq a1 a3 x9_4 x10_3 x54_4 a0_0 x54_4 x80_30 a0_0 a0_1 a0_2 l0_3 = some r) ∧ Aside0 (kq ≤ k4) ∧ Aside0 (Kd.R (Kd.int .i64) 3 wc w.heap.size (fun _ => True) (.slice (some ⟨go25, 0, none⟩) x9_4.length co25) x9_4) ∧ Aside0 (wc.heap[gb105]? = some (.cells #[.int .i64 a0_0, .int .i64 a0_1, .int .i64 a0_2, (.slice A0_3 l0_3.length c0_3)] 31 (0, 0))) ∧ Aside0 (Below w.heap.size w wc))
               case first =>
                have H := HC31.out; clear HC31
                by_cases c32 : 0 ≤ x54_4
                ·rw [if_pos c32] at H
                 have c32b0 : decide (0 ≤ x54_4) = true := decide_eq_true c32
                 clear c32
                 (first | rw [c32b0] | (simp only [i64_w, i32_w]; rw [c32b0]) | skip)
                 by_cases c33 : x54_4 < (x9_4.length : Int)
                 ·rw [if_pos c33] at H
                  have c33b0 : decide (x54_4 < (x9_4.length : Int)) = true := decide_eq_true c33
                  clear c33
                  by_cases c34 : (rd x9_4 x54_4) < 0
                  ·rw [if_pos c34] at H
                   have c34b0 : decide ((rd x9_4 x54_4) < 0) = true := decide_eq_true c34
                   clear c34
                   have H' := aM_ H
                   clear H
                   have p115 : 0 ≤ (x54_4 : Int) := dT_
                   have q115 : x54_4 < (x9_4.length : Int) := dT_
                   obtain ⟨ad115, e115, hx115_0⟩ := Kd.at_int (Kd.R_reads' HO_9.out).2.2 x54_4 p115 q115
                   obtain rfl : (⟨go25, 0, none⟩ : Addr) = ad115 := (by injection e115)
                   (first | simp only [add_plain] at hx115_0 | simp only [add_at] at hx115_0 | simp only [Addr.add, Nat.zero_add] at hx115_0 | skip)
                   replace p115 := eq_true p115; replace q115 := eq_true q115
                   go_wp2
                   go_meet
                   case rel => exact ⟨_, (true), (by first | rfl | (simp; done) | (simp [*]; done)), H', ⟨by have := HJ4.out; have := HK2.out; have := HK3.out; have := HK4.out; first | omega | exact Nat.le_refl _⟩, ⟨by (try simp only [hl9_3]); (try simp only [hl9_4]); (with_reducible repeat (first | apply rA_ | apply rN_ | apply rD_)); exact HO_9.out⟩, ⟨by (try simp only [hl9_3]); (try simp only [hl9_4]); (with_reducible repeat (first | refine bN_ ?_ _ | refine bD_ ?_ | refine bA_ ?_ _)); exact BK105.out⟩, ⟨bw_⟩⟩
                  ·rw [if_neg c34] at H
                   have c34b0 : decide ((rd x9_4 x54_4) < 0) = false := decide_eq_false c34
                   clear c34
                   by_cases c35 : (rd x9_4 x54_4) > x10_3
                   ·rw [if_pos c35] at H
                    have c35b0 : decide (x10_3 < (rd x9_4 x54_4)) = true := decide_eq_true c35
                    clear c35
                    have H' := aM_ H
                    clear H
                    have p115 : 0 ≤ (x54_4 : Int) := dT_
                    have q115 : x54_4 < (x9_4.length : Int) := dT_
                    obtain ⟨ad115, e115, hx115_0⟩ := Kd.at_int (Kd.R_reads' HO_9.out).2.2 x54_4 p115 q115
                    obtain rfl : (⟨go25, 0, none⟩ : Addr) = ad115 := (by injection e115)
                    (first | simp only [add_plain] at hx115_0 | simp only [add_at] at hx115_0 | simp only [Addr.add, Nat.zero_add] at hx115_0 | skip)
                    replace p115 := eq_true p115; replace q115 := eq_true q115
                    have p116 : 0 ≤ (x54_4 : Int) := dT_
                    have q116 : x54_4 < (x9_4.length : Int) := dT_
                    obtain ⟨ad116, e116, hx116_0⟩ := Kd.at_int (Kd.R_reads' HO_9.out).2.2 x54_4 p116 q116
                    obtain rfl : (⟨go25, 0, none⟩ : Addr) = ad116 := (by injection e116)
                    (first | simp only [add_plain] at hx116_0 | simp only [add_at] at hx116_0 | simp only [Addr.add, Nat.zero_add] at hx116_0 | skip)
                    replace p116 := eq_true p116; replace q116 := eq_true q116
                    go_wp2
                    go_meet
                    case rel => exact ⟨_, (true), (by first | rfl | (simp; done) | (simp [*]; done)), H', ⟨by have := HJ4.out; have := HK2.out; have := HK3.out; have := HK4.out; first | omega | exact Nat.le_refl _⟩, ⟨by (try simp only [hl9_3]); (try simp only [hl9_4]); (with_reducible repeat (first | apply rA_ | apply rN_ | apply rD_)); exact HO_9.out⟩, ⟨by (try simp only [hl9_3]); (try simp only [hl9_4]); (with_reducible repeat (first | refine bN_ ?_ _ | refine bD_ ?_ | refine bA_ ?_ _)); exact BK105.out⟩, ⟨bw_⟩⟩
                   ·rw [if_neg c35] at H
                    have c35b0 : decide (x10_3 < (rd x9_4 x54_4)) = false := decide_eq_false c35
                    clear c35
                    by_cases c36 : x54_4 ≥ a0_1
                    ·rw [if_pos c36] at H
                     have c36b0 : decide (a0_1 ≤ x54_4) = true := decide_eq_true c36
                     clear c36
                     have H' := aM_ H
                     clear H
                     have p115 : 0 ≤ (x54_4 : Int) := dT_
                     have q115 : x54_4 < (x9_4.length : Int) := dT_
                     obtain ⟨ad115, e115, hx115_0⟩ := Kd.at_int (Kd.R_reads' HO_9.out).2.2 x54_4 p115 q115
                     obtain rfl : (⟨go25, 0, none⟩ : Addr) = ad115 := (by injection e115)
                     (first | simp only [add_plain] at hx115_0 | simp only [add_at] at hx115_0 | simp only [Addr.add, Nat.zero_add] at hx115_0 | skip)
                     replace p115 := eq_true p115; replace q115 := eq_true q115
                     have p116 : 0 ≤ (x54_4 : Int) := dT_
                     have q116 : x54_4 < (x9_4.length : Int) := dT_
                     obtain ⟨ad116, e116, hx116_0⟩ := Kd.at_int (Kd.R_reads' HO_9.out).2.2 x54_4 p116 q116
                     obtain rfl : (⟨go25, 0, none⟩ : Addr) = ad116 := (by injection e116)
                     (first | simp only [add_plain] at hx116_0 | simp only [add_at] at hx116_0 | simp only [Addr.add, Nat.zero_add] at hx116_0 | skip)
                     replace p116 := eq_true p116; replace q116 := eq_true q116
                     have hcz37_0 : wr.cell? ⟨gb105, 0, none⟩ = some (.int .i64 a0_0) := (blk_cell BK105.out 0).trans rfl
                     have hcz37_1 : wr.cell? ⟨gb105, 1, none⟩ = some (.int .i64 a0_1) := (blk_cell BK105.out 1).trans rfl
                     have hcz37_2 : wr.cell? ⟨gb105, 2, none⟩ = some (.int .i64 a0_2) := (blk_cell BK105.out 2).trans rfl
                     have hcz37_3 : wr.cell? ⟨gb105, 3, none⟩ = some (.slice A0_3 l0_3.length c0_3) := (blk_cell BK105.out 3).trans rfl
                     have hfz37_0 := blk_frozen BK105.out 0; have hfz37_1 := blk_frozen BK105.out 1; have hfz37_2 := blk_frozen BK105.out 2; have hfz37_3 := blk_frozen BK105.out 3
                     go_wp2
                     go_meet
                     case rel => exact ⟨_, ((x54_4 != a1)), (by first | rfl | (simp; done) | (simp [*]; done)), H', ⟨by have := HJ4.out; have := HK2.out; have := HK3.out; have := HK4.out; first | omega | exact Nat.le_refl _⟩, ⟨by (try simp only [hl9_3]); (try simp only [hl9_4]); (with_reducible repeat (first | apply rA_ | apply rN_ | apply rD_)); exact HO_9.out⟩, ⟨by (try simp only [hl9_3]); (try simp only [hl9_4]); (with_reducible repeat (first | refine bN_ ?_ _ | refine bD_ ?_ | refine bA_ ?_ _)); exact BK105.out⟩, ⟨bw_⟩⟩
                    ·rw [if_neg c36] at H
                     have c36b0 : decide (a0_1 ≤ x54_4) = false := decide_eq_false c36
                     clear c36
                     have H' := aM_ H
                     clear H
                     have p115 : 0 ≤ (x54_4 : Int) := dT_
                     have q115 : x54_4 < (x9_4.length : Int) := dT_
                     obtain ⟨ad115, e115, hx115_0⟩ := Kd.at_int (Kd.R_reads' HO_9.out).2.2 x54_4 p115 q115
                     obtain rfl : (⟨go25, 0, none⟩ : Addr) = ad115 := (by injection e115)
                     (first | simp only [add_plain] at hx115_0 | simp only [add_at] at hx115_0 | simp only [Addr.add, Nat.zero_add] at hx115_0 | skip)
                     replace p115 := eq_true p115; replace q115 := eq_true q115
                     have p116 : 0 ≤ (x54_4 : Int) := dT_
                     have q116 : x54_4 < (x9_4.length : Int) := dT_
                     obtain ⟨ad116, e116, hx116_0⟩ := Kd.at_int (Kd.R_reads' HO_9.out).2.2 x54_4 p116 q116
                     obtain rfl : (⟨go25, 0, none⟩ : Addr) = ad116 := (by injection e116)
                     (first | simp only [add_plain] at hx116_0 | simp only [add_at] at hx116_0 | simp only [Addr.add, Nat.zero_add] at hx116_0 | skip)
                     replace p116 := eq_true p116; replace q116 := eq_true q116
                     have hcz38_0 : wr.cell? ⟨gb105, 0, none⟩ = some (.int .i64 a0_0) := (blk_cell BK105.out 0).trans rfl
                     have hcz38_1 : wr.cell? ⟨gb105, 1, none⟩ = some (.int .i64 a0_1) := (blk_cell BK105.out 1).trans rfl
                     have hcz38_2 : wr.cell? ⟨gb105, 2, none⟩ = some (.int .i64 a0_2) := (blk_cell BK105.out 2).trans rfl
                     have hcz38_3 : wr.cell? ⟨gb105, 3, none⟩ = some (.slice A0_3 l0_3.length c0_3) := (blk_cell BK105.out 3).trans rfl
                     have hfz38_0 := blk_frozen BK105.out 0; have hfz38_1 := blk_frozen BK105.out 1; have hfz38_2 := blk_frozen BK105.out 2; have hfz38_3 := blk_frozen BK105.out 3
                     go_wp2
                     go_meet
                     case rel => exact ⟨_, (false), (by first | rfl | (simp; done) | (simp [*]; done)), H', ⟨by have := HJ4.out; have := HK2.out; have := HK3.out; have := HK4.out; first | omega | exact Nat.le_refl _⟩, ⟨by (try simp only [hl9_3]); (try simp only [hl9_4]); (with_reducible repeat (first | apply rA_ | apply rN_ | apply rD_)); exact HO_9.out⟩, ⟨by (try simp only [hl9_3]); (try simp only [hl9_4]); (with_reducible repeat (first | refine bN_ ?_ _ | refine bD_ ?_ | refine bA_ ?_ _)); exact BK105.out⟩, ⟨bw_⟩⟩
                 ·rw [if_neg c33] at H
                  exact absurd H (by simp)
                ·rw [if_neg c32] at H
                 exact absurd H (by simp)
               case rest =>
                clear HC31
                try clear hx1
                try clear hx2
                try clear hx11
                try clear c13b0
                try clear c20b0
                try clear c23b0
                try clear c24b0
                try clear hx25
                try clear hf25
                try clear c28b0
                try clear c30b0
                try clear c32b0
                try clear c33b0
                try clear c34b0
                try clear c35b0
                try clear c36b0
                try clear hcz14_0
                try clear hcz14_1
                try clear hcz14_2
                try clear hcz14_3
                try clear hcz15_0
                try clear hcz15_1
                try clear hcz15_2
                try clear hcz15_3
                try clear hcz16_0
                try clear hcz16_1
                try clear hcz16_2
                try clear hcz16_3
                try clear hcz17_0
                try clear hcz17_1
                try clear hcz17_2
                try clear hcz17_3
                try clear hcz19_0
                try clear hcz19_1
                try clear hcz19_2
                try clear hcz19_3
                try clear hcz29_0
                try clear hcz29_1
                try clear hcz29_2
                try clear hcz29_3
                try clear hcz37_0
                try clear hcz37_1
                try clear hcz37_2
                try clear hcz37_3
                try clear hcz38_0
                try clear hcz38_1
                try clear hcz38_2
                try clear hcz38_3
                try clear hfz14_0
                try clear hfz14_1
                try clear hfz14_2
                try clear hfz14_3
                try clear hfz15_0
                try clear hfz15_1
                try clear hfz15_2
                try clear hfz15_3
                try clear hfz16_0
                try clear hfz16_1
                try clear hfz16_2
                try clear hfz16_3
                try clear hfz17_0
                try clear hfz17_1
                try clear hfz17_2
                try clear hfz17_3
                try clear hfz19_0
                try clear hfz19_1
                try clear hfz19_2
                try clear hfz19_3
                try clear hfz29_0
                try clear hfz29_1
                try clear hfz29_2
                try clear hfz29_3
                try clear hfz37_0
                try clear hfz37_1
                try clear hfz37_2
                try clear hfz37_3
                try clear hfz38_0
                try clear hfz38_1
                try clear hfz38_2
                try clear hfz38_3
                try clear hx115_0
                try clear hx116_0
                try clear hx25_0
                obtain ⟨kq, x80_30, rfl, HA, HJ30, HO_9, BK105, HB⟩ := hcut
                cases kq with
                | zero => exact absurd HA.out (by simp [impl_ReachFrom.j4])
                | succ kj30 =>
                 have H := HA.out; clear HA
                 simp only [impl_ReachFrom.j4] at H
                 by_cases c39 : x80_30 = true
                 ·subst c39
                  have H1 : (impl_ReachFrom.l2 kj30 a1 a3 x9_4 x10_3 a0_0 (wrap64 (x54_4 + 1)) a0_0 a0_1 a0_2 l0_3) = some r := by rw [if_pos rfl] at H; exact H
                  clear H; have H := H1; clear H1
                  have H' := aM_ H
                  clear H
                  go_wp2
                  (try simp only [← hl9_4])
                  go_roundg kj30
                  case measure => have := HJ4.out; have := HK2.out; have := HK3.out; have := HK4.out; have := HJ30.out; omega
                  case rel => exact ⟨(x9_4), (wrap64 (x54_4 + 1)), (by first | rfl | (simp; done) | (simp [*]; done)), H', ⟨by have := HJ4.out; have := HK2.out; have := HK3.out; have := HK4.out; have := HJ30.out; omega⟩, ⟨by (try simp only [hl9_3]); (try simp only [hl9_4]); (with_reducible repeat (first | apply rA_ | apply rN_ | apply rD_)); exact HO_9.out⟩, ⟨by (try simp only [hl9_3]); (try simp only [hl9_4]); (with_reducible repeat (first | refine bN_ ?_ _ | refine bD_ ?_ | refine bA_ ?_ _)); exact BK105.out⟩, ⟨bw_⟩⟩
                 ·replace c39 := Bool.eq_false_iff.mpr c39
                  subst c39
                  have H1 : (impl_ReachFrom.l3 kj30 a1 a3 x9_4 x10_3 x54_4 a0_0 x54_4 a0_0 0 a0_0 a0_1 a0_2 l0_3) = some r := by rw [if_neg (show ¬ (false = true) by decide)] at H; exact H
                  clear H; have H := H1; clear H1
                  have H' := aM_ H
                  clear H
                  have hcz40_0 : wc.cell? ⟨gb105, 0, none⟩ = some (.int .i64 a0_0) := (blk_cell BK105.out 0).trans rfl
                  have hcz40_1 : wc.cell? ⟨gb105, 1, none⟩ = some (.int .i64 a0_1) := (blk_cell BK105.out 1).trans rfl
                  have hcz40_2 : wc.cell? ⟨gb105, 2, none⟩ = some (.int .i64 a0_2) := (blk_cell BK105.out 2).trans rfl
                  have hcz40_3 : wc.cell? ⟨gb105, 3, none⟩ = some (.slice A0_3 l0_3.length c0_3) := (blk_cell BK105.out 3).trans rfl
                  have hfz40_0 := blk_frozen BK105.out 0; have hfz40_1 := blk_frozen BK105.out 1; have hfz40_2 := blk_frozen BK105.out 2; have hfz40_3 := blk_frozen BK105.out 3
                  go_wp2
                  go_loopg [83] kj30 (fun kq v83 w' => ∃ (x9_6 : List Int) (x83_6 : Int), v83 = .int .i64 x83_6 ∧ Aside0 (impl_ReachFrom.l3 kq a1 a3 x9_6 x10_3 x54_4 a0_0 x54_4 a0_0 x83_6 a0_0 a0_1 a0_2 l0_3 = some r) ∧ Aside0 (kq ≤ kj30) ∧ Aside0 (Kd.R (Kd.int .i64) 3 w' w.heap.size (fun _ => True) (.slice (some ⟨go25, 0, none⟩) x9_4.length co25) x9_6) ∧ Aside0 (w'.heap[gb105]? = some (.cells #[.int .i64 a0_0, .int .i64 a0_1, .int .i64 a0_2, (.slice A0_3 l0_3.length c0_3)] 31 (0, 0))) ∧ Aside0 (Below w.heap.size w w'))
                  case atStart => exact ⟨(x9_4), (0), (by first | rfl | (simp; done) | (simp [*]; done)), H', ⟨Nat.le_refl _⟩, ⟨by (try simp only [hl9_3]); (try simp only [hl9_4]); (with_reducible repeat (first | apply rA_ | apply rN_ | apply rD_)); exact HO_9.out⟩, ⟨by (try simp only [hl9_3]); (try simp only [hl9_4]); (with_reducible repeat (first | refine bN_ ?_ _ | refine bD_ ?_ | refine bA_ ?_ _)); exact BK105.out⟩, ⟨bw_⟩⟩
                  case round =>
                   clear H'
                   try clear hx1
                   try clear hx2
                   try clear hx11
                   try clear c13b0
                   try clear c20b0
                   try clear c23b0
                   try clear c24b0
                   try clear hx25
                   try clear hf25
                   try clear c28b0
                   try clear c30b0
                   try clear c32b0
                   try clear c33b0
                   try clear c34b0
                   try clear c35b0
                   try clear c36b0
                   try clear hcz14_0
                   try clear hcz14_1
                   try clear hcz14_2
                   try clear hcz14_3
                   try clear hcz15_0
                   try clear hcz15_1
                   try clear hcz15_2
                   try clear hcz15_3
                   try clear hcz16_0
                   try clear hcz16_1
                   try clear hcz16_2
                   try clear hcz16_3
                   try clear hcz17_0
                   try clear hcz17_1
                   try clear hcz17_2
                   try clear hcz17_3
                   try clear hcz19_0
                   try clear hcz19_1
                   try clear hcz19_2
                   try clear hcz19_3
                   try clear hcz29_0
                   try clear hcz29_1
                   try clear hcz29_2
                   try clear hcz29_3
                   try clear hcz37_0
                   try clear hcz37_1
                   try clear hcz37_2
                   try clear hcz37_3
                   try clear hcz38_0
                   try clear hcz38_1
                   try clear hcz38_2
                   try clear hcz38_3
                   try clear hcz40_0
                   try clear hcz40_1
                   try clear hcz40_2
                   try clear hcz40_3
                   try clear hfz14_0
                   try clear hfz14_1
                   try clear hfz14_2
                   try clear hfz14_3
                   try clear hfz15_0
                   try clear hfz15_1
                   try clear hfz15_2
                   try clear hfz15_3
                   try clear hfz16_0
                   try clear hfz16_1
                   try clear hfz16_2
                   try clear hfz16_3
                   try clear hfz17_0
                   try clear hfz17_1
                   try clear hfz17_2
                   try clear hfz17_3
                   try clear hfz19_0
                   try clear hfz19_1
                   try clear hfz19_2
                   try clear hfz19_3
                   try clear hfz29_0
                   try clear hfz29_1
                   try clear hfz29_2
                   try clear hfz29_3
                   try clear hfz37_0
                   try clear hfz37_1
                   try clear hfz37_2
                   try clear hfz37_3
                   try clear hfz38_0
                   try clear hfz38_1
                   try clear hfz38_2
                   try clear hfz38_3
                   try clear hfz40_0
                   try clear hfz40_1
                   try clear hfz40_2
                   try clear hfz40_3
                   try clear hx115_0
                   try clear hx116_0
                   try clear hx25_0
                   obtain ⟨x9_6, x83_6, rfl, HA, HK6, HO_9, BK105, HB⟩ := hrel
                   have hl9_6 := (Kd.R_reads' HO_9.out).1
                   rw [hl9_6] at HO_9
                   (try simp only [hl9_6])
                   (try simp only [hl9_6] at BK105)
                   cases gk with
                   | zero => exact absurd HA.out (by simp [impl_ReachFrom.l3])
                   | succ k6 =>
                    have H := HA.out; clear HA
                    simp only [impl_ReachFrom.l3] at H
                    by_cases c41 : x83_6 < a0_0
                    ·rw [if_pos c41] at H
                     have c41b0 : decide (x83_6 < a0_0) = true := decide_eq_true c41
                     clear c41
                     by_cases c42 : 0 ≤ x83_6
                     ·rw [if_pos c42] at H
                      have c42b0 : decide (0 ≤ x83_6) = true := decide_eq_true c42
                      clear c42
                      by_cases c43 : x83_6 < (x9_6.length : Int)
                      ·rw [if_pos c43] at H
                       have c43b0 : decide (x83_6 < (x9_6.length : Int)) = true := decide_eq_true c43
                       clear c43
                       by_cases c44 : (rd x9_6 x83_6) < 0
                       ·rw [if_pos c44] at H
                        have c44b0 : decide ((rd x9_6 x83_6) < 0) = true := decide_eq_true c44
                        clear c44
                        replace H := Option.bind_eq_some_iff.mp H
                        obtain ⟨t118, A450, H⟩ := H
                        (try dsimp only at H)
                        have A45 := aM_ A450; clear A450
                        by_cases c46 : t118 = true
                        ·subst c46
                         have H1 : (impl_ReachFrom.l3 k6 a1 a3 (x9_6.set (x83_6 : Int).toNat (wrap64 (x10_3 + 1))) x10_3 x54_4 a0_0 x54_4 a0_0 (wrap64 (x83_6 + 1)) a0_0 a0_1 a0_2 l0_3) = some r := by rw [if_pos rfl] at H; exact H
                         clear H; have H := H1; clear H1
                         obtain ⟨y119, hy119⟩ : ∃ y_ : List Int, y_ = (x9_6.set (x83_6 : Int).toNat (wrap64 (x10_3 + 1))) := ⟨_, rfl⟩
                         replace H : (impl_ReachFrom.l3 k6 a1 a3 y119 x10_3 x54_4 a0_0 x54_4 a0_0 (wrap64 (x83_6 + 1)) a0_0 a0_1 a0_2 l0_3) = some r := by first | (rw [hy119]; with_reducible exact H) | (have H2_ := (Option.bind_some _ _).symm.trans H; rw [hy119]; with_reducible exact H2_) | (have H2_ := (Option.bind_some _ _).symm.trans H; with_reducible exact H2_) | with_reducible exact H | (rw [hy119]; exact H) | exact H
                         have Ny119 := aM_ hy119; clear hy119
                         have H' := aM_ H
                         clear H
                         have p117 : 0 ≤ (x83_6 : Int) := dT_
                         have q117 : x83_6 < (x9_6.length : Int) := dT_
                         obtain ⟨ad117, e117, hx117_0⟩ := Kd.at_int (Kd.R_reads' HO_9.out).2.2 x83_6 p117 q117
                         obtain rfl : (⟨go25, 0, none⟩ : Addr) = ad117 := (by injection e117)
                         (first | simp only [add_plain] at hx117_0 | simp only [add_at] at hx117_0 | simp only [Addr.add, Nat.zero_add] at hx117_0 | skip)
                         replace p117 := eq_true p117; replace q117 := eq_true q117
                         have hcz48_0 : wr.cell? ⟨gb105, 0, none⟩ = some (.int .i64 a0_0) := (blk_cell BK105.out 0).trans rfl
                         have hcz48_1 : wr.cell? ⟨gb105, 1, none⟩ = some (.int .i64 a0_1) := (blk_cell BK105.out 1).trans rfl
                         have hcz48_2 : wr.cell? ⟨gb105, 2, none⟩ = some (.int .i64 a0_2) := (blk_cell BK105.out 2).trans rfl
                         have hcz48_3 : wr.cell? ⟨gb105, 3, none⟩ = some (.slice A0_3 l0_3.length c0_3) := (blk_cell BK105.out 3).trans rfl
                         have hfz48_0 := blk_frozen BK105.out 0; have hfz48_1 := blk_frozen BK105.out 1; have hfz48_2 := blk_frozen BK105.out 2; have hfz48_3 := blk_frozen BK105.out 3
                         go_wp2_with (first | (go_at_call 41; (with_reducible refine (impl_IsLinked.calls a0_0 a0_1 a0_2 _ _ l0_3 x54_4 x83_6 x10_3 true _ ?side1 ?side2 A45.out).mono ?_); (case side1 => repeat (first | exact (Kd.C_below HR0_3.out HB.out) | (with_reducible refine cA_ ?_ _) | (with_reducible refine cN_ ?_ _) | (with_reducible refine cD_ ?_))); (case side2 => exact HC0_3.out); rintro e w49 ⟨rfl, hb⟩; have n0_ := aM_ (rB_ (rb_ HO_9.out) hb); have n1_ := aM_ (bB_ (kb_ BK105.out) hb); have n2_ := aM_ (wS_ (bw_) hb); clear HO_9 BK105 HB; have HO_9 := n0_; have BK105 := n1_; have HB := n2_; clear n0_ n1_ n2_; (try clear hb); (try clear hb2); (try clear hk); (try clear hi); have p47 : 0 ≤ (x83_6 : Int) := dT_; have q47 : (x83_6 : Int) < ((x9_6.length : Int) : Int) := dT_; obtain ⟨hx47_0, hf47_0⟩ := Kd.R_celln 0 HO_9.out (x83_6 : Int) p47 q47; replace p47 := eq_true p47; replace q47 := eq_true q47; obtain ⟨hy50_, hz50_⟩ := Kd.R_celln 0 HO_9.out (x83_6 : Int) (dT_) (dT_); have HP50 := Kd.R_putg HO_9.out (x83_6 : Int) (wrap64 (x10_3 + 1))) | ((with_reducible refine gate_store (t := 3) (p := 102) rfl ?_); refine store_event (t := 3) (p := 102) (v := ?vo_w51) (w1 := (w49.setCell ⟨go25, (x83_6 : Int).toNat, none⟩ (.int .i64 (wrap64 (x10_3 + 1))))) ?hg ?ho ?hn ?hr ?_; (case ho => rfl); (case hg => rfl); (case hn => rfl); (case hr => first | (go_simp; done) | (go_simp; rfl)); intro w51 hw; have hg : w49.grownBy w51 (some go25) := (by rw [hw]; exact HP50.2); have hp_ : Kd.R (Kd.int .i64) 3 w51 w.heap.size (fun _ => True) (.slice (some ⟨go25, 0, none⟩) x9_6.length co25) y119 := (by rw [hw, Ny119.out]; exact HP50.1); clear HP50; have n0_ := aM_ (hp_); have n1_ := aM_ (blk_grown (kb_ BK105.out) hg (Kd.R_ne HO_9.out BK105.out (by decide))); have n2_ := aM_ ((by rw [hw]; exact wE_ (HB.out) GB25.out : Below w.heap.size w w51)); clear HO_9 BK105 HB; have HO_9 := n0_; have BK105 := n1_; have HB := n2_; clear n0_ n1_ n2_ hg hw hp_))
                         (try simp only [← hl9_6])
                         go_roundg k6
                         case measure => have := HJ4.out; have := HK2.out; have := HK3.out; have := HK4.out; have := HJ30.out; have := HK6.out; omega
                         case rel => exact ⟨(y119), (wrap64 (x83_6 + 1)), (by first | rfl | (simp; done) | (simp [*]; done)), H', ⟨by have := HJ4.out; have := HK2.out; have := HK3.out; have := HK4.out; have := HJ30.out; have := HK6.out; omega⟩, ⟨by (try simp only [hl9_3]); (try simp only [hl9_4]); (try simp only [hl9_6]); (with_reducible repeat (first | apply rA_ | apply rN_ | apply rD_)); exact HO_9.out⟩, ⟨by (try simp only [hl9_3]); (try simp only [hl9_4]); (try simp only [hl9_6]); (with_reducible repeat (first | refine bN_ ?_ _ | refine bD_ ?_ | refine bA_ ?_ _)); exact BK105.out⟩, ⟨bw_⟩⟩
                        ·replace c46 := Bool.eq_false_iff.mpr c46
                         subst c46
                         have H1 : (impl_ReachFrom.l3 k6 a1 a3 x9_6 x10_3 x54_4 a0_0 x54_4 a0_0 (wrap64 (x83_6 + 1)) a0_0 a0_1 a0_2 l0_3) = some r := by rw [if_neg (show ¬ (false = true) by decide)] at H; exact H
                         clear H; have H := H1; clear H1
                         have H' := aM_ H
                         clear H
                         have p117 : 0 ≤ (x83_6 : Int) := dT_
                         have q117 : x83_6 < (x9_6.length : Int) := dT_
                         obtain ⟨ad117, e117, hx117_0⟩ := Kd.at_int (Kd.R_reads' HO_9.out).2.2 x83_6 p117 q117
                         obtain rfl : (⟨go25, 0, none⟩ : Addr) = ad117 := (by injection e117)
                         (first | simp only [add_plain] at hx117_0 | simp only [add_at] at hx117_0 | simp only [Addr.add, Nat.zero_add] at hx117_0 | skip)
                         replace p117 := eq_true p117; replace q117 := eq_true q117
                         have hcz52_0 : wr.cell? ⟨gb105, 0, none⟩ = some (.int .i64 a0_0) := (blk_cell BK105.out 0).trans rfl
                         have hcz52_1 : wr.cell? ⟨gb105, 1, none⟩ = some (.int .i64 a0_1) := (blk_cell BK105.out 1).trans rfl
                         have hcz52_2 : wr.cell? ⟨gb105, 2, none⟩ = some (.int .i64 a0_2) := (blk_cell BK105.out 2).trans rfl
                         have hcz52_3 : wr.cell? ⟨gb105, 3, none⟩ = some (.slice A0_3 l0_3.length c0_3) := (blk_cell BK105.out 3).trans rfl
                         have hfz52_0 := blk_frozen BK105.out 0; have hfz52_1 := blk_frozen BK105.out 1; have hfz52_2 := blk_frozen BK105.out 2; have hfz52_3 := blk_frozen BK105.out 3
                         go_wp2_with (first | (go_at_call 41; (with_reducible refine (impl_IsLinked.calls a0_0 a0_1 a0_2 _ _ l0_3 x54_4 x83_6 x10_3 false _ ?side1 ?side2 A45.out).mono ?_); (case side1 => repeat (first | exact (Kd.C_below HR0_3.out HB.out) | (with_reducible refine cA_ ?_ _) | (with_reducible refine cN_ ?_ _) | (with_reducible refine cD_ ?_))); (case side2 => exact HC0_3.out); rintro e w53 ⟨rfl, hb⟩; have n0_ := aM_ (rB_ (rb_ HO_9.out) hb); have n1_ := aM_ (bB_ (kb_ BK105.out) hb); have n2_ := aM_ (wS_ (bw_) hb); clear HO_9 BK105 HB; have HO_9 := n0_; have BK105 := n1_; have HB := n2_; clear n0_ n1_ n2_; (try clear hb); (try clear hb2); (try clear hk); (try clear hi)))
                         (try simp only [← hl9_6])
                         go_roundg k6
                         case measure => have := HJ4.out; have := HK2.out; have := HK3.out; have := HK4.out; have := HJ30.out; have := HK6.out; omega
                         case rel => exact ⟨(x9_6), (wrap64 (x83_6 + 1)), (by first | rfl | (simp; done) | (simp [*]; done)), H', ⟨by have := HJ4.out; have := HK2.out; have := HK3.out; have := HK4.out; have := HJ30.out; have := HK6.out; omega⟩, ⟨by (try simp only [hl9_3]); (try simp only [hl9_4]); (try simp only [hl9_6]); (with_reducible repeat (first | apply rA_ | apply rN_ | apply rD_)); exact HO_9.out⟩, ⟨by (try simp only [hl9_3]); (try simp only [hl9_4]); (try simp only [hl9_6]); (with_reducible repeat (first | refine bN_ ?_ _ | refine bD_ ?_ | refine bA_ ?_ _)); exact BK105.out⟩, ⟨bw_⟩⟩
                       ·rw [if_neg c44] at H
                        have c44b0 : decide ((rd x9_6 x83_6) < 0) = false := decide_eq_false c44
                        clear c44
                        have H' := aM_ H
                        clear H
                        have p117 : 0 ≤ (x83_6 : Int) := dT_
                        have q117 : x83_6 < (x9_6.length : Int) := dT_
                        obtain ⟨ad117, e117, hx117_0⟩ := Kd.at_int (Kd.R_reads' HO_9.out).2.2 x83_6 p117 q117
                        obtain rfl : (⟨go25, 0, none⟩ : Addr) = ad117 := (by injection e117)
                        (first | simp only [add_plain] at hx117_0 | simp only [add_at] at hx117_0 | simp only [Addr.add, Nat.zero_add] at hx117_0 | skip)
                        replace p117 := eq_true p117; replace q117 := eq_true q117
                        go_wp2
                        (try simp only [← hl9_6])
                        go_roundg k6
                        case measure => have := HJ4.out; have := HK2.out; have := HK3.out; have := HK4.out; have := HJ30.out; have := HK6.out; omega
                        case rel => exact ⟨(x9_6), (wrap64 (x83_6 + 1)), (by first | rfl | (simp; done) | (simp [*]; done)), H', ⟨by have := HJ4.out; have := HK2.out; have := HK3.out; have := HK4.out; have := HJ30.out; have := HK6.out; omega⟩, ⟨by (try simp only [hl9_3]); (try simp only [hl9_4]); (try simp only [hl9_6]); (with_reducible repeat (first | apply rA_ | apply rN_ | apply rD_)); exact HO_9.out⟩, ⟨by (try simp only [hl9_3]); (try simp only [hl9_4]); (try simp only [hl9_6]); (with_reducible repeat (first | refine bN_ ?_ _ | refine bD_ ?_ | refine bA_ ?_ _)); exact BK105.out⟩, ⟨bw_⟩⟩
                      ·rw [if_neg c43] at H
                       exact absurd H (by simp)
                     ·rw [if_neg c42] at H
                      exact absurd H (by simp)
                    ·rw [if_neg c41] at H
                     have c41b0 : decide (x83_6 < a0_0) = false := decide_eq_false c41
                     clear c41
                     have H' := aM_ H
                     clear H
                     go_wp2
                     (try simp only [← hl9_4, ← hl9_6])
                     go_roundg k6
                     case measure => have := HJ4.out; have := HK2.out; have := HK3.out; have := HK4.out; have := HJ30.out; have := HK6.out; omega
                     case rel => exact ⟨(x9_6), (wrap64 (x54_4 + 1)), (by first | rfl | (simp; done) | (simp [*]; done)), H', ⟨by have := HJ4.out; have := HK2.out; have := HK3.out; have := HK4.out; have := HJ30.out; have := HK6.out; omega⟩, ⟨by (try simp only [hl9_3]); (try simp only [hl9_4]); (try simp only [hl9_6]); (with_reducible repeat (first | apply rA_ | apply rN_ | apply rD_)); exact HO_9.out⟩, ⟨by (try simp only [hl9_3]); (try simp only [hl9_4]); (try simp only [hl9_6]); (with_reducible repeat (first | refine bN_ ?_ _ | refine bD_ ?_ | refine bA_ ?_ _)); exact BK105.out⟩, ⟨bw_⟩⟩
              ·rw [if_neg c30] at H
               have c30b0 : decide (x54_4 < a0_0) = false := decide_eq_false c30
               clear c30
               have H' := aM_ H
               clear H
               go_wp2
               (try simp only [← hl9_3, ← hl9_4])
               go_roundg k4
               case measure => have := HJ4.out; have := HK2.out; have := HK3.out; have := HK4.out; omega
               case rel => exact ⟨(x9_4), (wrap64 (x10_3 + 1)), (by first | rfl | (simp; done) | (simp [*]; done)), H', ⟨by have := HJ4.out; have := HK2.out; have := HK3.out; have := HK4.out; omega⟩, ⟨by (try simp only [hl9_3]); (try simp only [hl9_4]); (with_reducible repeat (first | apply rA_ | apply rN_ | apply rD_)); exact HO_9.out⟩, ⟨by (try simp only [hl9_3]); (try simp only [hl9_4]); (with_reducible repeat (first | refine bN_ ?_ _ | refine bD_ ?_ | refine bA_ ?_ _)); exact BK105.out⟩, ⟨bw_⟩⟩
           ·rw [if_neg c28] at H
            have c28b0 : decide (x10_3 < a3) = false := decide_eq_false c28
            clear c28
            obtain rfl := Option.some.inj H
            go_wp2
            go_ret
            exact ⟨_, by first | rfl | (simp [errW_none, errW_some] <;> rfl) | (simp [*, errW_none, errW_some] <;> rfl), by (with_reducible repeat (first | apply rA_ | apply rN_ | apply rD_)); exact HO_9.out, bw_⟩
        ·rw [if_neg c24] at H
         exact absurd H (by simp)
       ·rw [if_neg c23] at H
        exact absurd H (by simp)

end Go.Proofs.Ytdodogkgmpaioaa.PFnReach
