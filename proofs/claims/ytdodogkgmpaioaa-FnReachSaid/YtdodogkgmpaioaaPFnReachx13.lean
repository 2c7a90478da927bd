/- The functions that the law reaches, as plain Lean functions, each with the proof that the Go code comes to its answers; conditions: those that each theorem names. (printed by a program of this session) -/
import Derived.Test.YtdodogkgmpaioaaPFnReachx0
import Derived.Test.YtdodogkgmpaioaaPFnReachx4
import Derived.Test.YtdodogkgmpaioaaPFnReachx11
import Derived.Test.YtdodogkgmpaioaaPFnReachx12
namespace Go.Proofs.Ytdodogkgmpaioaa.PFnReach
open Go.RowKit Go.Proofs.YtdodogkgmpaioaaW.PrintWords Go.Proofs.YtdodogkgmpaioaaW.PrintLast Go.Proofs.YtdodogkgmpaioaaW.PrintMore
attribute [local go_sem] max2_int min2_int max_two min_two max_three min_three max_four min_four   -- for this text's walks alone
set_option linter.unusedVariables false
set_option linter.unusedSimpArgs false

/-! ### spec_NextTo: function 136 -/
mutual
def spec_NextTo.l0 : Nat → List (S123) → Int → Int → Int → List Int → List Int → Int → Option (List Int)
  | 0, _, _, _, _, _, _, _ => none
  | k + 1, x0, x1, x2, x3, x9, x10, x11 => if x11 < (x10.length : Int) then ((spec_NeighborsIn.f k x0 x11).bind fun t316 => (spec_NextTo.l1 k x0 x1 x2 x3 x9 x10 x11 (-1) t316 0)) else (some x9)
def spec_NextTo.l1 : Nat → List (S123) → Int → Int → Int → List Int → List Int → Int → Int → List Int → Int → Option (List Int)
  | 0, _, _, _, _, _, _, _, _, _, _ => none
  | k + 1, x0, x1, x2, x3, x9, x10, x11, x12, x13, x14 => if x14 < (x13.length : Int) then (if 0 ≤ x11 then (if x11 < (x10.length : Int) then (if (rd x10 x11) > 0 then (spec_NextTo.j2 k x0 x1 x2 x3 x9 x10 x11 x12 x13 x14 (decide (x12 < 0))) else (spec_NextTo.j2 k x0 x1 x2 x3 x9 x10 x11 x12 x13 x14 false)) else (none)) else (none)) else (spec_NextTo.j2 k x0 x1 x2 x3 x9 x10 x11 x12 x13 x14 false)
def spec_NextTo.j2 : Nat → List (S123) → Int → Int → Int → List Int → List Int → Int → Int → List Int → Int → Bool → Option (List Int)
  | 0, _, _, _, _, _, _, _, _, _, _, _ => none
  | k + 1, x0, x1, x2, x3, x9, x10, x11, x12, x13, x14, x45 => if x45 = true then (if 0 ≤ x14 then (if x14 < (x13.length : Int) then ((spec_l1In.f (rd x13 x14) 0 (wrap64 (x1 - 1))).bind fun t321 => (if t321 = true then (if (rd x13 x14) < x2 then (if 0 ≤ (rd x13 x14) then (if (rd x13 x14) < (x10.length : Int) then (if 0 ≤ x11 then (if x11 < (x10.length : Int) then (if (rd x10 (rd x13 x14)) = (wrap64 ((rd x10 x11) - 1)) then (spec_NextTo.l1 k x0 x1 x2 x3 x9 x10 x11 (rd x13 x14) x13 (wrap64 (x14 + 1))) else (spec_NextTo.l1 k x0 x1 x2 x3 x9 x10 x11 x12 x13 (wrap64 (x14 + 1)))) else (none)) else (none)) else (none)) else (none)) else (if (rd x13 x14) = x3 then (if 0 ≤ (rd x13 x14) then (if (rd x13 x14) < (x10.length : Int) then (if 0 ≤ x11 then (if x11 < (x10.length : Int) then (if (rd x10 (rd x13 x14)) = (wrap64 ((rd x10 x11) - 1)) then (spec_NextTo.l1 k x0 x1 x2 x3 x9 x10 x11 (rd x13 x14) x13 (wrap64 (x14 + 1))) else (spec_NextTo.l1 k x0 x1 x2 x3 x9 x10 x11 x12 x13 (wrap64 (x14 + 1)))) else (none)) else (none)) else (none)) else (none)) else (spec_NextTo.l1 k x0 x1 x2 x3 x9 x10 x11 x12 x13 (wrap64 (x14 + 1))))) else (spec_NextTo.l1 k x0 x1 x2 x3 x9 x10 x11 x12 x13 (wrap64 (x14 + 1))))) else (none)) else (none)) else (if x9.length < 17592186044416 then (spec_NextTo.l0 k x0 x1 x2 x3 (x9 ++ [x12]) x10 (wrap64 (x11 + 1))) else (none))
end
def spec_NextTo.f (k : Nat) (l0 : List (S123)) (a1 : Int) (a2 : Int) (a3 : Int) : Option (List Int) := (spec_DistancesTo.f k l0 a1 a2 a3).bind fun t313 => (spec_NextTo.l0 k l0 a1 a2 a3 (([] : List Int)) t313 0)
set_option maxHeartbeats 8000000 in
set_option maxRecDepth 100000 in
theorem spec_NextTo.calls (k : Nat) (A0 : Option Addr) (c0 : Nat) (l0 : List (S123)) (a1 : Int) (a2 : Int) (a3 : Int) (r : List Int) (w : World) (hr0 : Kd.C k123 w A0 l0.length l0) (hc0 : l0.length ≤ c0) (h : spec_NextTo.f k l0 a1 a2 a3 = some r) :
  Calls Try.prog 136 #[.slice A0 l0.length c0, .int .i64 a1, .int .i64 a2, .int .i64 a3] w fun e w' => ∃ v0_ : Value, e = .returned (v0_) ∧ Kd.R (Kd.int .i64) 3 w' w.heap.size (fun _ => True) v0_ r ∧ Below w.heap.size w w' := by
 have HR0 := aM_ hr0; have HC0 := aM_ hc0; clear hr0 hc0; have HB := aM_ (Below.refl w.heap.size w)
 have H : ((spec_DistancesTo.f k l0 a1 a2 a3).bind fun t313 => (spec_NextTo.l0 k l0 a1 a2 a3 (([] : List Int)) t313 0)) = some r := h
 clear h
 obtain ⟨y310, hy310⟩ : ∃ y_ : List Int, y_ = (([] : List Int)) := ⟨_, rfl⟩
 replace H : ((spec_DistancesTo.f k l0 a1 a2 a3).bind fun t313 => (spec_NextTo.l0 k l0 a1 a2 a3 y310 t313 0)) = some r := by first | (rw [hy310]; with_reducible exact H) | (have H2_ := (Option.bind_some _ _).symm.trans H; rw [hy310]; with_reducible exact H2_) | (have H2_ := (Option.bind_some _ _).symm.trans H; with_reducible exact H2_) | with_reducible exact H | (rw [hy310]; exact H) | exact H
 have Ny310 := aM_ hy310; clear hy310
 replace H := Option.bind_eq_some_iff.mp H
 obtain ⟨t313, A50, H⟩ := H
 (try dsimp only at H)
 have A5 := aM_ A50; clear A50
 have H' := aM_ H
 clear H
 go_enter Try.func136, Try.ntmps136
 go_wp2_with (first | ((with_reducible refine gate_dst (N := 16) rfl ?_); refine Kd.R_lit (Kd.int .i64) _ 3 ?hg (N := 16) ?hd (xs := ([] : List Int)) (inner := []) (ok := fun _ => True) (okp := fun _ => True) ?hr ?hp (fun _ hk => hk) trivial (Below.refl _ _) (Nat.le_refl _) (by simp) ?_; (case hd => rfl); (case hg => rfl); (case hr => first | (go_simp; done) | (go_simp; rfl)); (case hp => exact (Reps.none _ _)); intro v311 w6 ho7 hb hg_ hnew_; clear hg_ hnew_; (first | rw [← Ny310.out] at ho7 | (simp only [Int.reduceToNat] at ho7; rw [← Ny310.out] at ho7)); have n0_ := aM_ (Kd.R_lower ho7 (sZ_ (bw_))); have n1_ := aM_ (wS_ (bw_) hb); clear HB; have HO312 := n0_; have HB := n1_; clear n0_ n1_ hb ho7) | (go_at_call 135; (with_reducible refine (spec_DistancesTo.calls k _ _ l0 a1 a2 a3 t313 _ ?side1 ?side2 A5.out).mono ?_); (case side1 => repeat (first | exact (Kd.C_below HR0.out HB.out) | (with_reducible refine cA_ ?_ _) | (with_reducible refine cN_ ?_ _) | (with_reducible refine cD_ ?_))); (case side2 => exact HC0.out); rintro e w8 ⟨v314, rfl, ho0, hb⟩; have n0_ := aM_ (Kd.R_elder' (rb_ HO312.out) (Kd.R_base ho0) hb); have n1_ := aM_ (Kd.R_lower (Kd.R_new' ho0 (Kd.R_lt (rb_ HO312.out))) (sZ_ (bw_))); have n2_ := aM_ (wS_ (bw_) hb); clear HO312 HB; have HO312 := n0_; have HO315 := n1_; have HB := n2_; clear n0_ n1_ n2_; (try clear hb); (try clear hb2); (try clear hk); (try clear hi); (try clear ho0)))
 repeat (go_quiet (first | ((with_reducible refine gate_dst (N := 16) rfl ?_); refine Kd.R_lit (Kd.int .i64) _ 3 ?hg (N := 16) ?hd (xs := ([] : List Int)) (inner := []) (ok := fun _ => True) (okp := fun _ => True) ?hr ?hp (fun _ hk => hk) trivial (Below.refl _ _) (Nat.le_refl _) (by simp) ?_; (case hd => rfl); (case hg => rfl); (case hr => first | (go_simp; done) | (go_simp; rfl)); (case hp => exact (Reps.none _ _)); intro v311 w6 ho7 hb hg_ hnew_; clear hg_ hnew_; (first | rw [← Ny310.out] at ho7 | (simp only [Int.reduceToNat] at ho7; rw [← Ny310.out] at ho7)); have n0_ := aM_ (Kd.R_lower ho7 (sZ_ (bw_))); have n1_ := aM_ (wS_ (bw_) hb); clear HB; have HO312 := n0_; have HB := n1_; clear n0_ n1_ hb ho7) | (go_at_call 135; (with_reducible refine (spec_DistancesTo.calls k _ _ l0 a1 a2 a3 t313 _ ?side1 ?side2 A5.out).mono ?_); (case side1 => repeat (first | exact (Kd.C_below HR0.out HB.out) | (with_reducible refine cA_ ?_ _) | (with_reducible refine cN_ ?_ _) | (with_reducible refine cD_ ?_))); (case side2 => exact HC0.out); rintro e w8 ⟨v314, rfl, ho0, hb⟩; have n0_ := aM_ (Kd.R_elder' (rb_ HO312.out) (Kd.R_base ho0) hb); have n1_ := aM_ (Kd.R_lower (Kd.R_new' ho0 (Kd.R_lt (rb_ HO312.out))) (sZ_ (bw_))); have n2_ := aM_ (wS_ (bw_) hb); clear HO312 HB; have HO312 := n0_; have HO315 := n1_; have HB := n2_; clear n0_ n1_ n2_; (try clear hb); (try clear hb2); (try clear hk); (try clear hi); (try clear ho0))); try go_wp2_with (first | ((with_reducible refine gate_dst (N := 16) rfl ?_); refine Kd.R_lit (Kd.int .i64) _ 3 ?hg (N := 16) ?hd (xs := ([] : List Int)) (inner := []) (ok := fun _ => True) (okp := fun _ => True) ?hr ?hp (fun _ hk => hk) trivial (Below.refl _ _) (Nat.le_refl _) (by simp) ?_; (case hd => rfl); (case hg => rfl); (case hr => first | (go_simp; done) | (go_simp; rfl)); (case hp => exact (Reps.none _ _)); intro v311 w6 ho7 hb hg_ hnew_; clear hg_ hnew_; (first | rw [← Ny310.out] at ho7 | (simp only [Int.reduceToNat] at ho7; rw [← Ny310.out] at ho7)); have n0_ := aM_ (Kd.R_lower ho7 (sZ_ (bw_))); have n1_ := aM_ (wS_ (bw_) hb); clear HB; have HO312 := n0_; have HB := n1_; clear n0_ n1_ hb ho7) | (go_at_call 135; (with_reducible refine (spec_DistancesTo.calls k _ _ l0 a1 a2 a3 t313 _ ?side1 ?side2 A5.out).mono ?_); (case side1 => repeat (first | exact (Kd.C_below HR0.out HB.out) | (with_reducible refine cA_ ?_ _) | (with_reducible refine cN_ ?_ _) | (with_reducible refine cD_ ?_))); (case side2 => exact HC0.out); rintro e w8 ⟨v314, rfl, ho0, hb⟩; have n0_ := aM_ (Kd.R_elder' (rb_ HO312.out) (Kd.R_base ho0) hb); have n1_ := aM_ (Kd.R_lower (Kd.R_new' ho0 (Kd.R_lt (rb_ HO312.out))) (sZ_ (bw_))); have n2_ := aM_ (wS_ (bw_) hb); clear HO312 HB; have HO312 := n0_; have HO315 := n1_; have HB := n2_; clear n0_ n1_ n2_; (try clear hb); (try clear hb2); (try clear hk); (try clear hi); (try clear ho0))))
 go_loopg [9, 11] k (fun kq v9 v11 w' => ∃ (x9_1 : List Int) (x11_1 : Int), v11 = .int .i64 x11_1 ∧ Aside0 (spec_NextTo.l0 kq l0 a1 a2 a3 x9_1 t313 x11_1 = some r) ∧ Aside0 (kq ≤ k) ∧ Aside0 (Kd.R (Kd.int .i64) 3 w' w.heap.size (fun k_ => some k_ ≠ (v314 : Value).ownBlock) v9 x9_1) ∧ Aside0 (Kd.R (Kd.int .i64) 3 w' w.heap.size (fun k_ => some k_ ≠ (v9 : Value).ownBlock) v314 t313) ∧ Aside0 (Below w.heap.size w w'))
 case atStart => exact ⟨(y310), (0), (by first | rfl | (simp; done) | (simp [*]; done)), H', ⟨Nat.le_refl _⟩, ⟨by (with_reducible repeat (first | apply rA_ | apply rN_ | apply rD_)); exact Kd.R_mono HO312.out (fun _ hk => hk.2)⟩, ⟨by (with_reducible repeat (first | apply rA_ | apply rN_ | apply rD_)); exact Kd.R_mono HO315.out (fun _ hk => hk.2)⟩, ⟨bw_⟩⟩
 case round =>
  clear H'
  obtain ⟨x9_1, x11_1, rfl, HA, HK1, HO_9, HO_10, HB⟩ := hrel
  cases gk with
  | zero => exact absurd HA.out (by simp [spec_NextTo.l0])
  | succ k1 =>
   have H := HA.out; clear HA
   simp only [spec_NextTo.l0] at H
   by_cases c9 : x11_1 < (t313.length : Int)
   ·rw [if_pos c9] at H
    have c9b0 : decide (x11_1 < (t313.length : Int)) = true := decide_eq_true c9
    clear c9
    replace H := Option.bind_eq_some_iff.mp H
    obtain ⟨t316, A100, H⟩ := H
    (try dsimp only at H)
    have A10 := aM_ A100; clear A100
    have H' := aM_ H
    clear H
    obtain ⟨Ao11, co11, eo11⟩ := Kd.R_slice HO_10.out
    subst eo11
    go_wp2_with (first | (go_at_call 138; (with_reducible refine (spec_NeighborsIn.calls k1 _ _ l0 x11_1 t316 _ ?side1 ?side2 A10.out).mono ?_); (case side1 => repeat (first | exact (Kd.C_below HR0.out HB.out) | (with_reducible refine cA_ ?_ _) | (with_reducible refine cN_ ?_ _) | (with_reducible refine cD_ ?_))); (case side2 => exact HC0.out); rintro e w12 ⟨v317, rfl, ho0, hb⟩; have n0_ := aM_ (Kd.R_elder' (rb_ HO_9.out) (Kd.R_base ho0) hb); have n1_ := aM_ (Kd.R_elder' (rb_ HO_10.out) (Kd.R_base ho0) hb); have n2_ := aM_ (Kd.R_lower (Kd.R_new' (Kd.R_new' ho0 (Kd.R_lt (rb_ HO_9.out))) (Kd.R_lt (rb_ HO_10.out))) (sZ_ (bw_))); have n3_ := aM_ (wS_ (bw_) hb); clear HO_9 HO_10 HB; have HO_9 := n0_; have HO_10 := n1_; have HO318 := n2_; have HB := n3_; clear n0_ n1_ n2_ n3_; (try clear hb); (try clear hb2); (try clear hk); (try clear hi); (try clear ho0)))
    repeat (go_quiet (first | (go_at_call 138; (with_reducible refine (spec_NeighborsIn.calls k1 _ _ l0 x11_1 t316 _ ?side1 ?side2 A10.out).mono ?_); (case side1 => repeat (first | exact (Kd.C_below HR0.out HB.out) | (with_reducible refine cA_ ?_ _) | (with_reducible refine cN_ ?_ _) | (with_reducible refine cD_ ?_))); (case side2 => exact HC0.out); rintro e w12 ⟨v317, rfl, ho0, hb⟩; have n0_ := aM_ (Kd.R_elder' (rb_ HO_9.out) (Kd.R_base ho0) hb); have n1_ := aM_ (Kd.R_elder' (rb_ HO_10.out) (Kd.R_base ho0) hb); have n2_ := aM_ (Kd.R_lower (Kd.R_new' (Kd.R_new' ho0 (Kd.R_lt (rb_ HO_9.out))) (Kd.R_lt (rb_ HO_10.out))) (sZ_ (bw_))); have n3_ := aM_ (wS_ (bw_) hb); clear HO_9 HO_10 HB; have HO_9 := n0_; have HO_10 := n1_; have HO318 := n2_; have HB := n3_; clear n0_ n1_ n2_ n3_; (try clear hb); (try clear hb2); (try clear hk); (try clear hi); (try clear ho0))); try go_wp2_with (first | (go_at_call 138; (with_reducible refine (spec_NeighborsIn.calls k1 _ _ l0 x11_1 t316 _ ?side1 ?side2 A10.out).mono ?_); (case side1 => repeat (first | exact (Kd.C_below HR0.out HB.out) | (with_reducible refine cA_ ?_ _) | (with_reducible refine cN_ ?_ _) | (with_reducible refine cD_ ?_))); (case side2 => exact HC0.out); rintro e w12 ⟨v317, rfl, ho0, hb⟩; have n0_ := aM_ (Kd.R_elder' (rb_ HO_9.out) (Kd.R_base ho0) hb); have n1_ := aM_ (Kd.R_elder' (rb_ HO_10.out) (Kd.R_base ho0) hb); have n2_ := aM_ (Kd.R_lower (Kd.R_new' (Kd.R_new' ho0 (Kd.R_lt (rb_ HO_9.out))) (Kd.R_lt (rb_ HO_10.out))) (sZ_ (bw_))); have n3_ := aM_ (wS_ (bw_) hb); clear HO_9 HO_10 HB; have HO_9 := n0_; have HO_10 := n1_; have HO318 := n2_; have HB := n3_; clear n0_ n1_ n2_ n3_; (try clear hb); (try clear hb2); (try clear hk); (try clear hi); (try clear ho0))))
    go_loopg [12, 14] k1 (fun kq v12 v14 w' => ∃ (x12_2 : Int) (x14_2 : Int), v12 = .int .i64 x12_2 ∧ v14 = .int .i64 x14_2 ∧ Aside0 (spec_NextTo.l1 kq l0 a1 a2 a3 x9_1 t313 x11_1 x12_2 t316 x14_2 = some r) ∧ Aside0 (kq ≤ k1) ∧ Aside0 (Kd.R (Kd.int .i64) 3 w' w.heap.size (fun k_ => some k_ ≠ ((.slice Ao11 t313.length co11) : Value).ownBlock ∧ some k_ ≠ (v317 : Value).ownBlock) u9 x9_1) ∧ Aside0 (Kd.R (Kd.int .i64) 3 w' w.heap.size (fun k_ => some k_ ≠ (u9 : Value).ownBlock ∧ some k_ ≠ (v317 : Value).ownBlock) (.slice Ao11 t313.length co11) t313) ∧ Aside0 (Kd.R (Kd.int .i64) 3 w' w.heap.size (fun k_ => some k_ ≠ (u9 : Value).ownBlock ∧ some k_ ≠ ((.slice Ao11 t313.length co11) : Value).ownBlock) v317 t316) ∧ Aside0 (Below w.heap.size w w'))
    case atStart => exact ⟨((-1)), (0), (by first | rfl | (simp; done) | (simp [*]; done)), (by first | rfl | (simp; done) | (simp [*]; done)), H', ⟨Nat.le_refl _⟩, ⟨by (with_reducible repeat (first | apply rA_ | apply rN_ | apply rD_)); exact HO_9.out⟩, ⟨by (with_reducible repeat (first | apply rA_ | apply rN_ | apply rD_)); exact HO_10.out⟩, ⟨by (with_reducible repeat (first | apply rA_ | apply rN_ | apply rD_)); exact Kd.R_mono HO318.out (fun _ hk => ⟨hk.1.2, hk.2⟩)⟩, ⟨bw_⟩⟩
    case round =>
     clear H'
     try clear c9b0
     obtain ⟨x12_2, x14_2, rfl, rfl, HA, HK2, HO_9, HO_10, HO_13, HB⟩ := hrel
     cases gk with
     | zero => exact absurd HA.out (by simp [spec_NextTo.l1])
     | succ k2 =>
      have H := HA.out; clear HA
      simp only [spec_NextTo.l1] at H
      have HC13 := aM_ H; clear H
      go_upto_region 9 with (fail)
      repeat (go_quiet (fail); go_upto_region 9 with (fail))
      go_cut [45] (fun v45 wc => ∃ (kq : Nat) (x45_12 : Bool), v45 = .bool x45_12 ∧ Aside0 (spec_NextTo.j2 kq l0 a1 a2 a3 x9_1 t313 x11_1 x12_2 t316 x14_2 x45_12 = some r) ∧ Aside0 (kq ≤ k2) ∧ Aside0 (Kd.R (Kd.int .i64) 3 wc w.heap.size (fun k_ => some k_ ≠ ((.slice Ao11 t313.length co11) : Value).ownBlock ∧ some k_ ≠ (v317 : Value).ownBlock) u9 x9_1) ∧ Aside0 (Kd.R (Kd.int .i64) 3 wc w.heap.size (fun k_ => some k_ ≠ (u9 : Value).ownBlock ∧ some k_ ≠ (v317 : Value).ownBlock) (.slice Ao11 t313.length co11) t313) ∧ Aside0 (Kd.R (Kd.int .i64) 3 wc w.heap.size (fun k_ => some k_ ≠ (u9 : Value).ownBlock ∧ some k_ ≠ ((.slice Ao11 t313.length co11) : Value).ownBlock) v317 t316) ∧ Aside0 (Below w.heap.size w wc))
      case first =>
       have H := HC13.out; clear HC13
       by_cases c14 : x14_2 < (t316.length : Int)
       ·rw [if_pos c14] at H
        have c14b0 : decide (x14_2 < (t316.length : Int)) = true := decide_eq_true c14
        clear c14
        (first | rw [c14b0] | (simp only [i64_w, i32_w]; rw [c14b0]) | skip)
        by_cases c15 : 0 ≤ x11_1
        ·rw [if_pos c15] at H
         have c15b0 : decide (0 ≤ x11_1) = true := decide_eq_true c15
         clear c15
         by_cases c16 : x11_1 < (t313.length : Int)
         ·rw [if_pos c16] at H
          have c16b0 : decide (x11_1 < (t313.length : Int)) = true := decide_eq_true c16
          clear c16
          by_cases c17 : (rd t313 x11_1) > 0
          ·rw [if_pos c17] at H
           have c17b0 : decide (0 < (rd t313 x11_1)) = true := decide_eq_true c17
           clear c17
           have H' := aM_ H
           clear H
           obtain ⟨Ao18, co18, eo18⟩ := Kd.R_slice HO_13.out
           subst eo18
           have p319 : 0 ≤ (x11_1 : Int) := dT_
           have q319 : x11_1 < (t313.length : Int) := dT_
           obtain ⟨ad319, e319, hx319_0⟩ := Kd.at_int (Kd.R_reads' HO_10.out).2.2 x11_1 p319 q319
           cases e319
           replace p319 := eq_true p319; replace q319 := eq_true q319
           go_wp2
           repeat (go_quiet (fail); try go_wp2)
           go_meet
           case rel => exact ⟨_, (decide (x12_2 < 0)), (by first | rfl | (simp; done) | (simp [*]; done)), H', ⟨by have := HK1.out; have := HK2.out; first | omega | exact Nat.le_refl _⟩, ⟨by (with_reducible repeat (first | apply rA_ | apply rN_ | apply rD_)); exact HO_9.out⟩, ⟨by (with_reducible repeat (first | apply rA_ | apply rN_ | apply rD_)); exact HO_10.out⟩, ⟨by (with_reducible repeat (first | apply rA_ | apply rN_ | apply rD_)); exact HO_13.out⟩, ⟨bw_⟩⟩
          ·rw [if_neg c17] at H
           have c17b0 : decide (0 < (rd t313 x11_1)) = false := decide_eq_false c17
           clear c17
           have H' := aM_ H
           clear H
           obtain ⟨Ao19, co19, eo19⟩ := Kd.R_slice HO_13.out
           subst eo19
           have p319 : 0 ≤ (x11_1 : Int) := dT_
           have q319 : x11_1 < (t313.length : Int) := dT_
           obtain ⟨ad319, e319, hx319_0⟩ := Kd.at_int (Kd.R_reads' HO_10.out).2.2 x11_1 p319 q319
           cases e319
           replace p319 := eq_true p319; replace q319 := eq_true q319
           go_wp2
           repeat (go_quiet (fail); try go_wp2)
           go_meet
           case rel => exact ⟨_, (false), (by first | rfl | (simp; done) | (simp [*]; done)), H', ⟨by have := HK1.out; have := HK2.out; first | omega | exact Nat.le_refl _⟩, ⟨by (with_reducible repeat (first | apply rA_ | apply rN_ | apply rD_)); exact HO_9.out⟩, ⟨by (with_reducible repeat (first | apply rA_ | apply rN_ | apply rD_)); exact HO_10.out⟩, ⟨by (with_reducible repeat (first | apply rA_ | apply rN_ | apply rD_)); exact HO_13.out⟩, ⟨bw_⟩⟩
         ·rw [if_neg c16] at H
          exact absurd H (by simp)
        ·rw [if_neg c15] at H
         exact absurd H (by simp)
       ·rw [if_neg c14] at H
        have c14b0 : decide (x14_2 < (t316.length : Int)) = false := decide_eq_false c14
        clear c14
        (first | rw [c14b0] | (simp only [i64_w, i32_w]; rw [c14b0]) | skip)
        have H' := aM_ H
        clear H
        obtain ⟨Ao20, co20, eo20⟩ := Kd.R_slice HO_13.out
        subst eo20
        go_wp2
        repeat (go_quiet (fail); try go_wp2)
        go_meet
        case rel => exact ⟨_, (false), (by first | rfl | (simp; done) | (simp [*]; done)), H', ⟨by have := HK1.out; have := HK2.out; first | omega | exact Nat.le_refl _⟩, ⟨by (with_reducible repeat (first | apply rA_ | apply rN_ | apply rD_)); exact HO_9.out⟩, ⟨by (with_reducible repeat (first | apply rA_ | apply rN_ | apply rD_)); exact HO_10.out⟩, ⟨by (with_reducible repeat (first | apply rA_ | apply rN_ | apply rD_)); exact HO_13.out⟩, ⟨bw_⟩⟩
      case rest =>
       clear HC13
       try clear hx3
       try clear c9b0
       try clear c14b0
       try clear c15b0
       try clear c16b0
       try clear c17b0
       try clear hx319_0
       obtain ⟨kq, x45_12, rfl, HA, HJ12, HO_9, HO_10, HO_13, HB⟩ := hcut
       cases kq with
       | zero => exact absurd HA.out (by simp [spec_NextTo.j2])
       | succ kj12 =>
        have H := HA.out; clear HA
        simp only [spec_NextTo.j2] at H
        by_cases c21 : x45_12 = true
        ·subst c21
         have H1 : (if 0 ≤ x14_2 then (if x14_2 < (t316.length : Int) then ((spec_l1In.f (rd t316 x14_2) 0 (wrap64 (a1 - 1))).bind fun t321 => (if t321 = true then (if (rd t316 x14_2) < a2 then (if 0 ≤ (rd t316 x14_2) then (if (rd t316 x14_2) < (t313.length : Int) then (if 0 ≤ x11_1 then (if x11_1 < (t313.length : Int) then (if (rd t313 (rd t316 x14_2)) = (wrap64 ((rd t313 x11_1) - 1)) then (spec_NextTo.l1 kj12 l0 a1 a2 a3 x9_1 t313 x11_1 (rd t316 x14_2) t316 (wrap64 (x14_2 + 1))) else (spec_NextTo.l1 kj12 l0 a1 a2 a3 x9_1 t313 x11_1 x12_2 t316 (wrap64 (x14_2 + 1)))) else (none)) else (none)) else (none)) else (none)) else (if (rd t316 x14_2) = a3 then (if 0 ≤ (rd t316 x14_2) then (if (rd t316 x14_2) < (t313.length : Int) then (if 0 ≤ x11_1 then (if x11_1 < (t313.length : Int) then (if (rd t313 (rd t316 x14_2)) = (wrap64 ((rd t313 x11_1) - 1)) then (spec_NextTo.l1 kj12 l0 a1 a2 a3 x9_1 t313 x11_1 (rd t316 x14_2) t316 (wrap64 (x14_2 + 1))) else (spec_NextTo.l1 kj12 l0 a1 a2 a3 x9_1 t313 x11_1 x12_2 t316 (wrap64 (x14_2 + 1)))) else (none)) else (none)) else (none)) else (none)) else (spec_NextTo.l1 kj12 l0 a1 a2 a3 x9_1 t313 x11_1 x12_2 t316 (wrap64 (x14_2 + 1))))) else (spec_NextTo.l1 kj12 l0 a1 a2 a3 x9_1 t313 x11_1 x12_2 t316 (wrap64 (x14_2 + 1))))) else (none)) else (none)) = some r := by rw [if_pos rfl] at H; exact H
         clear H; have H := H1; clear H1
         by_cases c22 : 0 ≤ x14_2
         ·rw [if_pos c22] at H
          have c22b0 : decide (0 ≤ x14_2) = true := decide_eq_true c22
          clear c22
          by_cases c23 : x14_2 < (t316.length : Int)
          ·rw [if_pos c23] at H
           have c23b0 : decide (x14_2 < (t316.length : Int)) = true := decide_eq_true c23
           clear c23
           replace H := Option.bind_eq_some_iff.mp H
           obtain ⟨t321, A240, H⟩ := H
           (try dsimp only at H)
           have A24 := aM_ A240; clear A240
           by_cases c25 : t321 = true
           ·subst c25
            have H1 : (if (rd t316 x14_2) < a2 then (if 0 ≤ (rd t316 x14_2) then (if (rd t316 x14_2) < (t313.length : Int) then (if 0 ≤ x11_1 then (if x11_1 < (t313.length : Int) then (if (rd t313 (rd t316 x14_2)) = (wrap64 ((rd t313 x11_1) - 1)) then (spec_NextTo.l1 kj12 l0 a1 a2 a3 x9_1 t313 x11_1 (rd t316 x14_2) t316 (wrap64 (x14_2 + 1))) else (spec_NextTo.l1 kj12 l0 a1 a2 a3 x9_1 t313 x11_1 x12_2 t316 (wrap64 (x14_2 + 1)))) else (none)) else (none)) else (none)) else (none)) else (if (rd t316 x14_2) = a3 then (if 0 ≤ (rd t316 x14_2) then (if (rd t316 x14_2) < (t313.length : Int) then (if 0 ≤ x11_1 then (if x11_1 < (t313.length : Int) then (if (rd t313 (rd t316 x14_2)) = (wrap64 ((rd t313 x11_1) - 1)) then (spec_NextTo.l1 kj12 l0 a1 a2 a3 x9_1 t313 x11_1 (rd t316 x14_2) t316 (wrap64 (x14_2 + 1))) else (spec_NextTo.l1 kj12 l0 a1 a2 a3 x9_1 t313 x11_1 x12_2 t316 (wrap64 (x14_2 + 1)))) else (none)) else (none)) else (none)) else (none)) else (spec_NextTo.l1 kj12 l0 a1 a2 a3 x9_1 t313 x11_1 x12_2 t316 (wrap64 (x14_2 + 1))))) = some r := by rw [if_pos rfl] at H; exact H
            clear H; have H := H1; clear H1
            by_cases c26 : (rd t316 x14_2) < a2
            ·rw [if_pos c26] at H
             have c26b0 : decide ((rd t316 x14_2) < a2) = true := decide_eq_true c26
             clear c26
             by_cases c27 : 0 ≤ (rd t316 x14_2)
             ·rw [if_pos c27] at H
              have c27b0 : decide (0 ≤ (rd t316 x14_2)) = true := decide_eq_true c27
              clear c27
              by_cases c28 : (rd t316 x14_2) < (t313.length : Int)
              ·rw [if_pos c28] at H
               have c28b0 : decide ((rd t316 x14_2) < (t313.length : Int)) = true := decide_eq_true c28
               clear c28
               by_cases c29 : 0 ≤ x11_1
               ·rw [if_pos c29] at H
                have c29b0 : decide (0 ≤ x11_1) = true := decide_eq_true c29
                clear c29
                by_cases c30 : x11_1 < (t313.length : Int)
                ·rw [if_pos c30] at H
                 have c30b0 : decide (x11_1 < (t313.length : Int)) = true := decide_eq_true c30
                 clear c30
                 by_cases c31 : (rd t313 (rd t316 x14_2)) = (wrap64 ((rd t313 x11_1) - 1))
                 ·rw [if_pos c31] at H
                  have c31b0 : ((rd t313 (rd t316 x14_2)) == (wrap64 ((rd t313 x11_1) - 1))) = true := beq_iff_eq.mpr c31
                  have c31b0w : ((rd t313 (rd t316 x14_2)) == (IntKind.i64.wrap ((rd t313 x11_1) - 1))) = true := by simp only [i64_w]; exact c31b0
                  have c31b1 : ((rd t313 (rd t316 x14_2)) != (wrap64 ((rd t313 x11_1) - 1))) = false := bne_eq_false_iff_eq.mpr c31
                  have c31b1w : ((rd t313 (rd t316 x14_2)) != (IntKind.i64.wrap ((rd t313 x11_1) - 1))) = false := by simp only [i64_w]; exact c31b1
                  clear c31
                  have H' := aM_ H
                  clear H
                  obtain ⟨Ao32, co32, eo32⟩ := Kd.R_slice HO_13.out
                  subst eo32
                  have p320 : 0 ≤ (x14_2 : Int) := dT_
                  have q320 : x14_2 < (t316.length : Int) := dT_
                  obtain ⟨ad320, e320, hx320_0⟩ := Kd.at_int (Kd.R_reads' HO_13.out).2.2 x14_2 p320 q320
                  cases e320
                  replace p320 := eq_true p320; replace q320 := eq_true q320
                  go_wp2_with (first | (go_at_call 43; (first | (with_reducible refine (spec_l1In.calls (rd t316 x14_2) 0 (wrap64 (a1 - 1)) true _ A24.out).mono ?_) | (with_reducible refine (spec_l1In.calls (rd t316 x14_2) 0 (IntKind.i64.wrap (a1 - 1)) true _ (by rw [i64_w]; exact A24.out)).mono ?_)); rintro e w' ⟨rfl, ⟨nd, rfl⟩⟩; (try first | exact ⟨rfl, _, World.drewN_drewN _ _ _⟩ | exact ⟨rfl, _, Eq.trans (World.drewN_drewN _ _ _) (congrArg (World.drewN _) (Nat.add_assoc _ _ _))⟩); have p322 : 0 ≤ ((rd t316 x14_2) : Int) := dT_; have q322 : (rd t316 x14_2) < (t313.length : Int) := dT_; obtain ⟨ad322, e322, hx322_0⟩ := Kd.at_int (Kd.R_reads' HO_10.out).2.2 (rd t316 x14_2) p322 q322; cases e322; replace p322 := eq_true p322; replace q322 := eq_true q322; have p323 : 0 ≤ (x11_1 : Int) := dT_; have q323 : x11_1 < (t313.length : Int) := dT_; obtain ⟨ad323, e323, hx323_0⟩ := Kd.at_int (Kd.R_reads' HO_10.out).2.2 x11_1 p323 q323; obtain rfl : ad322 = ad323 := (by injection e323); replace p323 := eq_true p323; replace q323 := eq_true q323))
                  repeat (go_quiet (first | (go_at_call 43; (first | (with_reducible refine (spec_l1In.calls (rd t316 x14_2) 0 (wrap64 (a1 - 1)) true _ A24.out).mono ?_) | (with_reducible refine (spec_l1In.calls (rd t316 x14_2) 0 (IntKind.i64.wrap (a1 - 1)) true _ (by rw [i64_w]; exact A24.out)).mono ?_)); rintro e w' ⟨rfl, ⟨nd, rfl⟩⟩; (try first | exact ⟨rfl, _, World.drewN_drewN _ _ _⟩ | exact ⟨rfl, _, Eq.trans (World.drewN_drewN _ _ _) (congrArg (World.drewN _) (Nat.add_assoc _ _ _))⟩); have p322 : 0 ≤ ((rd t316 x14_2) : Int) := dT_; have q322 : (rd t316 x14_2) < (t313.length : Int) := dT_; obtain ⟨ad322, e322, hx322_0⟩ := Kd.at_int (Kd.R_reads' HO_10.out).2.2 (rd t316 x14_2) p322 q322; cases e322; replace p322 := eq_true p322; replace q322 := eq_true q322; have p323 : 0 ≤ (x11_1 : Int) := dT_; have q323 : x11_1 < (t313.length : Int) := dT_; obtain ⟨ad323, e323, hx323_0⟩ := Kd.at_int (Kd.R_reads' HO_10.out).2.2 x11_1 p323 q323; obtain rfl : ad322 = ad323 := (by injection e323); replace p323 := eq_true p323; replace q323 := eq_true q323)); try go_wp2_with (first | (go_at_call 43; (first | (with_reducible refine (spec_l1In.calls (rd t316 x14_2) 0 (wrap64 (a1 - 1)) true _ A24.out).mono ?_) | (with_reducible refine (spec_l1In.calls (rd t316 x14_2) 0 (IntKind.i64.wrap (a1 - 1)) true _ (by rw [i64_w]; exact A24.out)).mono ?_)); rintro e w' ⟨rfl, ⟨nd, rfl⟩⟩; (try first | exact ⟨rfl, _, World.drewN_drewN _ _ _⟩ | exact ⟨rfl, _, Eq.trans (World.drewN_drewN _ _ _) (congrArg (World.drewN _) (Nat.add_assoc _ _ _))⟩); have p322 : 0 ≤ ((rd t316 x14_2) : Int) := dT_; have q322 : (rd t316 x14_2) < (t313.length : Int) := dT_; obtain ⟨ad322, e322, hx322_0⟩ := Kd.at_int (Kd.R_reads' HO_10.out).2.2 (rd t316 x14_2) p322 q322; cases e322; replace p322 := eq_true p322; replace q322 := eq_true q322; have p323 : 0 ≤ (x11_1 : Int) := dT_; have q323 : x11_1 < (t313.length : Int) := dT_; obtain ⟨ad323, e323, hx323_0⟩ := Kd.at_int (Kd.R_reads' HO_10.out).2.2 x11_1 p323 q323; obtain rfl : ad322 = ad323 := (by injection e323); replace p323 := eq_true p323; replace q323 := eq_true q323)))
                  go_roundg kj12
                  case measure => have := HK1.out; have := HK2.out; have := HJ12.out; omega
                  case rel => exact ⟨(rd t316 x14_2), (wrap64 (x14_2 + 1)), (by first | rfl | (simp; done) | (simp [*]; done)), (by first | rfl | (simp; done) | (simp [*]; done)), H', ⟨by have := HK1.out; have := HK2.out; have := HJ12.out; omega⟩, ⟨by (with_reducible repeat (first | apply rA_ | apply rN_ | apply rD_)); exact HO_9.out⟩, ⟨by (with_reducible repeat (first | apply rA_ | apply rN_ | apply rD_)); exact HO_10.out⟩, ⟨by (with_reducible repeat (first | apply rA_ | apply rN_ | apply rD_)); exact HO_13.out⟩, ⟨bw_⟩⟩
                 ·rw [if_neg c31] at H
                  have c31b0 : ((rd t313 (rd t316 x14_2)) == (wrap64 ((rd t313 x11_1) - 1))) = false := beq_eq_false_iff_ne.mpr c31
                  have c31b0w : ((rd t313 (rd t316 x14_2)) == (IntKind.i64.wrap ((rd t313 x11_1) - 1))) = false := by simp only [i64_w]; exact c31b0
                  have c31b1 : ((rd t313 (rd t316 x14_2)) != (wrap64 ((rd t313 x11_1) - 1))) = true := bne_iff_ne.mpr c31
                  have c31b1w : ((rd t313 (rd t316 x14_2)) != (IntKind.i64.wrap ((rd t313 x11_1) - 1))) = true := by simp only [i64_w]; exact c31b1
                  have H' := aM_ H
                  clear H
                  obtain ⟨Ao33, co33, eo33⟩ := Kd.R_slice HO_13.out
                  subst eo33
                  have p320 : 0 ≤ (x14_2 : Int) := dT_
                  have q320 : x14_2 < (t316.length : Int) := dT_
                  obtain ⟨ad320, e320, hx320_0⟩ := Kd.at_int (Kd.R_reads' HO_13.out).2.2 x14_2 p320 q320
                  cases e320
                  replace p320 := eq_true p320; replace q320 := eq_true q320
                  go_wp2_with (first | (go_at_call 43; (first | (with_reducible refine (spec_l1In.calls (rd t316 x14_2) 0 (wrap64 (a1 - 1)) true _ A24.out).mono ?_) | (with_reducible refine (spec_l1In.calls (rd t316 x14_2) 0 (IntKind.i64.wrap (a1 - 1)) true _ (by rw [i64_w]; exact A24.out)).mono ?_)); rintro e w' ⟨rfl, ⟨nd, rfl⟩⟩; (try first | exact ⟨rfl, _, World.drewN_drewN _ _ _⟩ | exact ⟨rfl, _, Eq.trans (World.drewN_drewN _ _ _) (congrArg (World.drewN _) (Nat.add_assoc _ _ _))⟩); have p322 : 0 ≤ ((rd t316 x14_2) : Int) := dT_; have q322 : (rd t316 x14_2) < (t313.length : Int) := dT_; obtain ⟨ad322, e322, hx322_0⟩ := Kd.at_int (Kd.R_reads' HO_10.out).2.2 (rd t316 x14_2) p322 q322; cases e322; replace p322 := eq_true p322; replace q322 := eq_true q322; have p323 : 0 ≤ (x11_1 : Int) := dT_; have q323 : x11_1 < (t313.length : Int) := dT_; obtain ⟨ad323, e323, hx323_0⟩ := Kd.at_int (Kd.R_reads' HO_10.out).2.2 x11_1 p323 q323; obtain rfl : ad322 = ad323 := (by injection e323); replace p323 := eq_true p323; replace q323 := eq_true q323))
                  repeat (go_quiet (first | (go_at_call 43; (first | (with_reducible refine (spec_l1In.calls (rd t316 x14_2) 0 (wrap64 (a1 - 1)) true _ A24.out).mono ?_) | (with_reducible refine (spec_l1In.calls (rd t316 x14_2) 0 (IntKind.i64.wrap (a1 - 1)) true _ (by rw [i64_w]; exact A24.out)).mono ?_)); rintro e w' ⟨rfl, ⟨nd, rfl⟩⟩; (try first | exact ⟨rfl, _, World.drewN_drewN _ _ _⟩ | exact ⟨rfl, _, Eq.trans (World.drewN_drewN _ _ _) (congrArg (World.drewN _) (Nat.add_assoc _ _ _))⟩); have p322 : 0 ≤ ((rd t316 x14_2) : Int) := dT_; have q322 : (rd t316 x14_2) < (t313.length : Int) := dT_; obtain ⟨ad322, e322, hx322_0⟩ := Kd.at_int (Kd.R_reads' HO_10.out).2.2 (rd t316 x14_2) p322 q322; cases e322; replace p322 := eq_true p322; replace q322 := eq_true q322; have p323 : 0 ≤ (x11_1 : Int) := dT_; have q323 : x11_1 < (t313.length : Int) := dT_; obtain ⟨ad323, e323, hx323_0⟩ := Kd.at_int (Kd.R_reads' HO_10.out).2.2 x11_1 p323 q323; obtain rfl : ad322 = ad323 := (by injection e323); replace p323 := eq_true p323; replace q323 := eq_true q323)); try go_wp2_with (first | (go_at_call 43; (first | (with_reducible refine (spec_l1In.calls (rd t316 x14_2) 0 (wrap64 (a1 - 1)) true _ A24.out).mono ?_) | (with_reducible refine (spec_l1In.calls (rd t316 x14_2) 0 (IntKind.i64.wrap (a1 - 1)) true _ (by rw [i64_w]; exact A24.out)).mono ?_)); rintro e w' ⟨rfl, ⟨nd, rfl⟩⟩; (try first | exact ⟨rfl, _, World.drewN_drewN _ _ _⟩ | exact ⟨rfl, _, Eq.trans (World.drewN_drewN _ _ _) (congrArg (World.drewN _) (Nat.add_assoc _ _ _))⟩); have p322 : 0 ≤ ((rd t316 x14_2) : Int) := dT_; have q322 : (rd t316 x14_2) < (t313.length : Int) := dT_; obtain ⟨ad322, e322, hx322_0⟩ := Kd.at_int (Kd.R_reads' HO_10.out).2.2 (rd t316 x14_2) p322 q322; cases e322; replace p322 := eq_true p322; replace q322 := eq_true q322; have p323 : 0 ≤ (x11_1 : Int) := dT_; have q323 : x11_1 < (t313.length : Int) := dT_; obtain ⟨ad323, e323, hx323_0⟩ := Kd.at_int (Kd.R_reads' HO_10.out).2.2 x11_1 p323 q323; obtain rfl : ad322 = ad323 := (by injection e323); replace p323 := eq_true p323; replace q323 := eq_true q323)))
                  go_roundg kj12
                  case measure => have := HK1.out; have := HK2.out; have := HJ12.out; omega
                  case rel => exact ⟨(x12_2), (wrap64 (x14_2 + 1)), (by first | rfl | (simp; done) | (simp [*]; done)), (by first | rfl | (simp; done) | (simp [*]; done)), H', ⟨by have := HK1.out; have := HK2.out; have := HJ12.out; omega⟩, ⟨by (with_reducible repeat (first | apply rA_ | apply rN_ | apply rD_)); exact HO_9.out⟩, ⟨by (with_reducible repeat (first | apply rA_ | apply rN_ | apply rD_)); exact HO_10.out⟩, ⟨by (with_reducible repeat (first | apply rA_ | apply rN_ | apply rD_)); exact HO_13.out⟩, ⟨bw_⟩⟩
                ·rw [if_neg c30] at H
                 exact absurd H (by simp)
               ·rw [if_neg c29] at H
                exact absurd H (by simp)
              ·rw [if_neg c28] at H
               exact absurd H (by simp)
             ·rw [if_neg c27] at H
              exact absurd H (by simp)
            ·rw [if_neg c26] at H
             have c26b0 : decide ((rd t316 x14_2) < a2) = false := decide_eq_false c26
             clear c26
             by_cases c34 : (rd t316 x14_2) = a3
             ·rw [if_pos c34] at H
              have c34b0 : ((rd t316 x14_2) == a3) = true := beq_iff_eq.mpr c34
              have c34b1 : ((rd t316 x14_2) != a3) = false := bne_eq_false_iff_eq.mpr c34
              clear c34
              by_cases c35 : 0 ≤ (rd t316 x14_2)
              ·rw [if_pos c35] at H
               have c35b0 : decide (0 ≤ (rd t316 x14_2)) = true := decide_eq_true c35
               clear c35
               by_cases c36 : (rd t316 x14_2) < (t313.length : Int)
               ·rw [if_pos c36] at H
                have c36b0 : decide ((rd t316 x14_2) < (t313.length : Int)) = true := decide_eq_true c36
                clear c36
                by_cases c37 : 0 ≤ x11_1
                ·rw [if_pos c37] at H
                 have c37b0 : decide (0 ≤ x11_1) = true := decide_eq_true c37
                 clear c37
                 by_cases c38 : x11_1 < (t313.length : Int)
                 ·rw [if_pos c38] at H
                  have c38b0 : decide (x11_1 < (t313.length : Int)) = true := decide_eq_true c38
                  clear c38
                  by_cases c39 : (rd t313 (rd t316 x14_2)) = (wrap64 ((rd t313 x11_1) - 1))
                  ·rw [if_pos c39] at H
                   have c39b0 : ((rd t313 (rd t316 x14_2)) == (wrap64 ((rd t313 x11_1) - 1))) = true := beq_iff_eq.mpr c39
                   have c39b0w : ((rd t313 (rd t316 x14_2)) == (IntKind.i64.wrap ((rd t313 x11_1) - 1))) = true := by simp only [i64_w]; exact c39b0
                   have c39b1 : ((rd t313 (rd t316 x14_2)) != (wrap64 ((rd t313 x11_1) - 1))) = false := bne_eq_false_iff_eq.mpr c39
                   have c39b1w : ((rd t313 (rd t316 x14_2)) != (IntKind.i64.wrap ((rd t313 x11_1) - 1))) = false := by simp only [i64_w]; exact c39b1
                   clear c39
                   have H' := aM_ H
                   clear H
                   obtain ⟨Ao40, co40, eo40⟩ := Kd.R_slice HO_13.out
                   subst eo40
                   have p320 : 0 ≤ (x14_2 : Int) := dT_
                   have q320 : x14_2 < (t316.length : Int) := dT_
                   obtain ⟨ad320, e320, hx320_0⟩ := Kd.at_int (Kd.R_reads' HO_13.out).2.2 x14_2 p320 q320
                   cases e320
                   replace p320 := eq_true p320; replace q320 := eq_true q320
                   go_wp2_with (first | (go_at_call 43; (first | (with_reducible refine (spec_l1In.calls (rd t316 x14_2) 0 (wrap64 (a1 - 1)) true _ A24.out).mono ?_) | (with_reducible refine (spec_l1In.calls (rd t316 x14_2) 0 (IntKind.i64.wrap (a1 - 1)) true _ (by rw [i64_w]; exact A24.out)).mono ?_)); rintro e w' ⟨rfl, ⟨nd, rfl⟩⟩; (try first | exact ⟨rfl, _, World.drewN_drewN _ _ _⟩ | exact ⟨rfl, _, Eq.trans (World.drewN_drewN _ _ _) (congrArg (World.drewN _) (Nat.add_assoc _ _ _))⟩); have p324 : 0 ≤ ((rd t316 x14_2) : Int) := dT_; have q324 : (rd t316 x14_2) < (t313.length : Int) := dT_; obtain ⟨ad324, e324, hx324_0⟩ := Kd.at_int (Kd.R_reads' HO_10.out).2.2 (rd t316 x14_2) p324 q324; cases e324; replace p324 := eq_true p324; replace q324 := eq_true q324; have p325 : 0 ≤ (x11_1 : Int) := dT_; have q325 : x11_1 < (t313.length : Int) := dT_; obtain ⟨ad325, e325, hx325_0⟩ := Kd.at_int (Kd.R_reads' HO_10.out).2.2 x11_1 p325 q325; obtain rfl : ad324 = ad325 := (by injection e325); replace p325 := eq_true p325; replace q325 := eq_true q325))
                   repeat (go_quiet (first | (go_at_call 43; (first | (with_reducible refine (spec_l1In.calls (rd t316 x14_2) 0 (wrap64 (a1 - 1)) true _ A24.out).mono ?_) | (with_reducible refine (spec_l1In.calls (rd t316 x14_2) 0 (IntKind.i64.wrap (a1 - 1)) true _ (by rw [i64_w]; exact A24.out)).mono ?_)); rintro e w' ⟨rfl, ⟨nd, rfl⟩⟩; (try first | exact ⟨rfl, _, World.drewN_drewN _ _ _⟩ | exact ⟨rfl, _, Eq.trans (World.drewN_drewN _ _ _) (congrArg (World.drewN _) (Nat.add_assoc _ _ _))⟩); have p324 : 0 ≤ ((rd t316 x14_2) : Int) := dT_; have q324 : (rd t316 x14_2) < (t313.length : Int) := dT_; obtain ⟨ad324, e324, hx324_0⟩ := Kd.at_int (Kd.R_reads' HO_10.out).2.2 (rd t316 x14_2) p324 q324; cases e324; replace p324 := eq_true p324; replace q324 := eq_true q324; have p325 : 0 ≤ (x11_1 : Int) := dT_; have q325 : x11_1 < (t313.length : Int) := dT_; obtain ⟨ad325, e325, hx325_0⟩ := Kd.at_int (Kd.R_reads' HO_10.out).2.2 x11_1 p325 q325; obtain rfl : ad324 = ad325 := (by injection e325); replace p325 := eq_true p325; replace q325 := eq_true q325)); try go_wp2_with (first | (go_at_call 43; (first | (with_reducible refine (spec_l1In.calls (rd t316 x14_2) 0 (wrap64 (a1 - 1)) true _ A24.out).mono ?_) | (with_reducible refine (spec_l1In.calls (rd t316 x14_2) 0 (IntKind.i64.wrap (a1 - 1)) true _ (by rw [i64_w]; exact A24.out)).mono ?_)); rintro e w' ⟨rfl, ⟨nd, rfl⟩⟩; (try first | exact ⟨rfl, _, World.drewN_drewN _ _ _⟩ | exact ⟨rfl, _, Eq.trans (World.drewN_drewN _ _ _) (congrArg (World.drewN _) (Nat.add_assoc _ _ _))⟩); have p324 : 0 ≤ ((rd t316 x14_2) : Int) := dT_; have q324 : (rd t316 x14_2) < (t313.length : Int) := dT_; obtain ⟨ad324, e324, hx324_0⟩ := Kd.at_int (Kd.R_reads' HO_10.out).2.2 (rd t316 x14_2) p324 q324; cases e324; replace p324 := eq_true p324; replace q324 := eq_true q324; have p325 : 0 ≤ (x11_1 : Int) := dT_; have q325 : x11_1 < (t313.length : Int) := dT_; obtain ⟨ad325, e325, hx325_0⟩ := Kd.at_int (Kd.R_reads' HO_10.out).2.2 x11_1 p325 q325; obtain rfl : ad324 = ad325 := (by injection e325); replace p325 := eq_true p325; replace q325 := eq_true q325)))
                   go_roundg kj12
                   case measure => have := HK1.out; have := HK2.out; have := HJ12.out; omega
                   case rel => exact ⟨(rd t316 x14_2), (wrap64 (x14_2 + 1)), (by first | rfl | (simp; done) | (simp [*]; done)), (by first | rfl | (simp; done) | (simp [*]; done)), H', ⟨by have := HK1.out; have := HK2.out; have := HJ12.out; omega⟩, ⟨by (with_reducible repeat (first | apply rA_ | apply rN_ | apply rD_)); exact HO_9.out⟩, ⟨by (with_reducible repeat (first | apply rA_ | apply rN_ | apply rD_)); exact HO_10.out⟩, ⟨by (with_reducible repeat (first | apply rA_ | apply rN_ | apply rD_)); exact HO_13.out⟩, ⟨bw_⟩⟩
                  ·rw [if_neg c39] at H
                   have c39b0 : ((rd t313 (rd t316 x14_2)) == (wrap64 ((rd t313 x11_1) - 1))) = false := beq_eq_false_iff_ne.mpr c39
                   have c39b0w : ((rd t313 (rd t316 x14_2)) == (IntKind.i64.wrap ((rd t313 x11_1) - 1))) = false := by simp only [i64_w]; exact c39b0
                   have c39b1 : ((rd t313 (rd t316 x14_2)) != (wrap64 ((rd t313 x11_1) - 1))) = true := bne_iff_ne.mpr c39
                   have c39b1w : ((rd t313 (rd t316 x14_2)) != (IntKind.i64.wrap ((rd t313 x11_1) - 1))) = true := by simp only [i64_w]; exact c39b1
                   have H' := aM_ H
                   clear H
                   obtain ⟨Ao41, co41, eo41⟩ := Kd.R_slice HO_13.out
                   subst eo41
                   have p320 : 0 ≤ (x14_2 : Int) := dT_
                   have q320 : x14_2 < (t316.length : Int) := dT_
                   obtain ⟨ad320, e320, hx320_0⟩ := Kd.at_int (Kd.R_reads' HO_13.out).2.2 x14_2 p320 q320
                   cases e320
                   replace p320 := eq_true p320; replace q320 := eq_true q320
                   go_wp2_with (first | (go_at_call 43; (first | (with_reducible refine (spec_l1In.calls (rd t316 x14_2) 0 (wrap64 (a1 - 1)) true _ A24.out).mono ?_) | (with_reducible refine (spec_l1In.calls (rd t316 x14_2) 0 (IntKind.i64.wrap (a1 - 1)) true _ (by rw [i64_w]; exact A24.out)).mono ?_)); rintro e w' ⟨rfl, ⟨nd, rfl⟩⟩; (try first | exact ⟨rfl, _, World.drewN_drewN _ _ _⟩ | exact ⟨rfl, _, Eq.trans (World.drewN_drewN _ _ _) (congrArg (World.drewN _) (Nat.add_assoc _ _ _))⟩); have p324 : 0 ≤ ((rd t316 x14_2) : Int) := dT_; have q324 : (rd t316 x14_2) < (t313.length : Int) := dT_; obtain ⟨ad324, e324, hx324_0⟩ := Kd.at_int (Kd.R_reads' HO_10.out).2.2 (rd t316 x14_2) p324 q324; cases e324; replace p324 := eq_true p324; replace q324 := eq_true q324; have p325 : 0 ≤ (x11_1 : Int) := dT_; have q325 : x11_1 < (t313.length : Int) := dT_; obtain ⟨ad325, e325, hx325_0⟩ := Kd.at_int (Kd.R_reads' HO_10.out).2.2 x11_1 p325 q325; obtain rfl : ad324 = ad325 := (by injection e325); replace p325 := eq_true p325; replace q325 := eq_true q325))
                   repeat (go_quiet (first | (go_at_call 43; (first | (with_reducible refine (spec_l1In.calls (rd t316 x14_2) 0 (wrap64 (a1 - 1)) true _ A24.out).mono ?_) | (with_reducible refine (spec_l1In.calls (rd t316 x14_2) 0 (IntKind.i64.wrap (a1 - 1)) true _ (by rw [i64_w]; exact A24.out)).mono ?_)); rintro e w' ⟨rfl, ⟨nd, rfl⟩⟩; (try first | exact ⟨rfl, _, World.drewN_drewN _ _ _⟩ | exact ⟨rfl, _, Eq.trans (World.drewN_drewN _ _ _) (congrArg (World.drewN _) (Nat.add_assoc _ _ _))⟩); have p324 : 0 ≤ ((rd t316 x14_2) : Int) := dT_; have q324 : (rd t316 x14_2) < (t313.length : Int) := dT_; obtain ⟨ad324, e324, hx324_0⟩ := Kd.at_int (Kd.R_reads' HO_10.out).2.2 (rd t316 x14_2) p324 q324; cases e324; replace p324 := eq_true p324; replace q324 := eq_true q324; have p325 : 0 ≤ (x11_1 : Int) := dT_; have q325 : x11_1 < (t313.length : Int) := dT_; obtain ⟨ad325, e325, hx325_0⟩ := Kd.at_int (Kd.R_reads' HO_10.out).2.2 x11_1 p325 q325; obtain rfl : ad324 = ad325 := (by injection e325); replace p325 := eq_true p325; replace q325 := eq_true q325)); try go_wp2_with (first | (go_at_call 43; (first | (with_reducible refine (spec_l1In.calls (rd t316 x14_2) 0 (wrap64 (a1 - 1)) true _ A24.out).mono ?_) | (with_reducible refine (spec_l1In.calls (rd t316 x14_2) 0 (IntKind.i64.wrap (a1 - 1)) true _ (by rw [i64_w]; exact A24.out)).mono ?_)); rintro e w' ⟨rfl, ⟨nd, rfl⟩⟩; (try first | exact ⟨rfl, _, World.drewN_drewN _ _ _⟩ | exact ⟨rfl, _, Eq.trans (World.drewN_drewN _ _ _) (congrArg (World.drewN _) (Nat.add_assoc _ _ _))⟩); have p324 : 0 ≤ ((rd t316 x14_2) : Int) := dT_; have q324 : (rd t316 x14_2) < (t313.length : Int) := dT_; obtain ⟨ad324, e324, hx324_0⟩ := Kd.at_int (Kd.R_reads' HO_10.out).2.2 (rd t316 x14_2) p324 q324; cases e324; replace p324 := eq_true p324; replace q324 := eq_true q324; have p325 : 0 ≤ (x11_1 : Int) := dT_; have q325 : x11_1 < (t313.length : Int) := dT_; obtain ⟨ad325, e325, hx325_0⟩ := Kd.at_int (Kd.R_reads' HO_10.out).2.2 x11_1 p325 q325; obtain rfl : ad324 = ad325 := (by injection e325); replace p325 := eq_true p325; replace q325 := eq_true q325)))
                   go_roundg kj12
                   case measure => have := HK1.out; have := HK2.out; have := HJ12.out; omega
                   case rel => exact ⟨(x12_2), (wrap64 (x14_2 + 1)), (by first | rfl | (simp; done) | (simp [*]; done)), (by first | rfl | (simp; done) | (simp [*]; done)), H', ⟨by have := HK1.out; have := HK2.out; have := HJ12.out; omega⟩, ⟨by (with_reducible repeat (first | apply rA_ | apply rN_ | apply rD_)); exact HO_9.out⟩, ⟨by (with_reducible repeat (first | apply rA_ | apply rN_ | apply rD_)); exact HO_10.out⟩, ⟨by (with_reducible repeat (first | apply rA_ | apply rN_ | apply rD_)); exact HO_13.out⟩, ⟨bw_⟩⟩
                 ·rw [if_neg c38] at H
                  exact absurd H (by simp)
                ·rw [if_neg c37] at H
                 exact absurd H (by simp)
               ·rw [if_neg c36] at H
                exact absurd H (by simp)
              ·rw [if_neg c35] at H
               exact absurd H (by simp)
             ·rw [if_neg c34] at H
              have c34b0 : ((rd t316 x14_2) == a3) = false := beq_eq_false_iff_ne.mpr c34
              have c34b1 : ((rd t316 x14_2) != a3) = true := bne_iff_ne.mpr c34
              have H' := aM_ H
              clear H
              obtain ⟨Ao42, co42, eo42⟩ := Kd.R_slice HO_13.out
              subst eo42
              have p320 : 0 ≤ (x14_2 : Int) := dT_
              have q320 : x14_2 < (t316.length : Int) := dT_
              obtain ⟨ad320, e320, hx320_0⟩ := Kd.at_int (Kd.R_reads' HO_13.out).2.2 x14_2 p320 q320
              cases e320
              replace p320 := eq_true p320; replace q320 := eq_true q320
              go_wp2_with (first | (go_at_call 43; (first | (with_reducible refine (spec_l1In.calls (rd t316 x14_2) 0 (wrap64 (a1 - 1)) true _ A24.out).mono ?_) | (with_reducible refine (spec_l1In.calls (rd t316 x14_2) 0 (IntKind.i64.wrap (a1 - 1)) true _ (by rw [i64_w]; exact A24.out)).mono ?_)); rintro e w' ⟨rfl, ⟨nd, rfl⟩⟩; (try first | exact ⟨rfl, _, World.drewN_drewN _ _ _⟩ | exact ⟨rfl, _, Eq.trans (World.drewN_drewN _ _ _) (congrArg (World.drewN _) (Nat.add_assoc _ _ _))⟩)))
              repeat (go_quiet (first | (go_at_call 43; (first | (with_reducible refine (spec_l1In.calls (rd t316 x14_2) 0 (wrap64 (a1 - 1)) true _ A24.out).mono ?_) | (with_reducible refine (spec_l1In.calls (rd t316 x14_2) 0 (IntKind.i64.wrap (a1 - 1)) true _ (by rw [i64_w]; exact A24.out)).mono ?_)); rintro e w' ⟨rfl, ⟨nd, rfl⟩⟩; (try first | exact ⟨rfl, _, World.drewN_drewN _ _ _⟩ | exact ⟨rfl, _, Eq.trans (World.drewN_drewN _ _ _) (congrArg (World.drewN _) (Nat.add_assoc _ _ _))⟩))); try go_wp2_with (first | (go_at_call 43; (first | (with_reducible refine (spec_l1In.calls (rd t316 x14_2) 0 (wrap64 (a1 - 1)) true _ A24.out).mono ?_) | (with_reducible refine (spec_l1In.calls (rd t316 x14_2) 0 (IntKind.i64.wrap (a1 - 1)) true _ (by rw [i64_w]; exact A24.out)).mono ?_)); rintro e w' ⟨rfl, ⟨nd, rfl⟩⟩; (try first | exact ⟨rfl, _, World.drewN_drewN _ _ _⟩ | exact ⟨rfl, _, Eq.trans (World.drewN_drewN _ _ _) (congrArg (World.drewN _) (Nat.add_assoc _ _ _))⟩))))
              go_roundg kj12
              case measure => have := HK1.out; have := HK2.out; have := HJ12.out; omega
              case rel => exact ⟨(x12_2), (wrap64 (x14_2 + 1)), (by first | rfl | (simp; done) | (simp [*]; done)), (by first | rfl | (simp; done) | (simp [*]; done)), H', ⟨by have := HK1.out; have := HK2.out; have := HJ12.out; omega⟩, ⟨by (with_reducible repeat (first | apply rA_ | apply rN_ | apply rD_)); exact HO_9.out⟩, ⟨by (with_reducible repeat (first | apply rA_ | apply rN_ | apply rD_)); exact HO_10.out⟩, ⟨by (with_reducible repeat (first | apply rA_ | apply rN_ | apply rD_)); exact HO_13.out⟩, ⟨bw_⟩⟩
           ·replace c25 := Bool.eq_false_iff.mpr c25
            subst c25
            have H1 : (spec_NextTo.l1 kj12 l0 a1 a2 a3 x9_1 t313 x11_1 x12_2 t316 (wrap64 (x14_2 + 1))) = some r := by rw [if_neg (show ¬ (false = true) by decide)] at H; exact H
            clear H; have H := H1; clear H1
            have H' := aM_ H
            clear H
            obtain ⟨Ao43, co43, eo43⟩ := Kd.R_slice HO_13.out
            subst eo43
            have p320 : 0 ≤ (x14_2 : Int) := dT_
            have q320 : x14_2 < (t316.length : Int) := dT_
            obtain ⟨ad320, e320, hx320_0⟩ := Kd.at_int (Kd.R_reads' HO_13.out).2.2 x14_2 p320 q320
            cases e320
            replace p320 := eq_true p320; replace q320 := eq_true q320
            go_wp2_with (first | (go_at_call 43; (first | (with_reducible refine (spec_l1In.calls (rd t316 x14_2) 0 (wrap64 (a1 - 1)) false _ A24.out).mono ?_) | (with_reducible refine (spec_l1In.calls (rd t316 x14_2) 0 (IntKind.i64.wrap (a1 - 1)) false _ (by rw [i64_w]; exact A24.out)).mono ?_)); rintro e w' ⟨rfl, ⟨nd, rfl⟩⟩; (try first | exact ⟨rfl, _, World.drewN_drewN _ _ _⟩ | exact ⟨rfl, _, Eq.trans (World.drewN_drewN _ _ _) (congrArg (World.drewN _) (Nat.add_assoc _ _ _))⟩)))
            repeat (go_quiet (first | (go_at_call 43; (first | (with_reducible refine (spec_l1In.calls (rd t316 x14_2) 0 (wrap64 (a1 - 1)) false _ A24.out).mono ?_) | (with_reducible refine (spec_l1In.calls (rd t316 x14_2) 0 (IntKind.i64.wrap (a1 - 1)) false _ (by rw [i64_w]; exact A24.out)).mono ?_)); rintro e w' ⟨rfl, ⟨nd, rfl⟩⟩; (try first | exact ⟨rfl, _, World.drewN_drewN _ _ _⟩ | exact ⟨rfl, _, Eq.trans (World.drewN_drewN _ _ _) (congrArg (World.drewN _) (Nat.add_assoc _ _ _))⟩))); try go_wp2_with (first | (go_at_call 43; (first | (with_reducible refine (spec_l1In.calls (rd t316 x14_2) 0 (wrap64 (a1 - 1)) false _ A24.out).mono ?_) | (with_reducible refine (spec_l1In.calls (rd t316 x14_2) 0 (IntKind.i64.wrap (a1 - 1)) false _ (by rw [i64_w]; exact A24.out)).mono ?_)); rintro e w' ⟨rfl, ⟨nd, rfl⟩⟩; (try first | exact ⟨rfl, _, World.drewN_drewN _ _ _⟩ | exact ⟨rfl, _, Eq.trans (World.drewN_drewN _ _ _) (congrArg (World.drewN _) (Nat.add_assoc _ _ _))⟩))))
            go_roundg kj12
            case measure => have := HK1.out; have := HK2.out; have := HJ12.out; omega
            case rel => exact ⟨(x12_2), (wrap64 (x14_2 + 1)), (by first | rfl | (simp; done) | (simp [*]; done)), (by first | rfl | (simp; done) | (simp [*]; done)), H', ⟨by have := HK1.out; have := HK2.out; have := HJ12.out; omega⟩, ⟨by (with_reducible repeat (first | apply rA_ | apply rN_ | apply rD_)); exact HO_9.out⟩, ⟨by (with_reducible repeat (first | apply rA_ | apply rN_ | apply rD_)); exact HO_10.out⟩, ⟨by (with_reducible repeat (first | apply rA_ | apply rN_ | apply rD_)); exact HO_13.out⟩, ⟨bw_⟩⟩
          ·rw [if_neg c23] at H
           exact absurd H (by simp)
         ·rw [if_neg c22] at H
          exact absurd H (by simp)
        ·replace c21 := Bool.eq_false_iff.mpr c21
         subst c21
         have H1 : (if x9_1.length < 17592186044416 then (spec_NextTo.l0 kj12 l0 a1 a2 a3 (x9_1 ++ [x12_2]) t313 (wrap64 (x11_1 + 1))) else (none)) = some r := by rw [if_neg (show ¬ (false = true) by decide)] at H; exact H
         clear H; have H := H1; clear H1
         by_cases c44 : x9_1.length < 17592186044416
         ·rw [if_pos c44] at H
          have LMc44 := aM_ c44; clear c44
          obtain ⟨y326, hy326⟩ : ∃ y_ : List Int, y_ = (x9_1 ++ [x12_2]) := ⟨_, rfl⟩
          replace H : (spec_NextTo.l0 kj12 l0 a1 a2 a3 y326 t313 (wrap64 (x11_1 + 1))) = some r := by first | (rw [hy326]; with_reducible exact H) | (have H2_ := (Option.bind_some _ _).symm.trans H; rw [hy326]; with_reducible exact H2_) | (have H2_ := (Option.bind_some _ _).symm.trans H; with_reducible exact H2_) | with_reducible exact H | (rw [hy326]; exact H) | exact H
          have Ny326 := aM_ hy326; clear hy326
          have H' := aM_ H
          clear H
          go_wp2_with (first | ((with_reducible refine gate_builtin (b := .append) (xs := #[.tmp 79, .tmp 81]) rfl ?_); at_builtin; refine Kd.R_append (Kd.int .i64) (w0 := w) w.heap.size rfl (.tmp 79) (.tmp 81) 51 3 (.int .i64 0) 8 rfl Try.underlying51 info3 rfl (by decide) (by omega) u9 x9_1 x12_2 [.int .i64 x12_2] (fun k_ => some k_ ≠ (.slice Ao11 t313.length co11 : Value).ownBlock ∧ some k_ ≠ (v317 : Value).ownBlock) (fun _ => False) rfl rfl ?aP (fun _ hk => hk.elim) ?aF ?aO ?aB ?aS ?aL ?_; (case aP => exact rfl); (case aB => exact (bw_)); (case aF => exact (fun k_ hk => ⟨Kd.fresh' (Kd.R_lt (rb_ HO_10.out)) k_ hk, Kd.fresh' (Kd.R_lt (rb_ HO_13.out)) k_ hk⟩)); (case aO => exact (rb_ HO_9.out)); (case aS => exact (sZ_ (bw_))); (case aL => have := LMc44.out; omega); intro v327 w45 ho hb hg hat; rw [← Ny326.out] at ho; have n0_ := aM_ (Kd.R_after (ok := (fun k_ => some k_ ≠ (v317 : Value).ownBlock)) (by (with_reducible repeat (first | apply rA_ | apply rN_ | apply rD_)); exact Kd.R_mono HO_10.out (fun _ hk => ⟨hk.2, hk.1⟩)) hg hat); have n1_ := aM_ (Kd.R_after (ok := (fun k_ => some k_ ≠ (.slice Ao11 t313.length co11 : Value).ownBlock)) (by (with_reducible repeat (first | apply rA_ | apply rN_ | apply rD_)); exact Kd.R_mono HO_13.out (fun _ hk => ⟨hk.2, hk.1⟩)) hg hat); have n2_ := aM_ (hb); have n3_ := aM_ (ho); clear HO_10 HO_13 HB HO_9; have HO_10 := n0_; have HO_13 := n1_; have HB := n2_; have HO328 := n3_; clear n0_ n1_ n2_ n3_ ho hb hg hat))
          repeat (go_quiet (first | ((with_reducible refine gate_builtin (b := .append) (xs := #[.tmp 79, .tmp 81]) rfl ?_); at_builtin; refine Kd.R_append (Kd.int .i64) (w0 := w) w.heap.size rfl (.tmp 79) (.tmp 81) 51 3 (.int .i64 0) 8 rfl Try.underlying51 info3 rfl (by decide) (by omega) u9 x9_1 x12_2 [.int .i64 x12_2] (fun k_ => some k_ ≠ (.slice Ao11 t313.length co11 : Value).ownBlock ∧ some k_ ≠ (v317 : Value).ownBlock) (fun _ => False) rfl rfl ?aP (fun _ hk => hk.elim) ?aF ?aO ?aB ?aS ?aL ?_; (case aP => exact rfl); (case aB => exact (bw_)); (case aF => exact (fun k_ hk => ⟨Kd.fresh' (Kd.R_lt (rb_ HO_10.out)) k_ hk, Kd.fresh' (Kd.R_lt (rb_ HO_13.out)) k_ hk⟩)); (case aO => exact (rb_ HO_9.out)); (case aS => exact (sZ_ (bw_))); (case aL => have := LMc44.out; omega); intro v327 w45 ho hb hg hat; rw [← Ny326.out] at ho; have n0_ := aM_ (Kd.R_after (ok := (fun k_ => some k_ ≠ (v317 : Value).ownBlock)) (by (with_reducible repeat (first | apply rA_ | apply rN_ | apply rD_)); exact Kd.R_mono HO_10.out (fun _ hk => ⟨hk.2, hk.1⟩)) hg hat); have n1_ := aM_ (Kd.R_after (ok := (fun k_ => some k_ ≠ (.slice Ao11 t313.length co11 : Value).ownBlock)) (by (with_reducible repeat (first | apply rA_ | apply rN_ | apply rD_)); exact Kd.R_mono HO_13.out (fun _ hk => ⟨hk.2, hk.1⟩)) hg hat); have n2_ := aM_ (hb); have n3_ := aM_ (ho); clear HO_10 HO_13 HB HO_9; have HO_10 := n0_; have HO_13 := n1_; have HB := n2_; have HO328 := n3_; clear n0_ n1_ n2_ n3_ ho hb hg hat)); try go_wp2_with (first | ((with_reducible refine gate_builtin (b := .append) (xs := #[.tmp 79, .tmp 81]) rfl ?_); at_builtin; refine Kd.R_append (Kd.int .i64) (w0 := w) w.heap.size rfl (.tmp 79) (.tmp 81) 51 3 (.int .i64 0) 8 rfl Try.underlying51 info3 rfl (by decide) (by omega) u9 x9_1 x12_2 [.int .i64 x12_2] (fun k_ => some k_ ≠ (.slice Ao11 t313.length co11 : Value).ownBlock ∧ some k_ ≠ (v317 : Value).ownBlock) (fun _ => False) rfl rfl ?aP (fun _ hk => hk.elim) ?aF ?aO ?aB ?aS ?aL ?_; (case aP => exact rfl); (case aB => exact (bw_)); (case aF => exact (fun k_ hk => ⟨Kd.fresh' (Kd.R_lt (rb_ HO_10.out)) k_ hk, Kd.fresh' (Kd.R_lt (rb_ HO_13.out)) k_ hk⟩)); (case aO => exact (rb_ HO_9.out)); (case aS => exact (sZ_ (bw_))); (case aL => have := LMc44.out; omega); intro v327 w45 ho hb hg hat; rw [← Ny326.out] at ho; have n0_ := aM_ (Kd.R_after (ok := (fun k_ => some k_ ≠ (v317 : Value).ownBlock)) (by (with_reducible repeat (first | apply rA_ | apply rN_ | apply rD_)); exact Kd.R_mono HO_10.out (fun _ hk => ⟨hk.2, hk.1⟩)) hg hat); have n1_ := aM_ (Kd.R_after (ok := (fun k_ => some k_ ≠ (.slice Ao11 t313.length co11 : Value).ownBlock)) (by (with_reducible repeat (first | apply rA_ | apply rN_ | apply rD_)); exact Kd.R_mono HO_13.out (fun _ hk => ⟨hk.2, hk.1⟩)) hg hat); have n2_ := aM_ (hb); have n3_ := aM_ (ho); clear HO_10 HO_13 HB HO_9; have HO_10 := n0_; have HO_13 := n1_; have HB := n2_; have HO328 := n3_; clear n0_ n1_ n2_ n3_ ho hb hg hat)))
          go_roundg kj12
          case measure => have := HK1.out; have := HK2.out; have := HJ12.out; omega
          case rel => exact ⟨(y326), (wrap64 (x11_1 + 1)), (by first | rfl | (simp; done) | (simp [*]; done)), H', ⟨by have := HK1.out; have := HK2.out; have := HJ12.out; omega⟩, ⟨by (with_reducible repeat (first | apply rA_ | apply rN_ | apply rD_)); exact Kd.R_mono HO328.out (fun _ hk => hk.1)⟩, ⟨by (with_reducible repeat (first | apply rA_ | apply rN_ | apply rD_)); exact Kd.R_mono HO_10.out (fun _ hk => hk.2)⟩, ⟨bw_⟩⟩
         ·rw [if_neg c44] at H
          exact absurd H (by simp)
   ·rw [if_neg c9] at H
    have c9b0 : decide (x11_1 < (t313.length : Int)) = false := decide_eq_false c9
    clear c9
    obtain rfl := Option.some.inj H
    obtain ⟨Ao46, co46, eo46⟩ := Kd.R_slice HO_10.out
    subst eo46
    go_wp2
    repeat (go_quiet (fail); try go_wp2)
    go_ret
    exact ⟨_, by first | rfl | (simp [errW_none, errW_some] <;> rfl) | (simp [*, errW_none, errW_some] <;> rfl), by (with_reducible repeat (first | apply rA_ | apply rN_ | apply rD_)); exact Kd.R_mono HO_9.out (fun _ hk => trivial), bw_⟩

/-! ### spec_TableOf: function 131 -/
def spec_TableOf.f (k : Nat) (l0 : List (S123)) (a1 : Int) (a2 : Int) (a3 : Int) : Option (Int × List Int × List Int) := (spec_DistancesTo.f k l0 a1 a2 a3).bind fun t330 => ((spec_NextTo.f k l0 a1 a2 a3).bind fun t333 => (some (a3, t330, t333)))
set_option maxHeartbeats 8000000 in
set_option maxRecDepth 100000 in
theorem spec_TableOf.calls (k : Nat) (A0 : Option Addr) (c0 : Nat) (l0 : List (S123)) (a1 : Int) (a2 : Int) (a3 : Int) (r1 : Int) (r2 : List Int) (r3 : List Int) (w : World) (hr0 : Kd.C k123 w A0 l0.length l0) (hc0 : l0.length ≤ c0) (h : spec_TableOf.f k l0 a1 a2 a3 = some (r1, r2, r3)) :
    Calls Try.prog 131 #[.slice A0 l0.length c0, .int .i64 a1, .int .i64 a2, .int .i64 a3] w fun e w' => ∃ v1_ v2_ : Value, e = .returned (.agg #[.int .i64 r1, v1_, v2_]) ∧ Kd.R (Kd.int .i64) 3 w' w.heap.size (fun k_ => some k_ ≠ (v2_ : Value).ownBlock) v1_ r2 ∧ Kd.R (Kd.int .i64) 3 w' w.heap.size (fun k_ => some k_ ≠ (v1_ : Value).ownBlock) v2_ r3 ∧ Below w.heap.size w w' := by
  have hu80 := Try.underlying80
  have HR0 := aM_ hr0
  have HC0 := aM_ hc0
  clear hr0 hc0
  have HB := aM_ (Below.refl w.heap.size w)
  have H : ((spec_DistancesTo.f k l0 a1 a2 a3).bind fun t330 => ((spec_NextTo.f k l0 a1 a2 a3).bind fun t333 => (some (a3, t330, t333)))) = some (r1, r2, r3) := h
  clear h
  replace H := Option.bind_eq_some_iff.mp H
  obtain ⟨t330, A50, H⟩ := H
  replace H : ((spec_NextTo.f k l0 a1 a2 a3).bind fun t333 => (some (a3, t330, t333))) = some (r1, r2, r3) := H
  have A5 := aM_ A50
  clear A50
  replace H := Option.bind_eq_some_iff.mp H
  obtain ⟨t333, A60, H⟩ := H
  replace H : (some (a3, t330, t333)) = some (r1, r2, r3) := H
  have A6 := aM_ A60
  clear A60
  simp only [Option.some.injEq, Prod.mk.injEq] at H
  obtain ⟨rfl, rfl, rfl⟩ := H
  go_enter Try.func131, Try.ntmps131
  go_wp2_with (first | ((with_reducible refine gate_dst (N := 8) rfl ?_); refine box_event ?hg (N := 8) ?hd (cs := #[.int .i64 0, .slice none 0 0, .slice none 0 0]) (t := 80) ?hr ?_; (case hd => rfl); (case hg => rfl); (case hr => first | (go_simp; done) | (go_simp; rfl)); intro gb329 hg w7 hbox hb; have n0_ := aM_ (wS_ (bw_) hb); have n1_ := aM_ (hbox); have n2_ := aM_ ((by rw [hg]; exact (sZ_ (bw_)) : w.heap.size ≤ gb329)); have n3_ := aM_ ((by rw [hg]; exact (sZ_ (bw_)) : w.heap.size ≤ gb329)); clear HB; have HB := n0_; have BK329 := n1_; have GW329 := n2_; have GE329 := n3_; clear n0_ n1_ n2_ n3_ hb hbox hg) | ((with_reducible refine gate_callee (f := 135) rfl ?_); refine goesL_ (some 14) rfl rfl Try.func135 (by kernel_rfl) rfl #[.slice A0 l0.length c0, .int .i64 a1, .int .i64 a2, .int .i64 a3] rfl (by (try simp only [List.map_toArray, List.map_cons, List.map_nil]); first | done | rfl | (simp only [List.length_drop, List.length_take]; rfl)) ?_; (with_reducible refine (spec_DistancesTo.calls k _ _ l0 a1 a2 a3 t330 _ ?side1 ?side2 A5.out).mono ?_); (case side1 => repeat (first | exact (Kd.C_below HR0.out HB.out) | (with_reducible refine cA_ ?_ _) | (with_reducible refine cN_ ?_ _) | (with_reducible refine cD_ ?_))); (case side2 => exact HC0.out); rintro e w8 ⟨v331, rfl, ho0, hb⟩; refine ⟨_, rfl, ?_⟩; have n0_ := aM_ (Kd.R_lower ho0 (sZ_ (bw_))); have n1_ := aM_ (bB_ (kb_ BK329.out) hb); have n2_ := aM_ (wS_ (bw_) hb); clear BK329 HB; have HO332 := n0_; have BK329 := n1_; have HB := n2_; clear n0_ n1_ n2_; (try clear hb); (try clear hb2); (try clear hk); (try clear hi); (try clear ho0)) | ((with_reducible refine gate_callee (f := 136) rfl ?_); refine goesL_ (some 19) rfl rfl Try.func136 (by kernel_rfl) rfl #[.slice A0 l0.length c0, .int .i64 a1, .int .i64 a2, .int .i64 a3] rfl (by (try simp only [List.map_toArray, List.map_cons, List.map_nil]); first | done | rfl | (simp only [List.length_drop, List.length_take]; rfl)) ?_; (with_reducible refine (spec_NextTo.calls k _ _ l0 a1 a2 a3 t333 _ ?side1 ?side2 A6.out).mono ?_); (case side1 => repeat (first | exact (Kd.C_below HR0.out HB.out) | (with_reducible refine cA_ ?_ _) | (with_reducible refine cN_ ?_ _) | (with_reducible refine cD_ ?_))); (case side2 => exact HC0.out); rintro e w9 ⟨v334, rfl, ho0, hb⟩; refine ⟨_, rfl, ?_⟩; have n0_ := aM_ (Kd.R_elder' (rb_ HO332.out) (Kd.R_base ho0) hb); have n1_ := aM_ (Kd.R_lower (Kd.R_new' ho0 (Kd.R_lt (rb_ HO332.out))) (sZ_ (bw_))); have n2_ := aM_ (bB_ (kb_ BK329.out) hb); have n3_ := aM_ (wS_ (bw_) hb); clear HO332 BK329 HB; have HO332 := n0_; have HO335 := n1_; have BK329 := n2_; have HB := n3_; clear n0_ n1_ n2_ n3_; (try clear hb); (try clear hb2); (try clear hk); (try clear hi); (try clear ho0); obtain ⟨Ao10, co10, eo10⟩ := Kd.R_slice HO335.out; subst eo10; obtain ⟨Ao11, co11, eo11⟩ := Kd.R_slice HO332.out; subst eo11; obtain ⟨hcz12_0, hcz12_1, hcz12_2, hfz12_0, hfz12_1, hfz12_2⟩ := bk3_ BK329.out))
  refine bodyPost_ret (results_cell_row rfl _ _ gb329 80 #[.int .i64 a3, .slice Ao11 t330.length co11, .slice Ao10 t333.length co10] (0, 0) _ rfl (by (with_reducible repeat (first | refine bN_ ?_ _ | refine bD_ ?_ | refine bA_ ?_ _)); refine blk_put (cs := #[.int .i64 a3, .slice Ao11 t330.length co11, .slice none 0 0]) ?_ 2 _ rfl; (with_reducible repeat (first | refine bN_ ?_ _ | refine bD_ ?_ | refine bA_ ?_ _)); refine blk_put (cs := #[.int .i64 a3, .slice none 0 0, .slice none 0 0]) ?_ 1 _ rfl; (with_reducible repeat (first | refine bN_ ?_ _ | refine bD_ ?_ | refine bA_ ?_ _)); refine blk_put (cs := #[.int .i64 0, .slice none 0 0, .slice none 0 0]) ?_ 0 _ rfl; (with_reducible repeat (first | refine bN_ ?_ _ | refine bD_ ?_ | refine bA_ ?_ _)); exact BK329.out) Try.underlying80 rfl (by kernel_rfl)) rfl ?_
  exact ⟨_, _, by first | rfl | (simp [errW_none, errW_some] <;> rfl) | (simp [*, errW_none, errW_some] <;> rfl), by (with_reducible repeat (first | apply rA_ | apply rN_ | apply rD_)); exact Kd.R_mono (Kd.R_far (p := ⟨gb329, 2, none⟩) (Kd.R_far (p := ⟨gb329, 1, none⟩) (Kd.R_far (p := ⟨gb329, 0, none⟩) (Kd.R_types HO332.out BK329.out (by decide)) (fun _ hk => hk.2) (.int .i64 a3)) (fun _ hk => hk.2) (.slice Ao11 t330.length co11)) (fun _ hk => hk.2) (.slice Ao10 t333.length co10)) (fun _ hk => hk.1.2), by (with_reducible repeat (first | apply rA_ | apply rN_ | apply rD_)); exact Kd.R_mono (Kd.R_far (p := ⟨gb329, 2, none⟩) (Kd.R_far (p := ⟨gb329, 1, none⟩) (Kd.R_far (p := ⟨gb329, 0, none⟩) (Kd.R_types HO335.out BK329.out (by decide)) (fun _ hk => hk.2) (.int .i64 a3)) (fun _ hk => hk.2) (.slice Ao11 t330.length co11)) (fun _ hk => hk.2) (.slice Ao10 t333.length co10)) (fun _ hk => hk.1.2), bw_⟩

/-! ### spec_l17Tables: function 116 -/
def spec_l17Tables.l0 : Nat → List (S123) → Int → Int → List (S80) → Int → Option ((List (S80)))
  | 0, _, _, _, _, _ => none
  | k + 1, x0, x1, x2, x7, x8 => if x8 < x1 then ((spec_TableOf.f k x0 x1 x2 x8).bind fun bt339 => (if x7.length < 2513169434916 then (spec_l17Tables.l0 k x0 x1 x2 (x7 ++ [(⟨bt339.1, bt339.2.1, bt339.2.2⟩ : S80)]) (wrap64 (x8 + 1))) else (none))) else (some x7)
def spec_l17Tables.f (k : Nat) (l0 : List (S123)) (a1 : Int) (a2 : Int) : Option ((List (S80))) := spec_l17Tables.l0 k l0 a1 a2 (([] : List (S80))) 0
set_option maxHeartbeats 8000000 in
set_option maxRecDepth 100000 in
theorem spec_l17Tables.calls (k : Nat) (A0 : Option Addr) (c0 : Nat) (l0 : List (S123)) (a1 : Int) (a2 : Int) (r : List (S80)) (w : World) (hr0 : Kd.C k123 w A0 l0.length l0) (hc0 : l0.length ≤ c0) (h : spec_l17Tables.f k l0 a1 a2 = some r) :
    Calls Try.prog 116 #[.slice A0 l0.length c0, .int .i64 a1, .int .i64 a2] w fun e w' => ∃ v0_ : Value, e = .returned (v0_) ∧ Kd.S k80 80 w' w.heap.size (fun _ => True) v0_ r ∧ Below w.heap.size w w' := by
  have HR0 := aM_ hr0
  have HC0 := aM_ hc0
  clear hr0 hc0
  have HB := aM_ (Below.refl w.heap.size w)
  have H : (spec_l17Tables.l0 k l0 a1 a2 (([] : List (S80))) 0) = some r := h
  clear h
  obtain ⟨y336, hy336⟩ : ∃ y_ : List (S80), y_ = (([] : List (S80))) := ⟨_, rfl⟩
  replace H : (spec_l17Tables.l0 k l0 a1 a2 y336 0) = some r := by first | (rw [hy336]; with_reducible exact H) | (have H2_ := (Option.bind_some _ _).symm.trans H; rw [hy336]; with_reducible exact H2_) | (have H2_ := (Option.bind_some _ _).symm.trans H; with_reducible exact H2_) | with_reducible exact H | (rw [hy336]; exact H) | exact H
  have Ny336 := aM_ hy336
  clear hy336
  have H' := aM_ H
  clear H
  go_enter Try.func116, Try.ntmps116
  go_wp2_with (first | ((with_reducible refine gate_dst (N := 9) rfl ?_); refine Kd.S_lit k80 _ 80 ?hg (N := 9) ?hd (xs := ([] : List (S80))) (inner := []) (ok := fun _ => True) (okp := fun _ => True) ?hr ?hp (fun _ hk => hk) trivial (Below.refl _ _) (Nat.le_refl _) (by simp) ?_; (case hd => rfl); (case hg => rfl); (case hr => first | (go_simp; done) | (go_simp; rfl)); (case hp => exact (Reps.none _ _)); intro v337 w4 ho5 hb hg_ hnew_; clear hg_ hnew_; (first | rw [← Ny336.out] at ho5 | (simp only [Int.reduceToNat] at ho5; rw [← Ny336.out] at ho5)); have n0_ := aM_ (Kd.S_lower ho5 (sZ_ (bw_))); have n1_ := aM_ (wS_ (bw_) hb); clear HB; have HO338 := n0_; have HB := n1_; clear n0_ n1_ hb ho5))
  go_loopg [7, 8] k (fun kq v7 v8 w' => ∃ (x7_1 : List (S80)) (x8_1 : Int), v8 = .int .i64 x8_1 ∧ Aside0 (spec_l17Tables.l0 kq l0 a1 a2 x7_1 x8_1 = some r) ∧ Aside0 (kq ≤ k) ∧ Aside0 (Kd.S k80 80 w' w.heap.size (fun _ => True) v7 x7_1) ∧ Aside0 (Below w.heap.size w w'))
  case atStart => exact ⟨(y336), (0), (by first | rfl | (simp; done) | (simp [*]; done)), H', ⟨Nat.le_refl _⟩, ⟨by (with_reducible repeat (first | apply Kd.S_alloc | apply Kd.S_drewN | apply Kd.S_drew)); exact HO338.out⟩, ⟨bw_⟩⟩
  case round =>
    clear H'
    obtain ⟨x7_1, x8_1, rfl, HA, HK1, HO_7, HB⟩ := hrel
    cases gk with
    | zero => exact absurd HA.out (by simp [spec_l17Tables.l0])
    | succ k1 =>
      have H := HA.out
      clear HA
      simp only [spec_l17Tables.l0] at H
      by_cases c6 : x8_1 < a1
      · rw [if_pos c6] at H
        have c6b0 : decide (x8_1 < a1) = true := decide_eq_true c6
        clear c6
        replace H := Option.bind_eq_some_iff.mp H
        obtain ⟨⟨t339, t340, t343⟩, A70, H⟩ := H
        replace H : (if x7_1.length < 2513169434916 then (spec_l17Tables.l0 k1 l0 a1 a2 (x7_1 ++ [(⟨t339, t340, t343⟩ : S80)]) (wrap64 (x8_1 + 1))) else (none)) = some r := H
        have A7 := aM_ A70
        clear A70
        by_cases c8 : x7_1.length < 2513169434916
        · rw [if_pos c8] at H
          have LMc8 := aM_ c8
          clear c8
          obtain ⟨y346, hy346⟩ : ∃ y_ : List (S80), y_ = (x7_1 ++ [(⟨t339, t340, t343⟩ : S80)]) := ⟨_, rfl⟩
          replace H : (spec_l17Tables.l0 k1 l0 a1 a2 y346 (wrap64 (x8_1 + 1))) = some r := by first | (rw [hy346]; with_reducible exact H) | (have H2_ := (Option.bind_some _ _).symm.trans H; rw [hy346]; with_reducible exact H2_) | (have H2_ := (Option.bind_some _ _).symm.trans H; with_reducible exact H2_) | with_reducible exact H | (rw [hy346]; exact H) | exact H
          have Ny346 := aM_ hy346
          clear hy346
          have H' := aM_ H
          clear H
          go_wp2_with (first | ((with_reducible refine gate_callee (f := 131) rfl ?_); refine goesL_ (some 20) rfl rfl Try.func131 (by kernel_rfl) rfl #[.slice A0 l0.length c0, .int .i64 a1, .int .i64 a2, .int .i64 x8_1] rfl (by (try simp only [List.map_toArray, List.map_cons, List.map_nil]); first | done | rfl | (simp only [List.length_drop, List.length_take]; rfl)) ?_; (with_reducible refine (spec_TableOf.calls k1 _ _ l0 a1 a2 x8_1 t339 t340 t343 _ ?side1 ?side2 A7.out).mono ?_); (case side1 => repeat (first | exact (Kd.C_below HR0.out HB.out) | (with_reducible refine cA_ ?_ _) | (with_reducible refine cN_ ?_ _) | (with_reducible refine cD_ ?_))); (case side2 => exact HC0.out); rintro e w9 ⟨v341, v344, rfl, ho0, ho1, hb⟩; refine ⟨_, rfl, ?_⟩; have n0_ := aM_ (Kd.S_mono (Kd.S_told (Kd.S_told (Kd.S_old (by (with_reducible repeat (first | apply Kd.S_alloc | apply Kd.S_drewN | apply Kd.S_drew)); exact HO_7.out) hb) (Kd.R_base ho0)) (Kd.R_base ho1)) (fun _ h_ => h_.1)); have n1_ := aM_ (Kd.R_lower ho0 (sZ_ (bw_))); have n2_ := aM_ (Kd.R_lower ho1 (sZ_ (bw_))); have n3_ := aM_ (wS_ (bw_) hb); clear HO_7 HB; have HO_7 := n0_; have HO342 := n1_; have HO345 := n2_; have HB := n3_; clear n0_ n1_ n2_ n3_; (try clear hb); (try clear hb2); (try clear hk); (try clear hi); (try clear ho0); (try clear ho1); obtain ⟨Ao11, co11, eo11⟩ := Kd.R_slice HO342.out; subst eo11; obtain ⟨Ao12, co12, eo12⟩ := Kd.R_slice HO345.out; subst eo12) | ((with_reducible refine gate_builtin (b := .append) (xs := #[.tmp 15, .tmp 21]) rfl ?_); at_builtin; refine Kd.S_append k80 (w0 := w) w.heap.size rfl (.tmp 15) (.tmp 21) 101 80 (.agg #[(.int .i64 0), (.slice none 0 0), (.slice none 0 0)]) 56 rfl Try.underlying101 info80 rfl (by decide) (by omega) u7 x7_1 (⟨t339, t340, t343⟩ : S80) [.int .i64 t339, .slice Ao11 t340.length co11, .slice Ao12 t343.length co12] (fun _ => True) (fun k_ => some k_ = (.slice Ao11 t340.length co11 : Value).ownBlock ∨ some k_ = (.slice Ao12 t343.length co12 : Value).ownBlock) rfl rfl ?aP (fun k_ hk_ => hk_.elim (fun h_ => ((Kd.R_mono (ok' := fun k_ => ((fun _ => True)) k_ ∧ some k_ ≠ (u7 : Value).ownBlock) (Kd.R_apart' (HO342.out) (Kd.S_typed HO_7.out) (by decide)) (fun k_ hk => ⟨trivial, hk.2⟩))).1 k_ h_.symm) (fun h_ => ((Kd.R_mono (ok' := fun k_ => ((fun _ => True)) k_ ∧ some k_ ≠ (u7 : Value).ownBlock) (Kd.R_apart' (HO345.out) (Kd.S_typed HO_7.out) (by decide)) (fun k_ hk => ⟨trivial, hk.2⟩))).1 k_ h_.symm)) ?aF ?aO ?aB ?aS ?aL ?_; (case aP => exact k80_mkM _ _ _ (⟨t339, t340, t343⟩ : S80) (Kd.R_mono (Kd.R_tight rfl (Kd.R_mono (ok' := fun k_ => ((fun _ => True)) k_ ∧ some k_ ≠ (u7 : Value).ownBlock) (Kd.R_apart' (HO342.out) (Kd.S_typed HO_7.out) (by decide)) (fun k_ hk => ⟨trivial, hk.2⟩))) (fun _ h_ => Or.inl h_)) (Kd.R_mono (Kd.R_tight rfl (Kd.R_mono (ok' := fun k_ => ((fun _ => True)) k_ ∧ some k_ ≠ (u7 : Value).ownBlock) (Kd.R_apart' (HO345.out) (Kd.S_typed HO_7.out) (by decide)) (fun k_ hk => ⟨trivial, hk.2⟩))) (fun _ h_ => Or.inr (h_)))); (case aB => exact (bw_)); (case aF => exact (fun _ _ => trivial)); (case aO => exact (by (with_reducible repeat (first | apply Kd.S_alloc | apply Kd.S_drewN | apply Kd.S_drew)); exact Kd.S_mono HO_7.out (fun k_ hk => ⟨trivial, fun e_ => e_.elim (fun h_ => hk.1.2 h_) (fun h_ => hk.2 h_)⟩))); (case aS => exact (sZ_ (bw_))); (case aL => have := LMc8.out; omega); intro v347 w10 ho hb hg hat; rw [← Ny346.out] at ho; have n0_ := aM_ (hb); have n1_ := aM_ (ho); clear HB HO_7 HO342 HO345; have HB := n0_; have HO348 := n1_; clear n0_ n1_ ho hb hg hat))
          go_roundg k1
          case measure => have := HK1.out; omega
          case rel => exact ⟨(y346), (wrap64 (x8_1 + 1)), (by first | rfl | (simp; done) | (simp [*]; done)), H', ⟨by have := HK1.out; omega⟩, ⟨by (with_reducible repeat (first | apply Kd.S_alloc | apply Kd.S_drewN | apply Kd.S_drew)); exact HO348.out⟩, ⟨bw_⟩⟩
        · rw [if_neg c8] at H
          exact absurd H (by simp)
      · rw [if_neg c6] at H
        have c6b0 : decide (x8_1 < a1) = false := decide_eq_false c6
        clear c6
        obtain rfl := Option.some.inj H
        go_wp2
        go_ret
        exact ⟨_, by first | rfl | (simp [errW_none, errW_some] <;> rfl) | (simp [*, errW_none, errW_some] <;> rfl), by (with_reducible repeat (first | apply Kd.S_alloc | apply Kd.S_drewN | apply Kd.S_drew)); exact HO_7.out, bw_⟩

end Go.Proofs.Ytdodogkgmpaioaa.PFnReach
