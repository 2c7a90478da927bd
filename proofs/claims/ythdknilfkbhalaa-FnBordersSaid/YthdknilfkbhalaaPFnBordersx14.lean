/- The functions that the law reaches, as plain Lean functions, each with the proof that the Go code comes to its answers; conditions: those that each theorem names. (printed by a program of this session) -/
import Derived.Test.YthdknilfkbhalaaPFnBordersx0
import Derived.Test.YthdknilfkbhalaaPFnBordersx12
import Derived.Test.YthdknilfkbhalaaPFnBordersx13
namespace Go.Proofs.Ythdknilfkbhalaa.PFnBorders
open Go.RowKit Go.Proofs.YthdknilfkbhalaaW.PrintWords Go.Proofs.YthdknilfkbhalaaW.PrintLast Go.Proofs.YthdknilfkbhalaaW.PrintMore
attribute [local go_sem] max2_int min2_int max_two min_two max_three min_three max_four min_four   -- for this text's walks alone
set_option linter.unusedVariables false
set_option linter.unusedSimpArgs false

/-! ### impl_LawfulFlows: function 11 -/
def impl_LawfulFlows.l0 : Nat → List (S45) → List (S45) → Int → Int → List Int → Int → Int → Int → List (S60) → Option ((List (S45)))
  | 0, _, _, _, _, _, _, _, _, _ => none
  | k + 1, x7, x11, x12, x13, x499000, x500000, x500001, x500002, x500003 => if x13 < x12 then (if 0 ≤ x13 then (if x13 < (x11.length : Int) then ((impl_IsLanding.f k x499000 x500000 x500001 x500002 x500003 ((rd_T45 x11 x13).f2)).bind fun t505 => (if t505 = true then (if x7.length < 4398046511104 then (impl_LawfulFlows.l0 k (x7 ++ [(⟨(rd_T45 x11 x13).f0, (rd_T45 x11 x13).f1, (rd_T45 x11 x13).f2, (rd_T45 x11 x13).f3⟩ : S45)]) x11 x12 (wrap64 (x13 + 1)) x499000 x500000 x500001 x500002 x500003) else (none)) else (impl_LawfulFlows.l0 k x7 x11 x12 (wrap64 (x13 + 1)) x499000 x500000 x500001 x500002 x500003))) else (none)) else (none)) else (some x7)
def impl_LawfulFlows.f (k : Nat) (l0_0 : List Int) (a1_0 : Int) (a1_1 : Int) (a1_2 : Int) (l1_3 : List (S60)) (l2 : List (S45)) : Option ((List (S45))) := impl_LawfulFlows.l0 k (([] : List (S45))) l2 (l2.length : Int) 0 l0_0 a1_0 a1_1 a1_2 l1_3
set_option maxHeartbeats 8000000 in
set_option maxRecDepth 100000 in
theorem impl_LawfulFlows.calls (k : Nat) (A0_0 : Option Addr) (c0_0 : Nat) (l0_0 : List Int) (a1_0 : Int) (a1_1 : Int) (a1_2 : Int) (A1_3 : Option Addr) (c1_3 : Nat) (l1_3 : List (S60)) (A2 : Option Addr) (c2 : Nat) (l2 : List (S45)) (r : List (S45)) (w : World) (hr0_0 : Kd.C (Kd.int .i64) w A0_0 l0_0.length l0_0) (hc0_0 : l0_0.length ≤ c0_0) (hr1_3 : Kd.C k60 w A1_3 l1_3.length l1_3) (hc1_3 : l1_3.length ≤ c1_3) (hr2 : Kd.C k45 w A2 l2.length l2) (hc2 : l2.length ≤ c2) (h : impl_LawfulFlows.f k l0_0 a1_0 a1_1 a1_2 l1_3 l2 = some r) :
  Calls Try.prog 11 #[.agg #[.slice A0_0 l0_0.length c0_0], .agg #[.int .i64 a1_0, .int .i64 a1_1, .int .i64 a1_2, .slice A1_3 l1_3.length c1_3], .slice A2 l2.length c2] w fun e w' => ∃ v0_ : Value, e = .returned (v0_) ∧ Kd.R k45 45 w' w.heap.size (fun _ => True) v0_ r ∧ Below w.heap.size w w' := by
 have hu26 := Try.underlying26; have hu29 := Try.underlying29; have hu45 := Try.underlying45; have HR0_0 := aM_ hr0_0; have HC0_0 := aM_ hc0_0; clear hr0_0 hc0_0; have HR1_3 := aM_ hr1_3; have HC1_3 := aM_ hc1_3; clear hr1_3 hc1_3; have HR2 := aM_ hr2; have HC2 := aM_ hc2; clear hr2 hc2; have HB := aM_ (Below.refl w.heap.size w)
 have H : (impl_LawfulFlows.l0 k (([] : List (S45))) l2 (l2.length : Int) 0 l0_0 a1_0 a1_1 a1_2 l1_3) = some r := h
 clear h
 obtain ⟨y500, hy500⟩ : ∃ y_ : List (S45), y_ = (([] : List (S45))) := ⟨_, rfl⟩
 replace H : (impl_LawfulFlows.l0 k y500 l2 (l2.length : Int) 0 l0_0 a1_0 a1_1 a1_2 l1_3) = some r := by first | (rw [hy500]; with_reducible exact H) | (have H2_ := (Option.bind_some _ _).symm.trans H; rw [hy500]; with_reducible exact H2_) | (have H2_ := (Option.bind_some _ _).symm.trans H; with_reducible exact H2_) | with_reducible exact H | (rw [hy500]; exact H) | exact H
 have Ny500 := aM_ hy500; clear hy500
 have H' := aM_ H
 clear H
 go_enter Try.func11, Try.ntmps11
 go_wp2_with (first | ((with_reducible refine gate_dst (N := 3) rfl ?_); refine box_event ?hg (N := 3) ?hd (cs := #[.slice A0_0 l0_0.length c0_0]) (t := 26) ?hr ?_; (case hd => rfl); (case hg => rfl); (case hr => first | (go_simp; done) | (go_simp; rfl)); intro gb498 hg w4 hbox hb; have n0_ := aM_ (wS_ (bw_) hb); have n1_ := aM_ (hbox); have n2_ := aM_ ((by rw [hg]; exact (sZ_ (bw_)) : w.heap.size ≤ gb498)); have n3_ := aM_ ((by rw [hg]; exact (sZ_ (bw_)) : w.heap.size ≤ gb498)); clear HB; have HB := n0_; have BK498 := n1_; have GW498 := n2_; have GE498 := n3_; clear n0_ n1_ n2_ n3_ hb hbox hg) | ((with_reducible refine gate_dst (N := 4) rfl ?_); refine box_event ?hg (N := 4) ?hd (cs := #[.int .i64 a1_0, .int .i64 a1_1, .int .i64 a1_2, .slice A1_3 l1_3.length c1_3]) (t := 29) ?hr ?_; (case hd => rfl); (case hg => rfl); (case hr => first | (go_simp; done) | (go_simp; rfl)); intro gb499 hg w5 hbox hb; have n0_ := aM_ (bB_ (kb_ BK498.out) hb); have n1_ := aM_ (wS_ (bw_) hb); have n2_ := aM_ (hbox); have n3_ := aM_ ((by rw [hg]; exact (sZ_ (bw_)) : w.heap.size ≤ gb499)); have n4_ := aM_ ((by rw [hg]; exact (sZ_ (bw_)) : w.heap.size ≤ gb499)); have n5_ := aM_ ((by rw [hg]; exact Nat.ne_of_lt (blk_lt (kb_ BK498.out)) : gb498 ≠ gb499)); have n6_ := aM_ ((by rw [hg]; exact Nat.ne_of_gt (blk_lt (kb_ BK498.out)) : gb499 ≠ gb498)); clear BK498 HB; have BK498 := n0_; have HB := n1_; have BK499 := n2_; have GW499 := n3_; have GE499 := n4_; have NB498_499 := n5_; have NB499_498 := n6_; clear n0_ n1_ n2_ n3_ n4_ n5_ n6_ hb hbox hg) | ((with_reducible refine gate_dst (N := 10) rfl ?_); refine Kd.R_lit k45 _ 45 ?hg (N := 10) ?hd (xs := ([] : List (S45))) (inner := []) (ok := fun _ => True) (okp := fun _ => True) ?hr ?hp (fun _ hk => hk) trivial (Below.refl _ _) (Nat.le_refl _) (by simp) ?_; (case hd => rfl); (case hg => rfl); (case hr => first | (go_simp; done) | (go_simp; rfl)); (case hp => exact (Reps.none _ _)); intro v501 w6 ho7 hb hg_ hnew_; clear hg_ hnew_; (first | rw [← Ny500.out] at ho7 | (simp only [Int.reduceToNat] at ho7; rw [← Ny500.out] at ho7)); have n0_ := aM_ (Kd.R_lower ho7 (sZ_ (bw_))); have n1_ := aM_ (bB_ (kb_ BK498.out) hb); have n2_ := aM_ (bB_ (kb_ BK499.out) hb); have n3_ := aM_ (wS_ (bw_) hb); clear BK498 BK499 HB; have HO502 := n0_; have BK498 := n1_; have BK499 := n2_; have HB := n3_; clear n0_ n1_ n2_ n3_ hb ho7))
 go_loopg [7, 13] k (fun kq v7 v13 w' => ∃ (x7_1 : List (S45)) (x13_1 : Int), v13 = .int .i64 x13_1 ∧ Aside0 (impl_LawfulFlows.l0 kq x7_1 l2 (l2.length : Int) x13_1 l0_0 a1_0 a1_1 a1_2 l1_3 = some r) ∧ Aside0 (kq ≤ k) ∧ Aside0 (Kd.R k45 45 w' w.heap.size (fun _ => True) v7 x7_1) ∧ Aside0 (w'.heap[gb498]? = some (.cells #[(.slice A0_0 l0_0.length c0_0)] 26 (0, 0))) ∧ Aside0 (w'.heap[gb499]? = some (.cells #[.int .i64 a1_0, .int .i64 a1_1, .int .i64 a1_2, (.slice A1_3 l1_3.length c1_3)] 29 (0, 0))) ∧ Aside0 (Below w.heap.size w w'))
 case atStart => exact ⟨(y500), (0), (by first | rfl | (simp; done) | (simp [*]; done)), H', ⟨Nat.le_refl _⟩, ⟨by (with_reducible repeat (first | apply rA_ | apply rN_ | apply rD_)); exact HO502.out⟩, ⟨by (with_reducible repeat (first | refine bN_ ?_ _ | refine bD_ ?_ | refine bA_ ?_ _)); exact BK498.out⟩, ⟨by (with_reducible repeat (first | refine bN_ ?_ _ | refine bD_ ?_ | refine bA_ ?_ _)); exact BK499.out⟩, ⟨bw_⟩⟩
 case round =>
  clear H'
  obtain ⟨x7_1, x13_1, rfl, HA, HK1, HO_7, BK498, BK499, HB⟩ := hrel
  cases gk with
  | zero => exact absurd HA.out (by simp [impl_LawfulFlows.l0])
  | succ k1 =>
   have H := HA.out; clear HA
   simp only [impl_LawfulFlows.l0] at H
   by_cases c8 : x13_1 < (l2.length : Int)
   ·rw [if_pos c8] at H
    have c8b0 : decide (x13_1 < (l2.length : Int)) = true := decide_eq_true c8
    clear c8
    by_cases c9 : 0 ≤ x13_1
    ·rw [if_pos c9] at H
     have c9b0 : decide (0 ≤ x13_1) = true := decide_eq_true c9
     clear c9
     by_cases c10 : x13_1 < (l2.length : Int)
     ·rw [if_pos c10] at H
      have c10b0 : decide (x13_1 < (l2.length : Int)) = true := decide_eq_true c10
      clear c10
      replace H := Option.bind_eq_some_iff.mp H
      obtain ⟨t505, A110, H⟩ := H
      (try dsimp only at H)
      have A11 := aM_ A110; clear A110
      by_cases c12 : t505 = true
      ·subst c12
       have H1 : (if x7_1.length < 4398046511104 then (impl_LawfulFlows.l0 k1 (x7_1 ++ [(⟨(rd_T45 l2 x13_1).f0, (rd_T45 l2 x13_1).f1, (rd_T45 l2 x13_1).f2, (rd_T45 l2 x13_1).f3⟩ : S45)]) l2 (l2.length : Int) (wrap64 (x13_1 + 1)) l0_0 a1_0 a1_1 a1_2 l1_3) else (none)) = some r := by rw [if_pos rfl] at H; exact H
       clear H; have H := H1; clear H1
       by_cases c13 : x7_1.length < 4398046511104
       ·rw [if_pos c13] at H
        have LMc13 := aM_ c13; clear c13
        obtain ⟨y506, hy506⟩ : ∃ y_ : List (S45), y_ = (x7_1 ++ [(⟨(rd_T45 l2 x13_1).f0, (rd_T45 l2 x13_1).f1, (rd_T45 l2 x13_1).f2, (rd_T45 l2 x13_1).f3⟩ : S45)]) := ⟨_, rfl⟩
        replace H : (impl_LawfulFlows.l0 k1 y506 l2 (l2.length : Int) (wrap64 (x13_1 + 1)) l0_0 a1_0 a1_1 a1_2 l1_3) = some r := by first | (rw [hy506]; with_reducible exact H) | (have H2_ := (Option.bind_some _ _).symm.trans H; rw [hy506]; with_reducible exact H2_) | (have H2_ := (Option.bind_some _ _).symm.trans H; with_reducible exact H2_) | with_reducible exact H | (rw [hy506]; exact H) | exact H
        have Ny506 := aM_ hy506; clear hy506
        have H' := aM_ H
        clear H
        have p503 : 0 ≤ (x13_1 : Int) := dT_
        have q503 : x13_1 < (l2.length : Int) := dT_
        obtain ⟨ad503, e503, hx503_0, hx503_1, hx503_2, hx503_3⟩ := at_T45 HR2.out x13_1 p503 q503
        cases e503
        replace hx503_0 := (HB.out.cell (World.block_lt_of_cell? w _ hx503_0)).trans hx503_0
        replace hx503_1 := (HB.out.cell (World.block_lt_of_cell? w _ hx503_1)).trans hx503_1
        replace hx503_2 := (HB.out.cell (World.block_lt_of_cell? w _ hx503_2)).trans hx503_2
        replace hx503_3 := (HB.out.cell (World.block_lt_of_cell? w _ hx503_3)).trans hx503_3
        replace p503 := eq_true p503; replace q503 := eq_true q503
        go_wp2_with (first | ((with_reducible refine gate_dst (N := 9) rfl ?_); refine box_event ?hg (N := 9) ?hd (cs := #[.int .i64 0, .int .i64 0, .int .i64 0, .int .i64 0]) (t := 45) ?hr ?_; (case hd => rfl); (case hg => rfl); (case hr => first | (go_simp; done) | (go_simp; rfl)); intro gb504 hg w14 hbox hb; have n0_ := aM_ (rB_ (Kd.R_elderB (rb_ HO_7.out) gb504 (Nat.le_of_eq hg.symm)) hb); have n1_ := aM_ (bB_ (kb_ BK498.out) hb); have n2_ := aM_ (bB_ (kb_ BK499.out) hb); have n3_ := aM_ (wS_ (bw_) hb); have n4_ := aM_ (hbox); have n5_ := aM_ ((by rw [hg]; exact (sZ_ (bw_)) : w.heap.size ≤ gb504)); have n6_ := aM_ ((by rw [hg]; exact (sZ_ (bw_)) : w.heap.size ≤ gb504)); have n7_ := aM_ ((by rw [hg]; exact Nat.ne_of_lt (blk_lt (kb_ BK498.out)) : gb498 ≠ gb504)); have n8_ := aM_ ((by rw [hg]; exact Nat.ne_of_gt (blk_lt (kb_ BK498.out)) : gb504 ≠ gb498)); have n9_ := aM_ ((by rw [hg]; exact Nat.ne_of_lt (blk_lt (kb_ BK499.out)) : gb499 ≠ gb504)); have n10_ := aM_ ((by rw [hg]; exact Nat.ne_of_gt (blk_lt (kb_ BK499.out)) : gb504 ≠ gb499)); clear HO_7 BK498 BK499 HB; have HO_7 := n0_; have BK498 := n1_; have BK499 := n2_; have HB := n3_; have BK504 := n4_; have GW504 := n5_; have GE504 := n6_; have NB498_504 := n7_; have NB504_498 := n8_; have NB499_504 := n9_; have NB504_499 := n10_; clear n0_ n1_ n2_ n3_ n4_ n5_ n6_ n7_ n8_ n9_ n10_ hb hbox hg; have hnb15 := NB504_498.out; have hnc15 := NB498_504.out; have hnb16 := NB504_499.out; have hnc16 := NB499_504.out; obtain ⟨hcz17_0, hcz17_1, hcz17_2, hcz17_3, hfz17_0, hfz17_1, hfz17_2, hfz17_3⟩ := bk4_ BK504.out; have hnb18 := NB498_499.out; have hnc18 := NB499_498.out; have hcz19_0 : w14.cell? ⟨gb498, 0, none⟩ = some (.slice A0_0 l0_0.length c0_0) := (blk_cell BK498.out 0).trans rfl; have hfz19_0 := blk_frozen BK498.out 0; obtain ⟨hcz20_0, hcz20_1, hcz20_2, hcz20_3, hfz20_0, hfz20_1, hfz20_2, hfz20_3⟩ := bk4_ BK499.out) | ((with_reducible refine gate_callee (f := 12) rfl ?_); refine goesL_ (some 21) rfl rfl Try.func12 (by kernel_rfl) rfl #[.agg #[.slice A0_0 l0_0.length c0_0], .agg #[.int .i64 a1_0, .int .i64 a1_1, .int .i64 a1_2, .slice A1_3 l1_3.length c1_3], .int .i64 ((rd_T45 l2 x13_1).f2)] rfl (by (try simp only [List.map_toArray, List.map_cons, List.map_nil]); first | done | rfl | (simp only [List.length_drop, List.length_take]; rfl)) ?_; (with_reducible refine (impl_IsLanding.calls k1 _ _ l0_0 a1_0 a1_1 a1_2 _ _ l1_3 ((rd_T45 l2 x13_1).f2) true _ ?side1 ?side2 ?side3 ?side4 A11.out).mono ?_); (case side1 => exact Kd.C_below HR0_0.out (bw_)); (case side2 => exact HC0_0.out); (case side3 => exact Kd.C_below HR1_3.out (bw_)); (case side4 => exact HC1_3.out); rintro e w21 ⟨rfl, hb⟩; refine ⟨_, rfl, ?_⟩; have n0_ := aM_ (rB_ (by (with_reducible repeat (first | apply rA_ | apply rN_ | apply rD_)); exact (Kd.R_mono (Kd.R_far (p := ⟨gb504, 3, none⟩) (Kd.R_far (p := ⟨gb504, 2, none⟩) (Kd.R_far (p := ⟨gb504, 1, none⟩) (Kd.R_far (p := ⟨gb504, 0, none⟩) (Kd.R_mono HO_7.out (fun k_ hk => (⟨hk, hk.2⟩ : _ ∧ k_ ≠ gb504))) (fun _ hk => hk.2) (.int .i64 ((rd_T45 l2 x13_1).f0))) (fun _ hk => hk.2) (.int .i64 ((rd_T45 l2 x13_1).f1))) (fun _ hk => hk.2) (.int .i64 ((rd_T45 l2 x13_1).f2))) (fun _ hk => hk.2) (.int .i64 ((rd_T45 l2 x13_1).f3))) (fun _ h_ => h_.1))) hb); have n1_ := aM_ (bB_ (g := gb498) (o := .cells #[.slice A0_0 l0_0.length c0_0] 26 (0, 0)) (by (with_reducible repeat (first | refine bN_ ?_ _ | refine bD_ ?_ | refine bA_ ?_ _)); refine blk_far ?_ NB498_504.out _; (with_reducible repeat (first | refine bN_ ?_ _ | refine bD_ ?_ | refine bA_ ?_ _)); refine blk_far ?_ NB498_504.out _; (with_reducible repeat (first | refine bN_ ?_ _ | refine bD_ ?_ | refine bA_ ?_ _)); refine blk_far ?_ NB498_504.out _; (with_reducible repeat (first | refine bN_ ?_ _ | refine bD_ ?_ | refine bA_ ?_ _)); refine blk_far ?_ NB498_504.out _; (with_reducible repeat (first | refine bN_ ?_ _ | refine bD_ ?_ | refine bA_ ?_ _)); exact BK498.out) hb); have n2_ := aM_ (bB_ (g := gb499) (o := .cells #[.int .i64 a1_0, .int .i64 a1_1, .int .i64 a1_2, .slice A1_3 l1_3.length c1_3] 29 (0, 0)) (by (with_reducible repeat (first | refine bN_ ?_ _ | refine bD_ ?_ | refine bA_ ?_ _)); refine blk_far ?_ NB499_504.out _; (with_reducible repeat (first | refine bN_ ?_ _ | refine bD_ ?_ | refine bA_ ?_ _)); refine blk_far ?_ NB499_504.out _; (with_reducible repeat (first | refine bN_ ?_ _ | refine bD_ ?_ | refine bA_ ?_ _)); refine blk_far ?_ NB499_504.out _; (with_reducible repeat (first | refine bN_ ?_ _ | refine bD_ ?_ | refine bA_ ?_ _)); refine blk_far ?_ NB499_504.out _; (with_reducible repeat (first | refine bN_ ?_ _ | refine bD_ ?_ | refine bA_ ?_ _)); exact BK499.out) hb); have n3_ := aM_ (bB_ (g := gb504) (o := .cells #[.int .i64 ((rd_T45 l2 x13_1).f0), .int .i64 ((rd_T45 l2 x13_1).f1), .int .i64 ((rd_T45 l2 x13_1).f2), .int .i64 ((rd_T45 l2 x13_1).f3)] 45 (0, 0)) (by (with_reducible repeat (first | refine bN_ ?_ _ | refine bD_ ?_ | refine bA_ ?_ _)); refine blk_put (cs := #[.int .i64 ((rd_T45 l2 x13_1).f0), .int .i64 ((rd_T45 l2 x13_1).f1), .int .i64 ((rd_T45 l2 x13_1).f2), .int .i64 0]) ?_ 3 _ rfl; (with_reducible repeat (first | refine bN_ ?_ _ | refine bD_ ?_ | refine bA_ ?_ _)); refine blk_put (cs := #[.int .i64 ((rd_T45 l2 x13_1).f0), .int .i64 ((rd_T45 l2 x13_1).f1), .int .i64 0, .int .i64 0]) ?_ 2 _ rfl; (with_reducible repeat (first | refine bN_ ?_ _ | refine bD_ ?_ | refine bA_ ?_ _)); refine blk_put (cs := #[.int .i64 ((rd_T45 l2 x13_1).f0), .int .i64 0, .int .i64 0, .int .i64 0]) ?_ 1 _ rfl; (with_reducible repeat (first | refine bN_ ?_ _ | refine bD_ ?_ | refine bA_ ?_ _)); refine blk_put (cs := #[.int .i64 0, .int .i64 0, .int .i64 0, .int .i64 0]) ?_ 0 _ rfl; (with_reducible repeat (first | refine bN_ ?_ _ | refine bD_ ?_ | refine bA_ ?_ _)); exact BK504.out) hb); have n4_ := aM_ (wS_ (bw_) hb); clear HO_7 BK498 BK499 BK504 HB; have HO_7 := n0_; have BK498 := n1_; have BK499 := n2_; have BK504 := n3_; have HB := n4_; clear n0_ n1_ n2_ n3_ n4_; (try clear hb); (try clear hb2); (try clear hk); (try clear hi); obtain ⟨hcz22_0, hcz22_1, hcz22_2, hcz22_3, hfz22_0, hfz22_1, hfz22_2, hfz22_3⟩ := bk4_ BK504.out) | ((with_reducible refine gate_builtin (b := .append) (xs := #[.tmp 22, .tmp 24]) rfl ?_); at_builtin; refine Kd.R_append k45 (w0 := w) w.heap.size rfl (.tmp 22) (.tmp 24) 39 45 (.agg #[(.int .i64 0), (.int .i64 0), (.int .i64 0), (.int .i64 0)]) 32 rfl Try.underlying39 info45 rfl (by decide) (by omega) u7 x7_1 (⟨(rd_T45 l2 x13_1).f0, (rd_T45 l2 x13_1).f1, (rd_T45 l2 x13_1).f2, (rd_T45 l2 x13_1).f3⟩ : S45) [.int .i64 ((rd_T45 l2 x13_1).f0), .int .i64 ((rd_T45 l2 x13_1).f1), .int .i64 ((rd_T45 l2 x13_1).f2), .int .i64 ((rd_T45 l2 x13_1).f3)] (fun k_ => k_ ≠ gb504) (fun _ => False) rfl rfl ?aP (fun _ hk => hk.elim) ?aF ?aO ?aB ?aS ?aL ?_; (case aP => exact k45_mkM _ _ _ (⟨(rd_T45 l2 x13_1).f0, (rd_T45 l2 x13_1).f1, (rd_T45 l2 x13_1).f2, (rd_T45 l2 x13_1).f3⟩ : S45)); (case aB => exact (bw_)); (case aF => exact (fun k_ hk => Kd.freshB (kb_ BK504.out) k_ hk)); (case aO => exact (by (with_reducible repeat (first | apply rA_ | apply rN_ | apply rD_)); exact Kd.R_mono HO_7.out (fun _ hk => hk.2))); (case aS => exact (sZ_ (bw_))); (case aL => have := LMc13.out; omega); intro v507 w23 ho hb hg hat; rw [← Ny506.out] at ho; have n0_ := aM_ (blk_grown (kb_ BK498.out) hg (Kd.R_ne HO_7.out BK498.out (by decide))); have n1_ := aM_ (blk_grown (kb_ BK499.out) hg (Kd.R_ne HO_7.out BK499.out (by decide))); have n2_ := aM_ (blk_grown (kb_ BK504.out) hg (Kd.R_away HO_7.out (fun _ hk => hk.2))); have n3_ := aM_ (hb); have n4_ := aM_ (ho); clear BK498 BK499 BK504 HB HO_7; have BK498 := n0_; have BK499 := n1_; have BK504 := n2_; have HB := n3_; have HO508 := n4_; clear n0_ n1_ n2_ n3_ n4_ ho hb hg hat))
        go_roundg k1
        case measure => have := HK1.out; omega
        case rel => exact ⟨(y506), (wrap64 (x13_1 + 1)), (by first | rfl | (simp; done) | (simp [*]; done)), H', ⟨by have := HK1.out; omega⟩, ⟨by (with_reducible repeat (first | apply rA_ | apply rN_ | apply rD_)); exact Kd.R_mono HO508.out (fun _ hk => trivial)⟩, ⟨by (with_reducible repeat (first | refine bN_ ?_ _ | refine bD_ ?_ | refine bA_ ?_ _)); exact BK498.out⟩, ⟨by (with_reducible repeat (first | refine bN_ ?_ _ | refine bD_ ?_ | refine bA_ ?_ _)); exact BK499.out⟩, ⟨bw_⟩⟩
       ·rw [if_neg c13] at H
        exact absurd H (by simp)
      ·replace c12 := Bool.eq_false_iff.mpr c12
       subst c12
       have H1 : (impl_LawfulFlows.l0 k1 x7_1 l2 (l2.length : Int) (wrap64 (x13_1 + 1)) l0_0 a1_0 a1_1 a1_2 l1_3) = some r := by rw [if_neg (show ¬ (false = true) by decide)] at H; exact H
       clear H; have H := H1; clear H1
       have H' := aM_ H
       clear H
       have p503 : 0 ≤ (x13_1 : Int) := dT_
       have q503 : x13_1 < (l2.length : Int) := dT_
       obtain ⟨ad503, e503, hx503_0, hx503_1, hx503_2, hx503_3⟩ := at_T45 HR2.out x13_1 p503 q503
       cases e503
       replace hx503_0 := (HB.out.cell (World.block_lt_of_cell? w _ hx503_0)).trans hx503_0
       replace hx503_1 := (HB.out.cell (World.block_lt_of_cell? w _ hx503_1)).trans hx503_1
       replace hx503_2 := (HB.out.cell (World.block_lt_of_cell? w _ hx503_2)).trans hx503_2
       replace hx503_3 := (HB.out.cell (World.block_lt_of_cell? w _ hx503_3)).trans hx503_3
       replace p503 := eq_true p503; replace q503 := eq_true q503
       go_wp2_with (first | ((with_reducible refine gate_dst (N := 9) rfl ?_); refine box_event ?hg (N := 9) ?hd (cs := #[.int .i64 0, .int .i64 0, .int .i64 0, .int .i64 0]) (t := 45) ?hr ?_; (case hd => rfl); (case hg => rfl); (case hr => first | (go_simp; done) | (go_simp; rfl)); intro gb504 hg w24 hbox hb; have n0_ := aM_ (rB_ (Kd.R_elderB (rb_ HO_7.out) gb504 (Nat.le_of_eq hg.symm)) hb); have n1_ := aM_ (bB_ (kb_ BK498.out) hb); have n2_ := aM_ (bB_ (kb_ BK499.out) hb); have n3_ := aM_ (wS_ (bw_) hb); have n4_ := aM_ (hbox); have n5_ := aM_ ((by rw [hg]; exact (sZ_ (bw_)) : w.heap.size ≤ gb504)); have n6_ := aM_ ((by rw [hg]; exact (sZ_ (bw_)) : w.heap.size ≤ gb504)); have n7_ := aM_ ((by rw [hg]; exact Nat.ne_of_lt (blk_lt (kb_ BK498.out)) : gb498 ≠ gb504)); have n8_ := aM_ ((by rw [hg]; exact Nat.ne_of_gt (blk_lt (kb_ BK498.out)) : gb504 ≠ gb498)); have n9_ := aM_ ((by rw [hg]; exact Nat.ne_of_lt (blk_lt (kb_ BK499.out)) : gb499 ≠ gb504)); have n10_ := aM_ ((by rw [hg]; exact Nat.ne_of_gt (blk_lt (kb_ BK499.out)) : gb504 ≠ gb499)); clear HO_7 BK498 BK499 HB; have HO_7 := n0_; have BK498 := n1_; have BK499 := n2_; have HB := n3_; have BK504 := n4_; have GW504 := n5_; have GE504 := n6_; have NB498_504 := n7_; have NB504_498 := n8_; have NB499_504 := n9_; have NB504_499 := n10_; clear n0_ n1_ n2_ n3_ n4_ n5_ n6_ n7_ n8_ n9_ n10_ hb hbox hg; have hnb25 := NB504_498.out; have hnc25 := NB498_504.out; have hnb26 := NB504_499.out; have hnc26 := NB499_504.out; obtain ⟨hcz27_0, hcz27_1, hcz27_2, hcz27_3, hfz27_0, hfz27_1, hfz27_2, hfz27_3⟩ := bk4_ BK504.out; have hnb28 := NB498_499.out; have hnc28 := NB499_498.out; have hcz29_0 : w24.cell? ⟨gb498, 0, none⟩ = some (.slice A0_0 l0_0.length c0_0) := (blk_cell BK498.out 0).trans rfl; have hfz29_0 := blk_frozen BK498.out 0; obtain ⟨hcz30_0, hcz30_1, hcz30_2, hcz30_3, hfz30_0, hfz30_1, hfz30_2, hfz30_3⟩ := bk4_ BK499.out) | ((with_reducible refine gate_callee (f := 12) rfl ?_); refine goesL_ (some 21) rfl rfl Try.func12 (by kernel_rfl) rfl #[.agg #[.slice A0_0 l0_0.length c0_0], .agg #[.int .i64 a1_0, .int .i64 a1_1, .int .i64 a1_2, .slice A1_3 l1_3.length c1_3], .int .i64 ((rd_T45 l2 x13_1).f2)] rfl (by (try simp only [List.map_toArray, List.map_cons, List.map_nil]); first | done | rfl | (simp only [List.length_drop, List.length_take]; rfl)) ?_; (with_reducible refine (impl_IsLanding.calls k1 _ _ l0_0 a1_0 a1_1 a1_2 _ _ l1_3 ((rd_T45 l2 x13_1).f2) false _ ?side1 ?side2 ?side3 ?side4 A11.out).mono ?_); (case side1 => exact Kd.C_below HR0_0.out (bw_)); (case side2 => exact HC0_0.out); (case side3 => exact Kd.C_below HR1_3.out (bw_)); (case side4 => exact HC1_3.out); rintro e w31 ⟨rfl, hb⟩; refine ⟨_, rfl, ?_⟩; have n0_ := aM_ (rB_ (by (with_reducible repeat (first | apply rA_ | apply rN_ | apply rD_)); exact (Kd.R_mono (Kd.R_far (p := ⟨gb504, 3, none⟩) (Kd.R_far (p := ⟨gb504, 2, none⟩) (Kd.R_far (p := ⟨gb504, 1, none⟩) (Kd.R_far (p := ⟨gb504, 0, none⟩) (Kd.R_mono HO_7.out (fun k_ hk => (⟨hk, hk.2⟩ : _ ∧ k_ ≠ gb504))) (fun _ hk => hk.2) (.int .i64 ((rd_T45 l2 x13_1).f0))) (fun _ hk => hk.2) (.int .i64 ((rd_T45 l2 x13_1).f1))) (fun _ hk => hk.2) (.int .i64 ((rd_T45 l2 x13_1).f2))) (fun _ hk => hk.2) (.int .i64 ((rd_T45 l2 x13_1).f3))) (fun _ h_ => h_.1))) hb); have n1_ := aM_ (bB_ (g := gb498) (o := .cells #[.slice A0_0 l0_0.length c0_0] 26 (0, 0)) (by (with_reducible repeat (first | refine bN_ ?_ _ | refine bD_ ?_ | refine bA_ ?_ _)); refine blk_far ?_ NB498_504.out _; (with_reducible repeat (first | refine bN_ ?_ _ | refine bD_ ?_ | refine bA_ ?_ _)); refine blk_far ?_ NB498_504.out _; (with_reducible repeat (first | refine bN_ ?_ _ | refine bD_ ?_ | refine bA_ ?_ _)); refine blk_far ?_ NB498_504.out _; (with_reducible repeat (first | refine bN_ ?_ _ | refine bD_ ?_ | refine bA_ ?_ _)); refine blk_far ?_ NB498_504.out _; (with_reducible repeat (first | refine bN_ ?_ _ | refine bD_ ?_ | refine bA_ ?_ _)); exact BK498.out) hb); have n2_ := aM_ (bB_ (g := gb499) (o := .cells #[.int .i64 a1_0, .int .i64 a1_1, .int .i64 a1_2, .slice A1_3 l1_3.length c1_3] 29 (0, 0)) (by (with_reducible repeat (first | refine bN_ ?_ _ | refine bD_ ?_ | refine bA_ ?_ _)); refine blk_far ?_ NB499_504.out _; (with_reducible repeat (first | refine bN_ ?_ _ | refine bD_ ?_ | refine bA_ ?_ _)); refine blk_far ?_ NB499_504.out _; (with_reducible repeat (first | refine bN_ ?_ _ | refine bD_ ?_ | refine bA_ ?_ _)); refine blk_far ?_ NB499_504.out _; (with_reducible repeat (first | refine bN_ ?_ _ | refine bD_ ?_ | refine bA_ ?_ _)); refine blk_far ?_ NB499_504.out _; (with_reducible repeat (first | refine bN_ ?_ _ | refine bD_ ?_ | refine bA_ ?_ _)); exact BK499.out) hb); have n3_ := aM_ (bB_ (g := gb504) (o := .cells #[.int .i64 ((rd_T45 l2 x13_1).f0), .int .i64 ((rd_T45 l2 x13_1).f1), .int .i64 ((rd_T45 l2 x13_1).f2), .int .i64 ((rd_T45 l2 x13_1).f3)] 45 (0, 0)) (by (with_reducible repeat (first | refine bN_ ?_ _ | refine bD_ ?_ | refine bA_ ?_ _)); refine blk_put (cs := #[.int .i64 ((rd_T45 l2 x13_1).f0), .int .i64 ((rd_T45 l2 x13_1).f1), .int .i64 ((rd_T45 l2 x13_1).f2), .int .i64 0]) ?_ 3 _ rfl; (with_reducible repeat (first | refine bN_ ?_ _ | refine bD_ ?_ | refine bA_ ?_ _)); refine blk_put (cs := #[.int .i64 ((rd_T45 l2 x13_1).f0), .int .i64 ((rd_T45 l2 x13_1).f1), .int .i64 0, .int .i64 0]) ?_ 2 _ rfl; (with_reducible repeat (first | refine bN_ ?_ _ | refine bD_ ?_ | refine bA_ ?_ _)); refine blk_put (cs := #[.int .i64 ((rd_T45 l2 x13_1).f0), .int .i64 0, .int .i64 0, .int .i64 0]) ?_ 1 _ rfl; (with_reducible repeat (first | refine bN_ ?_ _ | refine bD_ ?_ | refine bA_ ?_ _)); refine blk_put (cs := #[.int .i64 0, .int .i64 0, .int .i64 0, .int .i64 0]) ?_ 0 _ rfl; (with_reducible repeat (first | refine bN_ ?_ _ | refine bD_ ?_ | refine bA_ ?_ _)); exact BK504.out) hb); have n4_ := aM_ (wS_ (bw_) hb); clear HO_7 BK498 BK499 BK504 HB; have HO_7 := n0_; have BK498 := n1_; have BK499 := n2_; have BK504 := n3_; have HB := n4_; clear n0_ n1_ n2_ n3_ n4_; (try clear hb); (try clear hb2); (try clear hk); (try clear hi)))
       go_roundg k1
       case measure => have := HK1.out; omega
       case rel => exact ⟨(x7_1), (wrap64 (x13_1 + 1)), (by first | rfl | (simp; done) | (simp [*]; done)), H', ⟨by have := HK1.out; omega⟩, ⟨by (with_reducible repeat (first | apply rA_ | apply rN_ | apply rD_)); exact Kd.R_mono HO_7.out (fun _ hk => trivial)⟩, ⟨by (with_reducible repeat (first | refine bN_ ?_ _ | refine bD_ ?_ | refine bA_ ?_ _)); exact BK498.out⟩, ⟨by (with_reducible repeat (first | refine bN_ ?_ _ | refine bD_ ?_ | refine bA_ ?_ _)); exact BK499.out⟩, ⟨bw_⟩⟩
     ·rw [if_neg c10] at H
      exact absurd H (by simp)
    ·rw [if_neg c9] at H
     exact absurd H (by simp)
   ·rw [if_neg c8] at H
    have c8b0 : decide (x13_1 < (l2.length : Int)) = false := decide_eq_false c8
    clear c8
    obtain rfl := Option.some.inj H
    go_wp2
    go_ret
    exact ⟨_, by first | rfl | (simp [errW_none, errW_some] <;> rfl) | (simp [*, errW_none, errW_some] <;> rfl), by (with_reducible repeat (first | apply rA_ | apply rN_ | apply rD_)); exact HO_7.out, bw_⟩

/-! ### impl_ServedBy: function 13 -/
def impl_ServedBy.l0 : Nat → Int → Int → Int → Int → List Int → Int → Int → Int → List (S60) → Option (Int)
  | 0, _, _, _, _, _, _, _, _, _ => none
  | k + 1, x2, x7, x12, x13, x510000, x511000, x511001, x511002, x511003 => if x13 < x12 then ((impl_LandingFor.f k x510000 x511000 x511001 x511002 x511003 x13 x2).bind fun t511 => (if t511 ≥ 0 then (impl_ServedBy.l0 k x2 (wrap64 (x7 + 1)) x12 (wrap64 (x13 + 1)) x510000 x511000 x511001 x511002 x511003) else (impl_ServedBy.l0 k x2 x7 x12 (wrap64 (x13 + 1)) x510000 x511000 x511001 x511002 x511003))) else (some x7)
def impl_ServedBy.f (k : Nat) (l0_0 : List Int) (a1_0 : Int) (a1_1 : Int) (a1_2 : Int) (l1_3 : List (S60)) (a2 : Int) : Option (Int) := impl_ServedBy.l0 k a2 0 (mx 0 (mn a1_0 12)) 0 l0_0 a1_0 a1_1 a1_2 l1_3
set_option maxHeartbeats 8000000 in
set_option maxRecDepth 100000 in
theorem impl_ServedBy.calls (k : Nat) (A0_0 : Option Addr) (c0_0 : Nat) (l0_0 : List Int) (a1_0 : Int) (a1_1 : Int) (a1_2 : Int) (A1_3 : Option Addr) (c1_3 : Nat) (l1_3 : List (S60)) (a2 : Int) (r : Int) (w : World) (hr0_0 : Kd.C (Kd.int .i64) w A0_0 l0_0.length l0_0) (hc0_0 : l0_0.length ≤ c0_0) (hr1_3 : Kd.C k60 w A1_3 l1_3.length l1_3) (hc1_3 : l1_3.length ≤ c1_3) (h : impl_ServedBy.f k l0_0 a1_0 a1_1 a1_2 l1_3 a2 = some r) :
  Calls Try.prog 13 #[.agg #[.slice A0_0 l0_0.length c0_0], .agg #[.int .i64 a1_0, .int .i64 a1_1, .int .i64 a1_2, .slice A1_3 l1_3.length c1_3], .int .i64 a2] w fun e w' => e = .returned (.int .i64 r) ∧ Below w.heap.size w w' := by
 have hu26 := Try.underlying26; have hu29 := Try.underlying29; have HR0_0 := aM_ hr0_0; have HC0_0 := aM_ hc0_0; clear hr0_0 hc0_0; have HR1_3 := aM_ hr1_3; have HC1_3 := aM_ hc1_3; clear hr1_3 hc1_3; have HB := aM_ (Below.refl w.heap.size w)
 have H : (impl_ServedBy.l0 k a2 0 (mx 0 (mn a1_0 12)) 0 l0_0 a1_0 a1_1 a1_2 l1_3) = some r := h
 clear h
 obtain ⟨ji4, hji4⟩ : ∃ j_ : Int, (mn a1_0 12) = j_ := ⟨_, rfl⟩
 replace H : (impl_ServedBy.l0 k a2 0 (mx 0 (ji4)) 0 l0_0 a1_0 a1_1 a1_2 l1_3) = some r := by first | (rw [hji4] at H; exact H) | (simp only [hji4] at H ⊢; exact H)
 (try (have hji4h : ji4 ≤ 12 := by (rw [← hji4]; unfold mn; (repeat' split) <;> omega)))
 (try (have hji4g : ji4 ≤ 64 := by omega))
 have hji4_ : (if 12 < a1_0 then 12 else a1_0) = ji4 := hji4
 obtain ⟨ji5, hji5⟩ : ∃ j_ : Int, (mx 0 (ji4)) = j_ := ⟨_, rfl⟩
 replace H : (impl_ServedBy.l0 k a2 0 ji5 0 l0_0 a1_0 a1_1 a1_2 l1_3) = some r := by first | (rw [hji5] at H; exact H) | (simp only [hji5] at H ⊢; exact H)
 have hji5_ : (if 0 < (ji4) then (ji4) else 0) = ji5 := hji5
 have H' := aM_ H
 clear H
 go_enter Try.func13, Try.ntmps13
 go_wp2_with (first | ((with_reducible refine gate_dst (N := 3) rfl ?_); refine box_event ?hg (N := 3) ?hd (cs := #[.slice A0_0 l0_0.length c0_0]) (t := 26) ?hr ?_; (case hd => rfl); (case hg => rfl); (case hr => first | (go_simp; done) | (go_simp; rfl)); intro gb509 hg w6 hbox hb; have n0_ := aM_ (wS_ (bw_) hb); have n1_ := aM_ (hbox); have n2_ := aM_ ((by rw [hg]; exact (sZ_ (bw_)) : w.heap.size ≤ gb509)); have n3_ := aM_ ((by rw [hg]; exact (sZ_ (bw_)) : w.heap.size ≤ gb509)); clear HB; have HB := n0_; have BK509 := n1_; have GW509 := n2_; have GE509 := n3_; clear n0_ n1_ n2_ n3_ hb hbox hg) | ((with_reducible refine gate_dst (N := 4) rfl ?_); refine box_event ?hg (N := 4) ?hd (cs := #[.int .i64 a1_0, .int .i64 a1_1, .int .i64 a1_2, .slice A1_3 l1_3.length c1_3]) (t := 29) ?hr ?_; (case hd => rfl); (case hg => rfl); (case hr => first | (go_simp; done) | (go_simp; rfl)); intro gb510 hg w7 hbox hb; have n0_ := aM_ (bB_ (kb_ BK509.out) hb); have n1_ := aM_ (wS_ (bw_) hb); have n2_ := aM_ (hbox); have n3_ := aM_ ((by rw [hg]; exact (sZ_ (bw_)) : w.heap.size ≤ gb510)); have n4_ := aM_ ((by rw [hg]; exact (sZ_ (bw_)) : w.heap.size ≤ gb510)); have n5_ := aM_ ((by rw [hg]; exact Nat.ne_of_lt (blk_lt (kb_ BK509.out)) : gb509 ≠ gb510)); have n6_ := aM_ ((by rw [hg]; exact Nat.ne_of_gt (blk_lt (kb_ BK509.out)) : gb510 ≠ gb509)); clear BK509 HB; have BK509 := n0_; have HB := n1_; have BK510 := n2_; have GW510 := n3_; have GE510 := n4_; have NB509_510 := n5_; have NB510_509 := n6_; clear n0_ n1_ n2_ n3_ n4_ n5_ n6_ hb hbox hg; have hnb8 := NB510_509.out; have hnc8 := NB509_510.out; obtain ⟨hcz9_0, hcz9_1, hcz9_2, hcz9_3, hfz9_0, hfz9_1, hfz9_2, hfz9_3⟩ := bk4_ BK510.out))
 go_loopg [7, 13] k (fun kq v7 v13 w' => ∃ (x7_1 : Int) (x13_1 : Int), v7 = .int .i64 x7_1 ∧ v13 = .int .i64 x13_1 ∧ Aside0 (impl_ServedBy.l0 kq a2 x7_1 ji5 x13_1 l0_0 a1_0 a1_1 a1_2 l1_3 = some r) ∧ Aside0 (kq ≤ k) ∧ Aside0 (w'.heap[gb509]? = some (.cells #[(.slice A0_0 l0_0.length c0_0)] 26 (0, 0))) ∧ Aside0 (w'.heap[gb510]? = some (.cells #[.int .i64 a1_0, .int .i64 a1_1, .int .i64 a1_2, (.slice A1_3 l1_3.length c1_3)] 29 (0, 0))) ∧ Aside0 (Below w.heap.size w w'))
 case atStart => exact ⟨(0), (0), (by first | rfl | (simp; done) | (simp [*]; done)), (by first | rfl | (simp; done) | (simp [*]; done)), H', ⟨Nat.le_refl _⟩, ⟨by (with_reducible repeat (first | refine bN_ ?_ _ | refine bD_ ?_ | refine bA_ ?_ _)); exact BK509.out⟩, ⟨by (with_reducible repeat (first | refine bN_ ?_ _ | refine bD_ ?_ | refine bA_ ?_ _)); exact BK510.out⟩, ⟨bw_⟩⟩
 case round =>
  clear H'
  try clear hcz9_0
  try clear hcz9_1
  try clear hcz9_2
  try clear hcz9_3
  try clear hfz9_0
  try clear hfz9_1
  try clear hfz9_2
  try clear hfz9_3
  obtain ⟨x7_1, x13_1, rfl, rfl, HA, HK1, BK509, BK510, HB⟩ := hrel
  cases gk with
  | zero => exact absurd HA.out (by simp [impl_ServedBy.l0])
  | succ k1 =>
   have H := HA.out; clear HA
   simp only [impl_ServedBy.l0] at H
   by_cases c10 : x13_1 < ji5
   ·rw [if_pos c10] at H
    have c10b0 : decide (x13_1 < ji5) = true := decide_eq_true c10
    clear c10
    replace H := Option.bind_eq_some_iff.mp H
    obtain ⟨t511, A110, H⟩ := H
    (try dsimp only at H)
    have A11 := aM_ A110; clear A110
    by_cases c12 : t511 ≥ 0
    ·rw [if_pos c12] at H
     have c12b0 : decide (0 ≤ t511) = true := decide_eq_true c12
     clear c12
     have H' := aM_ H
     clear H; have hnb13 := NB509_510.out; have hnc13 := NB510_509.out
     have hcz14_0 : wr.cell? ⟨gb509, 0, none⟩ = some (.slice A0_0 l0_0.length c0_0) := (blk_cell BK509.out 0).trans rfl
     have hfz14_0 := blk_frozen BK509.out 0
     have hcz15_0 : wr.cell? ⟨gb510, 0, none⟩ = some (.int .i64 a1_0) := (blk_cell BK510.out 0).trans rfl
     have hcz15_1 : wr.cell? ⟨gb510, 1, none⟩ = some (.int .i64 a1_1) := (blk_cell BK510.out 1).trans rfl
     have hcz15_2 : wr.cell? ⟨gb510, 2, none⟩ = some (.int .i64 a1_2) := (blk_cell BK510.out 2).trans rfl
     have hcz15_3 : wr.cell? ⟨gb510, 3, none⟩ = some (.slice A1_3 l1_3.length c1_3) := (blk_cell BK510.out 3).trans rfl
     have hfz15_0 := blk_frozen BK510.out 0; have hfz15_1 := blk_frozen BK510.out 1; have hfz15_2 := blk_frozen BK510.out 2; have hfz15_3 := blk_frozen BK510.out 3
     go_wp2_with (first | ((with_reducible refine gate_callee (f := 6) rfl ?_); refine goesL_ (some 20) rfl rfl Try.func6 (by kernel_rfl) rfl #[.agg #[.slice A0_0 l0_0.length c0_0], .agg #[.int .i64 a1_0, .int .i64 a1_1, .int .i64 a1_2, .slice A1_3 l1_3.length c1_3], .int .i64 x13_1, .int .i64 a2] rfl (by (try simp only [List.map_toArray, List.map_cons, List.map_nil]); first | done | rfl | (simp only [List.length_drop, List.length_take]; rfl)) ?_; (with_reducible refine (impl_LandingFor.calls k1 _ _ l0_0 a1_0 a1_1 a1_2 _ _ l1_3 x13_1 a2 t511 _ ?side1 ?side2 ?side3 ?side4 A11.out).mono ?_); (case side1 => repeat (first | exact (Kd.C_below HR0_0.out HB.out) | (with_reducible refine cA_ ?_ _) | (with_reducible refine cN_ ?_ _) | (with_reducible refine cD_ ?_))); (case side2 => exact HC0_0.out); (case side3 => repeat (first | exact (Kd.C_below HR1_3.out HB.out) | (with_reducible refine cA_ ?_ _) | (with_reducible refine cN_ ?_ _) | (with_reducible refine cD_ ?_))); (case side4 => exact HC1_3.out); rintro e w16 ⟨rfl, hb⟩; refine ⟨_, rfl, ?_⟩; have n0_ := aM_ (bB_ (kb_ BK509.out) hb); have n1_ := aM_ (bB_ (kb_ BK510.out) hb); have n2_ := aM_ (wS_ (bw_) hb); clear BK509 BK510 HB; have BK509 := n0_; have BK510 := n1_; have HB := n2_; clear n0_ n1_ n2_; (try clear hb); (try clear hb2); (try clear hk); (try clear hi)))
     go_roundg k1
     case measure => have := HK1.out; omega
     case rel => exact ⟨(wrap64 (x7_1 + 1)), (wrap64 (x13_1 + 1)), (by first | rfl | (simp; done) | (simp [*]; done)), (by first | rfl | (simp; done) | (simp [*]; done)), H', ⟨by have := HK1.out; omega⟩, ⟨by (with_reducible repeat (first | refine bN_ ?_ _ | refine bD_ ?_ | refine bA_ ?_ _)); exact BK509.out⟩, ⟨by (with_reducible repeat (first | refine bN_ ?_ _ | refine bD_ ?_ | refine bA_ ?_ _)); exact BK510.out⟩, ⟨bw_⟩⟩
    ·rw [if_neg c12] at H
     have c12b0 : decide (0 ≤ t511) = false := decide_eq_false c12
     clear c12
     have H' := aM_ H
     clear H; have hnb17 := NB509_510.out; have hnc17 := NB510_509.out
     have hcz18_0 : wr.cell? ⟨gb509, 0, none⟩ = some (.slice A0_0 l0_0.length c0_0) := (blk_cell BK509.out 0).trans rfl
     have hfz18_0 := blk_frozen BK509.out 0
     have hcz19_0 : wr.cell? ⟨gb510, 0, none⟩ = some (.int .i64 a1_0) := (blk_cell BK510.out 0).trans rfl
     have hcz19_1 : wr.cell? ⟨gb510, 1, none⟩ = some (.int .i64 a1_1) := (blk_cell BK510.out 1).trans rfl
     have hcz19_2 : wr.cell? ⟨gb510, 2, none⟩ = some (.int .i64 a1_2) := (blk_cell BK510.out 2).trans rfl
     have hcz19_3 : wr.cell? ⟨gb510, 3, none⟩ = some (.slice A1_3 l1_3.length c1_3) := (blk_cell BK510.out 3).trans rfl
     have hfz19_0 := blk_frozen BK510.out 0; have hfz19_1 := blk_frozen BK510.out 1; have hfz19_2 := blk_frozen BK510.out 2; have hfz19_3 := blk_frozen BK510.out 3
     go_wp2_with (first | ((with_reducible refine gate_callee (f := 6) rfl ?_); refine goesL_ (some 20) rfl rfl Try.func6 (by kernel_rfl) rfl #[.agg #[.slice A0_0 l0_0.length c0_0], .agg #[.int .i64 a1_0, .int .i64 a1_1, .int .i64 a1_2, .slice A1_3 l1_3.length c1_3], .int .i64 x13_1, .int .i64 a2] rfl (by (try simp only [List.map_toArray, List.map_cons, List.map_nil]); first | done | rfl | (simp only [List.length_drop, List.length_take]; rfl)) ?_; (with_reducible refine (impl_LandingFor.calls k1 _ _ l0_0 a1_0 a1_1 a1_2 _ _ l1_3 x13_1 a2 t511 _ ?side1 ?side2 ?side3 ?side4 A11.out).mono ?_); (case side1 => repeat (first | exact (Kd.C_below HR0_0.out HB.out) | (with_reducible refine cA_ ?_ _) | (with_reducible refine cN_ ?_ _) | (with_reducible refine cD_ ?_))); (case side2 => exact HC0_0.out); (case side3 => repeat (first | exact (Kd.C_below HR1_3.out HB.out) | (with_reducible refine cA_ ?_ _) | (with_reducible refine cN_ ?_ _) | (with_reducible refine cD_ ?_))); (case side4 => exact HC1_3.out); rintro e w20 ⟨rfl, hb⟩; refine ⟨_, rfl, ?_⟩; have n0_ := aM_ (bB_ (kb_ BK509.out) hb); have n1_ := aM_ (bB_ (kb_ BK510.out) hb); have n2_ := aM_ (wS_ (bw_) hb); clear BK509 BK510 HB; have BK509 := n0_; have BK510 := n1_; have HB := n2_; clear n0_ n1_ n2_; (try clear hb); (try clear hb2); (try clear hk); (try clear hi)))
     go_roundg k1
     case measure => have := HK1.out; omega
     case rel => exact ⟨(x7_1), (wrap64 (x13_1 + 1)), (by first | rfl | (simp; done) | (simp [*]; done)), (by first | rfl | (simp; done) | (simp [*]; done)), H', ⟨by have := HK1.out; omega⟩, ⟨by (with_reducible repeat (first | refine bN_ ?_ _ | refine bD_ ?_ | refine bA_ ?_ _)); exact BK509.out⟩, ⟨by (with_reducible repeat (first | refine bN_ ?_ _ | refine bD_ ?_ | refine bA_ ?_ _)); exact BK510.out⟩, ⟨bw_⟩⟩
   ·rw [if_neg c10] at H
    have c10b0 : decide (x13_1 < ji5) = false := decide_eq_false c10
    clear c10
    obtain rfl := Option.some.inj H
    go_wp2
    go_ret
    exact ⟨by first | rfl | (simp [errW_none, errW_some] <;> rfl) | (simp only [← hji4, ← hji5]; first | rfl | (simp [errW_none, errW_some] <;> rfl)) | (simp [*, errW_none, errW_some] <;> rfl), bw_⟩

/-! ### impl_IsLaw: function 14 -/
def impl_IsLaw.l0 : Nat → List Int → Int → Int → List Int → Int → Int → Int → List (S60) → Option (Bool)
  | 0, _, _, _, _, _, _, _, _ => none
  | k + 1, x8, x9, x10, x513000, x514000, x514001, x514002, x514003 => if x10 < x9 then (if 0 ≤ x10 then (if x10 < (x8.length : Int) then (if (rd x8 x10) < x514001 then (some false) else (if (rd x8 x10) ≥ x514000 then (some false) else (if x10 > 0 then (if 0 ≤ (wrap64 (x10 - 1)) then (if (wrap64 (x10 - 1)) < (x513000.length : Int) then (if (rd x8 x10) ≤ (rd x513000 (wrap64 (x10 - 1))) then (some false) else (impl_IsLaw.l0 k x8 x9 (wrap64 (x10 + 1)) x513000 x514000 x514001 x514002 x514003)) else (none)) else (none)) else (impl_IsLaw.l0 k x8 x9 (wrap64 (x10 + 1)) x513000 x514000 x514001 x514002 x514003)))) else (none)) else (none)) else (some true)
def impl_IsLaw.f (k : Nat) (l0_0 : List Int) (a1_0 : Int) (a1_1 : Int) (a1_2 : Int) (l1_3 : List (S60)) : Option (Bool) := impl_IsLaw.l0 k l0_0 (l0_0.length : Int) 0 l0_0 a1_0 a1_1 a1_2 l1_3
set_option maxHeartbeats 8000000 in
set_option maxRecDepth 100000 in
theorem impl_IsLaw.calls (k : Nat) (A0_0 : Option Addr) (c0_0 : Nat) (l0_0 : List Int) (a1_0 : Int) (a1_1 : Int) (a1_2 : Int) (A1_3 : Option Addr) (c1_3 : Nat) (l1_3 : List (S60)) (r : Bool) (w : World) (hr0_0 : Kd.C (Kd.int .i64) w A0_0 l0_0.length l0_0) (hc0_0 : l0_0.length ≤ c0_0) (hr1_3 : Kd.C k60 w A1_3 l1_3.length l1_3) (hc1_3 : l1_3.length ≤ c1_3) (h : impl_IsLaw.f k l0_0 a1_0 a1_1 a1_2 l1_3 = some r) :
  Calls Try.prog 14 #[.agg #[.slice A0_0 l0_0.length c0_0], .agg #[.int .i64 a1_0, .int .i64 a1_1, .int .i64 a1_2, .slice A1_3 l1_3.length c1_3]] w fun e w' => e = .returned (.bool r) ∧ Below w.heap.size w w' := by
 have hu26 := Try.underlying26; have hu29 := Try.underlying29; have HR0_0 := aM_ hr0_0; have HC0_0 := aM_ hc0_0; clear hr0_0 hc0_0; have HR1_3 := aM_ hr1_3; have HC1_3 := aM_ hc1_3; clear hr1_3 hc1_3; have HB := aM_ (Below.refl w.heap.size w)
 have H : (impl_IsLaw.l0 k l0_0 (l0_0.length : Int) 0 l0_0 a1_0 a1_1 a1_2 l1_3) = some r := h
 clear h
 have H' := aM_ H
 clear H
 go_enter Try.func14, Try.ntmps14
 go_wp2_with (first | ((with_reducible refine gate_dst (N := 2) rfl ?_); refine box_event ?hg (N := 2) ?hd (cs := #[.slice A0_0 l0_0.length c0_0]) (t := 26) ?hr ?_; (case hd => rfl); (case hg => rfl); (case hr => first | (go_simp; done) | (go_simp; rfl)); intro gb512 hg w3 hbox hb; have n0_ := aM_ (wS_ (bw_) hb); have n1_ := aM_ (hbox); have n2_ := aM_ ((by rw [hg]; exact (sZ_ (bw_)) : w.heap.size ≤ gb512)); have n3_ := aM_ ((by rw [hg]; exact (sZ_ (bw_)) : w.heap.size ≤ gb512)); clear HB; have HB := n0_; have BK512 := n1_; have GW512 := n2_; have GE512 := n3_; clear n0_ n1_ n2_ n3_ hb hbox hg) | ((with_reducible refine gate_dst (N := 3) rfl ?_); refine box_event ?hg (N := 3) ?hd (cs := #[.int .i64 a1_0, .int .i64 a1_1, .int .i64 a1_2, .slice A1_3 l1_3.length c1_3]) (t := 29) ?hr ?_; (case hd => rfl); (case hg => rfl); (case hr => first | (go_simp; done) | (go_simp; rfl)); intro gb513 hg w4 hbox hb; have n0_ := aM_ (bB_ (kb_ BK512.out) hb); have n1_ := aM_ (wS_ (bw_) hb); have n2_ := aM_ (hbox); have n3_ := aM_ ((by rw [hg]; exact (sZ_ (bw_)) : w.heap.size ≤ gb513)); have n4_ := aM_ ((by rw [hg]; exact (sZ_ (bw_)) : w.heap.size ≤ gb513)); have n5_ := aM_ ((by rw [hg]; exact Nat.ne_of_lt (blk_lt (kb_ BK512.out)) : gb512 ≠ gb513)); have n6_ := aM_ ((by rw [hg]; exact Nat.ne_of_gt (blk_lt (kb_ BK512.out)) : gb513 ≠ gb512)); clear BK512 HB; have BK512 := n0_; have HB := n1_; have BK513 := n2_; have GW513 := n3_; have GE513 := n4_; have NB512_513 := n5_; have NB513_512 := n6_; clear n0_ n1_ n2_ n3_ n4_ n5_ n6_ hb hbox hg; have hnb5 := NB512_513.out; have hnc5 := NB513_512.out; have hcz6_0 : w4.cell? ⟨gb512, 0, none⟩ = some (.slice A0_0 l0_0.length c0_0) := (blk_cell BK512.out 0).trans rfl; have hfz6_0 := blk_frozen BK512.out 0))
 go_loopg [10] k (fun kq v10 w' => ∃ (x10_1 : Int), v10 = .int .i64 x10_1 ∧ Aside0 (impl_IsLaw.l0 kq l0_0 (l0_0.length : Int) x10_1 l0_0 a1_0 a1_1 a1_2 l1_3 = some r) ∧ Aside0 (kq ≤ k) ∧ Aside0 (w'.heap[gb512]? = some (.cells #[(.slice A0_0 l0_0.length c0_0)] 26 (0, 0))) ∧ Aside0 (w'.heap[gb513]? = some (.cells #[.int .i64 a1_0, .int .i64 a1_1, .int .i64 a1_2, (.slice A1_3 l1_3.length c1_3)] 29 (0, 0))) ∧ Aside0 (Below w.heap.size w w'))
 case atStart => exact ⟨(0), (by first | rfl | (simp; done) | (simp [*]; done)), H', ⟨Nat.le_refl _⟩, ⟨by (with_reducible repeat (first | refine bN_ ?_ _ | refine bD_ ?_ | refine bA_ ?_ _)); exact BK512.out⟩, ⟨by (with_reducible repeat (first | refine bN_ ?_ _ | refine bD_ ?_ | refine bA_ ?_ _)); exact BK513.out⟩, ⟨bw_⟩⟩
 case round =>
  clear H'
  try clear hcz6_0
  try clear hfz6_0
  obtain ⟨x10_1, rfl, HA, HK1, BK512, BK513, HB⟩ := hrel
  cases gk with
  | zero => exact absurd HA.out (by simp [impl_IsLaw.l0])
  | succ k1 =>
   have H := HA.out; clear HA
   simp only [impl_IsLaw.l0] at H
   by_cases c7 : x10_1 < (l0_0.length : Int)
   ·rw [if_pos c7] at H
    have c7b0 : decide (x10_1 < (l0_0.length : Int)) = true := decide_eq_true c7
    clear c7
    by_cases c8 : 0 ≤ x10_1
    ·rw [if_pos c8] at H
     have c8b0 : decide (0 ≤ x10_1) = true := decide_eq_true c8
     clear c8
     by_cases c9 : x10_1 < (l0_0.length : Int)
     ·rw [if_pos c9] at H
      have c9b0 : decide (x10_1 < (l0_0.length : Int)) = true := decide_eq_true c9
      clear c9
      by_cases c10 : (rd l0_0 x10_1) < a1_1
      ·rw [if_pos c10] at H
       have c10b0 : decide ((rd l0_0 x10_1) < a1_1) = true := decide_eq_true c10
       clear c10
       obtain rfl := Option.some.inj H
       have p514 : 0 ≤ (x10_1 : Int) := dT_
       have q514 : x10_1 < (l0_0.length : Int) := dT_
       obtain ⟨ad514, e514, hx514_0⟩ := Kd.at_int HR0_0.out x10_1 p514 q514
       cases e514
       replace hx514_0 := (HB.out.cell (World.block_lt_of_cell? w _ hx514_0)).trans hx514_0
       replace p514 := eq_true p514; replace q514 := eq_true q514; have hnb11 := NB513_512.out; have hnc11 := NB512_513.out
       have hcz12_0 : wr.cell? ⟨gb513, 0, none⟩ = some (.int .i64 a1_0) := (blk_cell BK513.out 0).trans rfl
       have hcz12_1 : wr.cell? ⟨gb513, 1, none⟩ = some (.int .i64 a1_1) := (blk_cell BK513.out 1).trans rfl
       have hcz12_2 : wr.cell? ⟨gb513, 2, none⟩ = some (.int .i64 a1_2) := (blk_cell BK513.out 2).trans rfl
       have hcz12_3 : wr.cell? ⟨gb513, 3, none⟩ = some (.slice A1_3 l1_3.length c1_3) := (blk_cell BK513.out 3).trans rfl
       have hfz12_0 := blk_frozen BK513.out 0; have hfz12_1 := blk_frozen BK513.out 1; have hfz12_2 := blk_frozen BK513.out 2; have hfz12_3 := blk_frozen BK513.out 3
       go_wp2
       go_ret
       exact ⟨by first | rfl | (simp [errW_none, errW_some] <;> rfl) | (simp [*, errW_none, errW_some] <;> rfl), bw_⟩
      ·rw [if_neg c10] at H
       have c10b0 : decide ((rd l0_0 x10_1) < a1_1) = false := decide_eq_false c10
       clear c10
       by_cases c13 : (rd l0_0 x10_1) ≥ a1_0
       ·rw [if_pos c13] at H
        have c13b0 : decide (a1_0 ≤ (rd l0_0 x10_1)) = true := decide_eq_true c13
        clear c13
        obtain rfl := Option.some.inj H
        have p514 : 0 ≤ (x10_1 : Int) := dT_
        have q514 : x10_1 < (l0_0.length : Int) := dT_
        obtain ⟨ad514, e514, hx514_0⟩ := Kd.at_int HR0_0.out x10_1 p514 q514
        cases e514
        replace hx514_0 := (HB.out.cell (World.block_lt_of_cell? w _ hx514_0)).trans hx514_0
        replace p514 := eq_true p514; replace q514 := eq_true q514; have hnb14 := NB513_512.out; have hnc14 := NB512_513.out
        have hcz15_0 : wr.cell? ⟨gb513, 0, none⟩ = some (.int .i64 a1_0) := (blk_cell BK513.out 0).trans rfl
        have hcz15_1 : wr.cell? ⟨gb513, 1, none⟩ = some (.int .i64 a1_1) := (blk_cell BK513.out 1).trans rfl
        have hcz15_2 : wr.cell? ⟨gb513, 2, none⟩ = some (.int .i64 a1_2) := (blk_cell BK513.out 2).trans rfl
        have hcz15_3 : wr.cell? ⟨gb513, 3, none⟩ = some (.slice A1_3 l1_3.length c1_3) := (blk_cell BK513.out 3).trans rfl
        have hfz15_0 := blk_frozen BK513.out 0; have hfz15_1 := blk_frozen BK513.out 1; have hfz15_2 := blk_frozen BK513.out 2; have hfz15_3 := blk_frozen BK513.out 3
        go_wp2
        go_ret
        exact ⟨by first | rfl | (simp [errW_none, errW_some] <;> rfl) | (simp [*, errW_none, errW_some] <;> rfl), bw_⟩
       ·rw [if_neg c13] at H
        have c13b0 : decide (a1_0 ≤ (rd l0_0 x10_1)) = false := decide_eq_false c13
        clear c13
        by_cases c16 : x10_1 > 0
        ·rw [if_pos c16] at H
         have c16b0 : decide (0 < x10_1) = true := decide_eq_true c16
         clear c16
         obtain ⟨ji17, hji17⟩ : ∃ j_ : Int, (wrap64 (x10_1 - 1)) = j_ := ⟨_, rfl⟩
         replace H : (if 0 ≤ (ji17) then (if (ji17) < (l0_0.length : Int) then (if (rd l0_0 x10_1) ≤ (rd l0_0 (ji17)) then (some false) else (impl_IsLaw.l0 k1 l0_0 (l0_0.length : Int) (wrap64 (x10_1 + 1)) l0_0 a1_0 a1_1 a1_2 l1_3)) else (none)) else (none)) = some r := by first | (rw [hji17] at H; exact H) | (simp only [hji17] at H ⊢; exact H)
         have hji17w : (IntKind.i64.wrap (x10_1 - 1)) = ji17 := (i64_w _).trans hji17
         by_cases c18 : 0 ≤ (ji17)
         ·rw [if_pos c18] at H
          have c18b0 : decide (0 ≤ (ji17)) = true := decide_eq_true c18
          clear c18
          by_cases c19 : (ji17) < (l0_0.length : Int)
          ·rw [if_pos c19] at H
           have c19b0 : decide ((ji17) < (l0_0.length : Int)) = true := decide_eq_true c19
           clear c19
           by_cases c20 : (rd l0_0 x10_1) ≤ (rd l0_0 (ji17))
           ·rw [if_pos c20] at H
            have c20b0 : decide ((rd l0_0 x10_1) ≤ (rd l0_0 (ji17))) = true := decide_eq_true c20
            clear c20
            obtain rfl := Option.some.inj H
            have p514 : 0 ≤ (x10_1 : Int) := dT_
            have q514 : x10_1 < (l0_0.length : Int) := dT_
            obtain ⟨ad514, e514, hx514_0⟩ := Kd.at_int HR0_0.out x10_1 p514 q514
            cases e514
            replace hx514_0 := (HB.out.cell (World.block_lt_of_cell? w _ hx514_0)).trans hx514_0
            replace p514 := eq_true p514; replace q514 := eq_true q514; have hnb21 := NB513_512.out; have hnc21 := NB512_513.out
            have hcz22_0 : wr.cell? ⟨gb513, 0, none⟩ = some (.int .i64 a1_0) := (blk_cell BK513.out 0).trans rfl
            have hcz22_1 : wr.cell? ⟨gb513, 1, none⟩ = some (.int .i64 a1_1) := (blk_cell BK513.out 1).trans rfl
            have hcz22_2 : wr.cell? ⟨gb513, 2, none⟩ = some (.int .i64 a1_2) := (blk_cell BK513.out 2).trans rfl
            have hcz22_3 : wr.cell? ⟨gb513, 3, none⟩ = some (.slice A1_3 l1_3.length c1_3) := (blk_cell BK513.out 3).trans rfl
            have hfz22_0 := blk_frozen BK513.out 0; have hfz22_1 := blk_frozen BK513.out 1; have hfz22_2 := blk_frozen BK513.out 2; have hfz22_3 := blk_frozen BK513.out 3
            have hcz23_0 : wr.cell? ⟨gb512, 0, none⟩ = some (.slice (some ad514) l0_0.length c0_0) := (blk_cell BK512.out 0).trans rfl
            have hfz23_0 := blk_frozen BK512.out 0
            have p515 : 0 ≤ ((ji17) : Int) := dT_
            have q515 : (ji17) < (l0_0.length : Int) := dT_
            obtain ⟨ad515, e515, hx515_0⟩ := Kd.at_int HR0_0.out (ji17) p515 q515
            obtain rfl : ad514 = ad515 := (by injection e515)
            replace hx515_0 := (HB.out.cell (World.block_lt_of_cell? w _ hx515_0)).trans hx515_0
            replace p515 := eq_true p515; replace q515 := eq_true q515
            go_wp2
            go_ret
            exact ⟨by first | rfl | (simp [errW_none, errW_some] <;> rfl) | (simp only [← hji17]; first | rfl | (simp [errW_none, errW_some] <;> rfl)) | (simp [*, errW_none, errW_some] <;> rfl), bw_⟩
           ·rw [if_neg c20] at H
            have c20b0 : decide ((rd l0_0 x10_1) ≤ (rd l0_0 (ji17))) = false := decide_eq_false c20
            clear c20
            have H' := aM_ H
            clear H
            have p514 : 0 ≤ (x10_1 : Int) := dT_
            have q514 : x10_1 < (l0_0.length : Int) := dT_
            obtain ⟨ad514, e514, hx514_0⟩ := Kd.at_int HR0_0.out x10_1 p514 q514
            cases e514
            replace hx514_0 := (HB.out.cell (World.block_lt_of_cell? w _ hx514_0)).trans hx514_0
            replace p514 := eq_true p514; replace q514 := eq_true q514; have hnb24 := NB513_512.out; have hnc24 := NB512_513.out
            have hcz25_0 : wr.cell? ⟨gb513, 0, none⟩ = some (.int .i64 a1_0) := (blk_cell BK513.out 0).trans rfl
            have hcz25_1 : wr.cell? ⟨gb513, 1, none⟩ = some (.int .i64 a1_1) := (blk_cell BK513.out 1).trans rfl
            have hcz25_2 : wr.cell? ⟨gb513, 2, none⟩ = some (.int .i64 a1_2) := (blk_cell BK513.out 2).trans rfl
            have hcz25_3 : wr.cell? ⟨gb513, 3, none⟩ = some (.slice A1_3 l1_3.length c1_3) := (blk_cell BK513.out 3).trans rfl
            have hfz25_0 := blk_frozen BK513.out 0; have hfz25_1 := blk_frozen BK513.out 1; have hfz25_2 := blk_frozen BK513.out 2; have hfz25_3 := blk_frozen BK513.out 3
            have hcz26_0 : wr.cell? ⟨gb512, 0, none⟩ = some (.slice (some ad514) l0_0.length c0_0) := (blk_cell BK512.out 0).trans rfl
            have hfz26_0 := blk_frozen BK512.out 0
            have p515 : 0 ≤ ((ji17) : Int) := dT_
            have q515 : (ji17) < (l0_0.length : Int) := dT_
            obtain ⟨ad515, e515, hx515_0⟩ := Kd.at_int HR0_0.out (ji17) p515 q515
            obtain rfl : ad514 = ad515 := (by injection e515)
            replace hx515_0 := (HB.out.cell (World.block_lt_of_cell? w _ hx515_0)).trans hx515_0
            replace p515 := eq_true p515; replace q515 := eq_true q515
            go_wp2
            go_roundg k1
            case measure => have := HK1.out; omega
            case rel => exact ⟨(wrap64 (x10_1 + 1)), (by first | rfl | (simp; done) | (simp [*]; done)), H', ⟨by have := HK1.out; omega⟩, ⟨by (with_reducible repeat (first | refine bN_ ?_ _ | refine bD_ ?_ | refine bA_ ?_ _)); exact BK512.out⟩, ⟨by (with_reducible repeat (first | refine bN_ ?_ _ | refine bD_ ?_ | refine bA_ ?_ _)); exact BK513.out⟩, ⟨bw_⟩⟩
          ·rw [if_neg c19] at H
           exact absurd H (by simp)
         ·rw [if_neg c18] at H
          exact absurd H (by simp)
        ·rw [if_neg c16] at H
         have c16b0 : decide (0 < x10_1) = false := decide_eq_false c16
         clear c16
         have H' := aM_ H
         clear H
         have p514 : 0 ≤ (x10_1 : Int) := dT_
         have q514 : x10_1 < (l0_0.length : Int) := dT_
         obtain ⟨ad514, e514, hx514_0⟩ := Kd.at_int HR0_0.out x10_1 p514 q514
         cases e514
         replace hx514_0 := (HB.out.cell (World.block_lt_of_cell? w _ hx514_0)).trans hx514_0
         replace p514 := eq_true p514; replace q514 := eq_true q514; have hnb27 := NB513_512.out; have hnc27 := NB512_513.out
         have hcz28_0 : wr.cell? ⟨gb513, 0, none⟩ = some (.int .i64 a1_0) := (blk_cell BK513.out 0).trans rfl
         have hcz28_1 : wr.cell? ⟨gb513, 1, none⟩ = some (.int .i64 a1_1) := (blk_cell BK513.out 1).trans rfl
         have hcz28_2 : wr.cell? ⟨gb513, 2, none⟩ = some (.int .i64 a1_2) := (blk_cell BK513.out 2).trans rfl
         have hcz28_3 : wr.cell? ⟨gb513, 3, none⟩ = some (.slice A1_3 l1_3.length c1_3) := (blk_cell BK513.out 3).trans rfl
         have hfz28_0 := blk_frozen BK513.out 0; have hfz28_1 := blk_frozen BK513.out 1; have hfz28_2 := blk_frozen BK513.out 2; have hfz28_3 := blk_frozen BK513.out 3
         go_wp2
         go_roundg k1
         case measure => have := HK1.out; omega
         case rel => exact ⟨(wrap64 (x10_1 + 1)), (by first | rfl | (simp; done) | (simp [*]; done)), H', ⟨by have := HK1.out; omega⟩, ⟨by (with_reducible repeat (first | refine bN_ ?_ _ | refine bD_ ?_ | refine bA_ ?_ _)); exact BK512.out⟩, ⟨by (with_reducible repeat (first | refine bN_ ?_ _ | refine bD_ ?_ | refine bA_ ?_ _)); exact BK513.out⟩, ⟨bw_⟩⟩
     ·rw [if_neg c9] at H
      exact absurd H (by simp)
    ·rw [if_neg c8] at H
     exact absurd H (by simp)
   ·rw [if_neg c7] at H
    have c7b0 : decide (x10_1 < (l0_0.length : Int)) = false := decide_eq_false c7
    clear c7
    obtain rfl := Option.some.inj H
    go_wp2
    go_ret
    exact ⟨by first | rfl | (simp [errW_none, errW_some] <;> rfl) | (simp [*, errW_none, errW_some] <;> rfl), bw_⟩

end Go.Proofs.Ythdknilfkbhalaa.PFnBorders
