/- The functions that the law reaches, as plain Lean functions, each with the proof that the Go code comes to its answers; conditions: those that each theorem names. (printed by a program of this session) -/
import Derived.Test.YtdodogkgmpaioaaPFnExactAdmitFlowx0
import Derived.Test.YtdodogkgmpaioaaPFnExactAdmitFlowx10
import Derived.Test.YtdodogkgmpaioaaPFnExactAdmitFlowx11
import Derived.Test.YtdodogkgmpaioaaPFnExactAdmitFlowx12
namespace Go.Proofs.Ytdodogkgmpaioaa.PFnExactAdmitFlow
open Go.RowKit Go.Proofs.YtdodogkgmpaioaaW.PrintWords Go.Proofs.YtdodogkgmpaioaaW.PrintLast Go.Proofs.YtdodogkgmpaioaaW.PrintMore
attribute [local go_sem] max2_int min2_int max_two min_two max_three min_three max_four min_four   -- for this text's walks alone
set_option linter.unusedVariables false
set_option linter.unusedSimpArgs false

/-! ### impl_AdmitFlow: function 21 -/
def impl_AdmitFlow.j0 : Nat → List (S42) → Bool → Int → Int → Int → Int → Option ((List (S42)) × Bool)
  | 0, _, _, _, _, _, _ => none
  | k + 1, x10, x40, x397000, x397001, x397002, x397003 => if x40 = true then (some (x10, false)) else (if x10.length < 4398046511104 then (some ((x10 ++ [(⟨x397000, x397001, x397002, x397003⟩ : S42)]), true)) else (none))
def impl_AdmitFlow.f (k : Nat) (a0_0 : Int) (a0_1 : Int) (a0_2 : Int) (l0_3 : List (S103)) (l1 : List (S42)) (a2_0 : Int) (a2_1 : Int) (a2_2 : Int) (a2_3 : Int) (a3 : Int) : Option ((List (S42)) × Bool) := (slices_Clone_impl_Flow_impl_Flow.f l1).bind fun t397 => ((impl_IsFlow.f a2_0 a2_1 a2_2 a2_3 a0_0).bind fun t400 => (if t400 = true then (if (l1.length : Int) ≥ 8 then (impl_AdmitFlow.j0 k t397 true a2_0 a2_1 a2_2 a2_3) else ((slices_ContainsFunc_impl_Flow_impl_Flow.f l1 a2_0 a2_1 a2_2 a2_3).bind fun t401 => (if t401 = true then (impl_AdmitFlow.j0 k t397 true a2_0 a2_1 a2_2 a2_3) else (if a2_3 = 1 then ((impl_HasRoom.f k a0_0 a0_1 a0_2 l0_3 l1 a2_0 a2_1 a2_2 a2_3 a3).bind fun t402 => (impl_AdmitFlow.j0 k t397 (!t402) a2_0 a2_1 a2_2 a2_3)) else (impl_AdmitFlow.j0 k t397 false a2_0 a2_1 a2_2 a2_3))))) else (impl_AdmitFlow.j0 k t397 true a2_0 a2_1 a2_2 a2_3)))
set_option maxHeartbeats 8000000 in
set_option maxRecDepth 100000 in
theorem impl_AdmitFlow.calls (k : Nat) (a0_0 : Int) (a0_1 : Int) (a0_2 : Int) (A0_3 : Option Addr) (c0_3 : Nat) (l0_3 : List (S103)) (A1 : Option Addr) (c1 : Nat) (l1 : List (S42)) (a2_0 : Int) (a2_1 : Int) (a2_2 : Int) (a2_3 : Int) (a3 : Int) (r1 : List (S42)) (r2 : Bool) (w : World) (hr0_3 : Kd.C k103 w A0_3 l0_3.length l0_3) (hc0_3 : l0_3.length ≤ c0_3) (hr1 : Kd.C k42 w A1 l1.length l1) (hc1 : l1.length ≤ c1) (h : impl_AdmitFlow.f k a0_0 a0_1 a0_2 l0_3 l1 a2_0 a2_1 a2_2 a2_3 a3 = some (r1, r2)) :
  Calls Try.prog 21 #[.agg #[.int .i64 a0_0, .int .i64 a0_1, .int .i64 a0_2, .slice A0_3 l0_3.length c0_3], .slice A1 l1.length c1, .agg #[.int .i64 a2_0, .int .i64 a2_1, .int .i64 a2_2, .int .i64 a2_3], .int .i64 a3] w fun e w' => ∃ v0_ : Value, e = .returned (.tuple #[v0_, .bool r2]) ∧ Kd.R k42 42 w' w.heap.size (fun _ => True) v0_ r1 ∧ Below w.heap.size w w' := by
 have hu31 := Try.underlying31; have hu42 := Try.underlying42; have HR0_3 := aM_ hr0_3; have HC0_3 := aM_ hc0_3; clear hr0_3 hc0_3; have HR1 := aM_ hr1; have HC1 := aM_ hc1; clear hr1 hc1; have HB := aM_ (Below.refl w.heap.size w)
 have H : ((slices_Clone_impl_Flow_impl_Flow.f l1).bind fun t397 => ((impl_IsFlow.f a2_0 a2_1 a2_2 a2_3 a0_0).bind fun t400 => (if t400 = true then (if (l1.length : Int) ≥ 8 then (impl_AdmitFlow.j0 k t397 true a2_0 a2_1 a2_2 a2_3) else ((slices_ContainsFunc_impl_Flow_impl_Flow.f l1 a2_0 a2_1 a2_2 a2_3).bind fun t401 => (if t401 = true then (impl_AdmitFlow.j0 k t397 true a2_0 a2_1 a2_2 a2_3) else (if a2_3 = 1 then ((impl_HasRoom.f k a0_0 a0_1 a0_2 l0_3 l1 a2_0 a2_1 a2_2 a2_3 a3).bind fun t402 => (impl_AdmitFlow.j0 k t397 (!t402) a2_0 a2_1 a2_2 a2_3)) else (impl_AdmitFlow.j0 k t397 false a2_0 a2_1 a2_2 a2_3))))) else (impl_AdmitFlow.j0 k t397 true a2_0 a2_1 a2_2 a2_3)))) = some (r1, r2) := h
 clear h
 replace H := Option.bind_eq_some_iff.mp H
 obtain ⟨t397, A50, H⟩ := H
 (try dsimp only at H)
 have A5 := aM_ A50; clear A50; have HC6 := aM_ H; clear H
 go_enter Try.func21, Try.ntmps21
 go_upto_region 2 with (first | ((with_reducible refine gate_dst (N := 4) rfl ?_); (try (refine gate_guard (by rfl) ?_; dsimp only)); refine box_event ?hg (N := 4) ?hd (cs := #[.int .i64 a0_0, .int .i64 a0_1, .int .i64 a0_2, .slice A0_3 l0_3.length c0_3]) (t := 31) ?hr ?_; (case hd => rfl); (case hg => rfl); (case hr => first | (go_simp; done) | (go_simp; rfl)); intro gb395 hg w7 hbox hb; have n0_ := aM_ (wS_ (bw_) hb); have n1_ := aM_ (hbox); have n2_ := aM_ ((by rw [hg]; exact (sZ_ (bw_)) : w.heap.size ≤ gb395)); have n3_ := aM_ ((by rw [hg]; exact (sZ_ (bw_)) : w.heap.size ≤ gb395)); clear HB; have HB := n0_; have BK395 := n1_; have GW395 := n2_; have GE395 := n3_; clear n0_ n1_ n2_ n3_; clear hb hbox hg) | ((with_reducible refine gate_dst (N := 6) rfl ?_); (try (refine gate_guard (by rfl) ?_; dsimp only)); refine box_event ?hg (N := 6) ?hd (cs := #[.int .i64 a2_0, .int .i64 a2_1, .int .i64 a2_2, .int .i64 a2_3]) (t := 42) ?hr ?_; (case hd => rfl); (case hg => rfl); (case hr => first | (go_simp; done) | (go_simp; rfl)); intro gb396 hg w8 hbox hb; have n0_ := aM_ (bB_ (g := gb395) (o := .cells #[.int .i64 a0_0, .int .i64 a0_1, .int .i64 a0_2, .slice A0_3 l0_3.length c0_3] 31 (0, 0)) (kb_ BK395.out) hb); have n1_ := aM_ (wS_ (bw_) hb); have n2_ := aM_ (hbox); have n3_ := aM_ ((by rw [hg]; exact (sZ_ (bw_)) : w.heap.size ≤ gb396)); have n4_ := aM_ ((by rw [hg]; exact (sZ_ (bw_)) : w.heap.size ≤ gb396)); have n5_ := aM_ ((by rw [hg]; exact Nat.ne_of_lt (blk_lt (g := gb395) (o := .cells #[.int .i64 a0_0, .int .i64 a0_1, .int .i64 a0_2, .slice A0_3 l0_3.length c0_3] 31 (0, 0)) (kb_ BK395.out)) : gb395 ≠ gb396)); have n6_ := aM_ ((by rw [hg]; exact Nat.ne_of_gt (blk_lt (g := gb395) (o := .cells #[.int .i64 a0_0, .int .i64 a0_1, .int .i64 a0_2, .slice A0_3 l0_3.length c0_3] 31 (0, 0)) (kb_ BK395.out)) : gb396 ≠ gb395)); clear BK395; clear HB; have BK395 := n0_; have HB := n1_; have BK396 := n2_; have GW396 := n3_; have GE396 := n4_; have NB395_396 := n5_; have NB396_395 := n6_; clear n0_ n1_ n2_ n3_ n4_ n5_ n6_; clear hb hbox hg) | ((with_reducible refine gate_callee (f := 53) rfl ?_); refine goesL_ (some 12) rfl rfl Try.func53 (by kernel_rfl) rfl #[.slice A1 l1.length c1] rfl (by (try simp only [List.map_toArray, List.map_cons, List.map_nil]); first | done | rfl | (simp only [List.length_drop, List.length_take]; rfl)) ?_; (with_reducible refine (slices_Clone_impl_Flow_impl_Flow.calls _ _ l1 t397 _ ?side1 ?side2 A5.out).mono ?_); (case side1 => repeat (first | exact (Kd.C_below HR1.out HB.out) | (with_reducible refine cA_ ?_ _) | (with_reducible refine cN_ ?_ _) | (with_reducible refine cD_ ?_))); (case side2 => exact HC1.out); rintro e w9 ⟨v398, rfl, ho0, hb⟩; refine ⟨_, rfl, ?_⟩; have n0_ := aM_ (Kd.R_lower (Kd.R_newB ho0 (g := gb396) (o := .cells #[.int .i64 a2_0, .int .i64 a2_1, .int .i64 a2_2, .int .i64 a2_3] 42 (0, 0)) (kb_ BK396.out)) (sZ_ (bw_))); have n1_ := aM_ (bB_ (g := gb395) (o := .cells #[.int .i64 a0_0, .int .i64 a0_1, .int .i64 a0_2, .slice A0_3 l0_3.length c0_3] 31 (0, 0)) (kb_ BK395.out) hb); have n2_ := aM_ (bB_ (g := gb396) (o := .cells #[.int .i64 a2_0, .int .i64 a2_1, .int .i64 a2_2, .int .i64 a2_3] 42 (0, 0)) (kb_ BK396.out) hb); have n3_ := aM_ (wS_ (bw_) hb); clear BK395; clear BK396; clear HB; have HO399 := n0_; have BK395 := n1_; have BK396 := n2_; have HB := n3_; clear n0_ n1_ n2_ n3_; (try clear hb); (try clear hb2); (try clear hk); (try clear hi); (try clear ho0)))
 (try simp only [Act.put, List.setIfInBounds_toArray, List.set_cons_zero, List.set_cons_succ])
 go_cut [40] (fun v40 wc => ∃ (kq : Nat) (x40_5 : Bool), v40 = .bool x40_5 ∧ Aside0 (impl_AdmitFlow.j0 kq t397 x40_5 a2_0 a2_1 a2_2 a2_3 = some (r1, r2)) ∧ Aside0 (kq ≤ k) ∧ Aside0 (Kd.R k42 42 wc w.heap.size (fun k_ => k_ ≠ gb396) v398 t397) ∧ Aside0 (wc.heap[gb395]? = some (.cells #[.int .i64 a0_0, .int .i64 a0_1, .int .i64 a0_2, (.slice A0_3 l0_3.length c0_3)] 31 (0, 0))) ∧ Aside0 (wc.heap[gb396]? = some (.cells #[.int .i64 a2_0, .int .i64 a2_1, .int .i64 a2_2, .int .i64 a2_3] 42 (0, 0))) ∧ Aside0 (Below w.heap.size w wc))
 case first =>
  have H := HC6.out; clear HC6
  replace H := Option.bind_eq_some_iff.mp H
  obtain ⟨t400, A100, H⟩ := H
  (try dsimp only at H)
  have A10 := aM_ A100; clear A100
  by_cases c11 : t400 = true
  ·subst c11
   have H1 : (if (l1.length : Int) ≥ 8 then (impl_AdmitFlow.j0 k t397 true a2_0 a2_1 a2_2 a2_3) else ((slices_ContainsFunc_impl_Flow_impl_Flow.f l1 a2_0 a2_1 a2_2 a2_3).bind fun t401 => (if t401 = true then (impl_AdmitFlow.j0 k t397 true a2_0 a2_1 a2_2 a2_3) else (if a2_3 = 1 then ((impl_HasRoom.f k a0_0 a0_1 a0_2 l0_3 l1 a2_0 a2_1 a2_2 a2_3 a3).bind fun t402 => (impl_AdmitFlow.j0 k t397 (!t402) a2_0 a2_1 a2_2 a2_3)) else (impl_AdmitFlow.j0 k t397 false a2_0 a2_1 a2_2 a2_3))))) = some (r1, r2) := by rw [if_pos rfl] at H; exact H
   clear H; have H := H1; clear H1
   by_cases c12 : (l1.length : Int) ≥ 8
   ·rw [if_pos c12] at H
    have c12b0 : decide (8 ≤ (l1.length : Int)) = true := decide_eq_true c12
    have c12b1 : decide (8 ≤ l1.length) = true := decide_eq_true (by omega)
    clear c12
    (first | rw [c12b0] | (simp only [i64_w, i32_w]; rw [c12b0]) | skip)
    have H' := aM_ H
    clear H; have hnb13 := NB396_395.out; have hnc13 := NB395_396.out
    have hcz14_0 : w9.cell? ⟨gb396, 0, none⟩ = some (.int .i64 a2_0) := (blk_cell BK396.out 0).trans rfl
    have hcz14_1 : w9.cell? ⟨gb396, 1, none⟩ = some (.int .i64 a2_1) := (blk_cell BK396.out 1).trans rfl
    have hcz14_2 : w9.cell? ⟨gb396, 2, none⟩ = some (.int .i64 a2_2) := (blk_cell BK396.out 2).trans rfl
    have hcz14_3 : w9.cell? ⟨gb396, 3, none⟩ = some (.int .i64 a2_3) := (blk_cell BK396.out 3).trans rfl
    have hfz14_0 := blk_frozen BK396.out 0; have hfz14_1 := blk_frozen BK396.out 1; have hfz14_2 := blk_frozen BK396.out 2; have hfz14_3 := blk_frozen BK396.out 3
    have hcz15_0 : w9.cell? ⟨gb395, 0, none⟩ = some (.int .i64 a0_0) := (blk_cell BK395.out 0).trans rfl
    have hcz15_1 : w9.cell? ⟨gb395, 1, none⟩ = some (.int .i64 a0_1) := (blk_cell BK395.out 1).trans rfl
    have hcz15_2 : w9.cell? ⟨gb395, 2, none⟩ = some (.int .i64 a0_2) := (blk_cell BK395.out 2).trans rfl
    have hcz15_3 : w9.cell? ⟨gb395, 3, none⟩ = some (.slice A0_3 l0_3.length c0_3) := (blk_cell BK395.out 3).trans rfl
    have hfz15_0 := blk_frozen BK395.out 0; have hfz15_1 := blk_frozen BK395.out 1; have hfz15_2 := blk_frozen BK395.out 2; have hfz15_3 := blk_frozen BK395.out 3
    go_wp2_with (first | ((with_reducible refine gate_callee (f := 54) rfl ?_); refine goesL_ (some 16) rfl rfl Try.func54 (by kernel_rfl) rfl #[.agg #[.int .i64 a2_0, .int .i64 a2_1, .int .i64 a2_2, .int .i64 a2_3], .int .i64 a0_0] rfl (by (try simp only [List.map_toArray, List.map_cons, List.map_nil]); first | done | rfl | (simp only [List.length_drop, List.length_take]; rfl)) ?_; (with_reducible refine (impl_IsFlow.calls a2_0 a2_1 a2_2 a2_3 a0_0 true _ A10.out).mono ?_); rintro e w16 ⟨rfl, hb⟩; refine ⟨_, rfl, ?_⟩; have n0_ := aM_ (rB_ (rb_ HO399.out) hb); have n1_ := aM_ (bB_ (g := gb395) (o := .cells #[.int .i64 a0_0, .int .i64 a0_1, .int .i64 a0_2, .slice A0_3 l0_3.length c0_3] 31 (0, 0)) (kb_ BK395.out) hb); have n2_ := aM_ (bB_ (g := gb396) (o := .cells #[.int .i64 a2_0, .int .i64 a2_1, .int .i64 a2_2, .int .i64 a2_3] 42 (0, 0)) (kb_ BK396.out) hb); have n3_ := aM_ (wS_ (bw_) hb); clear HO399; clear BK395; clear BK396; clear HB; have HO399 := n0_; have BK395 := n1_; have BK396 := n2_; have HB := n3_; clear n0_ n1_ n2_ n3_; (try clear hb); (try clear hb2); (try clear hk); (try clear hi)))
    go_meet
    case rel => exact ⟨_, (true), (by first | rfl | (simp; done) | (simp [*]; done)), H', ⟨by first | omega | exact Nat.le_refl _⟩, ⟨by (with_reducible repeat (first | apply rA_ | apply rN_ | apply rD_)); exact Kd.R_mono HO399.out (fun _ hk => hk.2)⟩, ⟨by (with_reducible repeat (first | refine bN_ ?_ _ | refine bD_ ?_ | refine bA_ ?_ _)); exact BK395.out⟩, ⟨by (with_reducible repeat (first | refine bN_ ?_ _ | refine bD_ ?_ | refine bA_ ?_ _)); exact BK396.out⟩, ⟨bw_⟩⟩
   ·rw [if_neg c12] at H
    have c12b0 : decide (8 ≤ (l1.length : Int)) = false := decide_eq_false c12
    have c12b1 : decide (8 ≤ l1.length) = false := decide_eq_false (by omega)
    clear c12
    (first | rw [c12b0] | (simp only [i64_w, i32_w]; rw [c12b0]) | skip)
    replace H := Option.bind_eq_some_iff.mp H
    obtain ⟨t401, A170, H⟩ := H
    (try dsimp only at H)
    have A17 := aM_ A170; clear A170
    by_cases c18 : t401 = true
    ·subst c18
     have H1 : (impl_AdmitFlow.j0 k t397 true a2_0 a2_1 a2_2 a2_3) = some (r1, r2) := by rw [if_pos rfl] at H; exact H
     clear H; have H := H1; clear H1
     have H' := aM_ H
     clear H; have hnb19 := NB396_395.out; have hnc19 := NB395_396.out
     have hcz20_0 : w9.cell? ⟨gb396, 0, none⟩ = some (.int .i64 a2_0) := (blk_cell BK396.out 0).trans rfl
     have hcz20_1 : w9.cell? ⟨gb396, 1, none⟩ = some (.int .i64 a2_1) := (blk_cell BK396.out 1).trans rfl
     have hcz20_2 : w9.cell? ⟨gb396, 2, none⟩ = some (.int .i64 a2_2) := (blk_cell BK396.out 2).trans rfl
     have hcz20_3 : w9.cell? ⟨gb396, 3, none⟩ = some (.int .i64 a2_3) := (blk_cell BK396.out 3).trans rfl
     have hfz20_0 := blk_frozen BK396.out 0; have hfz20_1 := blk_frozen BK396.out 1; have hfz20_2 := blk_frozen BK396.out 2; have hfz20_3 := blk_frozen BK396.out 3
     have hcz21_0 : w9.cell? ⟨gb395, 0, none⟩ = some (.int .i64 a0_0) := (blk_cell BK395.out 0).trans rfl
     have hcz21_1 : w9.cell? ⟨gb395, 1, none⟩ = some (.int .i64 a0_1) := (blk_cell BK395.out 1).trans rfl
     have hcz21_2 : w9.cell? ⟨gb395, 2, none⟩ = some (.int .i64 a0_2) := (blk_cell BK395.out 2).trans rfl
     have hcz21_3 : w9.cell? ⟨gb395, 3, none⟩ = some (.slice A0_3 l0_3.length c0_3) := (blk_cell BK395.out 3).trans rfl
     have hfz21_0 := blk_frozen BK395.out 0; have hfz21_1 := blk_frozen BK395.out 1; have hfz21_2 := blk_frozen BK395.out 2; have hfz21_3 := blk_frozen BK395.out 3
     go_wp2_with (first | ((with_reducible refine gate_callee (f := 54) rfl ?_); refine goesL_ (some 16) rfl rfl Try.func54 (by kernel_rfl) rfl #[.agg #[.int .i64 a2_0, .int .i64 a2_1, .int .i64 a2_2, .int .i64 a2_3], .int .i64 a0_0] rfl (by (try simp only [List.map_toArray, List.map_cons, List.map_nil]); first | done | rfl | (simp only [List.length_drop, List.length_take]; rfl)) ?_; (with_reducible refine (impl_IsFlow.calls a2_0 a2_1 a2_2 a2_3 a0_0 true _ A10.out).mono ?_); rintro e w22 ⟨rfl, hb⟩; refine ⟨_, rfl, ?_⟩; have n0_ := aM_ (rB_ (rb_ HO399.out) hb); have n1_ := aM_ (bB_ (g := gb395) (o := .cells #[.int .i64 a0_0, .int .i64 a0_1, .int .i64 a0_2, .slice A0_3 l0_3.length c0_3] 31 (0, 0)) (kb_ BK395.out) hb); have n2_ := aM_ (bB_ (g := gb396) (o := .cells #[.int .i64 a2_0, .int .i64 a2_1, .int .i64 a2_2, .int .i64 a2_3] 42 (0, 0)) (kb_ BK396.out) hb); have n3_ := aM_ (wS_ (bw_) hb); clear HO399; clear BK395; clear BK396; clear HB; have HO399 := n0_; have BK395 := n1_; have BK396 := n2_; have HB := n3_; clear n0_ n1_ n2_ n3_; (try clear hb); (try clear hb2); (try clear hk); (try clear hi); have hcz23_0 : w22.cell? ⟨gb396, 0, none⟩ = some (.int .i64 a2_0) := (blk_cell BK396.out 0).trans rfl; have hcz23_1 : w22.cell? ⟨gb396, 1, none⟩ = some (.int .i64 a2_1) := (blk_cell BK396.out 1).trans rfl; have hcz23_2 : w22.cell? ⟨gb396, 2, none⟩ = some (.int .i64 a2_2) := (blk_cell BK396.out 2).trans rfl; have hcz23_3 : w22.cell? ⟨gb396, 3, none⟩ = some (.int .i64 a2_3) := (blk_cell BK396.out 3).trans rfl; have hfz23_0 := blk_frozen BK396.out 0; have hfz23_1 := blk_frozen BK396.out 1; have hfz23_2 := blk_frozen BK396.out 2; have hfz23_3 := blk_frozen BK396.out 3) | (go_at_call 55; (with_reducible refine (slices_ContainsFunc_impl_Flow_impl_Flow.calls _ _ l1 a2_0 a2_1 a2_2 a2_3 true _ ?side1 ?side2 A17.out ?hbox).mono ?_); (case hbox => first | exact BK395.out | (with_reducible (repeat (first | refine bN_ ?_ _ | refine bD_ ?_ | refine bA_ ?_ _)); exact BK395.out) | exact BK396.out | (with_reducible (repeat (first | refine bN_ ?_ _ | refine bD_ ?_ | refine bA_ ?_ _)); exact BK396.out)); (case side1 => repeat (first | exact (Kd.C_below HR1.out HB.out) | (with_reducible refine cA_ ?_ _) | (with_reducible refine cN_ ?_ _) | (with_reducible refine cD_ ?_))); (case side2 => exact HC1.out); rintro e w24 ⟨rfl, hb⟩; have n0_ := aM_ (rB_ (rb_ HO399.out) hb); have n1_ := aM_ (bB_ (g := gb395) (o := .cells #[.int .i64 a0_0, .int .i64 a0_1, .int .i64 a0_2, .slice A0_3 l0_3.length c0_3] 31 (0, 0)) (kb_ BK395.out) hb); have n2_ := aM_ (bB_ (g := gb396) (o := .cells #[.int .i64 a2_0, .int .i64 a2_1, .int .i64 a2_2, .int .i64 a2_3] 42 (0, 0)) (kb_ BK396.out) hb); have n3_ := aM_ (wS_ (bw_) hb); clear HO399; clear BK395; clear BK396; clear HB; have HO399 := n0_; have BK395 := n1_; have BK396 := n2_; have HB := n3_; clear n0_ n1_ n2_ n3_; (try clear hb); (try clear hb2); (try clear hk); (try clear hi)))
     go_meet
     case rel => exact ⟨_, (true), (by first | rfl | (simp; done) | (simp [*]; done)), H', ⟨by first | omega | exact Nat.le_refl _⟩, ⟨by (with_reducible repeat (first | apply rA_ | apply rN_ | apply rD_)); exact Kd.R_mono HO399.out (fun _ hk => hk.2)⟩, ⟨by (with_reducible repeat (first | refine bN_ ?_ _ | refine bD_ ?_ | refine bA_ ?_ _)); exact BK395.out⟩, ⟨by (with_reducible repeat (first | refine bN_ ?_ _ | refine bD_ ?_ | refine bA_ ?_ _)); exact BK396.out⟩, ⟨bw_⟩⟩
    ·replace c18 := Bool.eq_false_iff.mpr c18
     subst c18
     have H1 : (if a2_3 = 1 then ((impl_HasRoom.f k a0_0 a0_1 a0_2 l0_3 l1 a2_0 a2_1 a2_2 a2_3 a3).bind fun t402 => (impl_AdmitFlow.j0 k t397 (!t402) a2_0 a2_1 a2_2 a2_3)) else (impl_AdmitFlow.j0 k t397 false a2_0 a2_1 a2_2 a2_3)) = some (r1, r2) := by rw [if_neg (show ¬ (false = true) by decide)] at H; exact H
     clear H; have H := H1; clear H1
     by_cases c25 : a2_3 = 1
     ·rw [if_pos c25] at H
      have c25b0 : (a2_3 == 1) = true := beq_iff_eq.mpr c25
      have c25b1 : (a2_3 != 1) = false := bne_eq_false_iff_eq.mpr c25
      clear c25
      replace H := Option.bind_eq_some_iff.mp H
      obtain ⟨t402, A260, H⟩ := H
      (try dsimp only at H)
      have A26 := aM_ A260; clear A260
      have H' := aM_ H
      clear H; have hnb27 := NB396_395.out; have hnc27 := NB395_396.out
      have hcz28_0 : w9.cell? ⟨gb396, 0, none⟩ = some (.int .i64 a2_0) := (blk_cell BK396.out 0).trans rfl
      have hcz28_1 : w9.cell? ⟨gb396, 1, none⟩ = some (.int .i64 a2_1) := (blk_cell BK396.out 1).trans rfl
      have hcz28_2 : w9.cell? ⟨gb396, 2, none⟩ = some (.int .i64 a2_2) := (blk_cell BK396.out 2).trans rfl
      have hcz28_3 : w9.cell? ⟨gb396, 3, none⟩ = some (.int .i64 a2_3) := (blk_cell BK396.out 3).trans rfl
      have hfz28_0 := blk_frozen BK396.out 0; have hfz28_1 := blk_frozen BK396.out 1; have hfz28_2 := blk_frozen BK396.out 2; have hfz28_3 := blk_frozen BK396.out 3
      have hcz29_0 : w9.cell? ⟨gb395, 0, none⟩ = some (.int .i64 a0_0) := (blk_cell BK395.out 0).trans rfl
      have hcz29_1 : w9.cell? ⟨gb395, 1, none⟩ = some (.int .i64 a0_1) := (blk_cell BK395.out 1).trans rfl
      have hcz29_2 : w9.cell? ⟨gb395, 2, none⟩ = some (.int .i64 a0_2) := (blk_cell BK395.out 2).trans rfl
      have hcz29_3 : w9.cell? ⟨gb395, 3, none⟩ = some (.slice A0_3 l0_3.length c0_3) := (blk_cell BK395.out 3).trans rfl
      have hfz29_0 := blk_frozen BK395.out 0; have hfz29_1 := blk_frozen BK395.out 1; have hfz29_2 := blk_frozen BK395.out 2; have hfz29_3 := blk_frozen BK395.out 3
      go_wp2_with (first | ((with_reducible refine gate_callee (f := 54) rfl ?_); refine goesL_ (some 16) rfl rfl Try.func54 (by kernel_rfl) rfl #[.agg #[.int .i64 a2_0, .int .i64 a2_1, .int .i64 a2_2, .int .i64 a2_3], .int .i64 a0_0] rfl (by (try simp only [List.map_toArray, List.map_cons, List.map_nil]); first | done | rfl | (simp only [List.length_drop, List.length_take]; rfl)) ?_; (with_reducible refine (impl_IsFlow.calls a2_0 a2_1 a2_2 a2_3 a0_0 true _ A10.out).mono ?_); rintro e w30 ⟨rfl, hb⟩; refine ⟨_, rfl, ?_⟩; have n0_ := aM_ (rB_ (rb_ HO399.out) hb); have n1_ := aM_ (bB_ (g := gb395) (o := .cells #[.int .i64 a0_0, .int .i64 a0_1, .int .i64 a0_2, .slice A0_3 l0_3.length c0_3] 31 (0, 0)) (kb_ BK395.out) hb); have n2_ := aM_ (bB_ (g := gb396) (o := .cells #[.int .i64 a2_0, .int .i64 a2_1, .int .i64 a2_2, .int .i64 a2_3] 42 (0, 0)) (kb_ BK396.out) hb); have n3_ := aM_ (wS_ (bw_) hb); clear HO399; clear BK395; clear BK396; clear HB; have HO399 := n0_; have BK395 := n1_; have BK396 := n2_; have HB := n3_; clear n0_ n1_ n2_ n3_; (try clear hb); (try clear hb2); (try clear hk); (try clear hi); have hcz31_0 : w30.cell? ⟨gb396, 0, none⟩ = some (.int .i64 a2_0) := (blk_cell BK396.out 0).trans rfl; have hcz31_1 : w30.cell? ⟨gb396, 1, none⟩ = some (.int .i64 a2_1) := (blk_cell BK396.out 1).trans rfl; have hcz31_2 : w30.cell? ⟨gb396, 2, none⟩ = some (.int .i64 a2_2) := (blk_cell BK396.out 2).trans rfl; have hcz31_3 : w30.cell? ⟨gb396, 3, none⟩ = some (.int .i64 a2_3) := (blk_cell BK396.out 3).trans rfl; have hfz31_0 := blk_frozen BK396.out 0; have hfz31_1 := blk_frozen BK396.out 1; have hfz31_2 := blk_frozen BK396.out 2; have hfz31_3 := blk_frozen BK396.out 3) | (go_at_call 55; (with_reducible refine (slices_ContainsFunc_impl_Flow_impl_Flow.calls _ _ l1 a2_0 a2_1 a2_2 a2_3 false _ ?side1 ?side2 A17.out ?hbox).mono ?_); (case hbox => first | exact BK395.out | (with_reducible (repeat (first | refine bN_ ?_ _ | refine bD_ ?_ | refine bA_ ?_ _)); exact BK395.out) | exact BK396.out | (with_reducible (repeat (first | refine bN_ ?_ _ | refine bD_ ?_ | refine bA_ ?_ _)); exact BK396.out)); (case side1 => repeat (first | exact (Kd.C_below HR1.out HB.out) | (with_reducible refine cA_ ?_ _) | (with_reducible refine cN_ ?_ _) | (with_reducible refine cD_ ?_))); (case side2 => exact HC1.out); rintro e w32 ⟨rfl, hb⟩; have n0_ := aM_ (rB_ (rb_ HO399.out) hb); have n1_ := aM_ (bB_ (g := gb395) (o := .cells #[.int .i64 a0_0, .int .i64 a0_1, .int .i64 a0_2, .slice A0_3 l0_3.length c0_3] 31 (0, 0)) (kb_ BK395.out) hb); have n2_ := aM_ (bB_ (g := gb396) (o := .cells #[.int .i64 a2_0, .int .i64 a2_1, .int .i64 a2_2, .int .i64 a2_3] 42 (0, 0)) (kb_ BK396.out) hb); have n3_ := aM_ (wS_ (bw_) hb); clear HO399; clear BK395; clear BK396; clear HB; have HO399 := n0_; have BK395 := n1_; have BK396 := n2_; have HB := n3_; clear n0_ n1_ n2_ n3_; (try clear hb); (try clear hb2); (try clear hk); (try clear hi); have hcz33_0 : w32.cell? ⟨gb396, 0, none⟩ = some (.int .i64 a2_0) := (blk_cell BK396.out 0).trans rfl; have hcz33_1 : w32.cell? ⟨gb396, 1, none⟩ = some (.int .i64 a2_1) := (blk_cell BK396.out 1).trans rfl; have hcz33_2 : w32.cell? ⟨gb396, 2, none⟩ = some (.int .i64 a2_2) := (blk_cell BK396.out 2).trans rfl; have hcz33_3 : w32.cell? ⟨gb396, 3, none⟩ = some (.int .i64 a2_3) := (blk_cell BK396.out 3).trans rfl; have hfz33_0 := blk_frozen BK396.out 0; have hfz33_1 := blk_frozen BK396.out 1; have hfz33_2 := blk_frozen BK396.out 2; have hfz33_3 := blk_frozen BK396.out 3; have hcz34_0 : w32.cell? ⟨gb395, 0, none⟩ = some (.int .i64 a0_0) := (blk_cell BK395.out 0).trans rfl; have hcz34_1 : w32.cell? ⟨gb395, 1, none⟩ = some (.int .i64 a0_1) := (blk_cell BK395.out 1).trans rfl; have hcz34_2 : w32.cell? ⟨gb395, 2, none⟩ = some (.int .i64 a0_2) := (blk_cell BK395.out 2).trans rfl; have hcz34_3 : w32.cell? ⟨gb395, 3, none⟩ = some (.slice A0_3 l0_3.length c0_3) := (blk_cell BK395.out 3).trans rfl; have hfz34_0 := blk_frozen BK395.out 0; have hfz34_1 := blk_frozen BK395.out 1; have hfz34_2 := blk_frozen BK395.out 2; have hfz34_3 := blk_frozen BK395.out 3) | (go_at_call 57; (with_reducible refine (impl_HasRoom.calls k a0_0 a0_1 a0_2 _ _ l0_3 _ _ l1 a2_0 a2_1 a2_2 a2_3 a3 t402 _ ?side1 ?side2 ?side3 ?side4 A26.out).mono ?_); (case side1 => repeat (first | exact (Kd.C_below HR0_3.out HB.out) | (with_reducible refine cA_ ?_ _) | (with_reducible refine cN_ ?_ _) | (with_reducible refine cD_ ?_))); (case side2 => exact HC0_3.out); (case side3 => repeat (first | exact (Kd.C_below HR1.out HB.out) | (with_reducible refine cA_ ?_ _) | (with_reducible refine cN_ ?_ _) | (with_reducible refine cD_ ?_))); (case side4 => exact HC1.out); rintro e w35 ⟨rfl, hb⟩; have n0_ := aM_ (rB_ (rb_ HO399.out) hb); have n1_ := aM_ (bB_ (g := gb395) (o := .cells #[.int .i64 a0_0, .int .i64 a0_1, .int .i64 a0_2, .slice A0_3 l0_3.length c0_3] 31 (0, 0)) (kb_ BK395.out) hb); have n2_ := aM_ (bB_ (g := gb396) (o := .cells #[.int .i64 a2_0, .int .i64 a2_1, .int .i64 a2_2, .int .i64 a2_3] 42 (0, 0)) (kb_ BK396.out) hb); have n3_ := aM_ (wS_ (bw_) hb); clear HO399; clear BK395; clear BK396; clear HB; have HO399 := n0_; have BK395 := n1_; have BK396 := n2_; have HB := n3_; clear n0_ n1_ n2_ n3_; (try clear hb); (try clear hb2); (try clear hk); (try clear hi)))
      go_meet
      case rel => exact ⟨_, (!t402), (by first | rfl | (simp; done) | (simp [*]; done)), H', ⟨by first | omega | exact Nat.le_refl _⟩, ⟨by (with_reducible repeat (first | apply rA_ | apply rN_ | apply rD_)); exact Kd.R_mono HO399.out (fun _ hk => hk.2)⟩, ⟨by (with_reducible repeat (first | refine bN_ ?_ _ | refine bD_ ?_ | refine bA_ ?_ _)); exact BK395.out⟩, ⟨by (with_reducible repeat (first | refine bN_ ?_ _ | refine bD_ ?_ | refine bA_ ?_ _)); exact BK396.out⟩, ⟨bw_⟩⟩
     ·rw [if_neg c25] at H
      have c25b0 : (a2_3 == 1) = false := beq_eq_false_iff_ne.mpr c25
      have c25b1 : (a2_3 != 1) = true := bne_iff_ne.mpr c25
      have H' := aM_ H
      clear H; have hnb36 := NB396_395.out; have hnc36 := NB395_396.out
      have hcz37_0 : w9.cell? ⟨gb396, 0, none⟩ = some (.int .i64 a2_0) := (blk_cell BK396.out 0).trans rfl
      have hcz37_1 : w9.cell? ⟨gb396, 1, none⟩ = some (.int .i64 a2_1) := (blk_cell BK396.out 1).trans rfl
      have hcz37_2 : w9.cell? ⟨gb396, 2, none⟩ = some (.int .i64 a2_2) := (blk_cell BK396.out 2).trans rfl
      have hcz37_3 : w9.cell? ⟨gb396, 3, none⟩ = some (.int .i64 a2_3) := (blk_cell BK396.out 3).trans rfl
      have hfz37_0 := blk_frozen BK396.out 0; have hfz37_1 := blk_frozen BK396.out 1; have hfz37_2 := blk_frozen BK396.out 2; have hfz37_3 := blk_frozen BK396.out 3
      have hcz38_0 : w9.cell? ⟨gb395, 0, none⟩ = some (.int .i64 a0_0) := (blk_cell BK395.out 0).trans rfl
      have hcz38_1 : w9.cell? ⟨gb395, 1, none⟩ = some (.int .i64 a0_1) := (blk_cell BK395.out 1).trans rfl
      have hcz38_2 : w9.cell? ⟨gb395, 2, none⟩ = some (.int .i64 a0_2) := (blk_cell BK395.out 2).trans rfl
      have hcz38_3 : w9.cell? ⟨gb395, 3, none⟩ = some (.slice A0_3 l0_3.length c0_3) := (blk_cell BK395.out 3).trans rfl
      have hfz38_0 := blk_frozen BK395.out 0; have hfz38_1 := blk_frozen BK395.out 1; have hfz38_2 := blk_frozen BK395.out 2; have hfz38_3 := blk_frozen BK395.out 3
      go_wp2_with (first | ((with_reducible refine gate_callee (f := 54) rfl ?_); refine goesL_ (some 16) rfl rfl Try.func54 (by kernel_rfl) rfl #[.agg #[.int .i64 a2_0, .int .i64 a2_1, .int .i64 a2_2, .int .i64 a2_3], .int .i64 a0_0] rfl (by (try simp only [List.map_toArray, List.map_cons, List.map_nil]); first | done | rfl | (simp only [List.length_drop, List.length_take]; rfl)) ?_; (with_reducible refine (impl_IsFlow.calls a2_0 a2_1 a2_2 a2_3 a0_0 true _ A10.out).mono ?_); rintro e w39 ⟨rfl, hb⟩; refine ⟨_, rfl, ?_⟩; have n0_ := aM_ (rB_ (rb_ HO399.out) hb); have n1_ := aM_ (bB_ (g := gb395) (o := .cells #[.int .i64 a0_0, .int .i64 a0_1, .int .i64 a0_2, .slice A0_3 l0_3.length c0_3] 31 (0, 0)) (kb_ BK395.out) hb); have n2_ := aM_ (bB_ (g := gb396) (o := .cells #[.int .i64 a2_0, .int .i64 a2_1, .int .i64 a2_2, .int .i64 a2_3] 42 (0, 0)) (kb_ BK396.out) hb); have n3_ := aM_ (wS_ (bw_) hb); clear HO399; clear BK395; clear BK396; clear HB; have HO399 := n0_; have BK395 := n1_; have BK396 := n2_; have HB := n3_; clear n0_ n1_ n2_ n3_; (try clear hb); (try clear hb2); (try clear hk); (try clear hi); have hcz40_0 : w39.cell? ⟨gb396, 0, none⟩ = some (.int .i64 a2_0) := (blk_cell BK396.out 0).trans rfl; have hcz40_1 : w39.cell? ⟨gb396, 1, none⟩ = some (.int .i64 a2_1) := (blk_cell BK396.out 1).trans rfl; have hcz40_2 : w39.cell? ⟨gb396, 2, none⟩ = some (.int .i64 a2_2) := (blk_cell BK396.out 2).trans rfl; have hcz40_3 : w39.cell? ⟨gb396, 3, none⟩ = some (.int .i64 a2_3) := (blk_cell BK396.out 3).trans rfl; have hfz40_0 := blk_frozen BK396.out 0; have hfz40_1 := blk_frozen BK396.out 1; have hfz40_2 := blk_frozen BK396.out 2; have hfz40_3 := blk_frozen BK396.out 3) | (go_at_call 55; (with_reducible refine (slices_ContainsFunc_impl_Flow_impl_Flow.calls _ _ l1 a2_0 a2_1 a2_2 a2_3 false _ ?side1 ?side2 A17.out ?hbox).mono ?_); (case hbox => first | exact BK395.out | (with_reducible (repeat (first | refine bN_ ?_ _ | refine bD_ ?_ | refine bA_ ?_ _)); exact BK395.out) | exact BK396.out | (with_reducible (repeat (first | refine bN_ ?_ _ | refine bD_ ?_ | refine bA_ ?_ _)); exact BK396.out)); (case side1 => repeat (first | exact (Kd.C_below HR1.out HB.out) | (with_reducible refine cA_ ?_ _) | (with_reducible refine cN_ ?_ _) | (with_reducible refine cD_ ?_))); (case side2 => exact HC1.out); rintro e w41 ⟨rfl, hb⟩; have n0_ := aM_ (rB_ (rb_ HO399.out) hb); have n1_ := aM_ (bB_ (g := gb395) (o := .cells #[.int .i64 a0_0, .int .i64 a0_1, .int .i64 a0_2, .slice A0_3 l0_3.length c0_3] 31 (0, 0)) (kb_ BK395.out) hb); have n2_ := aM_ (bB_ (g := gb396) (o := .cells #[.int .i64 a2_0, .int .i64 a2_1, .int .i64 a2_2, .int .i64 a2_3] 42 (0, 0)) (kb_ BK396.out) hb); have n3_ := aM_ (wS_ (bw_) hb); clear HO399; clear BK395; clear BK396; clear HB; have HO399 := n0_; have BK395 := n1_; have BK396 := n2_; have HB := n3_; clear n0_ n1_ n2_ n3_; (try clear hb); (try clear hb2); (try clear hk); (try clear hi); have hcz42_0 : w41.cell? ⟨gb396, 0, none⟩ = some (.int .i64 a2_0) := (blk_cell BK396.out 0).trans rfl; have hcz42_1 : w41.cell? ⟨gb396, 1, none⟩ = some (.int .i64 a2_1) := (blk_cell BK396.out 1).trans rfl; have hcz42_2 : w41.cell? ⟨gb396, 2, none⟩ = some (.int .i64 a2_2) := (blk_cell BK396.out 2).trans rfl; have hcz42_3 : w41.cell? ⟨gb396, 3, none⟩ = some (.int .i64 a2_3) := (blk_cell BK396.out 3).trans rfl; have hfz42_0 := blk_frozen BK396.out 0; have hfz42_1 := blk_frozen BK396.out 1; have hfz42_2 := blk_frozen BK396.out 2; have hfz42_3 := blk_frozen BK396.out 3))
      go_meet
      case rel => exact ⟨_, (false), (by first | rfl | (simp; done) | (simp [*]; done)), H', ⟨by first | omega | exact Nat.le_refl _⟩, ⟨by (with_reducible repeat (first | apply rA_ | apply rN_ | apply rD_)); exact Kd.R_mono HO399.out (fun _ hk => hk.2)⟩, ⟨by (with_reducible repeat (first | refine bN_ ?_ _ | refine bD_ ?_ | refine bA_ ?_ _)); exact BK395.out⟩, ⟨by (with_reducible repeat (first | refine bN_ ?_ _ | refine bD_ ?_ | refine bA_ ?_ _)); exact BK396.out⟩, ⟨bw_⟩⟩
  ·replace c11 := Bool.eq_false_iff.mpr c11
   subst c11
   have H1 : (impl_AdmitFlow.j0 k t397 true a2_0 a2_1 a2_2 a2_3) = some (r1, r2) := by rw [if_neg (show ¬ (false = true) by decide)] at H; exact H
   clear H; have H := H1; clear H1
   have H' := aM_ H
   clear H; have hnb43 := NB396_395.out; have hnc43 := NB395_396.out
   have hcz44_0 : w9.cell? ⟨gb396, 0, none⟩ = some (.int .i64 a2_0) := (blk_cell BK396.out 0).trans rfl
   have hcz44_1 : w9.cell? ⟨gb396, 1, none⟩ = some (.int .i64 a2_1) := (blk_cell BK396.out 1).trans rfl
   have hcz44_2 : w9.cell? ⟨gb396, 2, none⟩ = some (.int .i64 a2_2) := (blk_cell BK396.out 2).trans rfl
   have hcz44_3 : w9.cell? ⟨gb396, 3, none⟩ = some (.int .i64 a2_3) := (blk_cell BK396.out 3).trans rfl
   have hfz44_0 := blk_frozen BK396.out 0; have hfz44_1 := blk_frozen BK396.out 1; have hfz44_2 := blk_frozen BK396.out 2; have hfz44_3 := blk_frozen BK396.out 3
   have hcz45_0 : w9.cell? ⟨gb395, 0, none⟩ = some (.int .i64 a0_0) := (blk_cell BK395.out 0).trans rfl
   have hcz45_1 : w9.cell? ⟨gb395, 1, none⟩ = some (.int .i64 a0_1) := (blk_cell BK395.out 1).trans rfl
   have hcz45_2 : w9.cell? ⟨gb395, 2, none⟩ = some (.int .i64 a0_2) := (blk_cell BK395.out 2).trans rfl
   have hcz45_3 : w9.cell? ⟨gb395, 3, none⟩ = some (.slice A0_3 l0_3.length c0_3) := (blk_cell BK395.out 3).trans rfl
   have hfz45_0 := blk_frozen BK395.out 0; have hfz45_1 := blk_frozen BK395.out 1; have hfz45_2 := blk_frozen BK395.out 2; have hfz45_3 := blk_frozen BK395.out 3
   go_wp2_with (first | ((with_reducible refine gate_callee (f := 54) rfl ?_); refine goesL_ (some 16) rfl rfl Try.func54 (by kernel_rfl) rfl #[.agg #[.int .i64 a2_0, .int .i64 a2_1, .int .i64 a2_2, .int .i64 a2_3], .int .i64 a0_0] rfl (by (try simp only [List.map_toArray, List.map_cons, List.map_nil]); first | done | rfl | (simp only [List.length_drop, List.length_take]; rfl)) ?_; (with_reducible refine (impl_IsFlow.calls a2_0 a2_1 a2_2 a2_3 a0_0 false _ A10.out).mono ?_); rintro e w46 ⟨rfl, hb⟩; refine ⟨_, rfl, ?_⟩; have n0_ := aM_ (rB_ (rb_ HO399.out) hb); have n1_ := aM_ (bB_ (g := gb395) (o := .cells #[.int .i64 a0_0, .int .i64 a0_1, .int .i64 a0_2, .slice A0_3 l0_3.length c0_3] 31 (0, 0)) (kb_ BK395.out) hb); have n2_ := aM_ (bB_ (g := gb396) (o := .cells #[.int .i64 a2_0, .int .i64 a2_1, .int .i64 a2_2, .int .i64 a2_3] 42 (0, 0)) (kb_ BK396.out) hb); have n3_ := aM_ (wS_ (bw_) hb); clear HO399; clear BK395; clear BK396; clear HB; have HO399 := n0_; have BK395 := n1_; have BK396 := n2_; have HB := n3_; clear n0_ n1_ n2_ n3_; (try clear hb); (try clear hb2); (try clear hk); (try clear hi)))
   go_meet
   case rel => exact ⟨_, (true), (by first | rfl | (simp; done) | (simp [*]; done)), H', ⟨by first | omega | exact Nat.le_refl _⟩, ⟨by (with_reducible repeat (first | apply rA_ | apply rN_ | apply rD_)); exact Kd.R_mono HO399.out (fun _ hk => hk.2)⟩, ⟨by (with_reducible repeat (first | refine bN_ ?_ _ | refine bD_ ?_ | refine bA_ ?_ _)); exact BK395.out⟩, ⟨by (with_reducible repeat (first | refine bN_ ?_ _ | refine bD_ ?_ | refine bA_ ?_ _)); exact BK396.out⟩, ⟨bw_⟩⟩
 case rest =>
  clear HC6
  try clear c1
  try clear c2
  try clear p2
  try clear c3
  try clear c4
  try clear c5
  try clear c11
  try clear c12
  try clear c12b0
  try clear c12b1
  try clear c13
  try clear c18
  try clear c19
  try clear c21
  try clear c25
  try clear c25b0
  try clear c25b1
  try clear c27
  try clear c36
  try clear c43
  try clear hcz14_0
  try clear hcz14_1
  try clear hcz14_2
  try clear hcz14_3
  try clear hcz15_0
  try clear hcz15_1
  try clear hcz15_2
  try clear hcz15_3
  try clear hcz20_0
  try clear hcz20_1
  try clear hcz20_2
  try clear hcz20_3
  try clear hcz21_0
  try clear hcz21_1
  try clear hcz21_2
  try clear hcz21_3
  try clear hcz23_0
  try clear hcz23_1
  try clear hcz23_2
  try clear hcz23_3
  try clear hcz28_0
  try clear hcz28_1
  try clear hcz28_2
  try clear hcz28_3
  try clear hcz29_0
  try clear hcz29_1
  try clear hcz29_2
  try clear hcz29_3
  try clear hcz31_0
  try clear hcz31_1
  try clear hcz31_2
  try clear hcz31_3
  try clear hcz33_0
  try clear hcz33_1
  try clear hcz33_2
  try clear hcz33_3
  try clear hcz34_0
  try clear hcz34_1
  try clear hcz34_2
  try clear hcz34_3
  try clear hcz37_0
  try clear hcz37_1
  try clear hcz37_2
  try clear hcz37_3
  try clear hcz38_0
  try clear hcz38_1
  try clear hcz38_2
  try clear hcz38_3
  try clear hcz40_0
  try clear hcz40_1
  try clear hcz40_2
  try clear hcz40_3
  try clear hcz42_0
  try clear hcz42_1
  try clear hcz42_2
  try clear hcz42_3
  try clear hcz44_0
  try clear hcz44_1
  try clear hcz44_2
  try clear hcz44_3
  try clear hcz45_0
  try clear hcz45_1
  try clear hcz45_2
  try clear hcz45_3
  try clear hfz14_0
  try clear hfz14_1
  try clear hfz14_2
  try clear hfz14_3
  try clear hfz15_0
  try clear hfz15_1
  try clear hfz15_2
  try clear hfz15_3
  try clear hfz20_0
  try clear hfz20_1
  try clear hfz20_2
  try clear hfz20_3
  try clear hfz21_0
  try clear hfz21_1
  try clear hfz21_2
  try clear hfz21_3
  try clear hfz23_0
  try clear hfz23_1
  try clear hfz23_2
  try clear hfz23_3
  try clear hfz28_0
  try clear hfz28_1
  try clear hfz28_2
  try clear hfz28_3
  try clear hfz29_0
  try clear hfz29_1
  try clear hfz29_2
  try clear hfz29_3
  try clear hfz31_0
  try clear hfz31_1
  try clear hfz31_2
  try clear hfz31_3
  try clear hfz33_0
  try clear hfz33_1
  try clear hfz33_2
  try clear hfz33_3
  try clear hfz34_0
  try clear hfz34_1
  try clear hfz34_2
  try clear hfz34_3
  try clear hfz37_0
  try clear hfz37_1
  try clear hfz37_2
  try clear hfz37_3
  try clear hfz38_0
  try clear hfz38_1
  try clear hfz38_2
  try clear hfz38_3
  try clear hfz40_0
  try clear hfz40_1
  try clear hfz40_2
  try clear hfz40_3
  try clear hfz42_0
  try clear hfz42_1
  try clear hfz42_2
  try clear hfz42_3
  try clear hfz44_0
  try clear hfz44_1
  try clear hfz44_2
  try clear hfz44_3
  try clear hfz45_0
  try clear hfz45_1
  try clear hfz45_2
  try clear hfz45_3
  obtain ⟨kq, x40_5, rfl, HA, HJ5, HO_10, BK395, BK396, HB⟩ := hcut
  cases kq with
  | zero => exact absurd HA.out (by simp [impl_AdmitFlow.j0])
  | succ kj5 =>
   have H := HA.out; clear HA
   simp only [impl_AdmitFlow.j0] at H
   by_cases c47 : x40_5 = true
   ·subst c47
    have H1 : (some (t397, false)) = some (r1, r2) := by rw [if_pos rfl] at H; exact H
    clear H; have H := H1; clear H1
    simp only [Option.some.injEq, Prod.mk.injEq] at H
    obtain ⟨rfl, rfl⟩ := H
    go_wp2
    go_ret2
    exact ⟨_, by first | rfl | (simp [errW_none, errW_some] <;> rfl) | (simp [*, errW_none, errW_some] <;> rfl), by (with_reducible repeat (first | apply rA_ | apply rN_ | apply rD_)); exact Kd.R_mono HO_10.out (fun _ hk => trivial), bw_⟩
   ·replace c47 := Bool.eq_false_iff.mpr c47
    subst c47
    have H1 : (if t397.length < 4398046511104 then (some ((t397 ++ [(⟨a2_0, a2_1, a2_2, a2_3⟩ : S42)]), true)) else (none)) = some (r1, r2) := by rw [if_neg (show ¬ (false = true) by decide)] at H; exact H
    clear H; have H := H1; clear H1
    by_cases c48 : t397.length < 4398046511104
    ·rw [if_pos c48] at H
     have LMc48 := aM_ c48; clear c48
     obtain ⟨y403, hy403⟩ : ∃ y_ : List (S42), y_ = (t397 ++ [(⟨a2_0, a2_1, a2_2, a2_3⟩ : S42)]) := ⟨_, rfl⟩
     replace H : (some (y403, true)) = some (r1, r2) := by first | (rw [hy403]; with_reducible exact H) | (have H2_ := (Option.bind_some _ _).symm.trans H; rw [hy403]; with_reducible exact H2_) | (have H2_ := (Option.bind_some _ _).symm.trans H; with_reducible exact H2_) | with_reducible exact H | (rw [hy403]; exact H) | exact H
     have Ny403 := aM_ hy403; clear hy403
     simp only [Option.some.injEq, Prod.mk.injEq] at H
     obtain ⟨rfl, rfl⟩ := H
     have hnb49 := NB396_395.out; have hnc49 := NB395_396.out
     have hcz50_0 : wc.cell? ⟨gb396, 0, none⟩ = some (.int .i64 a2_0) := (blk_cell BK396.out 0).trans rfl
     have hcz50_1 : wc.cell? ⟨gb396, 1, none⟩ = some (.int .i64 a2_1) := (blk_cell BK396.out 1).trans rfl
     have hcz50_2 : wc.cell? ⟨gb396, 2, none⟩ = some (.int .i64 a2_2) := (blk_cell BK396.out 2).trans rfl
     have hcz50_3 : wc.cell? ⟨gb396, 3, none⟩ = some (.int .i64 a2_3) := (blk_cell BK396.out 3).trans rfl
     have hfz50_0 := blk_frozen BK396.out 0; have hfz50_1 := blk_frozen BK396.out 1; have hfz50_2 := blk_frozen BK396.out 2; have hfz50_3 := blk_frozen BK396.out 3
     go_wp2_with (first | ((with_reducible refine gate_builtin (b := .append) (xs := #[.tmp 42, .tmp 44]) rfl ?_); (try (refine gate_guard (by rfl) ?_; dsimp only)); at_builtin; refine Kd.R_append k42 (w0 := w) w.heap.size rfl (.tmp 42) (.tmp 44) 33 42 (.agg #[(.int .i64 0), (.int .i64 0), (.int .i64 0), (.int .i64 0)]) 32 rfl Try.underlying33 info42 rfl (by decide) (by omega) v398 t397 (⟨a2_0, a2_1, a2_2, a2_3⟩ : S42) [.int .i64 a2_0, .int .i64 a2_1, .int .i64 a2_2, .int .i64 a2_3] (fun k_ => k_ ≠ gb396) (fun _ => False) rfl rfl ?aP (fun _ hk => hk.elim) ?aF ?aO ?aB ?aS ?aL ?_; (case aP => exact k42_mkM _ _ _ (⟨a2_0, a2_1, a2_2, a2_3⟩ : S42)); (case aB => exact (bw_)); (case aF => exact (fun k_ hk => Kd.freshB (g := gb396) (o := .cells #[.int .i64 a2_0, .int .i64 a2_1, .int .i64 a2_2, .int .i64 a2_3] 42 (0, 0)) (kb_ BK396.out) k_ hk)); (case aO => exact (rb_ HO_10.out)); (case aS => exact (sZ_ (bw_))); (case aL => have := LMc48.out; omega); intro v404 w51 ho hb hg hat; rw [← Ny403.out] at ho; have n0_ := aM_ (blk_grown (g := gb395) (o := .cells #[.int .i64 a0_0, .int .i64 a0_1, .int .i64 a0_2, .slice A0_3 l0_3.length c0_3] 31 (0, 0)) (kb_ BK395.out) hg (Kd.R_ne HO_10.out BK395.out (by decide))); have n1_ := aM_ (blk_grown (g := gb396) (o := .cells #[.int .i64 a2_0, .int .i64 a2_1, .int .i64 a2_2, .int .i64 a2_3] 42 (0, 0)) (kb_ BK396.out) hg (Kd.R_away HO_10.out (fun _ hk => hk))); have n2_ := aM_ (hb); have n3_ := aM_ (ho); clear BK395; clear BK396; clear HB; clear HO_10; have BK395 := n0_; have BK396 := n1_; have HB := n2_; have HO405 := n3_; clear n0_ n1_ n2_ n3_; clear ho hb hg hat))
     go_ret2
     exact ⟨_, by first | rfl | (simp [errW_none, errW_some] <;> rfl) | (simp [*, errW_none, errW_some] <;> rfl), by (with_reducible repeat (first | apply rA_ | apply rN_ | apply rD_)); exact Kd.R_mono HO405.out (fun _ hk => trivial), bw_⟩
    ·rw [if_neg c48] at H
     exact absurd H (by simp)

/-! ### laws_markIntS: function 36 -/
def laws_markIntS.l0 : Nat → List Int → Int → Int → Option (Int × List Int)
  | 0, _, _, _ => none
  | k + 1, x0, x1, x5 => if x5 < (x0.length : Int) then (if 0 ≤ x5 then (laws_markIntS.l0 k (x0.set (x5 : Int).toNat x1) (wrap64 (x1 + 1)) (wrap64 (x5 + 1))) else (none)) else (some (x1, x0))
def laws_markIntS.f (k : Nat) (l0 : List Int) (a1 : Int) : Option (Int × List Int) := laws_markIntS.l0 k l0 a1 0
set_option maxHeartbeats 8000000 in
set_option maxRecDepth 100000 in
theorem laws_markIntS.calls (k : Nat) (P0_ : Nat → Prop) (u9000_ : Value) (l0 : List Int) (a1 : Int) (r1 : Int) (r2 : List Int) (w0 w : World) (hB : Below w0.heap.size w0 w) (ho0 : Kd.R (Kd.int .i64) 3 w w0.heap.size P0_ u9000_ l0) (h : laws_markIntS.f k l0 a1 = some (r1, r2)) :
    Calls Try.prog 36 #[u9000_, .int .i64 a1] w fun e w' => e = .returned (.int .i64 r1) ∧ Kd.R (Kd.int .i64) 3 w' w0.heap.size (fun k_ => (P0_ k_ ∨ w.heap.size ≤ k_)) u9000_ r2 ∧ Below w0.heap.size w0 w' ∧ Kept w w' (fun k_ => P0_ k_) := by
  have HO0 := aM_ (show Kd.R (Kd.int .i64) 3 w w0.heap.size (fun k_ => (P0_ k_ ∨ w.heap.size ≤ k_)) u9000_ l0 from Kd.R_mono ho0 (fun k_ hk => (.inl hk)))
  have HK := aM_ (Kept.refl w (fun k_ => P0_ k_))
  have HW0 := aM_ hB.size
  have HB := aM_ hB
  clear hB
  have H : (laws_markIntS.l0 k l0 a1 0) = some (r1, r2) := h
  clear h
  have H' := aM_ H
  clear H
  go_enter Try.func36, Try.ntmps36
  go_wp2
  go_loopg [1, 5] k (fun kq v1 v5 w' => ∃ (x0_1 : List Int) (x1_1 : Int) (x5_1 : Int), v1 = .int .i64 x1_1 ∧ v5 = .int .i64 x5_1 ∧ Aside0 (laws_markIntS.l0 kq x0_1 x1_1 x5_1 = some (r1, r2)) ∧ Aside0 (kq ≤ k) ∧ Aside0 (Kd.R (Kd.int .i64) 3 w' w0.heap.size (fun k_ => (P0_ k_ ∨ w.heap.size ≤ k_)) u9000_ x0_1) ∧ Aside0 (Kept w w' (fun k_ => P0_ k_)) ∧ Aside0 (Below w0.heap.size w0 w'))
  case atStart => exact ⟨(l0), (a1), (0), (by first | rfl | (simp; done) | (simp [*]; done)), (by first | rfl | (simp; done) | (simp [*]; done)), H', ⟨Nat.le_refl _⟩, ⟨by (with_reducible repeat (first | apply rA_ | apply rN_ | apply rD_)); exact HO0.out⟩, ⟨by repeat (first | (with_reducible first | exact HK.out | apply Kept.alloc | apply Kept.drewN | apply Kept.drew) | exact HK.out)⟩, ⟨bw_⟩⟩
  case round =>
    clear H'
    try clear p2
    obtain ⟨x0_1, x1_1, x5_1, rfl, rfl, HA, HK1, HO_0, HK, HB⟩ := hrel
    cases gk with
    | zero => exact absurd HA.out (by simp [laws_markIntS.l0])
    | succ k1 =>
      have H := HA.out
      clear HA
      simp only [laws_markIntS.l0] at H
      by_cases c3 : x5_1 < (x0_1.length : Int)
      · rw [if_pos c3] at H
        have c3b0 : decide (x5_1 < (x0_1.length : Int)) = true := decide_eq_true c3
        clear c3
        by_cases c4 : 0 ≤ x5_1
        · rw [if_pos c4] at H
          have c4b0 : decide (0 ≤ x5_1) = true := decide_eq_true c4
          clear c4
          obtain ⟨y406, hy406⟩ : ∃ y_ : List Int, y_ = (x0_1.set (x5_1 : Int).toNat x1_1) := ⟨_, rfl⟩
          replace H : (laws_markIntS.l0 k1 y406 (wrap64 (x1_1 + 1)) (wrap64 (x5_1 + 1))) = some (r1, r2) := by first | (rw [hy406]; with_reducible exact H) | (have H2_ := (Option.bind_some _ _).symm.trans H; rw [hy406]; with_reducible exact H2_) | (have H2_ := (Option.bind_some _ _).symm.trans H; with_reducible exact H2_) | with_reducible exact H | (rw [hy406]; exact H) | exact H
          have Ny406 := aM_ hy406
          clear hy406
          have H' := aM_ H
          clear H
          obtain ⟨Ao6, co6, eo6⟩ := Kd.R_slice HO_0.out
          subst eo6
          have p5 : 0 ≤ (x5_1 : Int) := dT_
          have q5 : (x5_1 : Int) < ((x0_1.length : Int) : Int) := dT_
          obtain ⟨go5, co5, eo5, gb5, gl5, cl5, HG5⟩ := Kd.R_form HO_0.out (by omega)
          (first | cases eo5 | (injection eo5 with ea_ en_ ec_; (first | subst ea_ | (injection ea_ with ea_; subst ea_)); subst ec_; clear en_))
          have GB5 := aM_ gb5
          have GG5 := aM_ HG5
          clear gb5 gl5 HG5
          have HMgo5 := aM_ (show (P0_ go5 ∨ w.heap.size ≤ go5) from (HO_0.out.1 _ rfl))
          obtain ⟨hx5_0, hf5_0⟩ := Kd.R_celln 0 HO_0.out (x5_1 : Int) p5 q5
          replace p5 := eq_true p5
          replace q5 := eq_true q5
          have HP7 := Kd.R_putg HO_0.out (x5_1 : Int) x1_1
          go_wp2_with (first | ((with_reducible refine gate_store (t := 3) (p := 15) rfl ?_); refine store_event (t := 3) (p := 15) (v := ?vo_w8) (w1 := (wr.setCell ⟨go5, (x5_1 : Int).toNat, none⟩ (.int .i64 x1_1))) ?hg ?ho ?hn ?hr ?_; (case ho => rfl); (case hg => rfl); (case hn => rfl); (case hr => first | (go_simp; done) | (go_simp; rfl)); intro w8 hw; have hg : wr.grownBy w8 (some go5) := (by rw [hw]; exact HP7.2); have hp_ : Kd.R (Kd.int .i64) 3 w8 w0.heap.size (fun k_ => (P0_ k_ ∨ w.heap.size ≤ k_)) (.slice (some ⟨go5, 0, none⟩) x0_1.length co6) y406 := (by rw [hw, Ny406.out]; exact HP7.1); clear HP7; have n0_ := aM_ (hp_); have n1_ := aM_ ((by rw [hw]; exact wE_ (HB.out) GB5.out : Below w0.heap.size w0 w8)); have n2_ := aM_ (Kept.of_grown (S := (fun k_ => P0_ k_)) hg (by repeat (first | (with_reducible first | exact HK.out | apply Kept.alloc | apply Kept.drewN | apply Kept.drew) | exact HK.out)) (fun k_ e_ => (HO_0.out.1 k_ e_))); clear HO_0; clear HB; clear HK; have HO_0 := n0_; have HB := n1_; have HK := n2_; clear n0_ n1_ n2_; clear hg hw hp_))
          go_roundg k1
          case measure => have := HK1.out; omega
          case rel => exact ⟨(y406), (wrap64 (x1_1 + 1)), (wrap64 (x5_1 + 1)), (by first | rfl | (simp; done) | (simp [*]; done)), (by first | rfl | (simp; done) | (simp [*]; done)), H', ⟨by have := HK1.out; omega⟩, ⟨by (with_reducible repeat (first | apply rA_ | apply rN_ | apply rD_)); exact HO_0.out⟩, ⟨by repeat (first | (with_reducible first | exact HK.out | apply Kept.alloc | apply Kept.drewN | apply Kept.drew) | exact HK.out)⟩, ⟨bw_⟩⟩
        · rw [if_neg c4] at H
          exact absurd H (by simp)
      · rw [if_neg c3] at H
        have c3b0 : decide (x5_1 < (x0_1.length : Int)) = false := decide_eq_false c3
        clear c3
        simp only [Option.some.injEq, Prod.mk.injEq] at H
        obtain ⟨rfl, rfl⟩ := H
        obtain ⟨Ao9, co9, eo9⟩ := Kd.R_slice HO_0.out
        subst eo9
        go_wp2
        go_ret
        exact ⟨by first | rfl | (simp [errW_none, errW_some] <;> rfl) | (simp [*, errW_none, errW_some] <;> rfl), by (with_reducible repeat (first | apply rA_ | apply rN_ | apply rD_)); exact HO_0.out, bw_, by repeat (first | (with_reducible first | exact HK.out | apply Kept.alloc | apply Kept.drewN | apply Kept.drew) | exact HK.out)⟩

/-! ### laws_markLinkS: function 80 -/
def laws_markLinkS.l0 : Nat → List (S123) → Int → Int → Option (Int × (List (S123)))
  | 0, _, _, _ => none
  | k + 1, x0, x1, x5 => if x5 < (x0.length : Int) then (if 0 ≤ x5 then ((some (x0.set (x5 : Int).toNat (⟨x1, (rd_T123 x0 x5).f1⟩ : S123) : List (S123))).bind fun y407 => (laws_markLinkS.l0 k (y407.set (x5 : Int).toNat (⟨(rd_T123 y407 x5).f0, wrap64 (x1 + 1)⟩ : S123)) (wrap64 ((wrap64 (x1 + 1)) + 1)) (wrap64 (x5 + 1)))) else (none)) else (some (x1, x0))
def laws_markLinkS.f (k : Nat) (l0 : List (S123)) (a1 : Int) : Option (Int × (List (S123))) := laws_markLinkS.l0 k l0 a1 0
set_option maxHeartbeats 8000000 in
set_option maxRecDepth 100000 in
theorem laws_markLinkS.calls (k : Nat) (P0_ : Nat → Prop) (u9000_ : Value) (l0 : List (S123)) (a1 : Int) (r1 : Int) (r2 : List (S123)) (w0 w : World) (hB : Below w0.heap.size w0 w) (ho0 : Kd.R k123 123 w w0.heap.size P0_ u9000_ l0) (h : laws_markLinkS.f k l0 a1 = some (r1, r2)) :
    Calls Try.prog 80 #[u9000_, .int .i64 a1] w fun e w' => e = .returned (.int .i64 r1) ∧ Kd.R k123 123 w' w0.heap.size (fun k_ => (P0_ k_ ∨ w.heap.size ≤ k_)) u9000_ r2 ∧ Below w0.heap.size w0 w' ∧ Kept w w' (fun k_ => P0_ k_) := by
  have HO0 := aM_ (show Kd.R k123 123 w w0.heap.size (fun k_ => (P0_ k_ ∨ w.heap.size ≤ k_)) u9000_ l0 from Kd.R_mono ho0 (fun k_ hk => (.inl hk)))
  have HK := aM_ (Kept.refl w (fun k_ => P0_ k_))
  have HW0 := aM_ hB.size
  have HB := aM_ hB
  clear hB
  have H : (laws_markLinkS.l0 k l0 a1 0) = some (r1, r2) := h
  clear h
  have H' := aM_ H
  clear H
  go_enter Try.func80, Try.ntmps80
  go_wp2
  go_loopg [1, 5] k (fun kq v1 v5 w' => ∃ (x0_1 : List (S123)) (x1_1 : Int) (x5_1 : Int), v1 = .int .i64 x1_1 ∧ v5 = .int .i64 x5_1 ∧ Aside0 (laws_markLinkS.l0 kq x0_1 x1_1 x5_1 = some (r1, r2)) ∧ Aside0 (kq ≤ k) ∧ Aside0 (Kd.R k123 123 w' w0.heap.size (fun k_ => (P0_ k_ ∨ w.heap.size ≤ k_)) u9000_ x0_1) ∧ Aside0 (Kept w w' (fun k_ => P0_ k_)) ∧ Aside0 (Below w0.heap.size w0 w'))
  case atStart => exact ⟨(l0), (a1), (0), (by first | rfl | (simp; done) | (simp [*]; done)), (by first | rfl | (simp; done) | (simp [*]; done)), H', ⟨Nat.le_refl _⟩, ⟨by (with_reducible repeat (first | apply rA_ | apply rN_ | apply rD_)); exact HO0.out⟩, ⟨by repeat (first | (with_reducible first | exact HK.out | apply Kept.alloc | apply Kept.drewN | apply Kept.drew) | exact HK.out)⟩, ⟨bw_⟩⟩
  case round =>
    clear H'
    try clear p2
    obtain ⟨x0_1, x1_1, x5_1, rfl, rfl, HA, HK1, HO_0, HK, HB⟩ := hrel
    cases gk with
    | zero => exact absurd HA.out (by simp [laws_markLinkS.l0])
    | succ k1 =>
      have H := HA.out
      clear HA
      simp only [laws_markLinkS.l0] at H
      by_cases c3 : x5_1 < (x0_1.length : Int)
      · rw [if_pos c3] at H
        have c3b0 : decide (x5_1 < (x0_1.length : Int)) = true := decide_eq_true c3
        clear c3
        by_cases c4 : 0 ≤ x5_1
        · rw [if_pos c4] at H
          have c4b0 : decide (0 ≤ x5_1) = true := decide_eq_true c4
          clear c4
          obtain ⟨y407, hy407⟩ : ∃ y_ : List (S123), y_ = (x0_1.set (x5_1 : Int).toNat (⟨x1_1, (rd_T123 x0_1 x5_1).f1⟩ : S123)) := ⟨_, rfl⟩
          replace H : (laws_markLinkS.l0 k1 (y407.set (x5_1 : Int).toNat (⟨(rd_T123 y407 x5_1).f0, wrap64 (x1_1 + 1)⟩ : S123)) (wrap64 ((wrap64 (x1_1 + 1)) + 1)) (wrap64 (x5_1 + 1))) = some (r1, r2) := by first | (rw [hy407]; with_reducible exact H) | (have H2_ := (Option.bind_some _ _).symm.trans H; rw [hy407]; with_reducible exact H2_) | (have H2_ := (Option.bind_some _ _).symm.trans H; with_reducible exact H2_) | with_reducible exact H | (rw [hy407]; exact H) | exact H
          have Ny407 := aM_ hy407
          clear hy407
          obtain ⟨y408, hy408⟩ : ∃ y_ : List (S123), y_ = (y407.set (x5_1 : Int).toNat (⟨(rd_T123 y407 x5_1).f0, wrap64 (x1_1 + 1)⟩ : S123)) := ⟨_, rfl⟩
          replace H : (laws_markLinkS.l0 k1 y408 (wrap64 ((wrap64 (x1_1 + 1)) + 1)) (wrap64 (x5_1 + 1))) = some (r1, r2) := by first | (rw [hy408]; with_reducible exact H) | (have H2_ := (Option.bind_some _ _).symm.trans H; rw [hy408]; with_reducible exact H2_) | (have H2_ := (Option.bind_some _ _).symm.trans H; with_reducible exact H2_) | with_reducible exact H | (rw [hy408]; exact H) | exact H
          have Ny408 := aM_ hy408
          clear hy408
          have H' := aM_ H
          clear H
          obtain ⟨Ao7, co7, eo7⟩ := Kd.R_slice HO_0.out
          subst eo7
          have p5 : 0 ≤ (x5_1 : Int) := dT_
          have q5 : (x5_1 : Int) < ((x0_1.length : Int) : Int) := dT_
          obtain ⟨go5, co5, eo5, gb5, gl5, cl5, HG5⟩ := Kd.R_form HO_0.out (by omega)
          (first | cases eo5 | (injection eo5 with ea_ en_ ec_; (first | subst ea_ | (injection ea_ with ea_; subst ea_)); subst ec_; clear en_))
          have GB5 := aM_ gb5
          have GG5 := aM_ HG5
          clear gb5 gl5 HG5
          have HMgo5 := aM_ (show (P0_ go5 ∨ w.heap.size ≤ go5) from (HO_0.out.1 _ rfl))
          obtain ⟨ce5, hcl5, hM5, hcc5, hfr5⟩ := Kd.R_elem HO_0.out z123 (x5_1 : Int) p5 q5
          obtain rfl := k123_openM hM5
          have hx5_0 : wr.cell? ⟨go5, (x5_1 : Int).toNat * 2, none⟩ = some (.int .i64 ((rd_T123 x0_1 x5_1).f0)) := hcc5 0 _ rfl
          have hx5_1 : wr.cell? ⟨go5, (x5_1 : Int).toNat * 2 + 1, none⟩ = some (.int .i64 ((rd_T123 x0_1 x5_1).f1)) := hcc5 1 _ rfl
          have hf5_0 : wr.frozen? ⟨go5, (x5_1 : Int).toNat * 2, none⟩ = false := hfr5 0
          have hf5_1 : wr.frozen? ⟨go5, (x5_1 : Int).toNat * 2 + 1, none⟩ = false := hfr5 1
          clear hcl5 hcc5 hfr5 hM5
          replace p5 := eq_true p5
          replace q5 := eq_true q5
          have HX8 := aM_ (show Kd.R k123 123 wr w0.heap.size (fun k_ => (P0_ k_ ∨ w.heap.size ≤ k_)) (.slice (some ⟨go5, 0, none⟩) x0_1.length co7) x0_1 from (rb_ HO_0.out))
          obtain ⟨ce8, hcl8, hM8, hcc8, hfr8⟩ := Kd.R_elem HX8.out z123 (x5_1 : Int) (dT_) (by have h_ : (x5_1 : Int) < ((x0_1.length : Int) : Int) := dT_; first | exact h_ | (have e_ := (Kd.R_reads' HO_0.out).1; omega) | simpa using h_)
          obtain rfl := k123_openM hM8
          have HP8 := Kd.R_seg HX8.out (x5_1 : Int) (dT_) (by have h_ : (x5_1 : Int) < ((x0_1.length : Int) : Int) := dT_; first | exact h_ | (have e_ := (Kd.R_reads' HO_0.out).1; omega) | simpa using h_) (seg := [.int .i64 x1_1]) (j := 0) hcl8 hcc8 (show 1 ≤ 2 from by decide) (x' := (⟨x1_1, (rd_T123 x0_1 x5_1).f1⟩ : S123)) (k123_mkM _ _ _ (⟨x1_1, (rd_T123 x0_1 x5_1).f1⟩ : S123) ) (fun _ hk => hk)
          have hx8_0 := hcc8 0 _ rfl
          (try simp only [show (k123).sz = 2 from rfl, Nat.mul_one, Nat.add_zero] at hx8_0)
          have hf8_0 := hfr8 0
          (try simp only [show (k123).sz = 2 from rfl, Nat.mul_one, Nat.add_zero] at hf8_0)
          clear hcl8 hcc8 hfr8 hM8
          go_wp2_with (first | ((with_reducible refine gate_store (t := 3) (p := 16) rfl ?_); refine store_event (t := 3) (p := 16) (v := ?vo_w9) (w1 := (wr.setCell ⟨go5, (x5_1 : Int).toNat * 2, none⟩ (.int .i64 x1_1))) ?hg ?ho ?hn ?hr ?_; (case ho => rfl); (case hg => rfl); (case hn => rfl); (case hr => first | (go_simp; done) | (go_simp; rfl)); intro w9 hw; have hg : wr.grownBy w9 (some go5) := (by rw [hw]; exact HP8.2); have hp_ : Kd.R k123 123 w9 w0.heap.size (fun k_ => (P0_ k_ ∨ w.heap.size ≤ k_)) (.slice (some ⟨go5, 0, none⟩) x0_1.length co7) y407 := (by rw [hw, Ny407.out]; exact HP8.1); clear HP8; have n0_ := aM_ (hp_); have n1_ := aM_ ((by rw [hw]; exact wE_ (HB.out) GB5.out : Below w0.heap.size w0 w9)); have n2_ := aM_ (Kept.of_grown (S := (fun k_ => P0_ k_)) hg (by repeat (first | (with_reducible first | exact HK.out | apply Kept.alloc | apply Kept.drewN | apply Kept.drew) | exact HK.out)) (fun k_ e_ => (HO_0.out.1 k_ e_))); clear HO_0; clear HB; clear HK; have HO_0 := n0_; have HB := n1_; have HK := n2_; clear n0_ n1_ n2_; clear hg hw hp_; have p6 : 0 ≤ (x5_1 : Int) := dT_; have q6 : (x5_1 : Int) < ((x0_1.length : Int) : Int) := dT_; obtain ⟨ce6, hcl6, hM6, hcc6, hfr6⟩ := Kd.R_elem HO_0.out z123 (x5_1 : Int) p6 q6; obtain rfl := k123_openM hM6; have hx6_0 : w9.cell? ⟨go5, (x5_1 : Int).toNat * 2, none⟩ = some (.int .i64 ((rd_T123 y407 x5_1).f0)) := hcc6 0 _ rfl; have hx6_1 : w9.cell? ⟨go5, (x5_1 : Int).toNat * 2 + 1, none⟩ = some (.int .i64 ((rd_T123 y407 x5_1).f1)) := hcc6 1 _ rfl; have hf6_0 : w9.frozen? ⟨go5, (x5_1 : Int).toNat * 2, none⟩ = false := hfr6 0; have hf6_1 : w9.frozen? ⟨go5, (x5_1 : Int).toNat * 2 + 1, none⟩ = false := hfr6 1; clear hcl6 hcc6 hfr6 hM6; replace p6 := eq_true p6; replace q6 := eq_true q6; have HX10 := aM_ (show Kd.R k123 123 w9 w0.heap.size (fun k_ => (P0_ k_ ∨ w.heap.size ≤ k_)) (.slice (some ⟨go5, 0, none⟩) x0_1.length co7) y407 from (rb_ HO_0.out)); obtain ⟨ce10, hcl10, hM10, hcc10, hfr10⟩ := Kd.R_elem HX10.out z123 (x5_1 : Int) (dT_) (by have h_ : (x5_1 : Int) < ((x0_1.length : Int) : Int) := dT_; first | exact h_ | (have e_ := (Kd.R_reads' HO_0.out).1; omega) | simpa using h_); obtain rfl := k123_openM hM10; have HP10 := Kd.R_seg HX10.out (x5_1 : Int) (dT_) (by have h_ : (x5_1 : Int) < ((x0_1.length : Int) : Int) := dT_; first | exact h_ | (have e_ := (Kd.R_reads' HO_0.out).1; omega) | simpa using h_) (seg := [.int .i64 (wrap64 (x1_1 + 1))]) (j := 1) hcl10 hcc10 (show 2 ≤ 2 from by decide) (x' := (⟨(rd_T123 y407 x5_1).f0, wrap64 (x1_1 + 1)⟩ : S123)) (k123_mkM _ _ _ (⟨(rd_T123 y407 x5_1).f0, wrap64 (x1_1 + 1)⟩ : S123) ) (fun _ hk => hk); have hx10_1 := hcc10 1 _ rfl; (try simp only [show (k123).sz = 2 from rfl, Nat.mul_one, Nat.add_zero] at hx10_1); have hf10_1 := hfr10 1; (try simp only [show (k123).sz = 2 from rfl, Nat.mul_one, Nat.add_zero] at hf10_1); clear hcl10 hcc10 hfr10 hM10) | ((with_reducible refine gate_store (t := 3) (p := 23) rfl ?_); refine store_event (t := 3) (p := 23) (v := ?vo_w11) (w1 := (w9.setCell ⟨go5, (x5_1 : Int).toNat * 2 + 1, none⟩ (.int .i64 (wrap64 (x1_1 + 1))))) ?hg ?ho ?hn ?hr ?_; (case ho => rfl); (case hg => rfl); (case hn => rfl); (case hr => first | (go_simp; done) | (go_simp; rfl)); intro w11 hw; have hg : w9.grownBy w11 (some go5) := (by rw [hw]; exact HP10.2); have hp_ : Kd.R k123 123 w11 w0.heap.size (fun k_ => (P0_ k_ ∨ w.heap.size ≤ k_)) (.slice (some ⟨go5, 0, none⟩) x0_1.length co7) y408 := (by rw [hw, Ny408.out]; exact HP10.1); clear HP10; have n0_ := aM_ (hp_); have n1_ := aM_ ((by rw [hw]; exact wE_ (HB.out) GB5.out : Below w0.heap.size w0 w11)); have n2_ := aM_ (Kept.of_grown (S := (fun k_ => P0_ k_)) hg (by repeat (first | (with_reducible first | exact HK.out | apply Kept.alloc | apply Kept.drewN | apply Kept.drew) | exact HK.out)) (fun k_ e_ => (HO_0.out.1 k_ e_))); clear HO_0; clear HB; clear HK; have HO_0 := n0_; have HB := n1_; have HK := n2_; clear n0_ n1_ n2_; clear hg hw hp_))
          go_roundg k1
          case measure => have := HK1.out; omega
          case rel => exact ⟨(y408), (wrap64 ((wrap64 (x1_1 + 1)) + 1)), (wrap64 (x5_1 + 1)), (by first | rfl | (simp; done) | (simp [*]; done)), (by first | rfl | (simp; done) | (simp [*]; done)), H', ⟨by have := HK1.out; omega⟩, ⟨by (with_reducible repeat (first | apply rA_ | apply rN_ | apply rD_)); exact HO_0.out⟩, ⟨by repeat (first | (with_reducible first | exact HK.out | apply Kept.alloc | apply Kept.drewN | apply Kept.drew) | exact HK.out)⟩, ⟨bw_⟩⟩
        · rw [if_neg c4] at H
          exact absurd H (by simp)
      · rw [if_neg c3] at H
        have c3b0 : decide (x5_1 < (x0_1.length : Int)) = false := decide_eq_false c3
        clear c3
        simp only [Option.some.injEq, Prod.mk.injEq] at H
        obtain ⟨rfl, rfl⟩ := H
        obtain ⟨Ao12, co12, eo12⟩ := Kd.R_slice HO_0.out
        subst eo12
        go_wp2
        go_ret
        exact ⟨by first | rfl | (simp [errW_none, errW_some] <;> rfl) | (simp [*, errW_none, errW_some] <;> rfl), by (with_reducible repeat (first | apply rA_ | apply rN_ | apply rD_)); exact HO_0.out, bw_, by repeat (first | (with_reducible first | exact HK.out | apply Kept.alloc | apply Kept.drewN | apply Kept.drew) | exact HK.out)⟩

-- NOT PRINTED: function 81 (laws_markTableS)

-- NOT PRINTED: function 58 (laws_markPieceS)

end Go.Proofs.Ytdodogkgmpaioaa.PFnExactAdmitFlow
