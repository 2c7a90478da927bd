/- The functions that the law reaches, as plain Lean functions, each with the proof that the Go code comes to its answers; conditions: those that each theorem names. (printed by a program of this session) -/
import Derived.Test.YtdodogkgmpaioaaPFnReachx0
import Derived.Test.YtdodogkgmpaioaaPFnReachx4
import Derived.Test.YtdodogkgmpaioaaPFnReachx6
import Derived.Test.YtdodogkgmpaioaaPFnReachx7
import Derived.Test.YtdodogkgmpaioaaPFnReachx9
import Derived.Test.YtdodogkgmpaioaaPFnReachx10
import Derived.Test.YtdodogkgmpaioaaPFnReachx13
namespace Go.Proofs.Ytdodogkgmpaioaa.PFnReach
open Go.RowKit Go.Proofs.YtdodogkgmpaioaaW.PrintWords Go.Proofs.YtdodogkgmpaioaaW.PrintLast Go.Proofs.YtdodogkgmpaioaaW.PrintMore
attribute [local go_sem] max2_int min2_int max_two min_two max_three min_three max_four min_four   -- for this text's walks alone
set_option linter.unusedVariables false
set_option linter.unusedSimpArgs false

/-! ### spec_BuildProgram: function 90 -/
mutual
def spec_BuildProgram.j0 : Nat → List (S144) → Int → Int → Int → Int → Int → Bool → Option (Int × Int × Int × (List (S103)) × Bool)
  | 0, _, _, _, _, _, _, _ => none
  | k + 1, x0, x1, x2, x3, x4, x5, x28 => if x28 = true then (some (0, 0, 0, ([] : List (S103)), false)) else ((spec_PiecesOf.f k x0 x3 x4).bind fun t352 => ((spec_l1In.f (t352.length : Int) 1 40).bind fun t355 => (if t355 = true then (spec_BuildProgram.l0 k x0 x1 x2 t352 0 x1 x2 x5 ([] : List (S103))) else (some (0, 0, 0, ([] : List (S103)), false)))))
def spec_BuildProgram.l0 : Nat → List (S144) → Int → Int → List (S99) → Int → Int → Int → Int → List (S103) → Option (Int × Int × Int × (List (S103)) × Bool)
  | 0, _, _, _, _, _, _, _, _, _ => none
  | k + 1, x0, x1, x2, x14, x16, x357000, x357001, x357002, x357003 => if x16 < (x14.length : Int) then (if 0 ≤ x16 then ((spec_LinksAt.f k x0 ((rd_T99 x14 x16).f0)).bind fun t358 => ((spec_l17Tables.f k t358 x1 x2).bind fun t362 => (if x357003.length < 2199023255552 then (spec_BuildProgram.l0 k x0 x1 x2 x14 (wrap64 (x16 + 1)) x357000 x357001 x357002 (x357003 ++ [(⟨(⟨(rd_T99 x14 x16).f0, (rd_T99 x14 x16).f1⟩ : S99), t358, t362⟩ : S103)])) else (none)))) else (none)) else (some (x357000, x357001, x357002, x357003, true))
end
def spec_BuildProgram.f (k : Nat) (l0 : List (S144)) (a1 : Int) (a2 : Int) (a3 : Int) (a4 : Int) (a5 : Int) : Option (Int × Int × Int × (List (S103)) × Bool) := (spec_l17Frame.f a1 a2 a5).bind fun t350 => (if t350 = true then ((spec_IsPlan.f k l0 a1).bind fun t351 => (spec_BuildProgram.j0 k l0 a1 a2 a3 a4 a5 (!t351))) else (spec_BuildProgram.j0 k l0 a1 a2 a3 a4 a5 true))
def spec_BuildProgram.T11 : Bool × List (List Nat × List Nat) := (true, [([], []), ([0], [0]), ([], []), ([], []), ([2, 3], [2, 3]), ([4], [4]), ([], []), ([], []), ([], []), ([], []), ([7, 8, 9], [7, 8, 9]), ([5, 6, 10], [5, 6, 10]), ([11], [11]), ([1, 12, 10], [1, 12]), ([0, 1, 2, 3, 4, 5, 6, 7, 8, 9, 10, 11, 12, 13], []), ([14, 13, 13, 0, 1, 2, 3, 4, 5, 6, 7, 8, 9, 10, 11, 12, 13], [13, 14])])
def spec_BuildProgram.B11 : List Nat := [0, 1, 0, 0, 12, 28, 0, 0, 0, 0, 896, 2044, 4092, 8191, 16383, 32767]
theorem spec_BuildProgram.tab11 : rtab .any (opsOf Try.f90 11) = spec_BuildProgram.T11 := by kernel_rfl
theorem spec_BuildProgram.bits11 : waitsOk spec_BuildProgram.T11.2 spec_BuildProgram.B11 = true := by kernel_rfl
set_option maxHeartbeats 8000000 in
set_option maxRecDepth 100000 in
theorem spec_BuildProgram.calls (k : Nat) (A0 : Option Addr) (c0 : Nat) (l0 : List (S144)) (a1 : Int) (a2 : Int) (a3 : Int) (a4 : Int) (a5 : Int) (r1 : Int) (r2 : Int) (r3 : Int) (r4 : List (S103)) (r5 : Bool) (w : World) (hr0 : Kd.C k144 w A0 l0.length l0) (hc0 : l0.length ≤ c0) (h : spec_BuildProgram.f k l0 a1 a2 a3 a4 a5 = some (r1, r2, r3, r4, r5)) :
  Calls Try.prog 90 #[.slice A0 l0.length c0, .int .i64 a1, .int .i64 a2, .int .i64 a3, .int .i64 a4, .int .i64 a5] w fun e w' => ∃ v3_ : Value, e = .returned (.tuple #[.agg #[.int .i64 r1, .int .i64 r2, .int .i64 r3, v3_], .bool r5]) ∧ Kd.R k103 103 w' w.heap.size (fun _ => True) v3_ r4 ∧ Below w.heap.size w w' := by
 have hu31 := Try.underlying31; have hu99 := Try.underlying99; have hu103 := Try.underlying103; have HR0 := aM_ hr0; have HC0 := aM_ hc0; clear hr0 hc0; have HB := aM_ (Below.refl w.heap.size w)
 have H : ((spec_l17Frame.f a1 a2 a5).bind fun t350 => (if t350 = true then ((spec_IsPlan.f k l0 a1).bind fun t351 => (spec_BuildProgram.j0 k l0 a1 a2 a3 a4 a5 (!t351))) else (spec_BuildProgram.j0 k l0 a1 a2 a3 a4 a5 true))) = some (r1, r2, r3, r4, r5) := h
 clear h; have HC7 := aM_ H; clear H
 go_enter Try.func90, Try.ntmps90
 go_upto_region 1 with (first | ((with_reducible refine gate_dst (N := 12) rfl ?_); refine box_event ?hg (N := 12) ?hd (cs := #[.int .i64 0, .int .i64 0, .int .i64 0, .slice none 0 0]) (t := 31) ?hr ?_; (case hd => rfl); (case hg => rfl); (case hr => first | (go_simp; done) | (go_simp; rfl)); intro gb349 hg w8 hbox hb; have n0_ := aM_ (wS_ (bw_) hb); have n1_ := aM_ (hbox); have n2_ := aM_ ((by rw [hg]; exact (sZ_ (bw_)) : w.heap.size ≤ gb349)); have n3_ := aM_ ((by rw [hg]; exact (sZ_ (bw_)) : w.heap.size ≤ gb349)); clear HB; have HB := n0_; have BK349 := n1_; have GW349 := n2_; have GE349 := n3_; clear n0_ n1_ n2_ n3_ hb hbox hg))
 (try simp only [Act.put, List.setIfInBounds_toArray, List.set_cons_zero, List.set_cons_succ])
 go_cut [28] (fun v28 wc => ∃ (kq : Nat) (x28_6 : Bool), v28 = .bool x28_6 ∧ Aside0 (spec_BuildProgram.j0 kq l0 a1 a2 a3 a4 a5 x28_6 = some (r1, r2, r3, r4, r5)) ∧ Aside0 (kq ≤ k) ∧ Aside0 (wc.heap[gb349]? = some (.cells #[.int .i64 0, .int .i64 0, .int .i64 0, (.slice none 0 0)] 31 (0, 0))) ∧ Aside0 (Below w.heap.size w wc))
 case first =>
  have H := HC7.out; clear HC7
  replace H := Option.bind_eq_some_iff.mp H
  obtain ⟨t350, A90, H⟩ := H
  (try dsimp only at H)
  have A9 := aM_ A90; clear A90
  by_cases c10 : t350 = true
  ·subst c10
   have H1 : ((spec_IsPlan.f k l0 a1).bind fun t351 => (spec_BuildProgram.j0 k l0 a1 a2 a3 a4 a5 (!t351))) = some (r1, r2, r3, r4, r5) := by rw [if_pos rfl] at H; exact H
   clear H; have H := H1; clear H1
   replace H := Option.bind_eq_some_iff.mp H
   obtain ⟨t351, A110, H⟩ := H
   (try dsimp only at H)
   have A11 := aM_ A110; clear A110
   have H' := aM_ H
   clear H
   go_wp2_with (first | ((with_reducible refine gate_callee (f := 112) rfl ?_); refine goesL_ (some 21) rfl rfl Try.func112 (by kernel_rfl) rfl #[.int .i64 a1, .int .i64 a2, .int .i64 a5] rfl (by (try simp only [List.map_toArray, List.map_cons, List.map_nil]); first | done | rfl | (simp only [List.length_drop, List.length_take]; rfl)) ?_; (with_reducible refine (spec_l17Frame.calls a1 a2 a5 true _ A9.out).mono ?_); rintro e w' ⟨rfl, ⟨nd, rfl⟩⟩; refine ⟨_, rfl, ?_⟩) | (go_at_call 113; (with_reducible refine (spec_IsPlan.calls k _ _ l0 a1 t351 _ ?side1 ?side2 A11.out).mono ?_); (case side1 => repeat (first | exact (Kd.C_below HR0.out (bw_)) | (with_reducible refine cA_ ?_ _) | (with_reducible refine cN_ ?_ _) | (with_reducible refine cD_ ?_))); (case side2 => exact HC0.out); rintro e w12 ⟨rfl, hb⟩; have n0_ := aM_ (bB_ (kb_ BK349.out) hb); have n1_ := aM_ (wS_ (bw_) hb); clear BK349 HB; have BK349 := n0_; have HB := n1_; clear n0_ n1_; (try clear hb); (try clear hb2); (try clear hk); (try clear hi)))
   go_meet
   case rel => exact ⟨_, (!t351), (by first | rfl | (simp; done) | (simp [*]; done)), H', ⟨by first | omega | exact Nat.le_refl _⟩, ⟨by (with_reducible repeat (first | refine bN_ ?_ _ | refine bD_ ?_ | refine bA_ ?_ _)); exact BK349.out⟩, ⟨bw_⟩⟩
  ·replace c10 := Bool.eq_false_iff.mpr c10
   subst c10
   have H1 : (spec_BuildProgram.j0 k l0 a1 a2 a3 a4 a5 true) = some (r1, r2, r3, r4, r5) := by rw [if_neg (show ¬ (false = true) by decide)] at H; exact H
   clear H; have H := H1; clear H1
   have H' := aM_ H
   clear H
   go_wp2_with (first | ((with_reducible refine gate_callee (f := 112) rfl ?_); refine goesL_ (some 21) rfl rfl Try.func112 (by kernel_rfl) rfl #[.int .i64 a1, .int .i64 a2, .int .i64 a5] rfl (by (try simp only [List.map_toArray, List.map_cons, List.map_nil]); first | done | rfl | (simp only [List.length_drop, List.length_take]; rfl)) ?_; (with_reducible refine (spec_l17Frame.calls a1 a2 a5 false _ A9.out).mono ?_); rintro e w' ⟨rfl, ⟨nd, rfl⟩⟩; refine ⟨_, rfl, ?_⟩))
   go_meet
   case rel => exact ⟨_, (true), (by first | rfl | (simp; done) | (simp [*]; done)), H', ⟨by first | omega | exact Nat.le_refl _⟩, ⟨by (with_reducible repeat (first | refine bN_ ?_ _ | refine bD_ ?_ | refine bA_ ?_ _)); exact BK349.out⟩, ⟨bw_⟩⟩
 case rest =>
  clear HC7
  obtain ⟨kq, x28_6, rfl, HA, HJ6, BK349, HB⟩ := hcut
  cases kq with
  | zero => exact absurd HA.out (by simp [spec_BuildProgram.j0])
  | succ kj6 =>
   have H := HA.out; clear HA
   simp only [spec_BuildProgram.j0] at H
   by_cases c13 : x28_6 = true
   ·subst c13
    have H1 : (some (0, 0, 0, ([] : List (S103)), false)) = some (r1, r2, r3, r4, r5) := by rw [if_pos rfl] at H; exact H
    clear H; have H := H1; clear H1
    simp only [Option.some.injEq, Prod.mk.injEq] at H
    obtain ⟨rfl, rfl, rfl, rfl, rfl⟩ := H
    have hcz14_0 : wc.cell? ⟨gb349, 0, none⟩ = some (.int .i64 0) := (blk_cell BK349.out 0).trans rfl
    have hcz14_1 : wc.cell? ⟨gb349, 1, none⟩ = some (.int .i64 0) := (blk_cell BK349.out 1).trans rfl
    have hcz14_2 : wc.cell? ⟨gb349, 2, none⟩ = some (.int .i64 0) := (blk_cell BK349.out 2).trans rfl
    have hcz14_3 : wc.cell? ⟨gb349, 3, none⟩ = some (.slice none 0 0) := (blk_cell BK349.out 3).trans rfl
    have hfz14_0 := blk_frozen BK349.out 0; have hfz14_1 := blk_frozen BK349.out 1; have hfz14_2 := blk_frozen BK349.out 2; have hfz14_3 := blk_frozen BK349.out 3
    go_wp2
    refine bodyPost_ret (results_ct rfl _ _ gb349 31 #[.int .i64 0, .int .i64 0, .int .i64 0, .slice none 0 0] (0, 0) _ rfl (by (with_reducible repeat (first | refine bN_ ?_ _ | refine bD_ ?_ | refine bA_ ?_ _)); refine blk_put (cs := #[.int .i64 0, .int .i64 0, .int .i64 0, .slice none 0 0]) ?_ 3 _ rfl; (with_reducible repeat (first | refine bN_ ?_ _ | refine bD_ ?_ | refine bA_ ?_ _)); refine blk_put (cs := #[.int .i64 0, .int .i64 0, .int .i64 0, .slice none 0 0]) ?_ 2 _ rfl; (with_reducible repeat (first | refine bN_ ?_ _ | refine bD_ ?_ | refine bA_ ?_ _)); refine blk_put (cs := #[.int .i64 0, .int .i64 0, .int .i64 0, .slice none 0 0]) ?_ 1 _ rfl; (with_reducible repeat (first | refine bN_ ?_ _ | refine bD_ ?_ | refine bA_ ?_ _)); refine blk_put (cs := #[.int .i64 0, .int .i64 0, .int .i64 0, .slice none 0 0]) ?_ 0 _ rfl; (with_reducible repeat (first | refine bN_ ?_ _ | refine bD_ ?_ | refine bA_ ?_ _)); exact BK349.out) Try.underlying31 rfl (by kernel_rfl)) rfl ?_
    exact ⟨_, by first | rfl | (simp [errW_none, errW_some] <;> rfl) | (simp [*, errW_none, errW_some] <;> rfl), by first | exact Kd.R_nil _ _ _ _ _ | exact Kd.N_nil _ _ _ _ _ | exact Kd.V_nil _ _ _ _ _ | exact Kd.Q_nil _ _ _ _ _ | exact Kd.S_nil _ _ _ _ _, bw_⟩
   ·replace c13 := Bool.eq_false_iff.mpr c13
    subst c13
    have H1 : ((spec_PiecesOf.f kj6 l0 a3 a4).bind fun t352 => ((spec_l1In.f (t352.length : Int) 1 40).bind fun t355 => (if t355 = true then (spec_BuildProgram.l0 kj6 l0 a1 a2 t352 0 a1 a2 a5 ([] : List (S103))) else (some (0, 0, 0, ([] : List (S103)), false))))) = some (r1, r2, r3, r4, r5) := by rw [if_neg (show ¬ (false = true) by decide)] at H; exact H
    clear H; have H := H1; clear H1
    replace H := Option.bind_eq_some_iff.mp H
    obtain ⟨t352, A150, H⟩ := H
    (try dsimp only at H)
    have A15 := aM_ A150; clear A150
    replace H := Option.bind_eq_some_iff.mp H
    obtain ⟨t355, A160, H⟩ := H
    (try dsimp only at H)
    have A16 := aM_ A160; clear A160
    by_cases c17 : t355 = true
    ·subst c17
     have H1 : (spec_BuildProgram.l0 kj6 l0 a1 a2 t352 0 a1 a2 a5 ([] : List (S103))) = some (r1, r2, r3, r4, r5) := by rw [if_pos rfl] at H; exact H
     clear H; have H := H1; clear H1
     have H' := aM_ H
     clear H
     go_wp2_with (first | ((with_reducible refine gate_callee (f := 114) rfl ?_); refine goesL_ (some 33) rfl rfl Try.func114 (by kernel_rfl) rfl #[.slice A0 l0.length c0, .int .i64 a3, .int .i64 a4] rfl (by (try simp only [List.map_toArray, List.map_cons, List.map_nil]); first | done | rfl | (simp only [List.length_drop, List.length_take]; rfl)) ?_; (with_reducible refine (spec_PiecesOf.calls kj6 _ _ l0 a3 a4 t352 _ ?side1 ?side2 A15.out).mono ?_); (case side1 => repeat (first | exact (Kd.C_below HR0.out HB.out) | (with_reducible refine cA_ ?_ _) | (with_reducible refine cN_ ?_ _) | (with_reducible refine cD_ ?_))); (case side2 => exact HC0.out); rintro e w18 ⟨v353, rfl, ho0, hb⟩; refine ⟨_, rfl, ?_⟩; have n0_ := aM_ (Kd.R_lower ho0 (sZ_ (bw_))); have n1_ := aM_ (bB_ (kb_ BK349.out) hb); have n2_ := aM_ (wS_ (bw_) hb); clear BK349 HB; have HO354 := n0_; have BK349 := n1_; have HB := n2_; clear n0_ n1_ n2_; (try clear hb); (try clear hb2); (try clear hk); (try clear hi); (try clear ho0); obtain ⟨Ao19, co19, eo19⟩ := Kd.R_slice HO354.out; subst eo19) | ((with_reducible refine gate_callee (f := 43) rfl ?_); refine goesL_ (some 36) rfl rfl Try.func43 (by kernel_rfl) rfl #[.int .i64 (t352.length : Int), .int .i64 1, .int .i64 40] rfl (by (try simp only [List.map_toArray, List.map_cons, List.map_nil]); first | done | rfl | (simp only [List.length_drop, List.length_take]; rfl)) ?_; (with_reducible refine (spec_l1In.calls (t352.length : Int) 1 40 true _ A16.out).mono ?_); rintro e w' ⟨rfl, ⟨nd, rfl⟩⟩; refine ⟨_, rfl, ?_⟩; (try (rw [drewN_self w18]; generalize hq_ : World.drewN w18 _ = w18; have n0_ : Aside0 (Kd.R k99 99 w18 w.heap.size (fun k_ => True) (.slice Ao19 t352.length co19) t352) := ⟨by rw [← hq_]; exact (rb_ HO354.out)⟩; have n1_ : Aside0 (w18.heap[gb349]? = some (.cells #[.int .i64 0, .int .i64 0, .int .i64 0, .slice none 0 0] 31 (0, 0))) := ⟨by rw [← hq_]; exact (kb_ BK349.out)⟩; have n2_ : Aside0 (Below w.heap.size w w18) := ⟨by rw [← hq_]; exact (bw_)⟩; clear HO354 BK349 HB hq_; have HO354 := n0_; have BK349 := n1_; have HB := n2_; clear n0_ n1_ n2_))) | ((with_reducible refine gate_dst (N := 15) rfl ?_); refine box_event ?hg (N := 15) ?hd (cs := #[.int .i64 0, .int .i64 0, .int .i64 0, .slice none 0 0]) (t := 31) ?hr ?_; (case hd => rfl); (case hg => rfl); (case hr => first | (go_simp; done) | (go_simp; rfl)); intro gb356 hg w20 hbox hb; have n0_ := aM_ (rB_ (rb_ HO354.out) hb); have n1_ := aM_ (bB_ (kb_ BK349.out) hb); have n2_ := aM_ (wS_ (bw_) hb); have n3_ := aM_ (hbox); have n4_ := aM_ ((by rw [hg]; exact (sZ_ (bw_)) : w.heap.size ≤ gb356)); have n5_ := aM_ ((by rw [hg]; exact (sZ_ (bw_)) : w.heap.size ≤ gb356)); have n6_ := aM_ ((by rw [hg]; exact Nat.ne_of_lt (blk_lt (kb_ BK349.out)) : gb349 ≠ gb356)); have n7_ := aM_ ((by rw [hg]; exact Nat.ne_of_gt (blk_lt (kb_ BK349.out)) : gb356 ≠ gb349)); clear HO354 BK349 HB; have HO354 := n0_; have BK349 := n1_; have HB := n2_; have BK356 := n3_; have GW356 := n4_; have GE356 := n5_; have NB349_356 := n6_; have NB356_349 := n7_; clear n0_ n1_ n2_ n3_ n4_ n5_ n6_ n7_ hb hbox hg; have hnb21 := NB356_349.out; have hnc21 := NB349_356.out; obtain ⟨hcz22_0, hcz22_1, hcz22_2, hcz22_3, hfz22_0, hfz22_1, hfz22_2, hfz22_3⟩ := bk4_ BK356.out))
     go_loopg [16] kj6 (fun kq v16 w' => ∃ (x16_2 : Int) (x357003_2 : List (S103)) (u357003 : Value), v16 = .int .i64 x16_2 ∧ Aside0 (spec_BuildProgram.l0 kq l0 a1 a2 t352 x16_2 a1 a2 a5 x357003_2 = some (r1, r2, r3, r4, r5)) ∧ Aside0 (kq ≤ kj6) ∧ Aside0 (Kd.R k99 99 w' w.heap.size (fun _ => True) (.slice Ao19 t352.length co19) t352) ∧ Aside0 (Kd.R k103 103 w' w.heap.size (fun _ => True) u357003 x357003_2) ∧ Aside0 (w'.heap[gb349]? = some (.cells #[.int .i64 0, .int .i64 0, .int .i64 0, (.slice none 0 0)] 31 (0, 0))) ∧ Aside0 (w'.heap[gb356]? = some (.cells #[.int .i64 a1, .int .i64 a2, .int .i64 a5, u357003] 31 (0, 0))) ∧ Aside0 (Below w.heap.size w w'))
     case atStart => exact ⟨(0), (([] : List (S103))), (.slice none 0 0), (by first | rfl | (simp; done) | (simp [*]; done)), H', ⟨Nat.le_refl _⟩, ⟨by (with_reducible repeat (first | apply rA_ | apply rN_ | apply rD_)); exact Kd.R_mono (Kd.R_far (p := ⟨gb356, 3, none⟩) (Kd.R_far (p := ⟨gb356, 2, none⟩) (Kd.R_far (p := ⟨gb356, 1, none⟩) (Kd.R_far (p := ⟨gb356, 0, none⟩) (Kd.R_types HO354.out BK356.out (by decide)) (fun _ hk => hk.2) (.int .i64 a1)) (fun _ hk => hk.2) (.int .i64 a2)) (fun _ hk => hk.2) (.int .i64 a5)) (fun _ hk => hk.2) (.slice none 0 0)) (fun _ hk => trivial)⟩, ⟨by first | exact Kd.R_nil _ _ _ _ _ | exact Kd.N_nil _ _ _ _ _ | exact Kd.V_nil _ _ _ _ _ | exact Kd.Q_nil _ _ _ _ _ | exact Kd.S_nil _ _ _ _ _⟩, ⟨by (with_reducible repeat (first | refine bN_ ?_ _ | refine bD_ ?_ | refine bA_ ?_ _)); refine blk_far ?_ NB349_356.out _; (with_reducible repeat (first | refine bN_ ?_ _ | refine bD_ ?_ | refine bA_ ?_ _)); refine blk_far ?_ NB349_356.out _; (with_reducible repeat (first | refine bN_ ?_ _ | refine bD_ ?_ | refine bA_ ?_ _)); refine blk_far ?_ NB349_356.out _; (with_reducible repeat (first | refine bN_ ?_ _ | refine bD_ ?_ | refine bA_ ?_ _)); refine blk_far ?_ NB349_356.out _; (with_reducible repeat (first | refine bN_ ?_ _ | refine bD_ ?_ | refine bA_ ?_ _)); exact BK349.out⟩, ⟨by (with_reducible repeat (first | refine bN_ ?_ _ | refine bD_ ?_ | refine bA_ ?_ _)); refine blk_put (cs := #[.int .i64 a1, .int .i64 a2, .int .i64 a5, .slice none 0 0]) ?_ 3 _ rfl; (with_reducible repeat (first | refine bN_ ?_ _ | refine bD_ ?_ | refine bA_ ?_ _)); refine blk_put (cs := #[.int .i64 a1, .int .i64 a2, .int .i64 0, .slice none 0 0]) ?_ 2 _ rfl; (with_reducible repeat (first | refine bN_ ?_ _ | refine bD_ ?_ | refine bA_ ?_ _)); refine blk_put (cs := #[.int .i64 a1, .int .i64 0, .int .i64 0, .slice none 0 0]) ?_ 1 _ rfl; (with_reducible repeat (first | refine bN_ ?_ _ | refine bD_ ?_ | refine bA_ ?_ _)); refine blk_put (cs := #[.int .i64 0, .int .i64 0, .int .i64 0, .slice none 0 0]) ?_ 0 _ rfl; (with_reducible repeat (first | refine bN_ ?_ _ | refine bD_ ?_ | refine bA_ ?_ _)); exact BK356.out⟩, ⟨bw_⟩⟩
     case round =>
      clear H'
      try clear hcz14_0
      try clear hcz14_1
      try clear hcz14_2
      try clear hcz14_3
      try clear hcz22_0
      try clear hcz22_1
      try clear hcz22_2
      try clear hcz22_3
      try clear hfz14_0
      try clear hfz14_1
      try clear hfz14_2
      try clear hfz14_3
      try clear hfz22_0
      try clear hfz22_1
      try clear hfz22_2
      try clear hfz22_3
      obtain ⟨x16_2, x357003_2, u357003, rfl, HA, HK2, HO_14, HO_357003, BK349, BK356, HB⟩ := hrel
      cases gk with
      | zero => exact absurd HA.out (by simp [spec_BuildProgram.l0])
      | succ k2 =>
       have H := HA.out; clear HA
       simp only [spec_BuildProgram.l0] at H
       by_cases c23 : x16_2 < (t352.length : Int)
       ·rw [if_pos c23] at H
        have c23b0 : decide (x16_2 < (t352.length : Int)) = true := decide_eq_true c23
        clear c23
        by_cases c24 : 0 ≤ x16_2
        ·rw [if_pos c24] at H
         have c24b0 : decide (0 ≤ x16_2) = true := decide_eq_true c24
         clear c24
         replace H := Option.bind_eq_some_iff.mp H
         obtain ⟨t358, A250, H⟩ := H
         (try dsimp only at H)
         have A25 := aM_ A250; clear A250
         replace H := Option.bind_eq_some_iff.mp H
         obtain ⟨t362, A260, H⟩ := H
         (try dsimp only at H)
         have A26 := aM_ A260; clear A260
         by_cases c27 : x357003_2.length < 2199023255552
         ·rw [if_pos c27] at H
          have LMc27 := aM_ c27; clear c27
          obtain ⟨y365, hy365⟩ : ∃ y_ : List (S103), y_ = (x357003_2 ++ [(⟨(⟨(rd_T99 t352 x16_2).f0, (rd_T99 t352 x16_2).f1⟩ : S99), t358, t362⟩ : S103)]) := ⟨_, rfl⟩
          replace H : (spec_BuildProgram.l0 k2 l0 a1 a2 t352 (wrap64 (x16_2 + 1)) a1 a2 a5 y365) = some (r1, r2, r3, r4, r5) := by first | (rw [hy365]; with_reducible exact H) | (have H2_ := (Option.bind_some _ _).symm.trans H; rw [hy365]; with_reducible exact H2_) | (have H2_ := (Option.bind_some _ _).symm.trans H; with_reducible exact H2_) | with_reducible exact H | (rw [hy365]; exact H) | exact H
          have Ny365 := aM_ hy365; clear hy365
          have H' := aM_ H
          clear H
          have p357 : 0 ≤ (x16_2 : Int) := dT_
          have q357 : x16_2 < (t352.length : Int) := dT_
          obtain ⟨ad357, e357, hx357_0, hx357_1⟩ := at_T99 (Kd.R_reads' HO_14.out).2.2 x16_2 p357 q357
          cases e357
          replace p357 := eq_true p357; replace q357 := eq_true q357
          try go_wp2_with (first | ((with_reducible refine gate_callee (f := 115) rfl ?_); refine goesL_ (some 55) rfl rfl Try.func115 (by kernel_rfl) rfl #[.slice A0 l0.length c0, .int .i64 ((rd_T99 t352 x16_2).f0)] rfl (by (try simp only [List.map_toArray, List.map_cons, List.map_nil]); first | done | rfl | (simp only [List.length_drop, List.length_take]; rfl)) ?_; (with_reducible refine (spec_LinksAt.calls k2 _ _ l0 ((rd_T99 t352 x16_2).f0) t358 _ ?side1 ?side2 A25.out).mono ?_); (case side1 => repeat (first | exact (Kd.C_below HR0.out HB.out) | (with_reducible refine cA_ ?_ _) | (with_reducible refine cN_ ?_ _) | (with_reducible refine cD_ ?_))); (case side2 => exact HC0.out); rintro e w28 ⟨v359, rfl, ho0, hb⟩; refine ⟨_, rfl, ?_⟩; have n0_ := aM_ (rB_ (rb_ HO_14.out) hb); have n1_ := aM_ (Kd.R_elder' (rb_ HO_357003.out) (Kd.R_base ho0) hb); have n2_ := aM_ (Kd.R_lower ho0 (sZ_ (bw_))); have n3_ := aM_ (bB_ (kb_ BK349.out) hb); have n4_ := aM_ (bB_ (kb_ BK356.out) hb); have n5_ := aM_ (wS_ (bw_) hb); clear HO_14 HO_357003 BK349 BK356 HB; have HO_14 := n0_; have HO_357003 := n1_; have HO360 := n2_; have BK349 := n3_; have BK356 := n4_; have HB := n5_; clear n0_ n1_ n2_ n3_ n4_ n5_; (try clear hb); (try clear hb2); (try clear hk); (try clear hi); (try clear ho0)))
          have n0_ := aM_ (rD_ HO_14.out); have n1_ := aM_ (rD_ HO_357003.out); have n2_ := aM_ (rD_ HO360.out); have n3_ := aM_ (bD_ BK349.out); have n4_ := aM_ (bD_ BK356.out); have n5_ := aM_ (wD_ HB.out); clear HO_14 HO_357003 HO360 BK349 BK356 HB; have HO_14 := n0_; have HO_357003 := n1_; have HO360 := n2_; have BK349 := n3_; have BK356 := n4_; have HB := n5_; clear n0_ n1_ n2_ n3_ n4_ n5_
          have p361 : 0 ≤ (x16_2 : Int) := dT_
          have q361 : x16_2 < (t352.length : Int) := dT_
          obtain ⟨ad361, e361, hx361_0, hx361_1⟩ := at_T99 (Kd.R_reads' HO_14.out).2.2 x16_2 p361 q361
          obtain rfl : ad357 = ad361 := (by injection e361)
          replace p361 := eq_true p361; replace q361 := eq_true q361
          obtain ⟨Ao30, co30, eo30⟩ := Kd.R_slice HO360.out
          (first | subst eo30 | (injection eo30 with f1_ f2_ f3_; have f4_ := f1_.symm; have f5_ := f3_.symm; clear f1_ f2_ f3_; subst f4_; subst f5_))
          refine start_ (n := 16) (S := fun w' => w'.cell? ⟨gb356, 0, none⟩ = some (.int .i64 a1) ∧ w'.cell? ⟨gb356, 1, none⟩ = some (.int .i64 a2) ∧ w'.cell? ⟨gb356, 2, none⟩ = some (.int .i64 a5) ∧ w'.cell? ⟨gb356, 3, none⟩ = some (u357003) ∧ w'.cell? (ad357.add ((x16_2).toNat * 2)) = some (.int .i64 ((rd_T99 t352 x16_2).f0)) ∧ w'.cell? ⟨(ad357.add ((x16_2).toNat * 2)).block, (ad357.add ((x16_2).toNat * 2)).off + 1, none⟩ = some (.int .i64 ((rd_T99 t352 x16_2).f1))) (ds := [13, 15]) #[false, false, false, false, false, false, false, false, false, false, false, false, false, false, false, false] (by kernel_rfl) rfl rfl ⟨(blk_cell BK356.out 0).trans rfl, (blk_cell BK356.out 1).trans rfl, (blk_cell BK356.out 2).trans rfl, (blk_cell BK356.out 3).trans rfl, hx361_0, hx361_1⟩ (fun hHeld => ?_); refine with_tabW spec_BuildProgram.tab11 spec_BuildProgram.bits11 (fun HT_ HW_ => ?_)
          generalize w28.drew = w29 at HO_14 HO_357003 HO360 BK349 BK356 HB hx361_0 hx361_1 hHeld ⊢
          refine pu_ 0 (some 56) #[true, false, false, false, false, false, false, false, false, false, false, false, false, false, false, false] rfl rfl ?_
          refine pu_ 2 (some 58) #[true, false, true, false, false, false, false, false, false, false, false, false, false, false, false, false] rfl rfl ?_
          refine pu_ 3 (some 59) #[true, false, true, true, false, false, false, false, false, false, false, false, false, false, false, false] rfl rfl ?_
          refine pu_ 4 (some 60) #[true, false, true, true, true, false, false, false, false, false, false, false, false, false, false, false] rfl rfl ?_
          refine pu_ 6 (some 62) #[true, false, true, true, true, false, true, false, false, false, false, false, false, false, false, false] rfl rfl ?_
          refine pu_ 7 (some 63) #[true, false, true, true, true, false, true, true, false, false, false, false, false, false, false, false] rfl rfl ?_
          refine pu_ 8 (some 64) #[true, false, true, true, true, false, true, true, true, false, false, false, false, false, false, false] rfl rfl ?_
          refine pu_ 9 (some 65) #[true, false, true, true, true, false, true, true, true, true, false, false, false, false, false, false] rfl rfl ?_
          refine tk6_ 1 (some 57) #[true, true, true, true, true, false, true, true, true, true, false, false, false, false, false, false] rfl rfl ?_
          refine tk6_ 5 (some 61) #[true, true, true, true, true, true, true, true, true, true, false, false, false, false, false, false] rfl rfl ?_
          refine one_ (i := 10) (N := some 66) #[true, true, true, true, true, true, true, true, true, true, true, false, false, false, false, false] rfl rfl (one_of HT_.out (by kernel_rfl)) (by decide) (fun K hK => ?_)
          refine goes_ Try.func116 (by kernel_rfl) rfl #[.slice Ao30 t358.length co30, .int .i64 a1, .int .i64 a2] (by rfl) rfl rfl (by (try simp only [List.map_toArray, List.map_cons, List.map_nil]); first | done | rfl | (simp only [List.length_drop, List.length_take]; rfl)) ?_
          with_reducible refine (spec_l17Tables.calls k2 _ _ t358 a1 a2 t362 _ ?side1 ?side2 A26.out).mono ?_
          (case side1 => repeat (first | exact (Kd.R_reads' HO360.out).2.2 | (with_reducible refine cA_ ?_ _) | (with_reducible refine cN_ ?_ _) | (with_reducible refine cD_ ?_)))
          (case side2 => exact (Kd.R_reads' HO360.out).2.1)
          rintro e w31 ⟨v363, rfl, ho0, hb⟩
          have HS4_ := (hb.cell (World.block_lt_of_cell? _ _ (hHeld.2.2.2.2.1))).trans (hHeld.2.2.2.2.1); have HS5_ := (hb.cell (World.block_lt_of_cell? _ _ (hHeld.2.2.2.2.2))).trans (hHeld.2.2.2.2.2)
          refine ⟨_, rfl, ?_⟩
          have n0_ := aM_ (rB_ (rb_ HO_14.out) hb); have n1_ := aM_ (Kd.R_elder' (rb_ HO_357003.out) (Kd.S_base ho0) hb); have n2_ := aM_ (rB_ (rb_ HO360.out) hb); have n3_ := aM_ (Kd.S_lower ho0 (sZ_ (bw_))); have n4_ := aM_ (bB_ (kb_ BK349.out) hb); have n5_ := aM_ (bB_ (kb_ BK356.out) hb); have n6_ := aM_ (wS_ (bw_) hb); clear HO_14 HO_357003 HO360 BK349 BK356 HB; have HO_14 := n0_; have HO_357003 := n1_; have HO360 := n2_; have HO364 := n3_; have BK349 := n4_; have BK356 := n5_; have HB := n6_; clear n0_ n1_ n2_ n3_ n4_ n5_ n6_; (try clear hb); (try clear hb2); (try clear hk); (try clear hi); (try clear ho0)
          obtain ⟨Ao32, co32, eo32⟩ := Kd.S_slice HO364.out
          (first | subst eo32 | (injection eo32 with f1_ f2_ f3_; have f4_ := f1_.symm; have f5_ := f3_.symm; clear f1_ f2_ f3_; subst f4_; subst f5_))
          refine hK.out _ _ ⟨(blk_cell BK356.out 0).trans rfl, (blk_cell BK356.out 1).trans rfl, (blk_cell BK356.out 2).trans rfl, (blk_cell BK356.out 3).trans rfl, HS4_, HS5_⟩ (fun hHeld => ?_)
          clear hK K
          refine norm_ (a' := ?_) ?_ ?_
          rotate_left
          ·show Act.put _ (some 66) _ = _
           simp only [Act.put, List.setIfInBounds_toArray, List.set_cons_zero, List.set_cons_succ, i64_w, i32_w]
           rfl
          refine pu_ 11 (some 67) #[true, true, true, true, true, true, true, true, true, true, true, true, false, false, false, false] rfl rfl ?_
          refine one_ (i := 12) (N := some 68) #[true, true, true, true, true, true, true, true, true, true, true, true, true, false, false, false] rfl rfl (one_of HT_.out (by kernel_rfl)) (by decide) (fun K hK => ?_)
          refine value_ (w1 := ?_) (v := ?_) (by rfl) rfl ?_ ?_
          rotate_left 2
          ·go_simp
           constructor
           ·rfl
           ·rfl
          refine hK.out _ _ ⟨(blk_cell (bA_ BK356.out _) 0).trans rfl, (blk_cell (bA_ BK356.out _) 1).trans rfl, (blk_cell (bA_ BK356.out _) 2).trans rfl, (blk_cell (bA_ BK356.out _) 3).trans rfl, (World.cell?_alloc_lt _ _ _ (World.block_lt_of_cell? _ _ (hHeld.2.2.2.2.1))).trans (hHeld.2.2.2.2.1), (World.cell?_alloc_lt _ _ _ (World.block_lt_of_cell? _ _ (hHeld.2.2.2.2.2))).trans (hHeld.2.2.2.2.2)⟩ (fun hHeld => ?_)
          clear hK K
          refine norm_ (a' := ?_) ?_ ?_
          rotate_left
          ·show Act.put _ (some 68) _ = _
           simp only [Act.put, List.setIfInBounds_toArray, List.set_cons_zero, List.set_cons_succ, i64_w, i32_w]
           rfl
          refine last_ (i := 13) (N := some 69) #[true, true, true, true, true, true, true, true, true, true, true, true, true, true, false, false] rfl rfl (one_of HT_.out (by kernel_rfl)) (by decide) (fun K hK => ?_)
          refine Kd.R_append_step k103 (w0 := w) w.heap.size (by rfl) (.tmp 57) (.tmp 68) 29 103 (.agg #[(.int .i64 0), (.int .i64 0), (.slice none 0 0), (.slice none 0 0)]) 64 rfl Try.underlying29 info103 rfl (by decide) (by omega) u357003 x357003_2 (⟨(⟨(rd_T99 t352 x16_2).f0, (rd_T99 t352 x16_2).f1⟩ : S99), t358, t362⟩ : S103) [.int .i64 ((rd_T99 t352 x16_2).f0), .int .i64 ((rd_T99 t352 x16_2).f1), .slice Ao30 t358.length co30, .slice Ao32 t362.length co32] (fun _ => True) (fun k_ => ((fun _ => True)) k_ ∧ some k_ ≠ (u357003 : Value).ownBlock) rfl rfl ?aP (fun _ hk => hk) ?aF ?aO ?aB ?aS ?aL ?_
          (case aP => exact k103_mkM _ _ _ (⟨(⟨(rd_T99 t352 x16_2).f0, (rd_T99 t352 x16_2).f1⟩ : S99), t358, t362⟩ : S103) (Kd.R_mono (Kd.R_apart' (HO360.out) (Kd.R_typed HO_357003.out) (by decide)) (fun k_ hk => ⟨trivial, hk.2⟩)) (Kd.R_mono (Kd.R_apart' ((Kd.S_R HO364.out)) (Kd.R_typed HO_357003.out) (by decide)) (fun k_ hk => ⟨trivial, hk.2⟩)))
          (case aB => exact (bw_))
          (case aF => exact (fun _ _ => trivial))
          (case aO => exact (by (with_reducible repeat (first | apply rA_ | apply rN_ | apply rD_)); exact Kd.R_mono HO_357003.out (fun _ hk => trivial)))
          (case aS => exact (sZ_ (bw_)))
          (case aL => have := LMc27.out; omega)
          intro v366 w33 ho hb hg hat
          rw [← Ny365.out] at ho
          have n0_ := aM_ (Kd.R_over' (rb_ HO_14.out) (Kd.R_typed (rb_ HO_357003.out)) (by decide) hg); have n1_ := aM_ (blk_grown (kb_ BK349.out) hg (Kd.R_ne HO_357003.out BK349.out (by decide))); have n2_ := aM_ (blk_grown (kb_ BK356.out) hg (Kd.R_ne HO_357003.out BK356.out (by decide))); have n3_ := aM_ (hb); have n4_ := aM_ (ho); clear HO_14 BK349 BK356 HB HO_357003 HO360 HO364; have HO_14 := n0_; have BK349 := n1_; have BK356 := n2_; have HB := n3_; have HO367 := n4_; clear n0_ n1_ n2_ n3_ n4_ ho hb hg hat
          obtain ⟨Ao34, co34, eo34⟩ := Kd.R_slice HO367.out
          (first | subst eo34 | (injection eo34 with f1_ f2_ f3_; have f4_ := f1_.symm; have f5_ := f3_.symm; clear f1_ f2_ f3_; subst f4_; subst f5_))
          refine hK.out _ _ ?_
          clear hK K
          refine norm_ (a' := ?_) ?_ ?_
          rotate_left
          ·show Act.put _ (some 69) _ = _
           simp only [Act.put, List.setIfInBounds_toArray, List.set_cons_zero, List.set_cons_succ, i64_w, i32_w]
           rfl
          refine pu_ 14 (some 70) #[true, true, true, true, true, true, true, true, true, true, true, true, true, true, true, false] rfl rfl ?_
          refine last_ (i := 15) (N := none) #[true, true, true, true, true, true, true, true, true, true, true, true, true, true, true, true] rfl rfl (one_of HT_.out (by kernel_rfl)) (by decide) (fun K hK => ?_)
          have hs35 : w33.cell? ⟨gb356, 3, none⟩ = some (u357003) := (blk_cell BK356.out 3).trans rfl
          have hfs35 := blk_frozen BK356.out 3; have hns35_0 := NB349_356.out; have hms35_0 := NB356_349.out
          refine skip_ (w1 := ?_) (by rfl) rfl ?_ ?_
          rotate_left
          ·go_simp
           rfl
          refine hK.out _ _ ?_
          clear hK K
          refine done_ (done_of HT_.out (by kernel_rfl)) ?_
          try go_wp2
          go_roundg k2
          case measure => have := HJ6.out; have := HK2.out; omega
          case rel => exact ⟨(wrap64 (x16_2 + 1)), (y365), (.slice Ao34 y365.length co34), (by first | rfl | (simp; done) | (simp [*]; done)), H', ⟨by have := HJ6.out; have := HK2.out; omega⟩, ⟨by (with_reducible repeat (first | apply rA_ | apply rN_ | apply rD_)); exact Kd.R_mono (Kd.R_far (p := ⟨gb356, 3, none⟩) (Kd.R_types HO_14.out BK356.out (by decide)) (fun _ hk => hk.2) (.slice Ao34 y365.length co34)) (fun _ hk => trivial)⟩, ⟨by (with_reducible repeat (first | apply rA_ | apply rN_ | apply rD_)); exact Kd.R_mono (Kd.R_far (p := ⟨gb356, 3, none⟩) (Kd.R_types HO367.out BK356.out (by decide)) (fun _ hk => hk.2) (.slice Ao34 y365.length co34)) (fun _ hk => trivial)⟩, ⟨by (with_reducible repeat (first | refine bN_ ?_ _ | refine bD_ ?_ | refine bA_ ?_ _)); refine blk_far ?_ NB349_356.out _; (with_reducible repeat (first | refine bN_ ?_ _ | refine bD_ ?_ | refine bA_ ?_ _)); exact BK349.out⟩, ⟨by (with_reducible repeat (first | refine bN_ ?_ _ | refine bD_ ?_ | refine bA_ ?_ _)); refine blk_put (cs := #[.int .i64 a1, .int .i64 a2, .int .i64 a5, u357003]) ?_ 3 _ rfl; (with_reducible repeat (first | refine bN_ ?_ _ | refine bD_ ?_ | refine bA_ ?_ _)); exact BK356.out⟩, ⟨bw_⟩⟩
         ·rw [if_neg c27] at H
          exact absurd H (by simp)
        ·rw [if_neg c24] at H
         exact absurd H (by simp)
       ·rw [if_neg c23] at H
        have c23b0 : decide (x16_2 < (t352.length : Int)) = false := decide_eq_false c23
        clear c23
        simp only [Option.some.injEq, Prod.mk.injEq] at H
        obtain ⟨rfl, rfl, rfl, rfl, rfl⟩ := H
        have hnb36 := NB356_349.out; have hnc36 := NB349_356.out
        have hcz37_0 : wr.cell? ⟨gb356, 0, none⟩ = some (.int .i64 a1) := (blk_cell BK356.out 0).trans rfl
        have hcz37_1 : wr.cell? ⟨gb356, 1, none⟩ = some (.int .i64 a2) := (blk_cell BK356.out 1).trans rfl
        have hcz37_2 : wr.cell? ⟨gb356, 2, none⟩ = some (.int .i64 a5) := (blk_cell BK356.out 2).trans rfl
        have hcz37_3 : wr.cell? ⟨gb356, 3, none⟩ = some (u357003) := (blk_cell BK356.out 3).trans rfl
        have hfz37_0 := blk_frozen BK356.out 0; have hfz37_1 := blk_frozen BK356.out 1; have hfz37_2 := blk_frozen BK356.out 2; have hfz37_3 := blk_frozen BK356.out 3
        have hcz38_0 : wr.cell? ⟨gb349, 0, none⟩ = some (.int .i64 0) := (blk_cell BK349.out 0).trans rfl
        have hcz38_1 : wr.cell? ⟨gb349, 1, none⟩ = some (.int .i64 0) := (blk_cell BK349.out 1).trans rfl
        have hcz38_2 : wr.cell? ⟨gb349, 2, none⟩ = some (.int .i64 0) := (blk_cell BK349.out 2).trans rfl
        have hcz38_3 : wr.cell? ⟨gb349, 3, none⟩ = some (.slice none 0 0) := (blk_cell BK349.out 3).trans rfl
        have hfz38_0 := blk_frozen BK349.out 0; have hfz38_1 := blk_frozen BK349.out 1; have hfz38_2 := blk_frozen BK349.out 2; have hfz38_3 := blk_frozen BK349.out 3
        obtain ⟨Ao39, co39, eo39⟩ := Kd.R_slice HO_357003.out
        subst eo39
        go_wp2
        refine bodyPost_ret (results_ct rfl _ _ gb349 31 #[.int .i64 a1, .int .i64 a2, .int .i64 a5, .slice Ao39 x357003_2.length co39] (0, 0) _ rfl (by (with_reducible repeat (first | refine bN_ ?_ _ | refine bD_ ?_ | refine bA_ ?_ _)); refine blk_put (cs := #[.int .i64 a1, .int .i64 a2, .int .i64 a5, .slice none 0 0]) ?_ 3 _ rfl; (with_reducible repeat (first | refine bN_ ?_ _ | refine bD_ ?_ | refine bA_ ?_ _)); refine blk_put (cs := #[.int .i64 a1, .int .i64 a2, .int .i64 0, .slice none 0 0]) ?_ 2 _ rfl; (with_reducible repeat (first | refine bN_ ?_ _ | refine bD_ ?_ | refine bA_ ?_ _)); refine blk_put (cs := #[.int .i64 a1, .int .i64 0, .int .i64 0, .slice none 0 0]) ?_ 1 _ rfl; (with_reducible repeat (first | refine bN_ ?_ _ | refine bD_ ?_ | refine bA_ ?_ _)); refine blk_put (cs := #[.int .i64 0, .int .i64 0, .int .i64 0, .slice none 0 0]) ?_ 0 _ rfl; (with_reducible repeat (first | refine bN_ ?_ _ | refine bD_ ?_ | refine bA_ ?_ _)); exact BK349.out) Try.underlying31 rfl (by kernel_rfl)) rfl ?_
        exact ⟨_, by first | rfl | (simp [errW_none, errW_some] <;> rfl) | (simp [*, errW_none, errW_some] <;> rfl), by (with_reducible repeat (first | apply rA_ | apply rN_ | apply rD_)); exact Kd.R_mono (Kd.R_far (p := ⟨gb349, 3, none⟩) (Kd.R_far (p := ⟨gb349, 2, none⟩) (Kd.R_far (p := ⟨gb349, 1, none⟩) (Kd.R_far (p := ⟨gb349, 0, none⟩) (Kd.R_types HO_357003.out BK349.out (by decide)) (fun _ hk => hk.2) (.int .i64 a1)) (fun _ hk => hk.2) (.int .i64 a2)) (fun _ hk => hk.2) (.int .i64 a5)) (fun _ hk => hk.2) (.slice Ao39 x357003_2.length co39)) (fun _ hk => trivial), bw_⟩
    ·replace c17 := Bool.eq_false_iff.mpr c17
     subst c17
     have H1 : (some (0, 0, 0, ([] : List (S103)), false)) = some (r1, r2, r3, r4, r5) := by rw [if_neg (show ¬ (false = true) by decide)] at H; exact H
     clear H; have H := H1; clear H1
     simp only [Option.some.injEq, Prod.mk.injEq] at H
     obtain ⟨rfl, rfl, rfl, rfl, rfl⟩ := H
     go_wp2_with (first | ((with_reducible refine gate_callee (f := 114) rfl ?_); refine goesL_ (some 33) rfl rfl Try.func114 (by kernel_rfl) rfl #[.slice A0 l0.length c0, .int .i64 a3, .int .i64 a4] rfl (by (try simp only [List.map_toArray, List.map_cons, List.map_nil]); first | done | rfl | (simp only [List.length_drop, List.length_take]; rfl)) ?_; (with_reducible refine (spec_PiecesOf.calls kj6 _ _ l0 a3 a4 t352 _ ?side1 ?side2 A15.out).mono ?_); (case side1 => repeat (first | exact (Kd.C_below HR0.out HB.out) | (with_reducible refine cA_ ?_ _) | (with_reducible refine cN_ ?_ _) | (with_reducible refine cD_ ?_))); (case side2 => exact HC0.out); rintro e w40 ⟨v353, rfl, ho0, hb⟩; refine ⟨_, rfl, ?_⟩; have n0_ := aM_ (Kd.R_lower ho0 (sZ_ (bw_))); have n1_ := aM_ (bB_ (kb_ BK349.out) hb); have n2_ := aM_ (wS_ (bw_) hb); clear BK349 HB; have HO354 := n0_; have BK349 := n1_; have HB := n2_; clear n0_ n1_ n2_; (try clear hb); (try clear hb2); (try clear hk); (try clear hi); (try clear ho0); obtain ⟨Ao41, co41, eo41⟩ := Kd.R_slice HO354.out; subst eo41) | ((with_reducible refine gate_callee (f := 43) rfl ?_); refine goesL_ (some 36) rfl rfl Try.func43 (by kernel_rfl) rfl #[.int .i64 (t352.length : Int), .int .i64 1, .int .i64 40] rfl (by (try simp only [List.map_toArray, List.map_cons, List.map_nil]); first | done | rfl | (simp only [List.length_drop, List.length_take]; rfl)) ?_; (with_reducible refine (spec_l1In.calls (t352.length : Int) 1 40 false _ A16.out).mono ?_); rintro e w' ⟨rfl, ⟨nd, rfl⟩⟩; refine ⟨_, rfl, ?_⟩; (try (rw [drewN_self w40]; generalize hq_ : World.drewN w40 _ = w40; have n0_ : Aside0 (Kd.R k99 99 w40 w.heap.size (fun k_ => True) (.slice Ao41 t352.length co41) t352) := ⟨by rw [← hq_]; exact (rb_ HO354.out)⟩; have n1_ : Aside0 (w40.heap[gb349]? = some (.cells #[.int .i64 0, .int .i64 0, .int .i64 0, .slice none 0 0] 31 (0, 0))) := ⟨by rw [← hq_]; exact (kb_ BK349.out)⟩; have n2_ : Aside0 (Below w.heap.size w w40) := ⟨by rw [← hq_]; exact (bw_)⟩; clear HO354 BK349 HB hq_; have HO354 := n0_; have BK349 := n1_; have HB := n2_; clear n0_ n1_ n2_)); obtain ⟨hcz42_0, hcz42_1, hcz42_2, hcz42_3, hfz42_0, hfz42_1, hfz42_2, hfz42_3⟩ := bk4_ BK349.out))
     refine bodyPost_ret (results_ct rfl _ _ gb349 31 #[.int .i64 0, .int .i64 0, .int .i64 0, .slice none 0 0] (0, 0) _ rfl (by (with_reducible repeat (first | refine bN_ ?_ _ | refine bD_ ?_ | refine bA_ ?_ _)); refine blk_put (cs := #[.int .i64 0, .int .i64 0, .int .i64 0, .slice none 0 0]) ?_ 3 _ rfl; (with_reducible repeat (first | refine bN_ ?_ _ | refine bD_ ?_ | refine bA_ ?_ _)); refine blk_put (cs := #[.int .i64 0, .int .i64 0, .int .i64 0, .slice none 0 0]) ?_ 2 _ rfl; (with_reducible repeat (first | refine bN_ ?_ _ | refine bD_ ?_ | refine bA_ ?_ _)); refine blk_put (cs := #[.int .i64 0, .int .i64 0, .int .i64 0, .slice none 0 0]) ?_ 1 _ rfl; (with_reducible repeat (first | refine bN_ ?_ _ | refine bD_ ?_ | refine bA_ ?_ _)); refine blk_put (cs := #[.int .i64 0, .int .i64 0, .int .i64 0, .slice none 0 0]) ?_ 0 _ rfl; (with_reducible repeat (first | refine bN_ ?_ _ | refine bD_ ?_ | refine bA_ ?_ _)); exact BK349.out) Try.underlying31 rfl (by kernel_rfl)) rfl ?_
     exact ⟨_, by first | rfl | (simp [errW_none, errW_some] <;> rfl) | (simp [*, errW_none, errW_some] <;> rfl), by first | exact Kd.R_nil _ _ _ _ _ | exact Kd.N_nil _ _ _ _ _ | exact Kd.V_nil _ _ _ _ _ | exact Kd.Q_nil _ _ _ _ _ | exact Kd.S_nil _ _ _ _ _, bw_⟩

/-! ### spec_l11Plan: function 91 -/
mutual
def spec_l11Plan.l0 : Nat → Int → Int → List (S144) → Int → List Int → Int → Int → Option ((List (S144)) × Int × Int)
  | 0, _, _, _, _, _, _, _ => none
  | k + 1, x1, x2, x7, x8, x1000, x1001, x1002 => if x8 < x1 then (spec_l11Plan.l1 k x1 x2 x7 x8 (wrap64 (x8 + 1)) x1000 x1001 x1002) else (some (x7, x1001, x1002))
def spec_l11Plan.l1 : Nat → Int → Int → List (S144) → Int → Int → List Int → Int → Int → Option ((List (S144)) × Int × Int)
  | 0, _, _, _, _, _, _, _, _ => none
  | k + 1, x1, x2, x7, x8, x9, x1000, x1001, x1002 => if x9 < x1 then ((spec_l1Below.f x1000 x1001 x1002 5).bind fun bt371 => ((spec_l1Below.f x1000 bt371.2.1 bt371.2.2 3).bind fun bt374 => (spec_l11Plan.l2 k x1 x2 x7 x8 x9 bt371.1 bt374.1 x1000 bt374.2.1 bt374.2.2))) else (spec_l11Plan.l0 k x1 x2 x7 (wrap64 (x8 + 1)) x1000 x1001 x1002)
def spec_l11Plan.l2 : Nat → Int → Int → List (S144) → Int → Int → Int → Int → List Int → Int → Int → Option ((List (S144)) × Int × Int)
  | 0, _, _, _, _, _, _, _, _, _, _ => none
  | k + 1, x1, x2, x7, x8, x9, x10, x11, x1000, x1001, x1002 => if x11 > 0 then (spec_l11Plan.j3 k x1 x2 x7 x8 x9 x10 x11 (decide (x10 < x2)) x1000 x1001 x1002) else (spec_l11Plan.j3 k x1 x2 x7 x8 x9 x10 x11 false x1000 x1001 x1002)
def spec_l11Plan.j3 : Nat → Int → Int → List (S144) → Int → Int → Int → Int → Bool → List Int → Int → Int → Option ((List (S144)) × Int × Int)
  | 0, _, _, _, _, _, _, _, _, _, _, _ => none
  | k + 1, x1, x2, x7, x8, x9, x10, x11, x36, x1000, x1001, x1002 => if x36 = true then ((spec_l1Below.f x1000 x1001 x1002 9).bind fun bt377 => ((spec_Min.f x2 (wrap64 ((wrap64 (x10 + 2)) + bt377.1))).bind fun t380 => (if x7.length < 4398046511104 then ((spec_l1Below.f x1000 bt377.2.1 bt377.2.2 6).bind fun bt384 => (spec_l11Plan.l2 k x1 x2 (x7 ++ [(⟨x8, x9, x10, t380⟩ : S144)]) x8 x9 (wrap64 ((wrap64 (t380 + 1)) + bt384.1)) (wrap64 (x11 - 1)) x1000 bt384.2.1 bt384.2.2)) else (none)))) else (spec_l11Plan.l1 k x1 x2 x7 x8 (wrap64 (x9 + 1)) x1000 x1001 x1002)
end
def spec_l11Plan.f (k : Nat) (s0_0 : List Int) (s0_1 : Int) (s0_2 : Int) (a1 : Int) (a2 : Int) : Option ((List (S144)) × Int × Int) := spec_l11Plan.l0 k a1 a2 (([] : List (S144))) 0 s0_0 s0_1 s0_2
set_option maxHeartbeats 8000000 in
set_option maxRecDepth 100000 in
theorem spec_l11Plan.calls (k : Nat) (g : Nat) (s0_0 : List Int) (s0_1 : Int) (s0_2 : Int) (a1 : Int) (a2 : Int) (r1 : List (S144)) (r2 : Int) (r3 : Int) (w0 w : World) (hI : IsS115 w0 w g s0_0 s0_1 s0_2) (hB : Below w0.heap.size w0 w) (h : spec_l11Plan.f k s0_0 s0_1 s0_2 a1 a2 = some (r1, r2, r3)) :
  Calls Try.prog 91 #[.pointer (some ⟨g, 0, none⟩), .int .i64 a1, .int .i64 a2] w fun e w' => ∃ v0_ : Value, e = .returned (v0_) ∧ Kd.R k144 144 w' w.heap.size (fun _ => True) v0_ r1 ∧ IsS115 w0 w' g s0_0 r2 r3 ∧ Below w0.heap.size w0 w' ∧ KeepBut w w' g none := by
 have hu144 := Try.underlying144; have HI0 := aM_ hI; have HK := aM_ (KeepBut.refl w g none); have HL := aM_ hB.size; clear hI; have HW0 := aM_ hB.size; have HB := aM_ hB; clear hB
 have H : (spec_l11Plan.l0 k a1 a2 (([] : List (S144))) 0 s0_0 s0_1 s0_2) = some (r1, r2, r3) := h
 clear h
 obtain ⟨y368, hy368⟩ : ∃ y_ : List (S144), y_ = (([] : List (S144))) := ⟨_, rfl⟩
 replace H : (spec_l11Plan.l0 k a1 a2 y368 0 s0_0 s0_1 s0_2) = some (r1, r2, r3) := by first | (rw [hy368]; with_reducible exact H) | (have H2_ := (Option.bind_some _ _).symm.trans H; rw [hy368]; with_reducible exact H2_) | (have H2_ := (Option.bind_some _ _).symm.trans H; with_reducible exact H2_) | with_reducible exact H | (rw [hy368]; exact H) | exact H
 have Ny368 := aM_ hy368; clear hy368
 have H' := aM_ H
 clear H
 go_enter Try.func91, Try.ntmps91
 go_wp2_with (first | ((with_reducible refine gate_dst (N := 13) rfl ?_); refine Kd.R_lit k144 _ 144 ?hg (N := 13) ?hd (xs := ([] : List (S144))) (inner := []) (ok := fun _ => True) (okp := fun _ => True) ?hr ?hp (fun _ hk => hk) trivial (Below.refl _ _) (Nat.le_refl _) (by simp) ?_; (case hd => rfl); (case hg => rfl); (case hr => first | (go_simp; done) | (go_simp; rfl)); (case hp => exact (Reps.none _ _)); intro v369 w4 ho5 hb hg_ hnew_; clear hg_ hnew_; (first | rw [← Ny368.out] at ho5 | (simp only [Int.reduceToNat] at ho5; rw [← Ny368.out] at ho5)); have n0_ := aM_ (Kd.R_lower ho5 (keep_size (w := w) (g := g) (row := none) (kp_ (w := w)))); have n1_ := aM_ (IsS115.below (i115_0 (g := g)) hb); have n2_ := aM_ (KeepBut.trans (kp_ (w := w)) (KeepBut.of_below hb g none) (.inl rfl)); have n3_ := aM_ (wS_ (by repeat (first | (with_reducible first | exact HB.out | apply wA_ | apply wN_ | apply wD_ | refine wE_ ?_ (IsS115.ge HI0.out)) | exact HB.out)) hb); clear HI0 HK HB; have HO370 := n0_; have HI0 := n1_; have HK := n2_; have HB := n3_; clear n0_ n1_ n2_ n3_ hb ho5))
 go_loopg [7, 8] k (fun kq v7 v8 w' => ∃ (x7_1 : List (S144)) (x8_1 : Int) (x1001_1 : Int) (x1002_1 : Int), v8 = .int .i64 x8_1 ∧ Aside0 (spec_l11Plan.l0 kq a1 a2 x7_1 x8_1 s0_0 x1001_1 x1002_1 = some (r1, r2, r3)) ∧ Aside0 (kq ≤ k) ∧ Aside0 (Kd.R k144 144 w' w.heap.size (fun _ => True) v7 x7_1) ∧ Aside0 (IsS115 w0 w' g s0_0 x1001_1 x1002_1) ∧ Aside0 (KeepBut w w' g none) ∧ Aside0 (Below w0.heap.size w0 w'))
 case atStart => exact ⟨(y368), (0), (s0_1), (s0_2), (by first | rfl | (simp; done) | (simp [*]; done)), H', ⟨Nat.le_refl _⟩, ⟨by (with_reducible repeat (first | apply rA_ | apply rN_ | apply rD_)); exact HO370.out⟩, ⟨by repeat (first | (with_reducible first | exact HI0.out | apply IsS115.alloc | apply IsS115.drewN | apply IsS115.drew | apply IsS115.set_1 | apply IsS115.set_2) | exact HI0.out)⟩, ⟨by repeat (first | (with_reducible first | exact HK.out | apply KeepBut.set_ | apply keep_drewN | apply keep_drew | apply keep_alloc) | exact HK.out)⟩, ⟨by repeat (first | (with_reducible first | exact HB.out | apply wA_ | apply wN_ | apply wD_ | refine wE_ ?_ (IsS115.ge HI0.out)) | exact HB.out)⟩⟩
 case round =>
  clear H'
  obtain ⟨x7_1, x8_1, x1001_1, x1002_1, rfl, HA, HK1, HO_7, HI0, HK, HB⟩ := hrel
  cases gk with
  | zero => exact absurd HA.out (by simp [spec_l11Plan.l0])
  | succ k1 =>
   have H := HA.out; clear HA
   simp only [spec_l11Plan.l0] at H
   by_cases c6 : x8_1 < a1
   ·rw [if_pos c6] at H
    have c6b0 : decide (x8_1 < a1) = true := decide_eq_true c6
    clear c6
    have H' := aM_ H
    clear H
    go_wp2
    go_loopg [7, 9] k1 (fun kq v7 v9 w' => ∃ (x7_2 : List (S144)) (x9_2 : Int) (x1001_2 : Int) (x1002_2 : Int), v9 = .int .i64 x9_2 ∧ Aside0 (spec_l11Plan.l1 kq a1 a2 x7_2 x8_1 x9_2 s0_0 x1001_2 x1002_2 = some (r1, r2, r3)) ∧ Aside0 (kq ≤ k1) ∧ Aside0 (Kd.R k144 144 w' w.heap.size (fun _ => True) v7 x7_2) ∧ Aside0 (IsS115 w0 w' g s0_0 x1001_2 x1002_2) ∧ Aside0 (KeepBut w w' g none) ∧ Aside0 (Below w0.heap.size w0 w'))
    case atStart => exact ⟨(x7_1), (wrap64 (x8_1 + 1)), (x1001_1), (x1002_1), (by first | rfl | (simp; done) | (simp [*]; done)), H', ⟨Nat.le_refl _⟩, ⟨by (with_reducible repeat (first | apply rA_ | apply rN_ | apply rD_)); exact HO_7.out⟩, ⟨by repeat (first | (with_reducible first | exact HI0.out | apply IsS115.alloc | apply IsS115.drewN | apply IsS115.drew | apply IsS115.set_1 | apply IsS115.set_2) | exact HI0.out)⟩, ⟨by repeat (first | (with_reducible first | exact HK.out | apply KeepBut.set_ | apply keep_drewN | apply keep_drew | apply keep_alloc) | exact HK.out)⟩, ⟨by repeat (first | (with_reducible first | exact HB.out | apply wA_ | apply wN_ | apply wD_ | refine wE_ ?_ (IsS115.ge HI0.out)) | exact HB.out)⟩⟩
    case round =>
     clear H'
     try clear c6b0
     obtain ⟨x7_2, x9_2, x1001_2, x1002_2, rfl, HA, HK2, HO_7, HI0, HK, HB⟩ := hrel
     cases gk with
     | zero => exact absurd HA.out (by simp [spec_l11Plan.l1])
     | succ k2 =>
      have H := HA.out; clear HA
      simp only [spec_l11Plan.l1] at H
      by_cases c7 : x9_2 < a1
      ·rw [if_pos c7] at H
       have c7b0 : decide (x9_2 < a1) = true := decide_eq_true c7
       clear c7
       replace H := Option.bind_eq_some_iff.mp H
       obtain ⟨⟨t371, t372, t373⟩, A80, H⟩ := H
       (try dsimp only at H)
       have A8 := aM_ A80; clear A80
       replace H := Option.bind_eq_some_iff.mp H
       obtain ⟨⟨t374, t375, t376⟩, A90, H⟩ := H
       (try dsimp only at H)
       have A9 := aM_ A90; clear A90
       have H' := aM_ H
       clear H
       go_wp2_with (first | ((with_reducible refine gate_callee (f := 69) rfl ?_); refine goesL_ (some 27) rfl rfl Try.func69 (by kernel_rfl) rfl #[.pointer (some ⟨g, 0, none⟩), .int .i64 5] rfl (by (try simp only [List.map_toArray, List.map_cons, List.map_nil]); first | done | rfl | (simp only [List.length_drop, List.length_take]; rfl)) ?_; (with_reducible refine (spec_l1Below.calls g s0_0 x1001_2 x1002_2 5 t371 t372 t373 w0 _ ?side1 ?side2 A8.out).mono ?_); (case side1 => exact i115_0 (g := g)); (case side2 => repeat (first | (with_reducible first | exact HB.out | apply wA_ | apply wN_ | apply wD_ | refine wE_ ?_ (IsS115.ge HI0.out)) | exact HB.out)); rintro e w10 ⟨rfl, hi, hb, hk⟩; refine ⟨_, rfl, ?_⟩; have n0_ := aM_ (Kd.R_mono (Kd.R_keep (IsS115.apart (show IsS115 w0 _ g s0_0 x1001_2 x1002_2 from by repeat (first | (with_reducible first | exact HI0.out | apply IsS115.alloc | apply IsS115.drewN | apply IsS115.drew | apply IsS115.set_1 | apply IsS115.set_2) | exact HI0.out)) (rb_ HO_7.out) (by decide)) hk (fun _ h => h.2)) (fun _ h => h.1)); have n1_ := aM_ (KeepBut.trans (kp_ (w := w)) hk (.inl rfl)); have n2_ := aM_ (hb); have n3_ := aM_ (hi); clear HO_7 HK HB HI0; have HO_7 := n0_; have HK := n1_; have HB := n2_; have HI0 := n3_; clear n0_ n1_ n2_ n3_; (try clear hb); (try clear hb2); (try clear hk); (try clear hi)) | ((with_reducible refine gate_callee (f := 69) rfl ?_); refine goesL_ (some 29) rfl rfl Try.func69 (by kernel_rfl) rfl #[.pointer (some ⟨g, 0, none⟩), .int .i64 3] rfl (by (try simp only [List.map_toArray, List.map_cons, List.map_nil]); first | done | rfl | (simp only [List.length_drop, List.length_take]; rfl)) ?_; (with_reducible refine (spec_l1Below.calls g s0_0 t372 t373 3 t374 t375 t376 w0 _ ?side1 ?side2 A9.out).mono ?_); (case side1 => exact i115_0 (g := g)); (case side2 => repeat (first | (with_reducible first | exact HB.out | apply wA_ | apply wN_ | apply wD_ | refine wE_ ?_ (IsS115.ge HI0.out)) | exact HB.out)); rintro e w11 ⟨rfl, hi, hb, hk⟩; refine ⟨_, rfl, ?_⟩; have n0_ := aM_ (Kd.R_mono (Kd.R_keep (IsS115.apart (show IsS115 w0 _ g s0_0 t372 t373 from by repeat (first | (with_reducible first | exact HI0.out | apply IsS115.alloc | apply IsS115.drewN | apply IsS115.drew | apply IsS115.set_1 | apply IsS115.set_2) | exact HI0.out)) (rb_ HO_7.out) (by decide)) hk (fun _ h => h.2)) (fun _ h => h.1)); have n1_ := aM_ (KeepBut.trans (kp_ (w := w)) hk (.inl rfl)); have n2_ := aM_ (hb); have n3_ := aM_ (hi); clear HO_7 HK HB HI0; have HO_7 := n0_; have HK := n1_; have HB := n2_; have HI0 := n3_; clear n0_ n1_ n2_ n3_; (try clear hb); (try clear hb2); (try clear hk); (try clear hi)))
       go_loopg [7, 10, 11] k2 (fun kq v7 v10 v11 w' => ∃ (x7_3 : List (S144)) (x10_3 : Int) (x11_3 : Int) (x1001_3 : Int) (x1002_3 : Int), v10 = .int .i64 x10_3 ∧ v11 = .int .i64 x11_3 ∧ Aside0 (spec_l11Plan.l2 kq a1 a2 x7_3 x8_1 x9_2 x10_3 x11_3 s0_0 x1001_3 x1002_3 = some (r1, r2, r3)) ∧ Aside0 (kq ≤ k2) ∧ Aside0 (Kd.R k144 144 w' w.heap.size (fun _ => True) v7 x7_3) ∧ Aside0 (IsS115 w0 w' g s0_0 x1001_3 x1002_3) ∧ Aside0 (KeepBut w w' g none) ∧ Aside0 (Below w0.heap.size w0 w'))
       case atStart => exact ⟨(x7_2), (t371), (t374), (t375), (t376), (by first | rfl | (simp; done) | (simp [*]; done)), (by first | rfl | (simp; done) | (simp [*]; done)), H', ⟨Nat.le_refl _⟩, ⟨by (with_reducible repeat (first | apply rA_ | apply rN_ | apply rD_)); exact HO_7.out⟩, ⟨by repeat (first | (with_reducible first | exact HI0.out | apply IsS115.alloc | apply IsS115.drewN | apply IsS115.drew | apply IsS115.set_1 | apply IsS115.set_2) | exact HI0.out)⟩, ⟨by repeat (first | (with_reducible first | exact HK.out | apply KeepBut.set_ | apply keep_drewN | apply keep_drew | apply keep_alloc) | exact HK.out)⟩, ⟨by repeat (first | (with_reducible first | exact HB.out | apply wA_ | apply wN_ | apply wD_ | refine wE_ ?_ (IsS115.ge HI0.out)) | exact HB.out)⟩⟩
       case round =>
        clear H'
        try clear c6b0
        try clear c7b0
        obtain ⟨x7_3, x10_3, x11_3, x1001_3, x1002_3, rfl, rfl, HA, HK3, HO_7, HI0, HK, HB⟩ := hrel
        cases gk with
        | zero => exact absurd HA.out (by simp [spec_l11Plan.l2])
        | succ k3 =>
         have H := HA.out; clear HA
         simp only [spec_l11Plan.l2] at H
         have HC12 := aM_ H; clear H
         go_upto_region 10 with (fail)
         go_cut [36] (fun v36 wc => ∃ (kq : Nat) (x36_11 : Bool), v36 = .bool x36_11 ∧ Aside0 (spec_l11Plan.j3 kq a1 a2 x7_3 x8_1 x9_2 x10_3 x11_3 x36_11 s0_0 x1001_3 x1002_3 = some (r1, r2, r3)) ∧ Aside0 (kq ≤ k3) ∧ Aside0 (Kd.R k144 144 wc w.heap.size (fun _ => True) u7 x7_3) ∧ Aside0 (IsS115 w0 wc g s0_0 x1001_3 x1002_3) ∧ Aside0 (KeepBut w wc g none) ∧ Aside0 (Below w0.heap.size w0 wc))
         case first =>
          have H := HC12.out; clear HC12
          by_cases c13 : x11_3 > 0
          ·rw [if_pos c13] at H
           have c13b0 : decide (0 < x11_3) = true := decide_eq_true c13
           clear c13
           (first | rw [c13b0] | (simp only [i64_w, i32_w]; rw [c13b0]) | skip)
           have H' := aM_ H
           clear H
           go_wp2
           go_meet
           case rel => exact ⟨_, (decide (x10_3 < a2)), (by first | rfl | (simp; done) | (simp [*]; done)), H', ⟨by have := HK1.out; have := HK2.out; have := HK3.out; first | omega | exact Nat.le_refl _⟩, ⟨by (with_reducible repeat (first | apply rA_ | apply rN_ | apply rD_)); exact HO_7.out⟩, ⟨by repeat (first | (with_reducible first | exact HI0.out | apply IsS115.alloc | apply IsS115.drewN | apply IsS115.drew | apply IsS115.set_1 | apply IsS115.set_2) | exact HI0.out)⟩, ⟨by repeat (first | (with_reducible first | exact HK.out | apply KeepBut.set_ | apply keep_drewN | apply keep_drew | apply keep_alloc) | exact HK.out)⟩, ⟨by repeat (first | (with_reducible first | exact HB.out | apply wA_ | apply wN_ | apply wD_ | refine wE_ ?_ (IsS115.ge HI0.out)) | exact HB.out)⟩⟩
          ·rw [if_neg c13] at H
           have c13b0 : decide (0 < x11_3) = false := decide_eq_false c13
           clear c13
           (first | rw [c13b0] | (simp only [i64_w, i32_w]; rw [c13b0]) | skip)
           have H' := aM_ H
           clear H
           go_wp2
           go_meet
           case rel => exact ⟨_, (false), (by first | rfl | (simp; done) | (simp [*]; done)), H', ⟨by have := HK1.out; have := HK2.out; have := HK3.out; first | omega | exact Nat.le_refl _⟩, ⟨by (with_reducible repeat (first | apply rA_ | apply rN_ | apply rD_)); exact HO_7.out⟩, ⟨by repeat (first | (with_reducible first | exact HI0.out | apply IsS115.alloc | apply IsS115.drewN | apply IsS115.drew | apply IsS115.set_1 | apply IsS115.set_2) | exact HI0.out)⟩, ⟨by repeat (first | (with_reducible first | exact HK.out | apply KeepBut.set_ | apply keep_drewN | apply keep_drew | apply keep_alloc) | exact HK.out)⟩, ⟨by repeat (first | (with_reducible first | exact HB.out | apply wA_ | apply wN_ | apply wD_ | refine wE_ ?_ (IsS115.ge HI0.out)) | exact HB.out)⟩⟩
         case rest =>
          clear HC12
          try clear c6b0
          try clear c7b0
          try clear c13b0
          obtain ⟨kq, x36_11, rfl, HA, HJ11, HO_7, HI0, HK, HB⟩ := hcut
          cases kq with
          | zero => exact absurd HA.out (by simp [spec_l11Plan.j3])
          | succ kj11 =>
           have H := HA.out; clear HA
           simp only [spec_l11Plan.j3] at H
           by_cases c14 : x36_11 = true
           ·subst c14
            have H1 : ((spec_l1Below.f s0_0 x1001_3 x1002_3 9).bind fun bt377 => ((spec_Min.f a2 (wrap64 ((wrap64 (x10_3 + 2)) + bt377.1))).bind fun t380 => (if x7_3.length < 4398046511104 then ((spec_l1Below.f s0_0 bt377.2.1 bt377.2.2 6).bind fun bt384 => (spec_l11Plan.l2 kj11 a1 a2 (x7_3 ++ [(⟨x8_1, x9_2, x10_3, t380⟩ : S144)]) x8_1 x9_2 (wrap64 ((wrap64 (t380 + 1)) + bt384.1)) (wrap64 (x11_3 - 1)) s0_0 bt384.2.1 bt384.2.2)) else (none)))) = some (r1, r2, r3) := by rw [if_pos rfl] at H; exact H
            clear H; have H := H1; clear H1
            replace H := Option.bind_eq_some_iff.mp H
            obtain ⟨⟨t377, t378, t379⟩, A150, H⟩ := H
            (try dsimp only at H)
            have A15 := aM_ A150; clear A150
            replace H := Option.bind_eq_some_iff.mp H
            obtain ⟨t380, A160, H⟩ := H
            (try dsimp only at H)
            have A16 := aM_ A160; clear A160
            by_cases c17 : x7_3.length < 4398046511104
            ·rw [if_pos c17] at H
             have LMc17 := aM_ c17; clear c17
             obtain ⟨y381, hy381⟩ : ∃ y_ : List (S144), y_ = (x7_3 ++ [(⟨x8_1, x9_2, x10_3, t380⟩ : S144)]) := ⟨_, rfl⟩
             replace H : ((spec_l1Below.f s0_0 t378 t379 6).bind fun bt384 => (spec_l11Plan.l2 kj11 a1 a2 y381 x8_1 x9_2 (wrap64 ((wrap64 (t380 + 1)) + bt384.1)) (wrap64 (x11_3 - 1)) s0_0 bt384.2.1 bt384.2.2)) = some (r1, r2, r3) := by first | (rw [hy381]; with_reducible exact H) | (have H2_ := (Option.bind_some _ _).symm.trans H; rw [hy381]; with_reducible exact H2_) | (have H2_ := (Option.bind_some _ _).symm.trans H; with_reducible exact H2_) | with_reducible exact H | (rw [hy381]; exact H) | exact H
             have Ny381 := aM_ hy381; clear hy381
             replace H := Option.bind_eq_some_iff.mp H
             obtain ⟨⟨t384, t385, t386⟩, A180, H⟩ := H
             (try dsimp only at H)
             have A18 := aM_ A180; clear A180
             have H' := aM_ H
             clear H
             go_wp2_with (first | ((with_reducible refine gate_callee (f := 69) rfl ?_); refine goesL_ (some 43) rfl rfl Try.func69 (by kernel_rfl) rfl #[.pointer (some ⟨g, 0, none⟩), .int .i64 9] rfl (by (try simp only [List.map_toArray, List.map_cons, List.map_nil]); first | done | rfl | (simp only [List.length_drop, List.length_take]; rfl)) ?_; (with_reducible refine (spec_l1Below.calls g s0_0 x1001_3 x1002_3 9 t377 t378 t379 w0 _ ?side1 ?side2 A15.out).mono ?_); (case side1 => exact i115_0 (g := g)); (case side2 => repeat (first | (with_reducible first | exact HB.out | apply wA_ | apply wN_ | apply wD_ | refine wE_ ?_ (IsS115.ge HI0.out)) | exact HB.out)); rintro e w19 ⟨rfl, hi, hb, hk⟩; refine ⟨_, rfl, ?_⟩; have n0_ := aM_ (Kd.R_mono (Kd.R_keep (IsS115.apart (show IsS115 w0 _ g s0_0 x1001_3 x1002_3 from by repeat (first | (with_reducible first | exact HI0.out | apply IsS115.alloc | apply IsS115.drewN | apply IsS115.drew | apply IsS115.set_1 | apply IsS115.set_2) | exact HI0.out)) (rb_ HO_7.out) (by decide)) hk (fun _ h => h.2)) (fun _ h => h.1)); have n1_ := aM_ (KeepBut.trans (kp_ (w := w)) hk (.inl rfl)); have n2_ := aM_ (hb); have n3_ := aM_ (hi); clear HO_7 HK HB HI0; have HO_7 := n0_; have HK := n1_; have HB := n2_; have HI0 := n3_; clear n0_ n1_ n2_ n3_; (try clear hb); (try clear hb2); (try clear hk); (try clear hi)) | ((with_reducible refine gate_callee (f := 117) rfl ?_); refine goesL_ (some 45) rfl rfl Try.func117 (by kernel_rfl) rfl #[.int .i64 a2, .int .i64 (wrap64 ((wrap64 (x10_3 + 2)) + t377))] rfl (by (try simp only [List.map_toArray, List.map_cons, List.map_nil]); first | done | rfl | (simp only [List.length_drop, List.length_take]; rfl)) ?_; (with_reducible refine (spec_Min.calls a2 (wrap64 ((wrap64 (x10_3 + 2)) + t377)) t380 _ A16.out).mono ?_); rintro e w' ⟨rfl, ⟨nd, rfl⟩⟩; refine ⟨_, rfl, ?_⟩) | ((with_reducible refine gate_builtin (b := .append) (xs := #[.tmp 46, .tmp 52]) rfl ?_); at_builtin; refine Kd.R_append k144 w.heap.size rfl (.tmp 46) (.tmp 52) 118 144 (.agg #[(.int .i64 0), (.int .i64 0), (.int .i64 0), (.int .i64 0)]) 32 rfl Try.underlying118 info144 rfl (by decide) (by omega) u7 x7_3 (⟨x8_1, x9_2, x10_3, t380⟩ : S144) [.int .i64 x8_1, .int .i64 x9_2, .int .i64 x10_3, .int .i64 t380] (fun _ => True) (fun _ => False) rfl rfl ?aP (fun _ hk => hk.elim) ?aF ?aO (Below.refl _ _) ?aS ?aL ?_; (case aP => exact k144_mkM _ _ _ (⟨x8_1, x9_2, x10_3, t380⟩ : S144)); (case aF => exact (fun _ _ => trivial)); (case aO => exact (rb_ HO_7.out)); (case aS => exact (keep_size (w := w) (g := g) (row := none) (kp_ (w := w)))); (case aL => have := LMc17.out; omega); intro v382 w20 ho hb hg hat; rw [← Ny381.out] at ho; have n0_ := aM_ (IsS115.grown (i115_0 (g := g)) hg (IsS115.own_ne HI0.out HO_7.out (by decide))); have n1_ := aM_ (below_weaken (by repeat (first | (with_reducible first | exact HB.out | apply wA_ | apply wN_ | apply wD_ | refine wE_ ?_ (IsS115.ge HI0.out)) | exact HB.out)) HL.out hb); have n2_ := aM_ (KeepBut.trans (kp_ (w := w)) (KeepBut.of_grown hg g) (Kd.R_base2 HO_7.out)); have n3_ := aM_ (ho); clear HI0 HB HK HO_7; have HI0 := n0_; have HB := n1_; have HK := n2_; have HO383 := n3_; clear n0_ n1_ n2_ n3_ ho hb hg hat) | ((with_reducible refine gate_callee (f := 69) rfl ?_); refine goesL_ (some 57) rfl rfl Try.func69 (by kernel_rfl) rfl #[.pointer (some ⟨g, 0, none⟩), .int .i64 6] rfl (by (try simp only [List.map_toArray, List.map_cons, List.map_nil]); first | done | rfl | (simp only [List.length_drop, List.length_take]; rfl)) ?_; (with_reducible refine (spec_l1Below.calls g s0_0 t378 t379 6 t384 t385 t386 w0 _ ?side1 ?side2 A18.out).mono ?_); (case side1 => exact i115_0 (g := g)); (case side2 => repeat (first | (with_reducible first | exact HB.out | apply wA_ | apply wN_ | apply wD_ | refine wE_ ?_ (IsS115.ge HI0.out)) | exact HB.out)); rintro e w21 ⟨rfl, hi, hb, hk⟩; refine ⟨_, rfl, ?_⟩; have n0_ := aM_ (Kd.R_mono (Kd.R_keep (IsS115.apart (show IsS115 w0 _ g s0_0 t378 t379 from by repeat (first | (with_reducible first | exact HI0.out | apply IsS115.alloc | apply IsS115.drewN | apply IsS115.drew | apply IsS115.set_1 | apply IsS115.set_2) | exact HI0.out)) (rb_ HO383.out) (by decide)) hk (fun _ h => h.2)) (fun _ h => h.1)); have n1_ := aM_ (KeepBut.trans (kp_ (w := w)) hk (.inl rfl)); have n2_ := aM_ (hb); have n3_ := aM_ (hi); clear HO383 HK HB HI0; have HO383 := n0_; have HK := n1_; have HB := n2_; have HI0 := n3_; clear n0_ n1_ n2_ n3_; (try clear hb); (try clear hb2); (try clear hk); (try clear hi)))
             go_roundg kj11
             case measure => have := HK1.out; have := HK2.out; have := HK3.out; have := HJ11.out; omega
             case rel => exact ⟨(y381), (wrap64 ((wrap64 (t380 + 1)) + t384)), (wrap64 (x11_3 - 1)), (t385), (t386), (by first | rfl | (simp; done) | (simp [*]; done)), (by first | rfl | (simp; done) | (simp [*]; done)), H', ⟨by have := HK1.out; have := HK2.out; have := HK3.out; have := HJ11.out; omega⟩, ⟨by (with_reducible repeat (first | apply rA_ | apply rN_ | apply rD_)); exact HO383.out⟩, ⟨by repeat (first | (with_reducible first | exact HI0.out | apply IsS115.alloc | apply IsS115.drewN | apply IsS115.drew | apply IsS115.set_1 | apply IsS115.set_2) | exact HI0.out)⟩, ⟨by repeat (first | (with_reducible first | exact HK.out | apply KeepBut.set_ | apply keep_drewN | apply keep_drew | apply keep_alloc) | exact HK.out)⟩, ⟨by repeat (first | (with_reducible first | exact HB.out | apply wA_ | apply wN_ | apply wD_ | refine wE_ ?_ (IsS115.ge HI0.out)) | exact HB.out)⟩⟩
            ·rw [if_neg c17] at H
             exact absurd H (by simp)
           ·replace c14 := Bool.eq_false_iff.mpr c14
            subst c14
            have H1 : (spec_l11Plan.l1 kj11 a1 a2 x7_3 x8_1 (wrap64 (x9_2 + 1)) s0_0 x1001_3 x1002_3) = some (r1, r2, r3) := by rw [if_neg (show ¬ (false = true) by decide)] at H; exact H
            clear H; have H := H1; clear H1
            have H' := aM_ H
            clear H
            go_wp2
            go_roundg kj11
            case measure => have := HK1.out; have := HK2.out; have := HK3.out; have := HJ11.out; omega
            case rel => exact ⟨(x7_3), (wrap64 (x9_2 + 1)), (x1001_3), (x1002_3), (by first | rfl | (simp; done) | (simp [*]; done)), H', ⟨by have := HK1.out; have := HK2.out; have := HK3.out; have := HJ11.out; omega⟩, ⟨by (with_reducible repeat (first | apply rA_ | apply rN_ | apply rD_)); exact HO_7.out⟩, ⟨by repeat (first | (with_reducible first | exact HI0.out | apply IsS115.alloc | apply IsS115.drewN | apply IsS115.drew | apply IsS115.set_1 | apply IsS115.set_2) | exact HI0.out)⟩, ⟨by repeat (first | (with_reducible first | exact HK.out | apply KeepBut.set_ | apply keep_drewN | apply keep_drew | apply keep_alloc) | exact HK.out)⟩, ⟨by repeat (first | (with_reducible first | exact HB.out | apply wA_ | apply wN_ | apply wD_ | refine wE_ ?_ (IsS115.ge HI0.out)) | exact HB.out)⟩⟩
      ·rw [if_neg c7] at H
       have c7b0 : decide (x9_2 < a1) = false := decide_eq_false c7
       clear c7
       have H' := aM_ H
       clear H
       go_wp2
       go_roundg k2
       case measure => have := HK1.out; have := HK2.out; omega
       case rel => exact ⟨(x7_2), (wrap64 (x8_1 + 1)), (x1001_2), (x1002_2), (by first | rfl | (simp; done) | (simp [*]; done)), H', ⟨by have := HK1.out; have := HK2.out; omega⟩, ⟨by (with_reducible repeat (first | apply rA_ | apply rN_ | apply rD_)); exact HO_7.out⟩, ⟨by repeat (first | (with_reducible first | exact HI0.out | apply IsS115.alloc | apply IsS115.drewN | apply IsS115.drew | apply IsS115.set_1 | apply IsS115.set_2) | exact HI0.out)⟩, ⟨by repeat (first | (with_reducible first | exact HK.out | apply KeepBut.set_ | apply keep_drewN | apply keep_drew | apply keep_alloc) | exact HK.out)⟩, ⟨by repeat (first | (with_reducible first | exact HB.out | apply wA_ | apply wN_ | apply wD_ | refine wE_ ?_ (IsS115.ge HI0.out)) | exact HB.out)⟩⟩
   ·rw [if_neg c6] at H
    have c6b0 : decide (x8_1 < a1) = false := decide_eq_false c6
    clear c6
    simp only [Option.some.injEq, Prod.mk.injEq] at H
    obtain ⟨rfl, rfl, rfl⟩ := H
    go_wp2
    go_ret
    exact ⟨_, by first | rfl | (simp [errW_none, errW_some] <;> rfl) | (simp [*, errW_none, errW_some] <;> rfl), by (with_reducible repeat (first | apply rA_ | apply rN_ | apply rD_)); exact HO_7.out, by repeat (first | (with_reducible first | exact HI0.out | apply IsS115.alloc | apply IsS115.drewN | apply IsS115.drew | apply IsS115.set_1 | apply IsS115.set_2) | exact HI0.out), by repeat (first | (with_reducible first | exact HB.out | apply wA_ | apply wN_ | apply wD_ | refine wE_ ?_ (IsS115.ge HI0.out)) | exact HB.out), by repeat (first | (with_reducible first | exact HK.out | apply KeepBut.set_ | apply keep_drewN | apply keep_drew | apply keep_alloc) | exact HK.out)⟩

end Go.Proofs.Ytdodogkgmpaioaa.PFnReach
