/- The functions that the law reaches, as plain Lean functions, each with the proof that the Go code comes to its answers; conditions: those that each theorem names. (printed by a program of this session) -/
import Derived.Test.YtegkplalnljgjaaPFnExactRouteInx0
import Derived.Test.YtegkplalnljgjaaPFnExactRouteInx1
import Derived.Test.YtegkplalnljgjaaPFnExactRouteInx2
import Derived.Test.YtegkplalnljgjaaPFnExactRouteInx3
import Derived.Test.YtegkplalnljgjaaPFnExactRouteInx4
import Derived.Test.YtegkplalnljgjaaPFnExactRouteInx5
import Derived.Test.YtegkplalnljgjaaPFnExactRouteInx6
import Derived.Test.YtegkplalnljgjaaPFnExactRouteInx7
namespace Go.Proofs.Ytegkplalnljgjaa.PFnExactRouteIn
open Go.RowKit Go.Proofs.YtegkplalnljgjaaW.PrintWords Go.Proofs.YtegkplalnljgjaaW.PrintLast Go.Proofs.YtegkplalnljgjaaW.PrintMore
attribute [local go_sem] max2_int min2_int max_two min_two max_three min_three max_four min_four   -- for this text's walks alone
set_option linter.unusedVariables false
set_option linter.unusedSimpArgs false

/-! ### laws_FnExactRouteIn: function 12 -/
def laws_FnExactRouteIn.j0 : Nat → Int → List Int → List Int → Bool → Int → Int → Int → List (S133) → Int → Int → Int → Int → Option (Bool)
  | 0, _, _, _, _, _, _, _, _, _, _, _, _ => none
  | k + 1, x1, x8, x10, x52, x332000, x332001, x332002, x332003, x333000, x333001, x333002, x333003 => if x52 = true then (some false) else ((laws_markIntS.f k x10 1).bind fun bt371 => ((laws_heldIntS.f k bt371.2 1).bind fun t373 => (if t373 < 0 then (some false) else (if t373 = bt371.1 then ((laws_toProgram.f k x332000 x332001 x332002 x332003).bind fun bt374 => ((laws_toFlow.f x333000 x333001 x333002 x333003).bind fun bt380 => ((impl_RouteIn.f k bt374.1 bt374.2.1 bt374.2.2.1 bt374.2.2.2 x1 bt380.1 bt380.2.1 bt380.2.2.1 bt380.2.2.2).bind fun t384 => ((laws_eqIntS.f k t384 x8).bind fun t387 => (if t387 = true then ((laws_heldIntS.f k bt371.2 1).bind fun t388 => (if t388 < 0 then (some false) else (if t388 = bt371.1 then (some true) else (some false)))) else (some false)))))) else (some false)))))
def laws_FnExactRouteIn.f (k : Nat) (a0_0 : Int) (a0_1 : Int) (a0_2 : Int) (l0_3 : List (S133)) (a1 : Int) (a2_0 : Int) (a2_1 : Int) (a2_2 : Int) (a2_3 : Int) : Option (Bool) := (laws_szProgram.f k a0_0 a0_1 a0_2 l0_3 1048576).bind fun t333 => (if t333 < 0 then (some true) else ((laws_toProgram.f k a0_0 a0_1 a0_2 l0_3).bind fun bt334 => ((laws_toFlow.f a2_0 a2_1 a2_2 a2_3).bind fun bt340 => ((spec_RouteIn.f k bt334.1 bt334.2.1 bt334.2.2.1 bt334.2.2.2 a1 bt340.1 bt340.2.1 bt340.2.2.1 bt340.2.2.2).bind fun t344 => ((laws_toProgram.f k a0_0 a0_1 a0_2 l0_3).bind fun bt347 => ((laws_toFlow.f a2_0 a2_1 a2_2 a2_3).bind fun bt354 => ((impl_RouteIn.f k bt347.1 bt347.2.1 bt347.2.2.1 bt347.2.2.2 a1 bt354.1 bt354.2.1 bt354.2.2.1 bt354.2.2.2).bind fun t358 => ((laws_eqIntS.f k t358 t344).bind fun t361 => (if t361 = true then ((laws_toProgram.f k a0_0 a0_1 a0_2 l0_3).bind fun bt362 => ((laws_eqProgram.f k bt347.1 bt347.2.1 bt347.2.2.1 bt347.2.2.2 bt362.1 bt362.2.1 bt362.2.2.1 bt362.2.2.2).bind fun t368 => (if t368 = true then ((laws_markProgram.f bt347.1 bt347.2.1 bt347.2.2.1 bt347.2.2.2 1).bind fun t369 => (if t369 < 0 then (laws_FnExactRouteIn.j0 k a1 t344 t358 true a0_0 a0_1 a0_2 l0_3 a2_0 a2_1 a2_2 a2_3) else ((laws_eqIntS.f k t358 t344).bind fun t370 => (laws_FnExactRouteIn.j0 k a1 t344 t358 (!t370) a0_0 a0_1 a0_2 l0_3 a2_0 a2_1 a2_2 a2_3)))) else (some false)))) else (some false))))))))))
theorem laws_FnExactRouteIn.mono_l : ∀ k, (∀ y0 y1 y2 y3 y4 y5 y6 y7 y8 y9 y10 y11, LeO (laws_FnExactRouteIn.j0 k y0 y1 y2 y3 y4 y5 y6 y7 y8 y9 y10 y11) (laws_FnExactRouteIn.j0 (k + 1) y0 y1 y2 y3 y4 y5 y6 y7 y8 y9 y10 y11))
  | 0 => fun _ _ _ _ _ _ _ _ _ _ _ _ r h => by simp [laws_FnExactRouteIn.j0] at h
  | k + 1 => by
    have ih0 := laws_FnExactRouteIn.mono_l k
    · intro y0 y1 y2 y3 y4 y5 y6 y7 y8 y9 y10 y11
      unfold laws_FnExactRouteIn.j0
      repeat' first
      | (with_reducible exact ih0 _ _ _ _ _ _ _ _ _ _ _ _)
      | (with_reducible exact impl_RouteIn.mono _ _ _ _ _ _ _ _ _ _)
      | (with_reducible exact laws_eqIntS.mono _ _ _)
      | (with_reducible exact laws_eqProgram.mono _ _ _ _ _ _ _ _ _)
      | (with_reducible exact laws_heldIntS.mono _ _ _)
      | (with_reducible exact laws_markIntS.mono _ _ _)
      | (with_reducible exact laws_szProgram.mono _ _ _ _ _ _)
      | (with_reducible exact laws_toProgram.mono _ _ _ _ _)
      | (with_reducible exact spec_RouteIn.mono _ _ _ _ _ _ _ _ _ _)
      | (with_reducible exact LeO.refl _)
      | (with_reducible exact LeO.none _)
      | (with_reducible refine LeO.ite ?_ ?_)
      | (with_reducible refine LeO.bind ?_ (fun _ => ?_))
      | exact ih0 _ _ _ _ _ _ _ _ _ _ _ _
      | exact impl_RouteIn.mono _ _ _ _ _ _ _ _ _ _
      | exact laws_eqIntS.mono _ _ _
      | exact laws_eqProgram.mono _ _ _ _ _ _ _ _ _
      | exact laws_heldIntS.mono _ _ _
      | exact laws_markIntS.mono _ _ _
      | exact laws_szProgram.mono _ _ _ _ _ _
      | exact laws_toProgram.mono _ _ _ _ _
      | exact spec_RouteIn.mono _ _ _ _ _ _ _ _ _ _
      | exact LeO.none _
      | refine LeO.ite ?_ ?_
      | refine LeO.bind ?_ (fun _ => ?_)
theorem laws_FnExactRouteIn.mono : ∀ a0 a1 a2 a3 a4 a5 a6 a7 a8 k, LeO (laws_FnExactRouteIn.f k a0 a1 a2 a3 a4 a5 a6 a7 a8) (laws_FnExactRouteIn.f (k + 1) a0 a1 a2 a3 a4 a5 a6 a7 a8) := by
  intro a0 a1 a2 a3 a4 a5 a6 a7 a8 k
  have ih0 := laws_FnExactRouteIn.mono_l k
  unfold laws_FnExactRouteIn.f
  repeat' first
      | (with_reducible exact ih0 _ _ _ _ _ _ _ _ _ _ _ _)
      | (with_reducible exact impl_RouteIn.mono _ _ _ _ _ _ _ _ _ _)
      | (with_reducible exact laws_eqIntS.mono _ _ _)
      | (with_reducible exact laws_eqProgram.mono _ _ _ _ _ _ _ _ _)
      | (with_reducible exact laws_heldIntS.mono _ _ _)
      | (with_reducible exact laws_markIntS.mono _ _ _)
      | (with_reducible exact laws_szProgram.mono _ _ _ _ _ _)
      | (with_reducible exact laws_toProgram.mono _ _ _ _ _)
      | (with_reducible exact spec_RouteIn.mono _ _ _ _ _ _ _ _ _ _)
      | (with_reducible exact LeO.refl _)
      | (with_reducible exact LeO.none _)
      | (with_reducible refine LeO.ite ?_ ?_)
      | (with_reducible refine LeO.bind ?_ (fun _ => ?_))
      | exact ih0 _ _ _ _ _ _ _ _ _ _ _ _
      | exact impl_RouteIn.mono _ _ _ _ _ _ _ _ _ _
      | exact laws_eqIntS.mono _ _ _
      | exact laws_eqProgram.mono _ _ _ _ _ _ _ _ _
      | exact laws_heldIntS.mono _ _ _
      | exact laws_markIntS.mono _ _ _
      | exact laws_szProgram.mono _ _ _ _ _ _
      | exact laws_toProgram.mono _ _ _ _ _
      | exact spec_RouteIn.mono _ _ _ _ _ _ _ _ _ _
      | exact LeO.none _
      | refine LeO.ite ?_ ?_
      | refine LeO.bind ?_ (fun _ => ?_)
set_option maxHeartbeats 8000000 in
set_option maxRecDepth 100000 in
theorem laws_FnExactRouteIn.calls (k : Nat) (a0_0 : Int) (a0_1 : Int) (a0_2 : Int) (A0_3 : Option Addr) (c0_3 : Nat) (l0_3 : List (S133)) (a1 : Int) (a2_0 : Int) (a2_1 : Int) (a2_2 : Int) (a2_3 : Int) (r : Bool) (w : World) (hr0_3 : Kd.C k133 w A0_3 l0_3.length l0_3) (hc0_3 : l0_3.length ≤ c0_3) (hr_ : r = true) (h : laws_FnExactRouteIn.f k a0_0 a0_1 a0_2 l0_3 a1 a2_0 a2_1 a2_2 a2_3 = some r) :
  Calls Try.prog 12 #[.agg #[.int .i64 a0_0, .int .i64 a0_1, .int .i64 a0_2, .slice A0_3 l0_3.length c0_3], .int .i64 a1, .agg #[.int .i64 a2_0, .int .i64 a2_1, .int .i64 a2_2, .int .i64 a2_3]] w fun e w' => e = .returned (.bool r) ∧ Below w.heap.size w w' := by
 have hu27 := Try.underlying27; have hu87 := Try.underlying87; have hu35 := Try.underlying35; have HR0_3 := aM_ hr0_3; have HC0_3 := aM_ hc0_3; clear hr0_3 hc0_3; have HB := aM_ (Below.refl w.heap.size w)
 have H : ((laws_szProgram.f k a0_0 a0_1 a0_2 l0_3 1048576).bind fun t333 => (if t333 < 0 then (some true) else ((laws_toProgram.f k a0_0 a0_1 a0_2 l0_3).bind fun bt334 => ((laws_toFlow.f a2_0 a2_1 a2_2 a2_3).bind fun bt340 => ((spec_RouteIn.f k bt334.1 bt334.2.1 bt334.2.2.1 bt334.2.2.2 a1 bt340.1 bt340.2.1 bt340.2.2.1 bt340.2.2.2).bind fun t344 => ((laws_toProgram.f k a0_0 a0_1 a0_2 l0_3).bind fun bt347 => ((laws_toFlow.f a2_0 a2_1 a2_2 a2_3).bind fun bt354 => ((impl_RouteIn.f k bt347.1 bt347.2.1 bt347.2.2.1 bt347.2.2.2 a1 bt354.1 bt354.2.1 bt354.2.2.1 bt354.2.2.2).bind fun t358 => ((laws_eqIntS.f k t358 t344).bind fun t361 => (if t361 = true then ((laws_toProgram.f k a0_0 a0_1 a0_2 l0_3).bind fun bt362 => ((laws_eqProgram.f k bt347.1 bt347.2.1 bt347.2.2.1 bt347.2.2.2 bt362.1 bt362.2.1 bt362.2.2.1 bt362.2.2.2).bind fun t368 => (if t368 = true then ((laws_markProgram.f bt347.1 bt347.2.1 bt347.2.2.1 bt347.2.2.2 1).bind fun t369 => (if t369 < 0 then (laws_FnExactRouteIn.j0 k a1 t344 t358 true a0_0 a0_1 a0_2 l0_3 a2_0 a2_1 a2_2 a2_3) else ((laws_eqIntS.f k t358 t344).bind fun t370 => (laws_FnExactRouteIn.j0 k a1 t344 t358 (!t370) a0_0 a0_1 a0_2 l0_3 a2_0 a2_1 a2_2 a2_3)))) else (some false)))) else (some false))))))))))) = some r := h
 clear h; have HTRUE := aM_ hr_; clear hr_
 replace H := Option.bind_eq_some_iff.mp H
 obtain ⟨t333, A40, H⟩ := H
 (try dsimp only at H)
 have A4 := aM_ A40; clear A40
 by_cases c5 : t333 < 0
 ·rw [if_pos c5] at H
  have c5b0 : decide (t333 < 0) = true := decide_eq_true c5
  clear c5
  obtain rfl := Option.some.inj H
  go_enter Try.func12, Try.ntmps12
  go_wp2_with (first | ((with_reducible refine gate_dst (N := 3) rfl ?_); refine box_event ?hg (N := 3) ?hd (cs := #[.int .i64 a0_0, .int .i64 a0_1, .int .i64 a0_2, .slice A0_3 l0_3.length c0_3]) (t := 27) ?hr ?_; (case hd => rfl); (case hg => rfl); (case hr => first | (go_simp; done) | (go_simp; rfl)); intro gb331 hg w6 hbox hb; have n0_ := aM_ (wS_ (by repeat (first | (with_reducible first | exact HB.out | apply wA_ | apply wN_ | apply wD_) | exact HB.out)) hb); have n1_ := aM_ (hbox); have n2_ := aM_ ((by rw [hg]; exact (sZ_ (by repeat (first | (with_reducible first | exact HB.out | apply wA_ | apply wN_ | apply wD_) | exact HB.out))) : w.heap.size ≤ gb331)); have n3_ := aM_ ((by rw [hg]; exact (sZ_ (by repeat (first | (with_reducible first | exact HB.out | apply wA_ | apply wN_ | apply wD_) | exact HB.out))) : w.heap.size ≤ gb331)); clear HB; have HB := n0_; have BK331 := n1_; have GW331 := n2_; have GE331 := n3_; clear n0_ n1_ n2_ n3_; clear hb hbox hg) | ((with_reducible refine gate_dst (N := 5) rfl ?_); refine box_event ?hg (N := 5) ?hd (cs := #[.int .i64 a2_0, .int .i64 a2_1, .int .i64 a2_2, .int .i64 a2_3]) (t := 87) ?hr ?_; (case hd => rfl); (case hg => rfl); (case hr => first | (go_simp; done) | (go_simp; rfl)); intro gb332 hg w7 hbox hb; have n0_ := aM_ (bB_ (g := gb331) (by (with_reducible repeat (first | refine bN_ ?_ _ | refine bD_ ?_ | refine bA_ ?_ _)); exact BK331.out) hb); have n1_ := aM_ (wS_ (by repeat (first | (with_reducible first | exact HB.out | apply wA_ | apply wN_ | apply wD_ | refine wE_ ?_ GE331.out) | exact HB.out)) hb); have n2_ := aM_ (hbox); have n3_ := aM_ ((by rw [hg]; exact (sZ_ (by repeat (first | (with_reducible first | exact HB.out | apply wA_ | apply wN_ | apply wD_ | refine wE_ ?_ GE331.out) | exact HB.out))) : w.heap.size ≤ gb332)); have n4_ := aM_ ((by rw [hg]; exact (sZ_ (by repeat (first | (with_reducible first | exact HB.out | apply wA_ | apply wN_ | apply wD_ | refine wE_ ?_ GE331.out) | exact HB.out))) : w.heap.size ≤ gb332)); have n5_ := aM_ ((by rw [hg]; exact Nat.ne_of_lt (blk_lt (g := gb331) (by (with_reducible repeat (first | refine bN_ ?_ _ | refine bD_ ?_ | refine bA_ ?_ _)); exact BK331.out)) : gb331 ≠ gb332)); have n6_ := aM_ ((by rw [hg]; exact Nat.ne_of_gt (blk_lt (g := gb331) (by (with_reducible repeat (first | refine bN_ ?_ _ | refine bD_ ?_ | refine bA_ ?_ _)); exact BK331.out)) : gb332 ≠ gb331)); clear BK331; clear HB; have BK331 := n0_; have HB := n1_; have BK332 := n2_; have GW332 := n3_; have GE332 := n4_; have NB331_332 := n5_; have NB332_331 := n6_; clear n0_ n1_ n2_ n3_ n4_ n5_ n6_; clear hb hbox hg; have hnb8 := NB331_332.out; have hnc8 := NB332_331.out; have hcz9_0 : w7.cell? ⟨gb331, 0, none⟩ = some (.int .i64 a0_0) := (blk_cell BK331.out 0).trans rfl; have hcz9_1 : w7.cell? ⟨gb331, 1, none⟩ = some (.int .i64 a0_1) := (blk_cell BK331.out 1).trans rfl; have hcz9_2 : w7.cell? ⟨gb331, 2, none⟩ = some (.int .i64 a0_2) := (blk_cell BK331.out 2).trans rfl; have hcz9_3 : w7.cell? ⟨gb331, 3, none⟩ = some (.slice A0_3 l0_3.length c0_3) := (blk_cell BK331.out 3).trans rfl; have hfz9_0 := blk_frozen BK331.out 0; have hfz9_1 := blk_frozen BK331.out 1; have hfz9_2 := blk_frozen BK331.out 2; have hfz9_3 := blk_frozen BK331.out 3) | ((with_reducible refine gate_callee (f := 16) rfl ?_); refine goesL_ (some 17) rfl rfl Try.func16 (by kernel_rfl) rfl #[.agg #[.int .i64 a0_0, .int .i64 a0_1, .int .i64 a0_2, .slice A0_3 l0_3.length c0_3], .int .i64 1048576] rfl (by (try simp only [List.map_toArray, List.map_cons, List.map_nil]); first | done | rfl | (simp only [List.length_drop, List.length_take]; rfl)) ?_; (with_reducible refine (laws_szProgram.calls k a0_0 a0_1 a0_2 _ _ l0_3 1048576 t333 _ ?side1 ?side2 A4.out).mono ?_); (case side1 => repeat (first | exact (Kd.C_below HR0_3.out HB.out) | (with_reducible refine cA_ ?_ _) | (with_reducible refine cN_ ?_ _) | (with_reducible refine cD_ ?_))); (case side2 => exact HC0_3.out); rintro e w10 ⟨rfl, hb⟩; refine ⟨_, rfl, ?_⟩; have n0_ := aM_ (bB_ (g := gb331) (by (with_reducible repeat (first | refine bN_ ?_ _ | refine bD_ ?_ | refine bA_ ?_ _)); exact BK331.out) hb); have n1_ := aM_ (bB_ (g := gb332) (by (with_reducible repeat (first | refine bN_ ?_ _ | refine bD_ ?_ | refine bA_ ?_ _)); exact BK332.out) hb); have n2_ := aM_ (wS_ (by repeat (first | (with_reducible first | exact HB.out | apply wA_ | apply wN_ | apply wD_ | refine wE_ ?_ GE331.out | refine wE_ ?_ GE332.out) | exact HB.out)) hb); clear BK331; clear BK332; clear HB; have BK331 := n0_; have BK332 := n1_; have HB := n2_; clear n0_ n1_ n2_; (try clear hb); (try clear hb2); (try clear hk); (try clear hi)))
  go_ret
  exact ⟨by first | rfl | (simp [errW_none, errW_some] <;> rfl) | (simp [*, errW_none, errW_some] <;> rfl), by repeat (first | (with_reducible first | exact HB.out | apply wA_ | apply wN_ | apply wD_ | refine wE_ ?_ GE331.out | refine wE_ ?_ GE332.out) | exact HB.out)⟩
 ·rw [if_neg c5] at H
  have c5b0 : decide (t333 < 0) = false := decide_eq_false c5
  clear c5
  replace H := Option.bind_eq_some_iff.mp H
  obtain ⟨⟨t334, t335, t336, t337⟩, A110, H⟩ := H
  (try dsimp only at H)
  have A11 := aM_ A110; clear A110
  replace H := Option.bind_eq_some_iff.mp H
  obtain ⟨⟨t340, t341, t342, t343⟩, A120, H⟩ := H
  (try dsimp only at H)
  have A12 := aM_ A120; clear A120
  replace H := Option.bind_eq_some_iff.mp H
  obtain ⟨t344, A130, H⟩ := H
  (try dsimp only at H)
  have A13 := aM_ A130; clear A130
  replace H := Option.bind_eq_some_iff.mp H
  obtain ⟨⟨t347, t348, t349, t350⟩, A140, H⟩ := H
  (try dsimp only at H)
  have A14 := aM_ A140; clear A140
  replace H := Option.bind_eq_some_iff.mp H
  obtain ⟨⟨t354, t355, t356, t357⟩, A150, H⟩ := H
  (try dsimp only at H)
  have A15 := aM_ A150; clear A150
  replace H := Option.bind_eq_some_iff.mp H
  obtain ⟨t358, A160, H⟩ := H
  (try dsimp only at H)
  have A16 := aM_ A160; clear A160
  replace H := Option.bind_eq_some_iff.mp H
  obtain ⟨t361, A170, H⟩ := H
  (try dsimp only at H)
  have A17 := aM_ A170; clear A170
  by_cases c18 : t361 = true
  ·subst c18
   have H1 : ((laws_toProgram.f k a0_0 a0_1 a0_2 l0_3).bind fun bt362 => ((laws_eqProgram.f k t347 t348 t349 t350 bt362.1 bt362.2.1 bt362.2.2.1 bt362.2.2.2).bind fun t368 => (if t368 = true then ((laws_markProgram.f t347 t348 t349 t350 1).bind fun t369 => (if t369 < 0 then (laws_FnExactRouteIn.j0 k a1 t344 t358 true a0_0 a0_1 a0_2 l0_3 a2_0 a2_1 a2_2 a2_3) else ((laws_eqIntS.f k t358 t344).bind fun t370 => (laws_FnExactRouteIn.j0 k a1 t344 t358 (!t370) a0_0 a0_1 a0_2 l0_3 a2_0 a2_1 a2_2 a2_3)))) else (some false)))) = some r := by rw [if_pos rfl] at H; exact H
   clear H; have H := H1; clear H1
   replace H := Option.bind_eq_some_iff.mp H
   obtain ⟨⟨t362, t363, t364, t365⟩, A190, H⟩ := H
   (try dsimp only at H)
   have A19 := aM_ A190; clear A190
   replace H := Option.bind_eq_some_iff.mp H
   obtain ⟨t368, A200, H⟩ := H
   (try dsimp only at H)
   have A20 := aM_ A200; clear A200
   by_cases c21 : t368 = true
   ·subst c21
    have H1 : ((laws_markProgram.f t347 t348 t349 t350 1).bind fun t369 => (if t369 < 0 then (laws_FnExactRouteIn.j0 k a1 t344 t358 true a0_0 a0_1 a0_2 l0_3 a2_0 a2_1 a2_2 a2_3) else ((laws_eqIntS.f k t358 t344).bind fun t370 => (laws_FnExactRouteIn.j0 k a1 t344 t358 (!t370) a0_0 a0_1 a0_2 l0_3 a2_0 a2_1 a2_2 a2_3)))) = some r := by rw [if_pos rfl] at H; exact H
    clear H; have H := H1; clear H1
    replace H := Option.bind_eq_some_iff.mp H
    obtain ⟨t369, A220, H⟩ := H
    (try dsimp only at H)
    have A22 := aM_ A220; clear A220; have HC23 := aM_ H; clear H
    go_enter Try.func12, Try.ntmps12
    try go_wp2_with (first | ((with_reducible refine gate_dst (N := 3) rfl ?_); refine box_event ?hg (N := 3) ?hd (cs := #[.int .i64 a0_0, .int .i64 a0_1, .int .i64 a0_2, .slice A0_3 l0_3.length c0_3]) (t := 27) ?hr ?_; (case hd => rfl); (case hg => rfl); (case hr => first | (go_simp; done) | (go_simp; rfl)); intro gb331 hg w24 hbox hb; have n0_ := aM_ (wS_ (by repeat (first | (with_reducible first | exact HB.out | apply wA_ | apply wN_ | apply wD_) | exact HB.out)) hb); have n1_ := aM_ (hbox); have n2_ := aM_ ((by rw [hg]; exact (sZ_ (by repeat (first | (with_reducible first | exact HB.out | apply wA_ | apply wN_ | apply wD_) | exact HB.out))) : w.heap.size ≤ gb331)); have n3_ := aM_ ((by rw [hg]; exact (sZ_ (by repeat (first | (with_reducible first | exact HB.out | apply wA_ | apply wN_ | apply wD_) | exact HB.out))) : w.heap.size ≤ gb331)); clear HB; have HB := n0_; have BK331 := n1_; have GW331 := n2_; have GE331 := n3_; clear n0_ n1_ n2_ n3_; clear hb hbox hg) | ((with_reducible refine gate_dst (N := 5) rfl ?_); refine box_event ?hg (N := 5) ?hd (cs := #[.int .i64 a2_0, .int .i64 a2_1, .int .i64 a2_2, .int .i64 a2_3]) (t := 87) ?hr ?_; (case hd => rfl); (case hg => rfl); (case hr => first | (go_simp; done) | (go_simp; rfl)); intro gb332 hg w25 hbox hb; have n0_ := aM_ (bB_ (g := gb331) (by (with_reducible repeat (first | refine bN_ ?_ _ | refine bD_ ?_ | refine bA_ ?_ _)); exact BK331.out) hb); have n1_ := aM_ (wS_ (by repeat (first | (with_reducible first | exact HB.out | apply wA_ | apply wN_ | apply wD_ | refine wE_ ?_ GE331.out) | exact HB.out)) hb); have n2_ := aM_ (hbox); have n3_ := aM_ ((by rw [hg]; exact (sZ_ (by repeat (first | (with_reducible first | exact HB.out | apply wA_ | apply wN_ | apply wD_ | refine wE_ ?_ GE331.out) | exact HB.out))) : w.heap.size ≤ gb332)); have n4_ := aM_ ((by rw [hg]; exact (sZ_ (by repeat (first | (with_reducible first | exact HB.out | apply wA_ | apply wN_ | apply wD_ | refine wE_ ?_ GE331.out) | exact HB.out))) : w.heap.size ≤ gb332)); have n5_ := aM_ ((by rw [hg]; exact Nat.ne_of_lt (blk_lt (g := gb331) (by (with_reducible repeat (first | refine bN_ ?_ _ | refine bD_ ?_ | refine bA_ ?_ _)); exact BK331.out)) : gb331 ≠ gb332)); have n6_ := aM_ ((by rw [hg]; exact Nat.ne_of_gt (blk_lt (g := gb331) (by (with_reducible repeat (first | refine bN_ ?_ _ | refine bD_ ?_ | refine bA_ ?_ _)); exact BK331.out)) : gb332 ≠ gb331)); clear BK331; clear HB; have BK331 := n0_; have HB := n1_; have BK332 := n2_; have GW332 := n3_; have GE332 := n4_; have NB331_332 := n5_; have NB332_331 := n6_; clear n0_ n1_ n2_ n3_ n4_ n5_ n6_; clear hb hbox hg; have hnb26 := NB331_332.out; have hnc26 := NB332_331.out; have hcz27_0 : w25.cell? ⟨gb331, 0, none⟩ = some (.int .i64 a0_0) := (blk_cell BK331.out 0).trans rfl; have hcz27_1 : w25.cell? ⟨gb331, 1, none⟩ = some (.int .i64 a0_1) := (blk_cell BK331.out 1).trans rfl; have hcz27_2 : w25.cell? ⟨gb331, 2, none⟩ = some (.int .i64 a0_2) := (blk_cell BK331.out 2).trans rfl; have hcz27_3 : w25.cell? ⟨gb331, 3, none⟩ = some (.slice A0_3 l0_3.length c0_3) := (blk_cell BK331.out 3).trans rfl; have hfz27_0 := blk_frozen BK331.out 0; have hfz27_1 := blk_frozen BK331.out 1; have hfz27_2 := blk_frozen BK331.out 2; have hfz27_3 := blk_frozen BK331.out 3) | ((with_reducible refine gate_callee (f := 16) rfl ?_); refine goesL_ (some 17) rfl rfl Try.func16 (by kernel_rfl) rfl #[.agg #[.int .i64 a0_0, .int .i64 a0_1, .int .i64 a0_2, .slice A0_3 l0_3.length c0_3], .int .i64 1048576] rfl (by (try simp only [List.map_toArray, List.map_cons, List.map_nil]); first | done | rfl | (simp only [List.length_drop, List.length_take]; rfl)) ?_; (with_reducible refine (laws_szProgram.calls k a0_0 a0_1 a0_2 _ _ l0_3 1048576 t333 _ ?side1 ?side2 A4.out).mono ?_); (case side1 => repeat (first | exact (Kd.C_below HR0_3.out HB.out) | (with_reducible refine cA_ ?_ _) | (with_reducible refine cN_ ?_ _) | (with_reducible refine cD_ ?_))); (case side2 => exact HC0_3.out); rintro e w28 ⟨rfl, hb⟩; refine ⟨_, rfl, ?_⟩; have n0_ := aM_ (bB_ (g := gb331) (by (with_reducible repeat (first | refine bN_ ?_ _ | refine bD_ ?_ | refine bA_ ?_ _)); exact BK331.out) hb); have n1_ := aM_ (bB_ (g := gb332) (by (with_reducible repeat (first | refine bN_ ?_ _ | refine bD_ ?_ | refine bA_ ?_ _)); exact BK332.out) hb); have n2_ := aM_ (wS_ (by repeat (first | (with_reducible first | exact HB.out | apply wA_ | apply wN_ | apply wD_ | refine wE_ ?_ GE331.out | refine wE_ ?_ GE332.out) | exact HB.out)) hb); clear BK331; clear BK332; clear HB; have BK331 := n0_; have BK332 := n1_; have HB := n2_; clear n0_ n1_ n2_; (try clear hb); (try clear hb2); (try clear hk); (try clear hi)))
    have n0_ := aM_ (bD_ BK331.out); have n1_ := aM_ (bD_ BK332.out); have n2_ := aM_ (wD_ HB.out); clear BK331 BK332 HB; have BK331 := n0_; have BK332 := n1_; have HB := n2_; clear n0_ n1_ n2_
    refine start_ (n := 7) (S := fun w' => w'.cell? ⟨gb331, 0, none⟩ = some (.int .i64 a0_0) ∧ w'.cell? ⟨gb331, 1, none⟩ = some (.int .i64 a0_1) ∧ w'.cell? ⟨gb331, 2, none⟩ = some (.int .i64 a0_2) ∧ w'.cell? ⟨gb331, 3, none⟩ = some (.slice A0_3 l0_3.length c0_3) ∧ w'.cell? ⟨gb332, 0, none⟩ = some (.int .i64 a2_0) ∧ w'.cell? ⟨gb332, 1, none⟩ = some (.int .i64 a2_1) ∧ w'.cell? ⟨gb332, 2, none⟩ = some (.int .i64 a2_2) ∧ w'.cell? ⟨gb332, 3, none⟩ = some (.int .i64 a2_3)) (ds := []) #[false, false, false, false, false, false, false] (by kernel_rfl) rfl rfl ⟨(blk_cell BK331.out 0).trans rfl, (blk_cell BK331.out 1).trans rfl, (blk_cell BK331.out 2).trans rfl, (blk_cell BK331.out 3).trans rfl, (blk_cell BK332.out 0).trans rfl, (blk_cell BK332.out 1).trans rfl, (blk_cell BK332.out 2).trans rfl, (blk_cell BK332.out 3).trans rfl⟩ (fun hHeld => ?_)
    generalize w28.drew = w29 at BK331 BK332 HB hHeld ⊢
    refine pure_ (i := 2) (N := some 22) (v := ?_) (a' := ?_) #[false, false, true, false, false, false, false] rfl rfl (by kernel_rfl) (fun _ _ _ h => h) (Or.inl ⟨by rfl, ?_⟩) ?_ ?_
    rotate_left
    ·intro w'
     go_simp
     with_reducible rfl
    rotate_left
    ·simp only [Act.put, List.setIfInBounds_toArray, List.set_cons_zero, List.set_cons_succ, i64_w, i32_w]
     rfl
    refine take_ (i := 0) (N := some 20) (v := ?_) (a' := ?_) #[true, false, true, false, false, false, false] rfl rfl (by kernel_rfl) (fun _ _ _ h => h) (Or.inl ⟨by rfl, ?_⟩) hHeld ?_ ?_
    rotate_left
    ·rintro w' ⟨s0, s1, s2, s3, s4, s5, s6, s7⟩
     go_simp
     with_reducible rfl
    rotate_left
    ·simp only [Act.put, List.setIfInBounds_toArray, List.set_cons_zero, List.set_cons_succ, i64_w, i32_w]
     rfl
    refine take_ (i := 3) (N := some 23) (v := ?_) (a' := ?_) #[true, false, true, true, false, false, false] rfl rfl (by kernel_rfl) (fun _ _ _ h => h) (Or.inl ⟨by rfl, ?_⟩) hHeld ?_ ?_
    rotate_left
    ·rintro w' ⟨s0, s1, s2, s3, s4, s5, s6, s7⟩
     go_simp
     with_reducible rfl
    rotate_left
    ·simp only [Act.put, List.setIfInBounds_toArray, List.set_cons_zero, List.set_cons_succ, i64_w, i32_w]
     rfl
    refine one_ (i := 1) (N := some 21) #[true, true, true, true, false, false, false] rfl rfl (by kernel_rfl) (by decide) (fun K hK => ?_)
    refine goes_ Try.func19 (by kernel_rfl) rfl #[.agg #[.int .i64 a0_0, .int .i64 a0_1, .int .i64 a0_2, .slice A0_3 l0_3.length c0_3]] (by rfl) rfl rfl (by (try simp only [List.map_toArray, List.map_cons, List.map_nil]); first | done | rfl | (simp only [List.length_drop, List.length_take]; rfl)) ?_
    with_reducible refine (laws_toProgram.calls k a0_0 a0_1 a0_2 _ _ l0_3 t334 t335 t336 t337 _ ?side1 ?side2 A11.out).mono ?_
    (case side1 => repeat (first | exact (Kd.C_below HR0_3.out HB.out) | (with_reducible refine cA_ ?_ _) | (with_reducible refine cN_ ?_ _) | (with_reducible refine cD_ ?_)))
    (case side2 => exact HC0_3.out)
    rintro e w30 ⟨v338, rfl, ho0, hb⟩
    refine ⟨_, rfl, ?_⟩
    have n0_ := aM_ (Kd.R_lower ho0 (sZ_ (by repeat (first | (with_reducible first | exact HB.out | apply wA_ | apply wN_ | apply wD_ | refine wE_ ?_ GE331.out | refine wE_ ?_ GE332.out) | exact HB.out)))); have n1_ := aM_ (bB_ (g := gb331) (by (with_reducible repeat (first | refine bN_ ?_ _ | refine bD_ ?_ | refine bA_ ?_ _)); exact BK331.out) hb); have n2_ := aM_ (bB_ (g := gb332) (by (with_reducible repeat (first | refine bN_ ?_ _ | refine bD_ ?_ | refine bA_ ?_ _)); exact BK332.out) hb); have n3_ := aM_ (wS_ (by repeat (first | (with_reducible first | exact HB.out | apply wA_ | apply wN_ | apply wD_ | refine wE_ ?_ GE331.out | refine wE_ ?_ GE332.out) | exact HB.out)) hb); clear BK331 BK332 HB; have HO339 := n0_; have BK331 := n1_; have BK332 := n2_; have HB := n3_; clear n0_ n1_ n2_ n3_; (try clear hb); (try clear hb2); (try clear hk); (try clear hi); (try clear ho0)
    refine hK.out _ _ ⟨(blk_cell BK331.out 0).trans rfl, (blk_cell BK331.out 1).trans rfl, (blk_cell BK331.out 2).trans rfl, (blk_cell BK331.out 3).trans rfl, (blk_cell BK332.out 0).trans rfl, (blk_cell BK332.out 1).trans rfl, (blk_cell BK332.out 2).trans rfl, (blk_cell BK332.out 3).trans rfl⟩ (fun hHeld => ?_)
    clear hK K
    refine norm_ (a' := ?_) ?_ ?_
    rotate_left
    ·show Act.put _ (some 21) _ = _
     simp only [Act.put, List.setIfInBounds_toArray, List.set_cons_zero, List.set_cons_succ, i64_w, i32_w]
     rfl
    refine one_ (i := 4) (N := some 24) #[true, true, true, true, true, false, false] rfl rfl (by kernel_rfl) (by decide) (fun K hK => ?_)
    refine goes_ Try.func63 (by kernel_rfl) rfl #[.agg #[.int .i64 a2_0, .int .i64 a2_1, .int .i64 a2_2, .int .i64 a2_3]] (by rfl) rfl rfl (by (try simp only [List.map_toArray, List.map_cons, List.map_nil]); first | done | rfl | (simp only [List.length_drop, List.length_take]; rfl)) ?_
    with_reducible refine (laws_toFlow.calls a2_0 a2_1 a2_2 a2_3 t340 t341 t342 t343 _ A12.out).mono ?_
    rintro e w31 ⟨rfl, hb⟩
    refine ⟨_, rfl, ?_⟩
    have n0_ := aM_ (rB_ (by (with_reducible repeat (first | apply rA_ | apply rN_ | apply rD_)); exact HO339.out) hb); have n1_ := aM_ (bB_ (g := gb331) (by (with_reducible repeat (first | refine bN_ ?_ _ | refine bD_ ?_ | refine bA_ ?_ _)); exact BK331.out) hb); have n2_ := aM_ (bB_ (g := gb332) (by (with_reducible repeat (first | refine bN_ ?_ _ | refine bD_ ?_ | refine bA_ ?_ _)); exact BK332.out) hb); have n3_ := aM_ (wS_ (by repeat (first | (with_reducible first | exact HB.out | apply wA_ | apply wN_ | apply wD_ | refine wE_ ?_ GE331.out | refine wE_ ?_ GE332.out) | exact HB.out)) hb); clear HO339 BK331 BK332 HB; have HO339 := n0_; have BK331 := n1_; have BK332 := n2_; have HB := n3_; clear n0_ n1_ n2_ n3_; (try clear hb); (try clear hb2); (try clear hk); (try clear hi)
    obtain ⟨Ao32, co32, eo32⟩ := Kd.R_slice HO339.out
    (first | subst eo32 | (injection eo32 with f1_ f2_ f3_; have f4_ := f1_.symm; have f5_ := f3_.symm; clear f1_ f2_ f3_; subst f4_; subst f5_))
    refine hK.out _ _ ⟨(blk_cell BK331.out 0).trans rfl, (blk_cell BK331.out 1).trans rfl, (blk_cell BK331.out 2).trans rfl, (blk_cell BK331.out 3).trans rfl, (blk_cell BK332.out 0).trans rfl, (blk_cell BK332.out 1).trans rfl, (blk_cell BK332.out 2).trans rfl, (blk_cell BK332.out 3).trans rfl⟩ (fun hHeld => ?_)
    clear hK K
    refine norm_ (a' := ?_) ?_ ?_
    rotate_left
    ·show Act.put _ (some 24) _ = _
     simp only [Act.put, List.setIfInBounds_toArray, List.set_cons_zero, List.set_cons_succ, i64_w, i32_w]
     rfl
    refine one_ (i := 5) (N := some 25) #[true, true, true, true, true, true, false] rfl rfl (by kernel_rfl) (by decide) (fun K hK => ?_)
    refine goes_ Try.func62 (by kernel_rfl) rfl #[.agg #[.int .i64 t334, .int .i64 t335, .int .i64 t336, .slice Ao32 t337.length co32], .int .i64 a1, .agg #[.int .i64 t340, .int .i64 t341, .int .i64 t342, .int .i64 t343]] (by rfl) rfl rfl (by (try simp only [List.map_toArray, List.map_cons, List.map_nil]); first | done | rfl | (simp only [List.length_drop, List.length_take]; rfl)) ?_
    with_reducible refine (spec_RouteIn.calls k t334 t335 t336 _ _ t337 a1 t340 t341 t342 t343 t344 _ ?side1 ?side2 A13.out).mono ?_
    (case side1 => repeat (first | exact (Kd.R_reads' HO339.out).2.2 | (with_reducible refine cA_ ?_ _) | (with_reducible refine cN_ ?_ _) | (with_reducible refine cD_ ?_)))
    (case side2 => exact (Kd.R_reads' HO339.out).2.1)
    rintro e w33 ⟨v345, rfl, ho0, hb⟩
    refine ⟨_, rfl, ?_⟩
    have n0_ := aM_ (Kd.R_elder' (by (with_reducible repeat (first | apply rA_ | apply rN_ | apply rD_)); exact HO339.out) (Kd.R_base ho0) hb); have n1_ := aM_ (Kd.R_lower ho0 (sZ_ (by repeat (first | (with_reducible first | exact HB.out | apply wA_ | apply wN_ | apply wD_ | refine wE_ ?_ GE331.out | refine wE_ ?_ GE332.out) | exact HB.out)))); have n2_ := aM_ (bB_ (g := gb331) (by (with_reducible repeat (first | refine bN_ ?_ _ | refine bD_ ?_ | refine bA_ ?_ _)); exact BK331.out) hb); have n3_ := aM_ (bB_ (g := gb332) (by (with_reducible repeat (first | refine bN_ ?_ _ | refine bD_ ?_ | refine bA_ ?_ _)); exact BK332.out) hb); have n4_ := aM_ (wS_ (by repeat (first | (with_reducible first | exact HB.out | apply wA_ | apply wN_ | apply wD_ | refine wE_ ?_ GE331.out | refine wE_ ?_ GE332.out) | exact HB.out)) hb); clear HO339 BK331 BK332 HB; have HO339 := n0_; have HO346 := n1_; have BK331 := n2_; have BK332 := n3_; have HB := n4_; clear n0_ n1_ n2_ n3_ n4_; (try clear hb); (try clear hb2); (try clear hk); (try clear hi); (try clear ho0)
    refine hK.out _ _ ⟨(blk_cell BK331.out 0).trans rfl, (blk_cell BK331.out 1).trans rfl, (blk_cell BK331.out 2).trans rfl, (blk_cell BK331.out 3).trans rfl, (blk_cell BK332.out 0).trans rfl, (blk_cell BK332.out 1).trans rfl, (blk_cell BK332.out 2).trans rfl, (blk_cell BK332.out 3).trans rfl⟩ (fun hHeld => ?_)
    clear hK K
    refine norm_ (a' := ?_) ?_ ?_
    rotate_left
    ·show Act.put _ (some 25) _ = _
     simp only [Act.put, List.setIfInBounds_toArray, List.set_cons_zero, List.set_cons_succ, i64_w, i32_w]
     rfl
    refine pure_ (i := 6) (N := some 8) (v := ?_) (a' := ?_) #[true, true, true, true, true, true, true] rfl rfl (by kernel_rfl) (fun _ _ _ h => h) (Or.inl ⟨by rfl, ?_⟩) ?_ ?_
    rotate_left
    ·intro w'
     go_simp
     with_reducible rfl
    rotate_left
    ·simp only [Act.put, List.setIfInBounds_toArray, List.set_cons_zero, List.set_cons_succ, i64_w, i32_w]
     rfl
    refine done_ (by kernel_rfl) ?_
    have hcz34_0 : w33.cell? ⟨gb331, 0, none⟩ = some (.int .i64 a0_0) := (blk_cell BK331.out 0).trans rfl
    have hcz34_1 : w33.cell? ⟨gb331, 1, none⟩ = some (.int .i64 a0_1) := (blk_cell BK331.out 1).trans rfl
    have hcz34_2 : w33.cell? ⟨gb331, 2, none⟩ = some (.int .i64 a0_2) := (blk_cell BK331.out 2).trans rfl
    have hcz34_3 : w33.cell? ⟨gb331, 3, none⟩ = some (.slice A0_3 l0_3.length c0_3) := (blk_cell BK331.out 3).trans rfl
    have hfz34_0 := blk_frozen BK331.out 0; have hfz34_1 := blk_frozen BK331.out 1; have hfz34_2 := blk_frozen BK331.out 2; have hfz34_3 := blk_frozen BK331.out 3
    try go_wp2_with (first | ((with_reducible refine gate_callee (f := 19) rfl ?_); refine goesL_ (some 27) rfl rfl Try.func19 (by kernel_rfl) rfl #[.agg #[.int .i64 a0_0, .int .i64 a0_1, .int .i64 a0_2, .slice A0_3 l0_3.length c0_3]] rfl (by (try simp only [List.map_toArray, List.map_cons, List.map_nil]); first | done | rfl | (simp only [List.length_drop, List.length_take]; rfl)) ?_; (with_reducible refine (laws_toProgram.calls k a0_0 a0_1 a0_2 _ _ l0_3 t347 t348 t349 t350 _ ?side1 ?side2 A14.out).mono ?_); (case side1 => repeat (first | exact (Kd.C_below HR0_3.out HB.out) | (with_reducible refine cA_ ?_ _) | (with_reducible refine cN_ ?_ _) | (with_reducible refine cD_ ?_))); (case side2 => exact HC0_3.out); rintro e w35 ⟨v351, rfl, ho0, hb⟩; refine ⟨_, rfl, ?_⟩; have n0_ := aM_ (Kd.R_elder' (by (with_reducible repeat (first | apply rA_ | apply rN_ | apply rD_)); exact HO339.out) (Kd.R_base ho0) hb); have n1_ := aM_ (rB_ (by (with_reducible repeat (first | apply rA_ | apply rN_ | apply rD_)); exact HO346.out) hb); have n2_ := aM_ (Kd.R_lower (Kd.R_new' (Kd.R_new' ho0 (Kd.R_lt (by (with_reducible repeat (first | apply rA_ | apply rN_ | apply rD_)); exact HO339.out))) (Kd.R_lt (by (with_reducible repeat (first | apply rA_ | apply rN_ | apply rD_)); exact HO346.out))) (sZ_ (by repeat (first | (with_reducible first | exact HB.out | apply wA_ | apply wN_ | apply wD_ | refine wE_ ?_ GE331.out | refine wE_ ?_ GE332.out) | exact HB.out)))); have n3_ := aM_ (bB_ (g := gb331) (by (with_reducible repeat (first | refine bN_ ?_ _ | refine bD_ ?_ | refine bA_ ?_ _)); exact BK331.out) hb); have n4_ := aM_ (bB_ (g := gb332) (by (with_reducible repeat (first | refine bN_ ?_ _ | refine bD_ ?_ | refine bA_ ?_ _)); exact BK332.out) hb); have n5_ := aM_ (wS_ (by repeat (first | (with_reducible first | exact HB.out | apply wA_ | apply wN_ | apply wD_ | refine wE_ ?_ GE331.out | refine wE_ ?_ GE332.out) | exact HB.out)) hb); clear HO339; clear HO346; clear BK331; clear BK332; clear HB; have HO339 := n0_; have HO346 := n1_; have HO352 := n2_; have BK331 := n3_; have BK332 := n4_; have HB := n5_; clear n0_ n1_ n2_ n3_ n4_ n5_; (try clear hb); (try clear hb2); (try clear hk); (try clear hi); (try clear ho0)) | ((with_reducible refine gate_dst (N := 9) rfl ?_); refine box_event ?hg (N := 9) ?hd (cs := #[.int .i64 0, .int .i64 0, .int .i64 0, .slice none 0 0]) (t := 35) ?hr ?_; (case hd => rfl); (case hg => rfl); (case hr => first | (go_simp; done) | (go_simp; rfl)); intro gb353 hg w36 hbox hb; have n0_ := aM_ (rB_ (by (with_reducible repeat (first | apply rA_ | apply rN_ | apply rD_)); exact HO339.out) hb); have n1_ := aM_ (rB_ (by (with_reducible repeat (first | apply rA_ | apply rN_ | apply rD_)); exact HO346.out) hb); have n2_ := aM_ (rB_ (by (with_reducible repeat (first | apply rA_ | apply rN_ | apply rD_)); exact HO352.out) hb); have n3_ := aM_ (bB_ (g := gb331) (by (with_reducible repeat (first | refine bN_ ?_ _ | refine bD_ ?_ | refine bA_ ?_ _)); exact BK331.out) hb); have n4_ := aM_ (bB_ (g := gb332) (by (with_reducible repeat (first | refine bN_ ?_ _ | refine bD_ ?_ | refine bA_ ?_ _)); exact BK332.out) hb); have n5_ := aM_ (wS_ (by repeat (first | (with_reducible first | exact HB.out | apply wA_ | apply wN_ | apply wD_ | refine wE_ ?_ GE331.out | refine wE_ ?_ GE332.out) | exact HB.out)) hb); have n6_ := aM_ (hbox); have n7_ := aM_ ((by rw [hg]; exact (sZ_ (by repeat (first | (with_reducible first | exact HB.out | apply wA_ | apply wN_ | apply wD_ | refine wE_ ?_ GE331.out | refine wE_ ?_ GE332.out) | exact HB.out))) : w.heap.size ≤ gb353)); have n8_ := aM_ ((by rw [hg]; exact (sZ_ (by repeat (first | (with_reducible first | exact HB.out | apply wA_ | apply wN_ | apply wD_ | refine wE_ ?_ GE331.out | refine wE_ ?_ GE332.out) | exact HB.out))) : w.heap.size ≤ gb353)); have n9_ := aM_ ((by rw [hg]; exact Nat.ne_of_lt (blk_lt (g := gb331) (by (with_reducible repeat (first | refine bN_ ?_ _ | refine bD_ ?_ | refine bA_ ?_ _)); exact BK331.out)) : gb331 ≠ gb353)); have n10_ := aM_ ((by rw [hg]; exact Nat.ne_of_gt (blk_lt (g := gb331) (by (with_reducible repeat (first | refine bN_ ?_ _ | refine bD_ ?_ | refine bA_ ?_ _)); exact BK331.out)) : gb353 ≠ gb331)); have n11_ := aM_ ((by rw [hg]; exact Nat.ne_of_lt (blk_lt (g := gb332) (by (with_reducible repeat (first | refine bN_ ?_ _ | refine bD_ ?_ | refine bA_ ?_ _)); exact BK332.out)) : gb332 ≠ gb353)); have n12_ := aM_ ((by rw [hg]; exact Nat.ne_of_gt (blk_lt (g := gb332) (by (with_reducible repeat (first | refine bN_ ?_ _ | refine bD_ ?_ | refine bA_ ?_ _)); exact BK332.out)) : gb353 ≠ gb332)); clear HO339; clear HO346; clear HO352; clear BK331; clear BK332; clear HB; have HO339 := n0_; have HO346 := n1_; have HO352 := n2_; have BK331 := n3_; have BK332 := n4_; have HB := n5_; have BK353 := n6_; have GW353 := n7_; have GE353 := n8_; have NB331_353 := n9_; have NB353_331 := n10_; have NB332_353 := n11_; have NB353_332 := n12_; clear n0_ n1_ n2_ n3_ n4_ n5_ n6_ n7_ n8_ n9_ n10_ n11_ n12_; clear hb hbox hg; have hnb37 := NB353_331.out; have hnc37 := NB331_353.out; have hnb38 := NB353_332.out; have hnc38 := NB332_353.out; have hcz39_0 : w36.cell? ⟨gb353, 0, none⟩ = some (.int .i64 0) := (blk_cell BK353.out 0).trans rfl; have hcz39_1 : w36.cell? ⟨gb353, 1, none⟩ = some (.int .i64 0) := (blk_cell BK353.out 1).trans rfl; have hcz39_2 : w36.cell? ⟨gb353, 2, none⟩ = some (.int .i64 0) := (blk_cell BK353.out 2).trans rfl; have hcz39_3 : w36.cell? ⟨gb353, 3, none⟩ = some (.slice none 0 0) := (blk_cell BK353.out 3).trans rfl; have hfz39_0 := blk_frozen BK353.out 0; have hfz39_1 := blk_frozen BK353.out 1; have hfz39_2 := blk_frozen BK353.out 2; have hfz39_3 := blk_frozen BK353.out 3; obtain ⟨Ao40, co40, eo40⟩ := Kd.R_slice HO352.out; subst eo40))
    have n0_ : Aside0 (Kd.R k119 119 ((((w36.setCell ⟨gb353, 0, none⟩ (.int .i64 t347)).setCell ⟨gb353, 1, none⟩ (.int .i64 t348)).setCell ⟨gb353, 2, none⟩ (.int .i64 t349)).setCell ⟨gb353, 3, none⟩ (.slice Ao40 t350.length co40)) w.heap.size (fun k_ => some k_ ≠ (v345 : Value).ownBlock ∧ some k_ ≠ (.slice Ao40 t350.length co40 : Value).ownBlock) (.slice Ao32 t337.length co32) t337) := ⟨by (with_reducible repeat (first | apply rA_ | apply rN_ | apply rD_)); exact Kd.R_mono (Kd.R_far (p := ⟨gb353, 3, none⟩) (Kd.R_far (p := ⟨gb353, 2, none⟩) (Kd.R_far (p := ⟨gb353, 1, none⟩) (Kd.R_far (p := ⟨gb353, 0, none⟩) (Kd.R_types HO339.out BK353.out (by decide)) (fun _ hk => hk.2) (.int .i64 t347)) (fun _ hk => hk.2) (.int .i64 t348)) (fun _ hk => hk.2) (.int .i64 t349)) (fun _ hk => hk.2) (.slice Ao40 t350.length co40)) (fun _ hk => ⟨hk.1.1.2, hk.1.2⟩)⟩
    have n1_ : Aside0 (Kd.R (Kd.int .i64) 3 ((((w36.setCell ⟨gb353, 0, none⟩ (.int .i64 t347)).setCell ⟨gb353, 1, none⟩ (.int .i64 t348)).setCell ⟨gb353, 2, none⟩ (.int .i64 t349)).setCell ⟨gb353, 3, none⟩ (.slice Ao40 t350.length co40)) w.heap.size (fun _ => True) v345 t344) := ⟨by (with_reducible repeat (first | apply rA_ | apply rN_ | apply rD_)); exact Kd.R_mono (Kd.R_far (p := ⟨gb353, 3, none⟩) (Kd.R_far (p := ⟨gb353, 2, none⟩) (Kd.R_far (p := ⟨gb353, 1, none⟩) (Kd.R_far (p := ⟨gb353, 0, none⟩) (Kd.R_types HO346.out BK353.out (by decide)) (fun _ hk => hk.2) (.int .i64 t347)) (fun _ hk => hk.2) (.int .i64 t348)) (fun _ hk => hk.2) (.int .i64 t349)) (fun _ hk => hk.2) (.slice Ao40 t350.length co40)) (fun _ hk => trivial)⟩
    have n2_ : Aside0 (Kd.R k119 119 ((((w36.setCell ⟨gb353, 0, none⟩ (.int .i64 t347)).setCell ⟨gb353, 1, none⟩ (.int .i64 t348)).setCell ⟨gb353, 2, none⟩ (.int .i64 t349)).setCell ⟨gb353, 3, none⟩ (.slice Ao40 t350.length co40)) w.heap.size (fun k_ => some k_ ≠ (.slice Ao32 t337.length co32 : Value).ownBlock ∧ some k_ ≠ (v345 : Value).ownBlock) (.slice Ao40 t350.length co40) t350) := ⟨by (with_reducible repeat (first | apply rA_ | apply rN_ | apply rD_)); exact Kd.R_mono (Kd.R_far (p := ⟨gb353, 3, none⟩) (Kd.R_far (p := ⟨gb353, 2, none⟩) (Kd.R_far (p := ⟨gb353, 1, none⟩) (Kd.R_far (p := ⟨gb353, 0, none⟩) (Kd.R_types HO352.out BK353.out (by decide)) (fun _ hk => hk.2) (.int .i64 t347)) (fun _ hk => hk.2) (.int .i64 t348)) (fun _ hk => hk.2) (.int .i64 t349)) (fun _ hk => hk.2) (.slice Ao40 t350.length co40)) (fun _ hk => ⟨hk.1.1.2, hk.1.2⟩)⟩
    have n3_ : Aside0 (((((w36.setCell ⟨gb353, 0, none⟩ (.int .i64 t347)).setCell ⟨gb353, 1, none⟩ (.int .i64 t348)).setCell ⟨gb353, 2, none⟩ (.int .i64 t349)).setCell ⟨gb353, 3, none⟩ (.slice Ao40 t350.length co40)).heap[gb331]? = some (.cells #[.int .i64 a0_0, .int .i64 a0_1, .int .i64 a0_2, .slice A0_3 l0_3.length c0_3] 27 (0, 0))) := ⟨by (with_reducible repeat (first | refine bN_ ?_ _ | refine bD_ ?_ | refine bA_ ?_ _)); refine blk_far ?_ NB331_353.out _; (with_reducible repeat (first | refine bN_ ?_ _ | refine bD_ ?_ | refine bA_ ?_ _)); refine blk_far ?_ NB331_353.out _; (with_reducible repeat (first | refine bN_ ?_ _ | refine bD_ ?_ | refine bA_ ?_ _)); refine blk_far ?_ NB331_353.out _; (with_reducible repeat (first | refine bN_ ?_ _ | refine bD_ ?_ | refine bA_ ?_ _)); refine blk_far ?_ NB331_353.out _; (with_reducible repeat (first | refine bN_ ?_ _ | refine bD_ ?_ | refine bA_ ?_ _)); exact BK331.out⟩
    have n4_ : Aside0 (((((w36.setCell ⟨gb353, 0, none⟩ (.int .i64 t347)).setCell ⟨gb353, 1, none⟩ (.int .i64 t348)).setCell ⟨gb353, 2, none⟩ (.int .i64 t349)).setCell ⟨gb353, 3, none⟩ (.slice Ao40 t350.length co40)).heap[gb332]? = some (.cells #[.int .i64 a2_0, .int .i64 a2_1, .int .i64 a2_2, .int .i64 a2_3] 87 (0, 0))) := ⟨by (with_reducible repeat (first | refine bN_ ?_ _ | refine bD_ ?_ | refine bA_ ?_ _)); refine blk_far ?_ NB332_353.out _; (with_reducible repeat (first | refine bN_ ?_ _ | refine bD_ ?_ | refine bA_ ?_ _)); refine blk_far ?_ NB332_353.out _; (with_reducible repeat (first | refine bN_ ?_ _ | refine bD_ ?_ | refine bA_ ?_ _)); refine blk_far ?_ NB332_353.out _; (with_reducible repeat (first | refine bN_ ?_ _ | refine bD_ ?_ | refine bA_ ?_ _)); refine blk_far ?_ NB332_353.out _; (with_reducible repeat (first | refine bN_ ?_ _ | refine bD_ ?_ | refine bA_ ?_ _)); exact BK332.out⟩
    have n5_ : Aside0 (((((w36.setCell ⟨gb353, 0, none⟩ (.int .i64 t347)).setCell ⟨gb353, 1, none⟩ (.int .i64 t348)).setCell ⟨gb353, 2, none⟩ (.int .i64 t349)).setCell ⟨gb353, 3, none⟩ (.slice Ao40 t350.length co40)).heap[gb353]? = some (.cells #[.int .i64 t347, .int .i64 t348, .int .i64 t349, .slice Ao40 t350.length co40] 35 (0, 0))) := ⟨by (with_reducible repeat (first | refine bN_ ?_ _ | refine bD_ ?_ | refine bA_ ?_ _)); refine blk_put (cs := #[.int .i64 t347, .int .i64 t348, .int .i64 t349, .slice none 0 0]) ?_ 3 _ rfl; (with_reducible repeat (first | refine bN_ ?_ _ | refine bD_ ?_ | refine bA_ ?_ _)); refine blk_put (cs := #[.int .i64 t347, .int .i64 t348, .int .i64 0, .slice none 0 0]) ?_ 2 _ rfl; (with_reducible repeat (first | refine bN_ ?_ _ | refine bD_ ?_ | refine bA_ ?_ _)); refine blk_put (cs := #[.int .i64 t347, .int .i64 0, .int .i64 0, .slice none 0 0]) ?_ 1 _ rfl; (with_reducible repeat (first | refine bN_ ?_ _ | refine bD_ ?_ | refine bA_ ?_ _)); refine blk_put (cs := #[.int .i64 0, .int .i64 0, .int .i64 0, .slice none 0 0]) ?_ 0 _ rfl; (with_reducible repeat (first | refine bN_ ?_ _ | refine bD_ ?_ | refine bA_ ?_ _)); exact BK353.out⟩
    have n6_ : Aside0 (Below w.heap.size w ((((w36.setCell ⟨gb353, 0, none⟩ (.int .i64 t347)).setCell ⟨gb353, 1, none⟩ (.int .i64 t348)).setCell ⟨gb353, 2, none⟩ (.int .i64 t349)).setCell ⟨gb353, 3, none⟩ (.slice Ao40 t350.length co40))) := ⟨by repeat (first | (with_reducible first | exact HB.out | apply wA_ | apply wN_ | apply wD_ | refine wE_ ?_ GE331.out | refine wE_ ?_ GE332.out | refine wE_ ?_ GE353.out) | exact HB.out)⟩
    (try clear HO339); (try clear HO346); (try clear HO352); (try clear BK331); (try clear BK332); (try clear BK353); (try clear HB)
    generalize ((((w36.setCell ⟨gb353, 0, none⟩ (.int .i64 t347)).setCell ⟨gb353, 1, none⟩ (.int .i64 t348)).setCell ⟨gb353, 2, none⟩ (.int .i64 t349)).setCell ⟨gb353, 3, none⟩ (.slice Ao40 t350.length co40)) = w41 at n0_ n1_ n2_ n3_ n4_ n5_ n6_ ⊢
    have HO339 := n0_; have HO346 := n1_; have HO352 := n2_; have BK331 := n3_; have BK332 := n4_; have BK353 := n5_; have HB := n6_; clear n0_ n1_ n2_ n3_ n4_ n5_ n6_; have n0_ := aM_ (rD_ HO339.out); have n1_ := aM_ (rD_ HO346.out); have n2_ := aM_ (rD_ HO352.out); have n3_ := aM_ (bD_ BK331.out); have n4_ := aM_ (bD_ BK332.out); have n5_ := aM_ (bD_ BK353.out); have n6_ := aM_ (wD_ HB.out); clear HO339 HO346 HO352 BK331 BK332 BK353 HB; have HO339 := n0_; have HO346 := n1_; have HO352 := n2_; have BK331 := n3_; have BK332 := n4_; have BK353 := n5_; have HB := n6_; clear n0_ n1_ n2_ n3_ n4_ n5_ n6_
    refine start_ (n := 6) (S := fun w' => w'.cell? ⟨gb353, 0, none⟩ = some (.int .i64 t347) ∧ w'.cell? ⟨gb353, 1, none⟩ = some (.int .i64 t348) ∧ w'.cell? ⟨gb353, 2, none⟩ = some (.int .i64 t349) ∧ w'.cell? ⟨gb353, 3, none⟩ = some (.slice Ao40 t350.length co40) ∧ w'.cell? ⟨gb332, 0, none⟩ = some (.int .i64 a2_0) ∧ w'.cell? ⟨gb332, 1, none⟩ = some (.int .i64 a2_1) ∧ w'.cell? ⟨gb332, 2, none⟩ = some (.int .i64 a2_2) ∧ w'.cell? ⟨gb332, 3, none⟩ = some (.int .i64 a2_3)) (ds := []) #[false, false, false, false, false, false] (by kernel_rfl) rfl rfl ⟨(blk_cell BK353.out 0).trans rfl, (blk_cell BK353.out 1).trans rfl, (blk_cell BK353.out 2).trans rfl, (blk_cell BK353.out 3).trans rfl, (blk_cell BK332.out 0).trans rfl, (blk_cell BK332.out 1).trans rfl, (blk_cell BK332.out 2).trans rfl, (blk_cell BK332.out 3).trans rfl⟩ (fun hHeld => ?_)
    generalize w41.drew = w42 at HO339 HO346 HO352 BK331 BK332 BK353 HB hHeld ⊢
    refine pure_ (i := 1) (N := some 29) (v := ?_) (a' := ?_) #[false, true, false, false, false, false] rfl rfl (by kernel_rfl) (fun _ _ _ h => h) (Or.inl ⟨by rfl, ?_⟩) ?_ ?_
    rotate_left
    ·intro w'
     go_simp
     with_reducible rfl
    rotate_left
    ·simp only [Act.put, List.setIfInBounds_toArray, List.set_cons_zero, List.set_cons_succ, i64_w, i32_w]
     rfl
    refine take_ (i := 0) (N := some 28) (v := ?_) (a' := ?_) #[true, true, false, false, false, false] rfl rfl (by kernel_rfl) (fun _ _ _ h => h) (Or.inl ⟨by rfl, ?_⟩) hHeld ?_ ?_
    rotate_left
    ·rintro w' ⟨s0, s1, s2, s3, s4, s5, s6, s7⟩
     go_simp
     with_reducible rfl
    rotate_left
    ·simp only [Act.put, List.setIfInBounds_toArray, List.set_cons_zero, List.set_cons_succ, i64_w, i32_w]
     rfl
    refine take_ (i := 2) (N := some 30) (v := ?_) (a' := ?_) #[true, true, true, false, false, false] rfl rfl (by kernel_rfl) (fun _ _ _ h => h) (Or.inl ⟨by rfl, ?_⟩) hHeld ?_ ?_
    rotate_left
    ·rintro w' ⟨s0, s1, s2, s3, s4, s5, s6, s7⟩
     go_simp
     with_reducible rfl
    rotate_left
    ·simp only [Act.put, List.setIfInBounds_toArray, List.set_cons_zero, List.set_cons_succ, i64_w, i32_w]
     rfl
    refine one_ (i := 3) (N := some 31) #[true, true, true, true, false, false] rfl rfl (by kernel_rfl) (by decide) (fun K hK => ?_)
    refine goes_ Try.func63 (by kernel_rfl) rfl #[.agg #[.int .i64 a2_0, .int .i64 a2_1, .int .i64 a2_2, .int .i64 a2_3]] (by rfl) rfl rfl (by (try simp only [List.map_toArray, List.map_cons, List.map_nil]); first | done | rfl | (simp only [List.length_drop, List.length_take]; rfl)) ?_
    with_reducible refine (laws_toFlow.calls a2_0 a2_1 a2_2 a2_3 t354 t355 t356 t357 _ A15.out).mono ?_
    rintro e w43 ⟨rfl, hb⟩
    refine ⟨_, rfl, ?_⟩
    have n0_ := aM_ (rB_ (by (with_reducible repeat (first | apply rA_ | apply rN_ | apply rD_)); exact HO339.out) hb); have n1_ := aM_ (rB_ (by (with_reducible repeat (first | apply rA_ | apply rN_ | apply rD_)); exact HO346.out) hb); have n2_ := aM_ (rB_ (by (with_reducible repeat (first | apply rA_ | apply rN_ | apply rD_)); exact HO352.out) hb); have n3_ := aM_ (bB_ (g := gb331) (by (with_reducible repeat (first | refine bN_ ?_ _ | refine bD_ ?_ | refine bA_ ?_ _)); exact BK331.out) hb); have n4_ := aM_ (bB_ (g := gb332) (by (with_reducible repeat (first | refine bN_ ?_ _ | refine bD_ ?_ | refine bA_ ?_ _)); exact BK332.out) hb); have n5_ := aM_ (bB_ (g := gb353) (by (with_reducible repeat (first | refine bN_ ?_ _ | refine bD_ ?_ | refine bA_ ?_ _)); exact BK353.out) hb); have n6_ := aM_ (wS_ (by repeat (first | (with_reducible first | exact HB.out | apply wA_ | apply wN_ | apply wD_ | refine wE_ ?_ GE331.out | refine wE_ ?_ GE332.out | refine wE_ ?_ GE353.out) | exact HB.out)) hb); clear HO339 HO346 HO352 BK331 BK332 BK353 HB; have HO339 := n0_; have HO346 := n1_; have HO352 := n2_; have BK331 := n3_; have BK332 := n4_; have BK353 := n5_; have HB := n6_; clear n0_ n1_ n2_ n3_ n4_ n5_ n6_; (try clear hb); (try clear hb2); (try clear hk); (try clear hi)
    refine hK.out _ _ ⟨(blk_cell BK353.out 0).trans rfl, (blk_cell BK353.out 1).trans rfl, (blk_cell BK353.out 2).trans rfl, (blk_cell BK353.out 3).trans rfl, (blk_cell BK332.out 0).trans rfl, (blk_cell BK332.out 1).trans rfl, (blk_cell BK332.out 2).trans rfl, (blk_cell BK332.out 3).trans rfl⟩ (fun hHeld => ?_)
    clear hK K
    refine norm_ (a' := ?_) ?_ ?_
    rotate_left
    ·show Act.put _ (some 31) _ = _
     simp only [Act.put, List.setIfInBounds_toArray, List.set_cons_zero, List.set_cons_succ, i64_w, i32_w]
     rfl
    refine one_ (i := 4) (N := some 32) #[true, true, true, true, true, false] rfl rfl (by kernel_rfl) (by decide) (fun K hK => ?_)
    refine goes_ Try.func64 (by kernel_rfl) rfl #[.agg #[.int .i64 t347, .int .i64 t348, .int .i64 t349, .slice Ao40 t350.length co40], .int .i64 a1, .agg #[.int .i64 t354, .int .i64 t355, .int .i64 t356, .int .i64 t357]] (by rfl) rfl rfl (by (try simp only [List.map_toArray, List.map_cons, List.map_nil]); first | done | rfl | (simp only [List.length_drop, List.length_take]; rfl)) ?_
    with_reducible refine (impl_RouteIn.calls k t347 t348 t349 _ _ t350 a1 t354 t355 t356 t357 t358 _ ?side1 ?side2 A16.out).mono ?_
    (case side1 => repeat (first | exact (Kd.R_reads' HO352.out).2.2 | (with_reducible refine cA_ ?_ _) | (with_reducible refine cN_ ?_ _) | (with_reducible refine cD_ ?_)))
    (case side2 => exact (Kd.R_reads' HO352.out).2.1)
    rintro e w44 ⟨v359, rfl, ho0, hb⟩
    refine ⟨_, rfl, ?_⟩
    have n0_ := aM_ (Kd.R_elder' (by (with_reducible repeat (first | apply rA_ | apply rN_ | apply rD_)); exact HO339.out) (Kd.R_base ho0) hb); have n1_ := aM_ (Kd.R_elder' (by (with_reducible repeat (first | apply rA_ | apply rN_ | apply rD_)); exact HO346.out) (Kd.R_base ho0) hb); have n2_ := aM_ (Kd.R_elder' (by (with_reducible repeat (first | apply rA_ | apply rN_ | apply rD_)); exact HO352.out) (Kd.R_base ho0) hb); have n3_ := aM_ (Kd.R_lower (Kd.R_new' ho0 (Kd.R_lt (by (with_reducible repeat (first | apply rA_ | apply rN_ | apply rD_)); exact HO346.out))) (sZ_ (by repeat (first | (with_reducible first | exact HB.out | apply wA_ | apply wN_ | apply wD_ | refine wE_ ?_ GE331.out | refine wE_ ?_ GE332.out | refine wE_ ?_ GE353.out) | exact HB.out)))); have n4_ := aM_ (bB_ (g := gb331) (by (with_reducible repeat (first | refine bN_ ?_ _ | refine bD_ ?_ | refine bA_ ?_ _)); exact BK331.out) hb); have n5_ := aM_ (bB_ (g := gb332) (by (with_reducible repeat (first | refine bN_ ?_ _ | refine bD_ ?_ | refine bA_ ?_ _)); exact BK332.out) hb); have n6_ := aM_ (bB_ (g := gb353) (by (with_reducible repeat (first | refine bN_ ?_ _ | refine bD_ ?_ | refine bA_ ?_ _)); exact BK353.out) hb); have n7_ := aM_ (wS_ (by repeat (first | (with_reducible first | exact HB.out | apply wA_ | apply wN_ | apply wD_ | refine wE_ ?_ GE331.out | refine wE_ ?_ GE332.out | refine wE_ ?_ GE353.out) | exact HB.out)) hb); clear HO339 HO346 HO352 BK331 BK332 BK353 HB; have HO339 := n0_; have HO346 := n1_; have HO352 := n2_; have HO360 := n3_; have BK331 := n4_; have BK332 := n5_; have BK353 := n6_; have HB := n7_; clear n0_ n1_ n2_ n3_ n4_ n5_ n6_ n7_; (try clear hb); (try clear hb2); (try clear hk); (try clear hi); (try clear ho0)
    refine hK.out _ _ ⟨(blk_cell BK353.out 0).trans rfl, (blk_cell BK353.out 1).trans rfl, (blk_cell BK353.out 2).trans rfl, (blk_cell BK353.out 3).trans rfl, (blk_cell BK332.out 0).trans rfl, (blk_cell BK332.out 1).trans rfl, (blk_cell BK332.out 2).trans rfl, (blk_cell BK332.out 3).trans rfl⟩ (fun hHeld => ?_)
    clear hK K
    refine norm_ (a' := ?_) ?_ ?_
    rotate_left
    ·show Act.put _ (some 32) _ = _
     simp only [Act.put, List.setIfInBounds_toArray, List.set_cons_zero, List.set_cons_succ, i64_w, i32_w]
     rfl
    refine pure_ (i := 5) (N := some 10) (v := ?_) (a' := ?_) #[true, true, true, true, true, true] rfl rfl (by kernel_rfl) (fun _ _ _ h => h) (Or.inl ⟨by rfl, ?_⟩) ?_ ?_
    rotate_left
    ·intro w'
     go_simp
     with_reducible rfl
    rotate_left
    ·simp only [Act.put, List.setIfInBounds_toArray, List.set_cons_zero, List.set_cons_succ, i64_w, i32_w]
     rfl
    refine done_ (by kernel_rfl) ?_
    obtain ⟨Ao45, co45, eo45⟩ := Kd.R_slice HO360.out
    subst eo45
    obtain ⟨Ao46, co46, eo46⟩ := Kd.R_slice HO346.out
    subst eo46
    try go_wp2_with (first | ((with_reducible refine gate_callee (f := 37) rfl ?_); refine goesL_ (some 35) rfl rfl Try.func37 (by kernel_rfl) rfl #[.slice Ao45 t358.length co45, .slice Ao46 t344.length co46] rfl (by (try simp only [List.map_toArray, List.map_cons, List.map_nil]); first | done | rfl | (simp only [List.length_drop, List.length_take]; rfl)) ?_; (with_reducible refine (laws_eqIntS.calls k _ _ t358 _ _ t344 true _ ?side1 ?side2 ?side3 ?side4 A17.out).mono ?_); (case side1 => repeat (first | exact (Kd.R_reads' HO360.out).2.2 | (with_reducible refine cA_ ?_ _) | (with_reducible refine cN_ ?_ _) | (with_reducible refine cD_ ?_))); (case side2 => exact (Kd.R_reads' HO360.out).2.1); (case side3 => repeat (first | exact (Kd.R_reads' HO346.out).2.2 | (with_reducible refine cA_ ?_ _) | (with_reducible refine cN_ ?_ _) | (with_reducible refine cD_ ?_))); (case side4 => exact (Kd.R_reads' HO346.out).2.1); rintro e w' ⟨rfl, ⟨nd, rfl⟩⟩; refine ⟨_, rfl, ?_⟩))
    (try (rw [drewN_self w44]; generalize hq_ : World.drewN w44 _ = w44; have n0_ : Aside0 (Kd.R k119 119 w44 w.heap.size (fun k_ => some k_ ≠ (.slice Ao46 t344.length co46 : Value).ownBlock ∧ some k_ ≠ (.slice Ao40 t350.length co40 : Value).ownBlock ∧ some k_ ≠ (.slice Ao45 t358.length co45 : Value).ownBlock) (.slice Ao32 t337.length co32) t337) := ⟨by rw [← hq_]; exact (by (with_reducible repeat (first | apply rA_ | apply rN_ | apply rD_)); exact Kd.R_mono HO339.out (fun _ hk => ⟨hk.1.1, ⟨hk.1.2, hk.2⟩⟩))⟩; have n1_ : Aside0 (Kd.R (Kd.int .i64) 3 w44 w.heap.size (fun k_ => some k_ ≠ (.slice Ao45 t358.length co45 : Value).ownBlock) (.slice Ao46 t344.length co46) t344) := ⟨by rw [← hq_]; exact (by (with_reducible repeat (first | apply rA_ | apply rN_ | apply rD_)); exact Kd.R_mono HO346.out (fun _ hk => hk.2))⟩; have n2_ : Aside0 (Kd.R k119 119 w44 w.heap.size (fun k_ => some k_ ≠ (.slice Ao32 t337.length co32 : Value).ownBlock ∧ some k_ ≠ (.slice Ao46 t344.length co46 : Value).ownBlock ∧ some k_ ≠ (.slice Ao45 t358.length co45 : Value).ownBlock) (.slice Ao40 t350.length co40) t350) := ⟨by rw [← hq_]; exact (by (with_reducible repeat (first | apply rA_ | apply rN_ | apply rD_)); exact Kd.R_mono HO352.out (fun _ hk => ⟨hk.1.1, ⟨hk.1.2, hk.2⟩⟩))⟩; have n3_ : Aside0 (Kd.R (Kd.int .i64) 3 w44 w.heap.size (fun k_ => some k_ ≠ (.slice Ao46 t344.length co46 : Value).ownBlock) (.slice Ao45 t358.length co45) t358) := ⟨by rw [← hq_]; exact (by (with_reducible repeat (first | apply rA_ | apply rN_ | apply rD_)); exact Kd.R_mono HO360.out (fun _ hk => hk.2))⟩; have n4_ : Aside0 (w44.heap[gb331]? = some (.cells #[.int .i64 a0_0, .int .i64 a0_1, .int .i64 a0_2, .slice A0_3 l0_3.length c0_3] 27 (0, 0))) := ⟨by rw [← hq_]; exact (by (with_reducible repeat (first | refine bN_ ?_ _ | refine bD_ ?_ | refine bA_ ?_ _)); exact BK331.out)⟩; have n5_ : Aside0 (w44.heap[gb332]? = some (.cells #[.int .i64 a2_0, .int .i64 a2_1, .int .i64 a2_2, .int .i64 a2_3] 87 (0, 0))) := ⟨by rw [← hq_]; exact (by (with_reducible repeat (first | refine bN_ ?_ _ | refine bD_ ?_ | refine bA_ ?_ _)); exact BK332.out)⟩; have n6_ : Aside0 (w44.heap[gb353]? = some (.cells #[.int .i64 t347, .int .i64 t348, .int .i64 t349, .slice Ao40 t350.length co40] 35 (0, 0))) := ⟨by rw [← hq_]; exact (by (with_reducible repeat (first | refine bN_ ?_ _ | refine bD_ ?_ | refine bA_ ?_ _)); exact BK353.out)⟩; have n7_ : Aside0 (Below w.heap.size w w44) := ⟨by rw [← hq_]; exact (by repeat (first | (with_reducible first | exact HB.out | apply wA_ | apply wN_ | apply wD_ | refine wE_ ?_ GE331.out | refine wE_ ?_ GE332.out | refine wE_ ?_ GE353.out) | exact HB.out))⟩; clear HO339 HO346 HO352 HO360 BK331 BK332 BK353 HB hq_; have HO339 := n0_; have HO346 := n1_; have HO352 := n2_; have HO360 := n3_; have BK331 := n4_; have BK332 := n5_; have BK353 := n6_; have HB := n7_; clear n0_ n1_ n2_ n3_ n4_ n5_ n6_ n7_))
    have n0_ := aM_ (rD_ HO339.out); have n1_ := aM_ (rD_ HO346.out); have n2_ := aM_ (rD_ HO352.out); have n3_ := aM_ (rD_ HO360.out); have n4_ := aM_ (bD_ BK331.out); have n5_ := aM_ (bD_ BK332.out); have n6_ := aM_ (bD_ BK353.out); have n7_ := aM_ (wD_ HB.out); clear HO339 HO346 HO352 HO360 BK331 BK332 BK353 HB; have HO339 := n0_; have HO346 := n1_; have HO352 := n2_; have HO360 := n3_; have BK331 := n4_; have BK332 := n5_; have BK353 := n6_; have HB := n7_; clear n0_ n1_ n2_ n3_ n4_ n5_ n6_ n7_
    refine start_ (n := 5) (S := fun w' => w'.cell? ⟨gb353, 0, none⟩ = some (.int .i64 t347) ∧ w'.cell? ⟨gb353, 1, none⟩ = some (.int .i64 t348) ∧ w'.cell? ⟨gb353, 2, none⟩ = some (.int .i64 t349) ∧ w'.cell? ⟨gb353, 3, none⟩ = some (.slice Ao40 t350.length co40) ∧ w'.cell? ⟨gb331, 0, none⟩ = some (.int .i64 a0_0) ∧ w'.cell? ⟨gb331, 1, none⟩ = some (.int .i64 a0_1) ∧ w'.cell? ⟨gb331, 2, none⟩ = some (.int .i64 a0_2) ∧ w'.cell? ⟨gb331, 3, none⟩ = some (.slice A0_3 l0_3.length c0_3)) (ds := []) #[false, false, false, false, false] (by kernel_rfl) rfl rfl ⟨(blk_cell BK353.out 0).trans rfl, (blk_cell BK353.out 1).trans rfl, (blk_cell BK353.out 2).trans rfl, (blk_cell BK353.out 3).trans rfl, (blk_cell BK331.out 0).trans rfl, (blk_cell BK331.out 1).trans rfl, (blk_cell BK331.out 2).trans rfl, (blk_cell BK331.out 3).trans rfl⟩ (fun hHeld => ?_)
    generalize w44.drew = w47 at HO339 HO346 HO352 HO360 BK331 BK332 BK353 HB hHeld ⊢
    refine take_ (i := 0) (N := some 37) (v := ?_) (a' := ?_) #[true, false, false, false, false] rfl rfl (by kernel_rfl) (fun _ _ _ h => h) (Or.inl ⟨by rfl, ?_⟩) hHeld ?_ ?_
    rotate_left
    ·rintro w' ⟨s0, s1, s2, s3, s4, s5, s6, s7⟩
     go_simp
     with_reducible rfl
    rotate_left
    ·simp only [Act.put, List.setIfInBounds_toArray, List.set_cons_zero, List.set_cons_succ, i64_w, i32_w]
     rfl
    refine take_ (i := 1) (N := some 38) (v := ?_) (a' := ?_) #[true, true, false, false, false] rfl rfl (by kernel_rfl) (fun _ _ _ h => h) (Or.inl ⟨by rfl, ?_⟩) hHeld ?_ ?_
    rotate_left
    ·rintro w' ⟨s0, s1, s2, s3, s4, s5, s6, s7⟩
     go_simp
     with_reducible rfl
    rotate_left
    ·simp only [Act.put, List.setIfInBounds_toArray, List.set_cons_zero, List.set_cons_succ, i64_w, i32_w]
     rfl
    refine one_ (i := 2) (N := some 39) #[true, true, true, false, false] rfl rfl (by kernel_rfl) (by decide) (fun K hK => ?_)
    refine goes_ Try.func19 (by kernel_rfl) rfl #[.agg #[.int .i64 a0_0, .int .i64 a0_1, .int .i64 a0_2, .slice A0_3 l0_3.length c0_3]] (by rfl) rfl rfl (by (try simp only [List.map_toArray, List.map_cons, List.map_nil]); first | done | rfl | (simp only [List.length_drop, List.length_take]; rfl)) ?_
    with_reducible refine (laws_toProgram.calls k a0_0 a0_1 a0_2 _ _ l0_3 t362 t363 t364 t365 _ ?side1 ?side2 A19.out).mono ?_
    (case side1 => repeat (first | exact (Kd.C_below HR0_3.out HB.out) | (with_reducible refine cA_ ?_ _) | (with_reducible refine cN_ ?_ _) | (with_reducible refine cD_ ?_)))
    (case side2 => exact HC0_3.out)
    rintro e w48 ⟨v366, rfl, ho0, hb⟩
    refine ⟨_, rfl, ?_⟩
    have n0_ := aM_ (Kd.R_elder' (by (with_reducible repeat (first | apply rA_ | apply rN_ | apply rD_)); exact HO339.out) (Kd.R_base ho0) hb); have n1_ := aM_ (rB_ (by (with_reducible repeat (first | apply rA_ | apply rN_ | apply rD_)); exact HO346.out) hb); have n2_ := aM_ (Kd.R_elder' (by (with_reducible repeat (first | apply rA_ | apply rN_ | apply rD_)); exact HO352.out) (Kd.R_base ho0) hb); have n3_ := aM_ (rB_ (by (with_reducible repeat (first | apply rA_ | apply rN_ | apply rD_)); exact HO360.out) hb); have n4_ := aM_ (Kd.R_lower (Kd.R_new' (Kd.R_new' (Kd.R_new' (Kd.R_new' ho0 (Kd.R_lt (by (with_reducible repeat (first | apply rA_ | apply rN_ | apply rD_)); exact HO339.out))) (Kd.R_lt (by (with_reducible repeat (first | apply rA_ | apply rN_ | apply rD_)); exact HO346.out))) (Kd.R_lt (by (with_reducible repeat (first | apply rA_ | apply rN_ | apply rD_)); exact HO352.out))) (Kd.R_lt (by (with_reducible repeat (first | apply rA_ | apply rN_ | apply rD_)); exact HO360.out))) (sZ_ (by repeat (first | (with_reducible first | exact HB.out | apply wA_ | apply wN_ | apply wD_ | refine wE_ ?_ GE331.out | refine wE_ ?_ GE332.out | refine wE_ ?_ GE353.out) | exact HB.out)))); have n5_ := aM_ (bB_ (g := gb331) (by (with_reducible repeat (first | refine bN_ ?_ _ | refine bD_ ?_ | refine bA_ ?_ _)); exact BK331.out) hb); have n6_ := aM_ (bB_ (g := gb332) (by (with_reducible repeat (first | refine bN_ ?_ _ | refine bD_ ?_ | refine bA_ ?_ _)); exact BK332.out) hb); have n7_ := aM_ (bB_ (g := gb353) (by (with_reducible repeat (first | refine bN_ ?_ _ | refine bD_ ?_ | refine bA_ ?_ _)); exact BK353.out) hb); have n8_ := aM_ (wS_ (by repeat (first | (with_reducible first | exact HB.out | apply wA_ | apply wN_ | apply wD_ | refine wE_ ?_ GE331.out | refine wE_ ?_ GE332.out | refine wE_ ?_ GE353.out) | exact HB.out)) hb); clear HO339 HO346 HO352 HO360 BK331 BK332 BK353 HB; have HO339 := n0_; have HO346 := n1_; have HO352 := n2_; have HO360 := n3_; have HO367 := n4_; have BK331 := n5_; have BK332 := n6_; have BK353 := n7_; have HB := n8_; clear n0_ n1_ n2_ n3_ n4_ n5_ n6_ n7_ n8_; (try clear hb); (try clear hb2); (try clear hk); (try clear hi); (try clear ho0)
    obtain ⟨Ao49, co49, eo49⟩ := Kd.R_slice HO367.out
    (first | subst eo49 | (injection eo49 with f1_ f2_ f3_; have f4_ := f1_.symm; have f5_ := f3_.symm; clear f1_ f2_ f3_; subst f4_; subst f5_))
    refine hK.out _ _ ⟨(blk_cell BK353.out 0).trans rfl, (blk_cell BK353.out 1).trans rfl, (blk_cell BK353.out 2).trans rfl, (blk_cell BK353.out 3).trans rfl, (blk_cell BK331.out 0).trans rfl, (blk_cell BK331.out 1).trans rfl, (blk_cell BK331.out 2).trans rfl, (blk_cell BK331.out 3).trans rfl⟩ (fun hHeld => ?_)
    clear hK K
    refine norm_ (a' := ?_) ?_ ?_
    rotate_left
    ·show Act.put _ (some 39) _ = _
     simp only [Act.put, List.setIfInBounds_toArray, List.set_cons_zero, List.set_cons_succ, i64_w, i32_w]
     rfl
    refine one_ (i := 3) (N := some 40) #[true, true, true, true, false] rfl rfl (by kernel_rfl) (by decide) (fun K hK => ?_)
    refine goes_ Try.func22 (by kernel_rfl) rfl #[.agg #[.int .i64 t347, .int .i64 t348, .int .i64 t349, .slice Ao40 t350.length co40], .agg #[.int .i64 t362, .int .i64 t363, .int .i64 t364, .slice Ao49 t365.length co49]] (by rfl) rfl rfl (by (try simp only [List.map_toArray, List.map_cons, List.map_nil]); first | done | rfl | (simp only [List.length_drop, List.length_take]; rfl)) ?_
    with_reducible refine (laws_eqProgram.calls k t347 t348 t349 _ _ t350 t362 t363 t364 _ _ t365 true _ ?side1 ?side2 ?side3 ?side4 A20.out).mono ?_
    (case side1 => repeat (first | exact (Kd.R_reads' HO352.out).2.2 | (with_reducible refine cA_ ?_ _) | (with_reducible refine cN_ ?_ _) | (with_reducible refine cD_ ?_)))
    (case side2 => exact (Kd.R_reads' HO352.out).2.1)
    (case side3 => repeat (first | exact (Kd.R_reads' HO367.out).2.2 | (with_reducible refine cA_ ?_ _) | (with_reducible refine cN_ ?_ _) | (with_reducible refine cD_ ?_)))
    (case side4 => exact (Kd.R_reads' HO367.out).2.1)
    rintro e w50 ⟨rfl, hb⟩
    refine ⟨_, rfl, ?_⟩
    have n0_ := aM_ (rB_ (by (with_reducible repeat (first | apply rA_ | apply rN_ | apply rD_)); exact HO339.out) hb); have n1_ := aM_ (rB_ (by (with_reducible repeat (first | apply rA_ | apply rN_ | apply rD_)); exact HO346.out) hb); have n2_ := aM_ (rB_ (by (with_reducible repeat (first | apply rA_ | apply rN_ | apply rD_)); exact HO352.out) hb); have n3_ := aM_ (rB_ (by (with_reducible repeat (first | apply rA_ | apply rN_ | apply rD_)); exact HO360.out) hb); have n4_ := aM_ (rB_ (by (with_reducible repeat (first | apply rA_ | apply rN_ | apply rD_)); exact HO367.out) hb); have n5_ := aM_ (bB_ (g := gb331) (by (with_reducible repeat (first | refine bN_ ?_ _ | refine bD_ ?_ | refine bA_ ?_ _)); exact BK331.out) hb); have n6_ := aM_ (bB_ (g := gb332) (by (with_reducible repeat (first | refine bN_ ?_ _ | refine bD_ ?_ | refine bA_ ?_ _)); exact BK332.out) hb); have n7_ := aM_ (bB_ (g := gb353) (by (with_reducible repeat (first | refine bN_ ?_ _ | refine bD_ ?_ | refine bA_ ?_ _)); exact BK353.out) hb); have n8_ := aM_ (wS_ (by repeat (first | (with_reducible first | exact HB.out | apply wA_ | apply wN_ | apply wD_ | refine wE_ ?_ GE331.out | refine wE_ ?_ GE332.out | refine wE_ ?_ GE353.out) | exact HB.out)) hb); clear HO339 HO346 HO352 HO360 HO367 BK331 BK332 BK353 HB; have HO339 := n0_; have HO346 := n1_; have HO352 := n2_; have HO360 := n3_; have HO367 := n4_; have BK331 := n5_; have BK332 := n6_; have BK353 := n7_; have HB := n8_; clear n0_ n1_ n2_ n3_ n4_ n5_ n6_ n7_ n8_; (try clear hb); (try clear hb2); (try clear hk); (try clear hi)
    refine hK.out _ _ ⟨(blk_cell BK353.out 0).trans rfl, (blk_cell BK353.out 1).trans rfl, (blk_cell BK353.out 2).trans rfl, (blk_cell BK353.out 3).trans rfl, (blk_cell BK331.out 0).trans rfl, (blk_cell BK331.out 1).trans rfl, (blk_cell BK331.out 2).trans rfl, (blk_cell BK331.out 3).trans rfl⟩ (fun hHeld => ?_)
    clear hK K
    refine norm_ (a' := ?_) ?_ ?_
    rotate_left
    ·show Act.put _ (some 40) _ = _
     simp only [Act.put, List.setIfInBounds_toArray, List.set_cons_zero, List.set_cons_succ, i64_w, i32_w]
     rfl
    refine pure_ (i := 4) (N := some 41) (v := ?_) (a' := ?_) #[true, true, true, true, true] rfl rfl (by kernel_rfl) (fun _ _ _ h => h) (Or.inl ⟨by rfl, ?_⟩) ?_ ?_
    rotate_left
    ·intro w'
     go_simp
     with_reducible rfl
    rotate_left
    ·simp only [Act.put, List.setIfInBounds_toArray, List.set_cons_zero, List.set_cons_succ, i64_w, i32_w]
     rfl
    refine done_ (by kernel_rfl) ?_
    have hcz51_0 : w50.cell? ⟨gb353, 0, none⟩ = some (.int .i64 t347) := (blk_cell BK353.out 0).trans rfl
    have hcz51_1 : w50.cell? ⟨gb353, 1, none⟩ = some (.int .i64 t348) := (blk_cell BK353.out 1).trans rfl
    have hcz51_2 : w50.cell? ⟨gb353, 2, none⟩ = some (.int .i64 t349) := (blk_cell BK353.out 2).trans rfl
    have hcz51_3 : w50.cell? ⟨gb353, 3, none⟩ = some (.slice Ao40 t350.length co40) := (blk_cell BK353.out 3).trans rfl
    have hfz51_0 := blk_frozen BK353.out 0; have hfz51_1 := blk_frozen BK353.out 1; have hfz51_2 := blk_frozen BK353.out 2; have hfz51_3 := blk_frozen BK353.out 3
    go_upto_region 14 with (first | ((with_reducible refine gate_callee (f := 54) rfl ?_); refine goesL_ (some 44) rfl rfl Try.func54 (by kernel_rfl) rfl #[.agg #[.int .i64 t347, .int .i64 t348, .int .i64 t349, .slice Ao40 t350.length co40], .int .i64 1] rfl (by (try simp only [List.map_toArray, List.map_cons, List.map_nil]); first | done | rfl | (simp only [List.length_drop, List.length_take]; rfl)) ?_; (with_reducible refine (laws_markProgram.calls t347 t348 t349 ?P_ (.slice Ao40 t350.length co40) t350 1 t369 w _ ?side1 ?side2 A22.out).mono ?_); (case side1 => repeat (first | (with_reducible first | exact HB.out | apply wA_ | apply wN_ | apply wD_ | refine wE_ ?_ GE331.out | refine wE_ ?_ GE332.out | refine wE_ ?_ GE353.out) | exact HB.out)); (case side2 => exact Kd.R_bound (HO352.out)); rintro e w52 ⟨rfl, hb, hkp⟩; refine ⟨_, rfl, ?_⟩; have n0_ := aM_ (blk_kept (by (with_reducible repeat (first | refine bN_ ?_ _ | refine bD_ ?_ | refine bA_ ?_ _)); exact BK331.out) hkp (fun hs_ => not_types_ (by (with_reducible repeat (first | refine bN_ ?_ _ | refine bD_ ?_ | refine bA_ ?_ _)); exact BK331.out) hs_.2.2.2 (by decide))); have n1_ := aM_ (blk_kept (by (with_reducible repeat (first | refine bN_ ?_ _ | refine bD_ ?_ | refine bA_ ?_ _)); exact BK332.out) hkp (fun hs_ => not_types_ (by (with_reducible repeat (first | refine bN_ ?_ _ | refine bD_ ?_ | refine bA_ ?_ _)); exact BK332.out) hs_.2.2.2 (by decide))); have n2_ := aM_ (Kd.R_mono (ok := fun k_ => some k_ = (.slice Ao46 t344.length co46 : Value).ownBlock) (ok' := fun k_ => some k_ ≠ (.slice Ao45 t358.length co45 : Value).ownBlock) (Kd.R_mono (Kd.R_keptB (Kd.R_tight rfl (HO346.out)) hkp (fun k_ hk_ hs_ => (show some k_ ≠ (.slice Ao46 t344.length co46 : Value).ownBlock from (by have p_ := hs_.1; first | exact p_ | exact p_.1 | exact p_.2 | exact p_.1.1 | exact p_.1.2 | exact p_.2.1 | exact p_.2.2 | exact p_.1.1.1 | exact p_.1.1.2 | exact p_.1.2.1 | exact p_.1.2.2 | exact p_.2.1.1 | exact p_.2.1.2 | exact p_.2.2.1 | exact p_.2.2.2 | exact p_.1.1.1.1 | exact p_.1.1.1.2 | exact p_.1.1.2.1 | exact p_.1.1.2.2 | exact p_.1.2.1.1 | exact p_.1.2.1.2 | exact p_.1.2.2.1 | exact p_.1.2.2.2 | exact p_.2.1.1.1 | exact p_.2.1.1.2 | exact p_.2.1.2.1 | exact p_.2.1.2.2 | exact p_.2.2.1.1 | exact p_.2.2.1.2 | exact p_.2.2.2.1 | exact p_.2.2.2.2 | exact p_.1.1.1.1.1 | exact p_.1.1.1.1.2 | exact p_.1.1.1.2.1 | exact p_.1.1.1.2.2 | exact p_.1.1.2.1.1 | exact p_.1.1.2.1.2 | exact p_.1.1.2.2.1 | exact p_.1.1.2.2.2 | exact p_.1.2.1.1.1 | exact p_.1.2.1.1.2 | exact p_.1.2.1.2.1 | exact p_.1.2.1.2.2 | exact p_.1.2.2.1.1 | exact p_.1.2.2.1.2 | exact p_.1.2.2.2.1 | exact p_.1.2.2.2.2 | exact p_.2.1.1.1.1 | exact p_.2.1.1.1.2 | exact p_.2.1.1.2.1 | exact p_.2.1.1.2.2 | exact p_.2.1.2.1.1 | exact p_.2.1.2.1.2 | exact p_.2.1.2.2.1 | exact p_.2.1.2.2.2 | exact p_.2.2.1.1.1 | exact p_.2.2.1.1.2 | exact p_.2.2.1.2.1 | exact p_.2.2.1.2.2 | exact p_.2.2.2.1.1 | exact p_.2.2.2.1.2 | exact p_.2.2.2.2.1 | exact p_.2.2.2.2.2)) hk_)) (fun _ h_ => h_.1)) (fun k_ hk_ => (by have p_ := ((HO346.out).1 k_ hk_.symm); first | exact p_ | exact p_.1 | exact p_.2 | exact p_.1.1 | exact p_.1.2 | exact p_.2.1 | exact p_.2.2 | exact p_.1.1.1 | exact p_.1.1.2 | exact p_.1.2.1 | exact p_.1.2.2 | exact p_.2.1.1 | exact p_.2.1.2 | exact p_.2.2.1 | exact p_.2.2.2 | exact p_.1.1.1.1 | exact p_.1.1.1.2 | exact p_.1.1.2.1 | exact p_.1.1.2.2 | exact p_.1.2.1.1 | exact p_.1.2.1.2 | exact p_.1.2.2.1 | exact p_.1.2.2.2 | exact p_.2.1.1.1 | exact p_.2.1.1.2 | exact p_.2.1.2.1 | exact p_.2.1.2.2 | exact p_.2.2.1.1 | exact p_.2.2.1.2 | exact p_.2.2.2.1 | exact p_.2.2.2.2 | exact p_.1.1.1.1.1 | exact p_.1.1.1.1.2 | exact p_.1.1.1.2.1 | exact p_.1.1.1.2.2 | exact p_.1.1.2.1.1 | exact p_.1.1.2.1.2 | exact p_.1.1.2.2.1 | exact p_.1.1.2.2.2 | exact p_.1.2.1.1.1 | exact p_.1.2.1.1.2 | exact p_.1.2.1.2.1 | exact p_.1.2.1.2.2 | exact p_.1.2.2.1.1 | exact p_.1.2.2.1.2 | exact p_.1.2.2.2.1 | exact p_.1.2.2.2.2 | exact p_.2.1.1.1.1 | exact p_.2.1.1.1.2 | exact p_.2.1.1.2.1 | exact p_.2.1.1.2.2 | exact p_.2.1.2.1.1 | exact p_.2.1.2.1.2 | exact p_.2.1.2.2.1 | exact p_.2.1.2.2.2 | exact p_.2.2.1.1.1 | exact p_.2.2.1.1.2 | exact p_.2.2.1.2.1 | exact p_.2.2.1.2.2 | exact p_.2.2.2.1.1 | exact p_.2.2.2.1.2 | exact p_.2.2.2.2.1 | exact p_.2.2.2.2.2))); have n3_ := aM_ (blk_kept (by (with_reducible repeat (first | refine bN_ ?_ _ | refine bD_ ?_ | refine bA_ ?_ _)); exact BK353.out) hkp (fun hs_ => not_types_ (by (with_reducible repeat (first | refine bN_ ?_ _ | refine bD_ ?_ | refine bA_ ?_ _)); exact BK353.out) hs_.2.2.2 (by decide))); have n4_ := aM_ (Kd.R_mono (ok := fun k_ => some k_ = (.slice Ao45 t358.length co45 : Value).ownBlock) (ok' := fun k_ => some k_ ≠ (.slice Ao46 t344.length co46 : Value).ownBlock) (Kd.R_mono (Kd.R_keptB (Kd.R_tight rfl (HO360.out)) hkp (fun k_ hk_ hs_ => (show some k_ ≠ (.slice Ao45 t358.length co45 : Value).ownBlock from (by have p_ := hs_.1; first | exact p_ | exact p_.1 | exact p_.2 | exact p_.1.1 | exact p_.1.2 | exact p_.2.1 | exact p_.2.2 | exact p_.1.1.1 | exact p_.1.1.2 | exact p_.1.2.1 | exact p_.1.2.2 | exact p_.2.1.1 | exact p_.2.1.2 | exact p_.2.2.1 | exact p_.2.2.2 | exact p_.1.1.1.1 | exact p_.1.1.1.2 | exact p_.1.1.2.1 | exact p_.1.1.2.2 | exact p_.1.2.1.1 | exact p_.1.2.1.2 | exact p_.1.2.2.1 | exact p_.1.2.2.2 | exact p_.2.1.1.1 | exact p_.2.1.1.2 | exact p_.2.1.2.1 | exact p_.2.1.2.2 | exact p_.2.2.1.1 | exact p_.2.2.1.2 | exact p_.2.2.2.1 | exact p_.2.2.2.2 | exact p_.1.1.1.1.1 | exact p_.1.1.1.1.2 | exact p_.1.1.1.2.1 | exact p_.1.1.1.2.2 | exact p_.1.1.2.1.1 | exact p_.1.1.2.1.2 | exact p_.1.1.2.2.1 | exact p_.1.1.2.2.2 | exact p_.1.2.1.1.1 | exact p_.1.2.1.1.2 | exact p_.1.2.1.2.1 | exact p_.1.2.1.2.2 | exact p_.1.2.2.1.1 | exact p_.1.2.2.1.2 | exact p_.1.2.2.2.1 | exact p_.1.2.2.2.2 | exact p_.2.1.1.1.1 | exact p_.2.1.1.1.2 | exact p_.2.1.1.2.1 | exact p_.2.1.1.2.2 | exact p_.2.1.2.1.1 | exact p_.2.1.2.1.2 | exact p_.2.1.2.2.1 | exact p_.2.1.2.2.2 | exact p_.2.2.1.1.1 | exact p_.2.2.1.1.2 | exact p_.2.2.1.2.1 | exact p_.2.2.1.2.2 | exact p_.2.2.2.1.1 | exact p_.2.2.2.1.2 | exact p_.2.2.2.2.1 | exact p_.2.2.2.2.2)) hk_)) (fun _ h_ => h_.1)) (fun k_ hk_ => (by have p_ := ((HO360.out).1 k_ hk_.symm); first | exact p_ | exact p_.1 | exact p_.2 | exact p_.1.1 | exact p_.1.2 | exact p_.2.1 | exact p_.2.2 | exact p_.1.1.1 | exact p_.1.1.2 | exact p_.1.2.1 | exact p_.1.2.2 | exact p_.2.1.1 | exact p_.2.1.2 | exact p_.2.2.1 | exact p_.2.2.2 | exact p_.1.1.1.1 | exact p_.1.1.1.2 | exact p_.1.1.2.1 | exact p_.1.1.2.2 | exact p_.1.2.1.1 | exact p_.1.2.1.2 | exact p_.1.2.2.1 | exact p_.1.2.2.2 | exact p_.2.1.1.1 | exact p_.2.1.1.2 | exact p_.2.1.2.1 | exact p_.2.1.2.2 | exact p_.2.2.1.1 | exact p_.2.2.1.2 | exact p_.2.2.2.1 | exact p_.2.2.2.2 | exact p_.1.1.1.1.1 | exact p_.1.1.1.1.2 | exact p_.1.1.1.2.1 | exact p_.1.1.1.2.2 | exact p_.1.1.2.1.1 | exact p_.1.1.2.1.2 | exact p_.1.1.2.2.1 | exact p_.1.1.2.2.2 | exact p_.1.2.1.1.1 | exact p_.1.2.1.1.2 | exact p_.1.2.1.2.1 | exact p_.1.2.1.2.2 | exact p_.1.2.2.1.1 | exact p_.1.2.2.1.2 | exact p_.1.2.2.2.1 | exact p_.1.2.2.2.2 | exact p_.2.1.1.1.1 | exact p_.2.1.1.1.2 | exact p_.2.1.1.2.1 | exact p_.2.1.1.2.2 | exact p_.2.1.2.1.1 | exact p_.2.1.2.1.2 | exact p_.2.1.2.2.1 | exact p_.2.1.2.2.2 | exact p_.2.2.1.1.1 | exact p_.2.2.1.1.2 | exact p_.2.2.1.2.1 | exact p_.2.2.1.2.2 | exact p_.2.2.2.1.1 | exact p_.2.2.2.1.2 | exact p_.2.2.2.2.1 | exact p_.2.2.2.2.2))); have n5_ := aM_ (hb); clear BK331; clear BK332; clear HO346; clear BK353; clear HO360; clear HB; clear HO352; clear HO339; clear HO367; have BK331 := n0_; have BK332 := n1_; have HO346 := n2_; have BK353 := n3_; have HO360 := n4_; have HB := n5_; clear n0_ n1_ n2_ n3_ n4_ n5_; (try clear hb); (try clear hkp)))
    (try simp only [Act.put, List.setIfInBounds_toArray, List.set_cons_zero, List.set_cons_succ])
    go_cut [52] (fun v52 wc => ∃ (kq : Nat) (x52_22 : Bool), v52 = .bool x52_22 ∧ Aside0 (laws_FnExactRouteIn.j0 kq a1 t344 t358 x52_22 a0_0 a0_1 a0_2 l0_3 a2_0 a2_1 a2_2 a2_3 = some r) ∧ Aside0 (kq ≤ k) ∧ Aside0 (Kd.R (Kd.int .i64) 3 wc w.heap.size (fun k_ => some k_ ≠ ((.slice Ao45 t358.length co45) : Value).ownBlock) (.slice Ao46 t344.length co46) t344) ∧ Aside0 (Kd.R (Kd.int .i64) 3 wc w.heap.size (fun k_ => some k_ ≠ ((.slice Ao46 t344.length co46) : Value).ownBlock) (.slice Ao45 t358.length co45) t358) ∧ Aside0 (wc.heap[gb331]? = some (.cells #[.int .i64 a0_0, .int .i64 a0_1, .int .i64 a0_2, (.slice A0_3 l0_3.length c0_3)] 27 (0, 0))) ∧ Aside0 (wc.heap[gb332]? = some (.cells #[.int .i64 a2_0, .int .i64 a2_1, .int .i64 a2_2, .int .i64 a2_3] 87 (0, 0))) ∧ Aside0 (Below w.heap.size w wc))
    case first =>
     have H := HC23.out; clear HC23
     by_cases c53 : t369 < 0
     ·rw [if_pos c53] at H
      have c53b0 : decide (t369 < 0) = true := decide_eq_true c53
      clear c53
      (first | rw [c53b0] | (simp only [i64_w, i32_w]; rw [c53b0]) | skip)
      have H' := aM_ H
      clear H
      go_wp2
      go_meet
      case rel => exact ⟨_, (true), (by first | rfl | (simp; done) | (simp [*]; done)), H', ⟨by first | omega | exact Nat.le_refl _⟩, ⟨by (with_reducible repeat (first | apply rA_ | apply rN_ | apply rD_)); exact HO346.out⟩, ⟨by (with_reducible repeat (first | apply rA_ | apply rN_ | apply rD_)); exact HO360.out⟩, ⟨by (with_reducible repeat (first | refine bN_ ?_ _ | refine bD_ ?_ | refine bA_ ?_ _)); exact BK331.out⟩, ⟨by (with_reducible repeat (first | refine bN_ ?_ _ | refine bD_ ?_ | refine bA_ ?_ _)); exact BK332.out⟩, ⟨by repeat (first | (with_reducible first | exact HB.out | apply wA_ | apply wN_ | apply wD_ | refine wE_ ?_ GE331.out | refine wE_ ?_ GE332.out | refine wE_ ?_ GE353.out) | exact HB.out)⟩⟩
     ·rw [if_neg c53] at H
      have c53b0 : decide (t369 < 0) = false := decide_eq_false c53
      clear c53
      (first | rw [c53b0] | (simp only [i64_w, i32_w]; rw [c53b0]) | skip)
      replace H := Option.bind_eq_some_iff.mp H
      obtain ⟨t370, A540, H⟩ := H
      (try dsimp only at H)
      have A54 := aM_ A540; clear A540
      have H' := aM_ H
      clear H
      go_wp2_with (first | (go_at_call 37; (with_reducible refine (laws_eqIntS.calls k _ _ t358 _ _ t344 t370 _ ?side1 ?side2 ?side3 ?side4 A54.out).mono ?_); (case side1 => repeat (first | exact (Kd.R_reads' HO360.out).2.2 | (with_reducible refine cA_ ?_ _) | (with_reducible refine cN_ ?_ _) | (with_reducible refine cD_ ?_))); (case side2 => exact (Kd.R_reads' HO360.out).2.1); (case side3 => repeat (first | exact (Kd.R_reads' HO346.out).2.2 | (with_reducible refine cA_ ?_ _) | (with_reducible refine cN_ ?_ _) | (with_reducible refine cD_ ?_))); (case side4 => exact (Kd.R_reads' HO346.out).2.1); rintro e w' ⟨rfl, ⟨nd, rfl⟩⟩))
      go_meet
      case rel => exact ⟨_, (!t370), (by first | rfl | (simp; done) | (simp [*]; done)), H', ⟨by first | omega | exact Nat.le_refl _⟩, ⟨by (with_reducible repeat (first | apply rA_ | apply rN_ | apply rD_)); exact HO346.out⟩, ⟨by (with_reducible repeat (first | apply rA_ | apply rN_ | apply rD_)); exact HO360.out⟩, ⟨by (with_reducible repeat (first | refine bN_ ?_ _ | refine bD_ ?_ | refine bA_ ?_ _)); exact BK331.out⟩, ⟨by (with_reducible repeat (first | refine bN_ ?_ _ | refine bD_ ?_ | refine bA_ ?_ _)); exact BK332.out⟩, ⟨by repeat (first | (with_reducible first | exact HB.out | apply wA_ | apply wN_ | apply wD_ | refine wE_ ?_ GE331.out | refine wE_ ?_ GE332.out | refine wE_ ?_ GE353.out) | exact HB.out)⟩⟩
    case rest =>
     clear HC23
     try clear c1
     try clear c2
     try clear p2
     try clear c3
     try clear c5
     try clear c5b0
     try clear c6
     try clear c8
     try clear c12
     try clear c16
     try clear c18
     try clear c19
     try clear c21
     try clear c22
     try clear c26
     try clear c37
     try clear c38
     try clear c53
     try clear c53b0
     try clear c54
     try clear hcz27_0
     try clear hcz27_1
     try clear hcz27_2
     try clear hcz27_3
     try clear hcz34_0
     try clear hcz34_1
     try clear hcz34_2
     try clear hcz34_3
     try clear hcz39_0
     try clear hcz39_1
     try clear hcz39_2
     try clear hcz39_3
     try clear hcz51_0
     try clear hcz51_1
     try clear hcz51_2
     try clear hcz51_3
     try clear hcz9_0
     try clear hcz9_1
     try clear hcz9_2
     try clear hcz9_3
     try clear hfz27_0
     try clear hfz27_1
     try clear hfz27_2
     try clear hfz27_3
     try clear hfz34_0
     try clear hfz34_1
     try clear hfz34_2
     try clear hfz34_3
     try clear hfz39_0
     try clear hfz39_1
     try clear hfz39_2
     try clear hfz39_3
     try clear hfz51_0
     try clear hfz51_1
     try clear hfz51_2
     try clear hfz51_3
     try clear hfz9_0
     try clear hfz9_1
     try clear hfz9_2
     try clear hfz9_3
     obtain ⟨kq, x52_22, rfl, HA, HJ22, HO_8, HO_10, BK331, BK332, HB⟩ := hcut
     cases kq with
     | zero => exact absurd HA.out (by simp [laws_FnExactRouteIn.j0])
     | succ kj22 =>
      have H := HA.out; clear HA
      simp only [laws_FnExactRouteIn.j0] at H
      by_cases c55 : x52_22 = true
      ·subst c55
       have H1 : (some false) = some r := by rw [if_pos rfl] at H; exact H
       clear H; have H := H1; clear H1
       exact absurd ((Option.some.inj H).trans HTRUE.out) (by decide)
      ·replace c55 := Bool.eq_false_iff.mpr c55
       subst c55
       have H1 : ((laws_markIntS.f kj22 t358 1).bind fun bt371 => ((laws_heldIntS.f kj22 bt371.2 1).bind fun t373 => (if t373 < 0 then (some false) else (if t373 = bt371.1 then ((laws_toProgram.f kj22 a0_0 a0_1 a0_2 l0_3).bind fun bt374 => ((laws_toFlow.f a2_0 a2_1 a2_2 a2_3).bind fun bt380 => ((impl_RouteIn.f kj22 bt374.1 bt374.2.1 bt374.2.2.1 bt374.2.2.2 a1 bt380.1 bt380.2.1 bt380.2.2.1 bt380.2.2.2).bind fun t384 => ((laws_eqIntS.f kj22 t384 t344).bind fun t387 => (if t387 = true then ((laws_heldIntS.f kj22 bt371.2 1).bind fun t388 => (if t388 < 0 then (some false) else (if t388 = bt371.1 then (some true) else (some false)))) else (some false)))))) else (some false))))) = some r := by rw [if_neg (show ¬ (false = true) by decide)] at H; exact H
       clear H; have H := H1; clear H1
       replace H := Option.bind_eq_some_iff.mp H
       obtain ⟨⟨t371, t372⟩, A560, H⟩ := H
       (try dsimp only at H)
       have A56 := aM_ A560; clear A560
       replace H := Option.bind_eq_some_iff.mp H
       obtain ⟨t373, A570, H⟩ := H
       (try dsimp only at H)
       have A57 := aM_ A570; clear A570
       by_cases c58 : t373 < 0
       ·rw [if_pos c58] at H
        have c58b0 : decide (t373 < 0) = true := decide_eq_true c58
        clear c58
        exact absurd ((Option.some.inj H).trans HTRUE.out) (by decide)
       ·rw [if_neg c58] at H
        have c58b0 : decide (t373 < 0) = false := decide_eq_false c58
        clear c58
        by_cases c59 : t373 = t371
        ·rw [if_pos c59] at H
         have c59b0 : (t373 == t371) = true := beq_iff_eq.mpr c59
         have c59b1 : (t373 != t371) = false := bne_eq_false_iff_eq.mpr c59
         clear c59
         replace H := Option.bind_eq_some_iff.mp H
         obtain ⟨⟨t374, t375, t376, t377⟩, A600, H⟩ := H
         (try dsimp only at H)
         have A60 := aM_ A600; clear A600
         replace H := Option.bind_eq_some_iff.mp H
         obtain ⟨⟨t380, t381, t382, t383⟩, A610, H⟩ := H
         (try dsimp only at H)
         have A61 := aM_ A610; clear A610
         replace H := Option.bind_eq_some_iff.mp H
         obtain ⟨t384, A620, H⟩ := H
         (try dsimp only at H)
         have A62 := aM_ A620; clear A620
         replace H := Option.bind_eq_some_iff.mp H
         obtain ⟨t387, A630, H⟩ := H
         (try dsimp only at H)
         have A63 := aM_ A630; clear A630
         by_cases c64 : t387 = true
         ·subst c64
          have H1 : ((laws_heldIntS.f kj22 t372 1).bind fun t388 => (if t388 < 0 then (some false) else (if t388 = t371 then (some true) else (some false)))) = some r := by rw [if_pos rfl] at H; exact H
          clear H; have H := H1; clear H1
          replace H := Option.bind_eq_some_iff.mp H
          obtain ⟨t388, A650, H⟩ := H
          (try dsimp only at H)
          have A65 := aM_ A650; clear A650
          by_cases c66 : t388 < 0
          ·rw [if_pos c66] at H
           have c66b0 : decide (t388 < 0) = true := decide_eq_true c66
           clear c66
           exact absurd ((Option.some.inj H).trans HTRUE.out) (by decide)
          ·rw [if_neg c66] at H
           have c66b0 : decide (t388 < 0) = false := decide_eq_false c66
           clear c66
           by_cases c67 : t388 = t371
           ·rw [if_pos c67] at H
            have c67b0 : (t388 == t371) = true := beq_iff_eq.mpr c67
            have c67b1 : (t388 != t371) = false := bne_eq_false_iff_eq.mpr c67
            clear c67
            obtain rfl := Option.some.inj H
            try go_wp2_with (first | ((with_reducible refine gate_callee (f := 39) rfl ?_); refine goesL_ (some 55) rfl rfl Try.func39 (by kernel_rfl) rfl #[.slice Ao45 t358.length co45, .int .i64 1] rfl (by (try simp only [List.map_toArray, List.map_cons, List.map_nil]); first | done | rfl | (simp only [List.length_drop, List.length_take]; rfl)) ?_; (with_reducible refine (laws_markIntS.calls kj22 (fun k_ => some k_ = (.slice Ao45 t358.length co45 : Value).ownBlock) (.slice Ao45 t358.length co45) t358 1 t371 t372 w _ ?side1 ?side2 A56.out).mono ?_); (case side1 => repeat (first | (with_reducible first | exact HB.out | apply wA_ | apply wN_ | apply wD_ | refine wE_ ?_ GE331.out | refine wE_ ?_ GE332.out) | exact HB.out)); (case side2 => exact Kd.R_tight rfl HO_10.out); rintro e w68 ⟨rfl, hy0, hb, hkp⟩; refine ⟨_, rfl, ?_⟩; have n0_ := aM_ (Kd.R_mono (ok' := fun k_ => some k_ ≠ (.slice Ao45 t358.length co45 : Value).ownBlock) (Kd.R_keptB (HO_8.out) hkp (fun k_ hk_ hs_ => (hk_) hs_)) (fun k_ hk_ => hk_.1)); have n1_ := aM_ (Kd.R_reok rfl hy0 (fun k_ e_ => HO_10.out.1 k_ e_)); have n2_ := aM_ (blk_kept (by (with_reducible repeat (first | refine bN_ ?_ _ | refine bD_ ?_ | refine bA_ ?_ _)); exact BK331.out) hkp (fun hs_ => (fun e_ => (Kd.R_ne HO_10.out BK331.out (by decide)) e_) hs_)); have n3_ := aM_ (blk_kept (by (with_reducible repeat (first | refine bN_ ?_ _ | refine bD_ ?_ | refine bA_ ?_ _)); exact BK332.out) hkp (fun hs_ => (fun e_ => (Kd.R_ne HO_10.out BK332.out (by decide)) e_) hs_)); have n4_ := aM_ (hb); clear HO_8; clear HO_10; clear BK331; clear BK332; clear HB; have HO_8 := n0_; have HO_10 := n1_; have BK331 := n2_; have BK332 := n3_; have HB := n4_; clear n0_ n1_ n2_ n3_ n4_; (try clear hb); (try clear hkp); (try clear hy0)) | ((with_reducible refine gate_callee (f := 41) rfl ?_); refine goesL_ (some 58) rfl rfl Try.func41 (by kernel_rfl) rfl #[.slice Ao45 t372.length co45, .int .i64 1] rfl (by (try simp only [List.map_toArray, List.map_cons, List.map_nil]); first | done | (rw [show t372.length = t358.length from (Kd.R_reads' HO_10.out).1.symm] <;> rfl) | rfl | (simp only [List.length_drop, List.length_take]; rfl)) ?_; (with_reducible refine (laws_heldIntS.calls kj22 _ _ t372 1 t373 _ ?side1 ?side2 A57.out).mono ?_); (case side1 => repeat (first | exact (Kd.R_reads' HO_10.out).2.2 | (with_reducible refine cA_ ?_ _) | (with_reducible refine cN_ ?_ _) | (with_reducible refine cD_ ?_))); (case side2 => rw [show t372.length = t358.length from (Kd.R_reads' HO_10.out).1.symm]; exact (Kd.R_reads' HO_10.out).2.1); rintro e w' ⟨rfl, ⟨nd, rfl⟩⟩; refine ⟨_, rfl, ?_⟩))
            (try (rw [drewN_self w68]; generalize hq_ : World.drewN w68 _ = w68; have n0_ : Aside0 (Kd.R (Kd.int .i64) 3 w68 w.heap.size (fun k_ => some k_ ≠ (.slice Ao46 t344.length co46 : Value).ownBlock) (.slice Ao45 t358.length co45) t372) := ⟨by rw [← hq_]; exact (by (with_reducible repeat (first | apply rA_ | apply rN_ | apply rD_)); exact HO_10.out)⟩; have n1_ : Aside0 (Kd.R (Kd.int .i64) 3 w68 w.heap.size (fun k_ => some k_ ≠ (.slice Ao45 t358.length co45 : Value).ownBlock) (.slice Ao46 t344.length co46) t344) := ⟨by rw [← hq_]; exact (by (with_reducible repeat (first | apply rA_ | apply rN_ | apply rD_)); exact HO_8.out)⟩; have n2_ : Aside0 (w68.heap[gb331]? = some (.cells #[.int .i64 a0_0, .int .i64 a0_1, .int .i64 a0_2, .slice A0_3 l0_3.length c0_3] 27 (0, 0))) := ⟨by rw [← hq_]; exact (by (with_reducible repeat (first | refine bN_ ?_ _ | refine bD_ ?_ | refine bA_ ?_ _)); exact BK331.out)⟩; have n3_ : Aside0 (w68.heap[gb332]? = some (.cells #[.int .i64 a2_0, .int .i64 a2_1, .int .i64 a2_2, .int .i64 a2_3] 87 (0, 0))) := ⟨by rw [← hq_]; exact (by (with_reducible repeat (first | refine bN_ ?_ _ | refine bD_ ?_ | refine bA_ ?_ _)); exact BK332.out)⟩; have n4_ : Aside0 (Below w.heap.size w w68) := ⟨by rw [← hq_]; exact (by repeat (first | (with_reducible first | exact HB.out | apply wA_ | apply wN_ | apply wD_ | refine wE_ ?_ GE331.out | refine wE_ ?_ GE332.out) | exact HB.out))⟩; clear HO_10 HO_8 BK331 BK332 HB hq_; have HO_10 := n0_; have HO_8 := n1_; have BK331 := n2_; have BK332 := n3_; have HB := n4_; clear n0_ n1_ n2_ n3_ n4_))
            have n0_ := aM_ (rD_ HO_8.out); have n1_ := aM_ (rD_ HO_10.out); have n2_ := aM_ (bD_ BK331.out); have n3_ := aM_ (bD_ BK332.out); have n4_ := aM_ (wD_ HB.out); clear HO_8 HO_10 BK331 BK332 HB; have HO_8 := n0_; have HO_10 := n1_; have BK331 := n2_; have BK332 := n3_; have HB := n4_; clear n0_ n1_ n2_ n3_ n4_
            refine start_ (n := 7) (S := fun w' => w'.cell? ⟨gb331, 0, none⟩ = some (.int .i64 a0_0) ∧ w'.cell? ⟨gb331, 1, none⟩ = some (.int .i64 a0_1) ∧ w'.cell? ⟨gb331, 2, none⟩ = some (.int .i64 a0_2) ∧ w'.cell? ⟨gb331, 3, none⟩ = some (.slice A0_3 l0_3.length c0_3) ∧ w'.cell? ⟨gb332, 0, none⟩ = some (.int .i64 a2_0) ∧ w'.cell? ⟨gb332, 1, none⟩ = some (.int .i64 a2_1) ∧ w'.cell? ⟨gb332, 2, none⟩ = some (.int .i64 a2_2) ∧ w'.cell? ⟨gb332, 3, none⟩ = some (.int .i64 a2_3)) (ds := []) #[false, false, false, false, false, false, false] (by kernel_rfl) rfl rfl ⟨(blk_cell BK331.out 0).trans rfl, (blk_cell BK331.out 1).trans rfl, (blk_cell BK331.out 2).trans rfl, (blk_cell BK331.out 3).trans rfl, (blk_cell BK332.out 0).trans rfl, (blk_cell BK332.out 1).trans rfl, (blk_cell BK332.out 2).trans rfl, (blk_cell BK332.out 3).trans rfl⟩ (fun hHeld => ?_)
            generalize w68.drew = w69 at HO_8 HO_10 BK331 BK332 HB hHeld ⊢
            refine pure_ (i := 2) (N := some 66) (v := ?_) (a' := ?_) #[false, false, true, false, false, false, false] rfl rfl (by kernel_rfl) (fun _ _ _ h => h) (Or.inl ⟨by rfl, ?_⟩) ?_ ?_
            rotate_left
            ·intro w'
             go_simp
             with_reducible rfl
            rotate_left
            ·simp only [Act.put, List.setIfInBounds_toArray, List.set_cons_zero, List.set_cons_succ, i64_w, i32_w]
             rfl
            refine take_ (i := 0) (N := some 64) (v := ?_) (a' := ?_) #[true, false, true, false, false, false, false] rfl rfl (by kernel_rfl) (fun _ _ _ h => h) (Or.inl ⟨by rfl, ?_⟩) hHeld ?_ ?_
            rotate_left
            ·rintro w' ⟨s0, s1, s2, s3, s4, s5, s6, s7⟩
             go_simp
             with_reducible rfl
            rotate_left
            ·simp only [Act.put, List.setIfInBounds_toArray, List.set_cons_zero, List.set_cons_succ, i64_w, i32_w]
             rfl
            refine take_ (i := 3) (N := some 67) (v := ?_) (a' := ?_) #[true, false, true, true, false, false, false] rfl rfl (by kernel_rfl) (fun _ _ _ h => h) (Or.inl ⟨by rfl, ?_⟩) hHeld ?_ ?_
            rotate_left
            ·rintro w' ⟨s0, s1, s2, s3, s4, s5, s6, s7⟩
             go_simp
             with_reducible rfl
            rotate_left
            ·simp only [Act.put, List.setIfInBounds_toArray, List.set_cons_zero, List.set_cons_succ, i64_w, i32_w]
             rfl
            refine one_ (i := 1) (N := some 65) #[true, true, true, true, false, false, false] rfl rfl (by kernel_rfl) (by decide) (fun K hK => ?_)
            refine goes_ Try.func19 (by kernel_rfl) rfl #[.agg #[.int .i64 a0_0, .int .i64 a0_1, .int .i64 a0_2, .slice A0_3 l0_3.length c0_3]] (by rfl) rfl rfl (by (try simp only [List.map_toArray, List.map_cons, List.map_nil]); first | done | rfl | (simp only [List.length_drop, List.length_take]; rfl)) ?_
            with_reducible refine (laws_toProgram.calls kj22 a0_0 a0_1 a0_2 _ _ l0_3 t374 t375 t376 t377 _ ?side1 ?side2 A60.out).mono ?_
            (case side1 => repeat (first | exact (Kd.C_below HR0_3.out HB.out) | (with_reducible refine cA_ ?_ _) | (with_reducible refine cN_ ?_ _) | (with_reducible refine cD_ ?_)))
            (case side2 => exact HC0_3.out)
            rintro e w70 ⟨v378, rfl, ho0, hb⟩
            refine ⟨_, rfl, ?_⟩
            have n0_ := aM_ (rB_ (by (with_reducible repeat (first | apply rA_ | apply rN_ | apply rD_)); exact HO_8.out) hb); have n1_ := aM_ (rB_ (by (with_reducible repeat (first | apply rA_ | apply rN_ | apply rD_)); exact HO_10.out) hb); have n2_ := aM_ (Kd.R_lower (Kd.R_new' (Kd.R_new' ho0 (Kd.R_lt (by (with_reducible repeat (first | apply rA_ | apply rN_ | apply rD_)); exact HO_8.out))) (Kd.R_lt (by (with_reducible repeat (first | apply rA_ | apply rN_ | apply rD_)); exact HO_10.out))) (sZ_ (by repeat (first | (with_reducible first | exact HB.out | apply wA_ | apply wN_ | apply wD_ | refine wE_ ?_ GE331.out | refine wE_ ?_ GE332.out) | exact HB.out)))); have n3_ := aM_ (bB_ (g := gb331) (by (with_reducible repeat (first | refine bN_ ?_ _ | refine bD_ ?_ | refine bA_ ?_ _)); exact BK331.out) hb); have n4_ := aM_ (bB_ (g := gb332) (by (with_reducible repeat (first | refine bN_ ?_ _ | refine bD_ ?_ | refine bA_ ?_ _)); exact BK332.out) hb); have n5_ := aM_ (wS_ (by repeat (first | (with_reducible first | exact HB.out | apply wA_ | apply wN_ | apply wD_ | refine wE_ ?_ GE331.out | refine wE_ ?_ GE332.out) | exact HB.out)) hb); clear HO_8 HO_10 BK331 BK332 HB; have HO_8 := n0_; have HO_10 := n1_; have HO379 := n2_; have BK331 := n3_; have BK332 := n4_; have HB := n5_; clear n0_ n1_ n2_ n3_ n4_ n5_; (try clear hb); (try clear hb2); (try clear hk); (try clear hi); (try clear ho0)
            refine hK.out _ _ ⟨(blk_cell BK331.out 0).trans rfl, (blk_cell BK331.out 1).trans rfl, (blk_cell BK331.out 2).trans rfl, (blk_cell BK331.out 3).trans rfl, (blk_cell BK332.out 0).trans rfl, (blk_cell BK332.out 1).trans rfl, (blk_cell BK332.out 2).trans rfl, (blk_cell BK332.out 3).trans rfl⟩ (fun hHeld => ?_)
            clear hK K
            refine norm_ (a' := ?_) ?_ ?_
            rotate_left
            ·show Act.put _ (some 65) _ = _
             simp only [Act.put, List.setIfInBounds_toArray, List.set_cons_zero, List.set_cons_succ, i64_w, i32_w]
             rfl
            refine one_ (i := 4) (N := some 68) #[true, true, true, true, true, false, false] rfl rfl (by kernel_rfl) (by decide) (fun K hK => ?_)
            refine goes_ Try.func63 (by kernel_rfl) rfl #[.agg #[.int .i64 a2_0, .int .i64 a2_1, .int .i64 a2_2, .int .i64 a2_3]] (by rfl) rfl rfl (by (try simp only [List.map_toArray, List.map_cons, List.map_nil]); first | done | rfl | (simp only [List.length_drop, List.length_take]; rfl)) ?_
            with_reducible refine (laws_toFlow.calls a2_0 a2_1 a2_2 a2_3 t380 t381 t382 t383 _ A61.out).mono ?_
            rintro e w71 ⟨rfl, hb⟩
            refine ⟨_, rfl, ?_⟩
            have n0_ := aM_ (rB_ (by (with_reducible repeat (first | apply rA_ | apply rN_ | apply rD_)); exact HO_8.out) hb); have n1_ := aM_ (rB_ (by (with_reducible repeat (first | apply rA_ | apply rN_ | apply rD_)); exact HO_10.out) hb); have n2_ := aM_ (rB_ (by (with_reducible repeat (first | apply rA_ | apply rN_ | apply rD_)); exact HO379.out) hb); have n3_ := aM_ (bB_ (g := gb331) (by (with_reducible repeat (first | refine bN_ ?_ _ | refine bD_ ?_ | refine bA_ ?_ _)); exact BK331.out) hb); have n4_ := aM_ (bB_ (g := gb332) (by (with_reducible repeat (first | refine bN_ ?_ _ | refine bD_ ?_ | refine bA_ ?_ _)); exact BK332.out) hb); have n5_ := aM_ (wS_ (by repeat (first | (with_reducible first | exact HB.out | apply wA_ | apply wN_ | apply wD_ | refine wE_ ?_ GE331.out | refine wE_ ?_ GE332.out) | exact HB.out)) hb); clear HO_8 HO_10 HO379 BK331 BK332 HB; have HO_8 := n0_; have HO_10 := n1_; have HO379 := n2_; have BK331 := n3_; have BK332 := n4_; have HB := n5_; clear n0_ n1_ n2_ n3_ n4_ n5_; (try clear hb); (try clear hb2); (try clear hk); (try clear hi)
            obtain ⟨Ao72, co72, eo72⟩ := Kd.R_slice HO379.out
            (first | subst eo72 | (injection eo72 with f1_ f2_ f3_; have f4_ := f1_.symm; have f5_ := f3_.symm; clear f1_ f2_ f3_; subst f4_; subst f5_))
            refine hK.out _ _ ⟨(blk_cell BK331.out 0).trans rfl, (blk_cell BK331.out 1).trans rfl, (blk_cell BK331.out 2).trans rfl, (blk_cell BK331.out 3).trans rfl, (blk_cell BK332.out 0).trans rfl, (blk_cell BK332.out 1).trans rfl, (blk_cell BK332.out 2).trans rfl, (blk_cell BK332.out 3).trans rfl⟩ (fun hHeld => ?_)
            clear hK K
            refine norm_ (a' := ?_) ?_ ?_
            rotate_left
            ·show Act.put _ (some 68) _ = _
             simp only [Act.put, List.setIfInBounds_toArray, List.set_cons_zero, List.set_cons_succ, i64_w, i32_w]
             rfl
            refine one_ (i := 5) (N := some 69) #[true, true, true, true, true, true, false] rfl rfl (by kernel_rfl) (by decide) (fun K hK => ?_)
            refine goes_ Try.func64 (by kernel_rfl) rfl #[.agg #[.int .i64 t374, .int .i64 t375, .int .i64 t376, .slice Ao72 t377.length co72], .int .i64 a1, .agg #[.int .i64 t380, .int .i64 t381, .int .i64 t382, .int .i64 t383]] (by rfl) rfl rfl (by (try simp only [List.map_toArray, List.map_cons, List.map_nil]); first | done | rfl | (simp only [List.length_drop, List.length_take]; rfl)) ?_
            with_reducible refine (impl_RouteIn.calls kj22 t374 t375 t376 _ _ t377 a1 t380 t381 t382 t383 t384 _ ?side1 ?side2 A62.out).mono ?_
            (case side1 => repeat (first | exact (Kd.R_reads' HO379.out).2.2 | (with_reducible refine cA_ ?_ _) | (with_reducible refine cN_ ?_ _) | (with_reducible refine cD_ ?_)))
            (case side2 => exact (Kd.R_reads' HO379.out).2.1)
            rintro e w73 ⟨v385, rfl, ho0, hb⟩
            refine ⟨_, rfl, ?_⟩
            have n0_ := aM_ (Kd.R_elder' (by (with_reducible repeat (first | apply rA_ | apply rN_ | apply rD_)); exact HO_8.out) (Kd.R_base ho0) hb); have n1_ := aM_ (Kd.R_elder' (by (with_reducible repeat (first | apply rA_ | apply rN_ | apply rD_)); exact HO_10.out) (Kd.R_base ho0) hb); have n2_ := aM_ (Kd.R_elder' (by (with_reducible repeat (first | apply rA_ | apply rN_ | apply rD_)); exact HO379.out) (Kd.R_base ho0) hb); have n3_ := aM_ (Kd.R_lower (Kd.R_new' (Kd.R_new' ho0 (Kd.R_lt (by (with_reducible repeat (first | apply rA_ | apply rN_ | apply rD_)); exact HO_8.out))) (Kd.R_lt (by (with_reducible repeat (first | apply rA_ | apply rN_ | apply rD_)); exact HO_10.out))) (sZ_ (by repeat (first | (with_reducible first | exact HB.out | apply wA_ | apply wN_ | apply wD_ | refine wE_ ?_ GE331.out | refine wE_ ?_ GE332.out) | exact HB.out)))); have n4_ := aM_ (bB_ (g := gb331) (by (with_reducible repeat (first | refine bN_ ?_ _ | refine bD_ ?_ | refine bA_ ?_ _)); exact BK331.out) hb); have n5_ := aM_ (bB_ (g := gb332) (by (with_reducible repeat (first | refine bN_ ?_ _ | refine bD_ ?_ | refine bA_ ?_ _)); exact BK332.out) hb); have n6_ := aM_ (wS_ (by repeat (first | (with_reducible first | exact HB.out | apply wA_ | apply wN_ | apply wD_ | refine wE_ ?_ GE331.out | refine wE_ ?_ GE332.out) | exact HB.out)) hb); clear HO_8 HO_10 HO379 BK331 BK332 HB; have HO_8 := n0_; have HO_10 := n1_; have HO379 := n2_; have HO386 := n3_; have BK331 := n4_; have BK332 := n5_; have HB := n6_; clear n0_ n1_ n2_ n3_ n4_ n5_ n6_; (try clear hb); (try clear hb2); (try clear hk); (try clear hi); (try clear ho0)
            refine hK.out _ _ ⟨(blk_cell BK331.out 0).trans rfl, (blk_cell BK331.out 1).trans rfl, (blk_cell BK331.out 2).trans rfl, (blk_cell BK331.out 3).trans rfl, (blk_cell BK332.out 0).trans rfl, (blk_cell BK332.out 1).trans rfl, (blk_cell BK332.out 2).trans rfl, (blk_cell BK332.out 3).trans rfl⟩ (fun hHeld => ?_)
            clear hK K
            refine norm_ (a' := ?_) ?_ ?_
            rotate_left
            ·show Act.put _ (some 69) _ = _
             simp only [Act.put, List.setIfInBounds_toArray, List.set_cons_zero, List.set_cons_succ, i64_w, i32_w]
             rfl
            refine pure_ (i := 6) (N := some 14) (v := ?_) (a' := ?_) #[true, true, true, true, true, true, true] rfl rfl (by kernel_rfl) (fun _ _ _ h => h) (Or.inl ⟨by rfl, ?_⟩) ?_ ?_
            rotate_left
            ·intro w'
             go_simp
             with_reducible rfl
            rotate_left
            ·simp only [Act.put, List.setIfInBounds_toArray, List.set_cons_zero, List.set_cons_succ, i64_w, i32_w]
             rfl
            refine done_ (by kernel_rfl) ?_
            obtain ⟨Ao74, co74, eo74⟩ := Kd.R_slice HO386.out
            subst eo74
            try go_wp2_with (first | ((with_reducible refine gate_callee (f := 37) rfl ?_); refine goesL_ (some 72) rfl rfl Try.func37 (by kernel_rfl) rfl #[.slice Ao74 t384.length co74, .slice Ao46 t344.length co46] rfl (by (try simp only [List.map_toArray, List.map_cons, List.map_nil]); first | done | rfl | (simp only [List.length_drop, List.length_take]; rfl)) ?_; (with_reducible refine (laws_eqIntS.calls kj22 _ _ t384 _ _ t344 true _ ?side1 ?side2 ?side3 ?side4 A63.out).mono ?_); (case side1 => repeat (first | exact (Kd.R_reads' HO386.out).2.2 | (with_reducible refine cA_ ?_ _) | (with_reducible refine cN_ ?_ _) | (with_reducible refine cD_ ?_))); (case side2 => exact (Kd.R_reads' HO386.out).2.1); (case side3 => repeat (first | exact (Kd.R_reads' HO_8.out).2.2 | (with_reducible refine cA_ ?_ _) | (with_reducible refine cN_ ?_ _) | (with_reducible refine cD_ ?_))); (case side4 => exact (Kd.R_reads' HO_8.out).2.1); rintro e w' ⟨rfl, ⟨nd, rfl⟩⟩; refine ⟨_, rfl, ?_⟩) | ((with_reducible refine gate_callee (f := 41) rfl ?_); refine goesL_ (some 76) rfl rfl Try.func41 (by kernel_rfl) rfl #[.slice Ao45 t372.length co45, .int .i64 1] rfl (by (try simp only [List.map_toArray, List.map_cons, List.map_nil]); first | done | (rw [show t372.length = t358.length from (Kd.R_reads' HO_10.out).1.symm] <;> rfl) | rfl | (simp only [List.length_drop, List.length_take]; rfl)) ?_; (with_reducible refine (laws_heldIntS.calls kj22 _ _ t372 1 t388 _ ?side1 ?side2 A65.out).mono ?_); (case side1 => repeat (first | exact (Kd.R_reads' HO_10.out).2.2 | (with_reducible refine cA_ ?_ _) | (with_reducible refine cN_ ?_ _) | (with_reducible refine cD_ ?_))); (case side2 => rw [show t372.length = t358.length from (Kd.R_reads' HO_10.out).1.symm]; exact (Kd.R_reads' HO_10.out).2.1); rintro e w' ⟨rfl, ⟨nd, rfl⟩⟩; refine ⟨_, rfl, ?_⟩))
            go_ret
            exact ⟨by first | rfl | (simp [errW_none, errW_some] <;> rfl) | (simp [*, errW_none, errW_some] <;> rfl), by repeat (first | (with_reducible first | exact HB.out | apply wA_ | apply wN_ | apply wD_ | refine wE_ ?_ GE331.out | refine wE_ ?_ GE332.out) | exact HB.out)⟩
           ·rw [if_neg c67] at H
            have c67b0 : (t388 == t371) = false := beq_eq_false_iff_ne.mpr c67
            have c67b1 : (t388 != t371) = true := bne_iff_ne.mpr c67
            exact absurd ((Option.some.inj H).trans HTRUE.out) (by decide)
         ·replace c64 := Bool.eq_false_iff.mpr c64
          subst c64
          have H1 : (some false) = some r := by rw [if_neg (show ¬ (false = true) by decide)] at H; exact H
          clear H; have H := H1; clear H1
          exact absurd ((Option.some.inj H).trans HTRUE.out) (by decide)
        ·rw [if_neg c59] at H
         have c59b0 : (t373 == t371) = false := beq_eq_false_iff_ne.mpr c59
         have c59b1 : (t373 != t371) = true := bne_iff_ne.mpr c59
         exact absurd ((Option.some.inj H).trans HTRUE.out) (by decide)
   ·replace c21 := Bool.eq_false_iff.mpr c21
    subst c21
    have H1 : (some false) = some r := by rw [if_neg (show ¬ (false = true) by decide)] at H; exact H
    clear H; have H := H1; clear H1
    exact absurd ((Option.some.inj H).trans HTRUE.out) (by decide)
  ·replace c18 := Bool.eq_false_iff.mpr c18
   subst c18
   have H1 : (some false) = some r := by rw [if_neg (show ¬ (false = true) by decide)] at H; exact H
   clear H; have H := H1; clear H1
   exact absurd ((Option.some.inj H).trans HTRUE.out) (by decide)

end Go.Proofs.Ytegkplalnljgjaa.PFnExactRouteIn
