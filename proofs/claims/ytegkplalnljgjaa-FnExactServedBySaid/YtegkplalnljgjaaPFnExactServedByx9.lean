/- The functions that the law reaches, as plain Lean functions, each with the proof that the Go code comes to its answers; conditions: those that each theorem names. (printed by a program of this session) -/
import Derived.Test.YtegkplalnljgjaaPFnExactServedByx0
import Derived.Test.YtegkplalnljgjaaPFnExactServedByx8
namespace Go.Proofs.Ytegkplalnljgjaa.PFnExactServedBy
open Go.RowKit Go.Proofs.YtegkplalnljgjaaW.PrintWords Go.Proofs.YtegkplalnljgjaaW.PrintLast Go.Proofs.YtegkplalnljgjaaW.PrintMore
attribute [local go_sem] max2_int min2_int max_two min_two max_three min_three max_four min_four   -- for this text's walks alone
set_option linter.unusedVariables false
set_option linter.unusedSimpArgs false

/-! ### impl_LandingFor: function 45 -/
mutual
def impl_LandingFor.l0 : Nat → Int → Int → Int → Int → List Int → Int → Int → Int → Int → Int → List (S119) → Option (Int)
  | 0, _, _, _, _, _, _, _, _, _, _, _ => none
  | k + 1, x2, x9, x10, x11, x21, x22, x23, x306000, x306001, x306002, x306003 => if x23 < x22 then (if 0 ≤ x23 then (if x23 < (x21.length : Int) then ((impl_TableIn.f x306000 x306001 x306002 x306003 x11 (rd x21 x23)).bind fun bt308 => (if bt308.2.2.2 = true then ((impl_isIndex.f x2 (bt308.2.1.length : Int)).bind fun t317 => (if t317 = true then (if 0 ≤ x2 then (if x2 < (bt308.2.1.length : Int) then (impl_LandingFor.j1 k x2 x9 x10 x11 (rd x21 x23) x21 x22 x23 (decide ((rd bt308.2.1 x2) < 0)) x306000 x306001 x306002 x306003 bt308.1 bt308.2.1 bt308.2.2.1) else (none)) else (none)) else (impl_LandingFor.j1 k x2 x9 x10 x11 (rd x21 x23) x21 x22 x23 true x306000 x306001 x306002 x306003 bt308.1 bt308.2.1 bt308.2.2.1))) else (impl_LandingFor.j1 k x2 x9 x10 x11 (rd x21 x23) x21 x22 x23 true x306000 x306001 x306002 x306003 bt308.1 bt308.2.1 bt308.2.2.1))) else (none)) else (none)) else (some x9)
def impl_LandingFor.j1 : Nat → Int → Int → Int → Int → Int → List Int → Int → Int → Bool → Int → Int → Int → List (S119) → Int → List Int → List Int → Option (Int)
  | 0, _, _, _, _, _, _, _, _, _, _, _, _, _, _, _, _ => none
  | k + 1, x2, x9, x10, x11, x13, x21, x22, x23, x51, x306000, x306001, x306002, x306003, x317000, x317001, x317002 => if x51 = true then (impl_LandingFor.l0 k x2 x9 x10 x11 x21 x22 (wrap64 (x23 + 1)) x306000 x306001 x306002 x306003) else (if 0 ≤ x2 then (if x2 < (x317001.length : Int) then (if x9 < 0 then (impl_LandingFor.l0 k x2 x13 (rd x317001 x2) x11 x21 x22 (wrap64 (x23 + 1)) x306000 x306001 x306002 x306003) else (if (rd x317001 x2) < x10 then (impl_LandingFor.l0 k x2 x13 (rd x317001 x2) x11 x21 x22 (wrap64 (x23 + 1)) x306000 x306001 x306002 x306003) else (if (rd x317001 x2) = x10 then (if x13 < x9 then (impl_LandingFor.l0 k x2 x13 (rd x317001 x2) x11 x21 x22 (wrap64 (x23 + 1)) x306000 x306001 x306002 x306003) else (impl_LandingFor.l0 k x2 x9 x10 x11 x21 x22 (wrap64 (x23 + 1)) x306000 x306001 x306002 x306003)) else (impl_LandingFor.l0 k x2 x9 x10 x11 x21 x22 (wrap64 (x23 + 1)) x306000 x306001 x306002 x306003)))) else (none)) else (none))
end
def impl_LandingFor.f (k : Nat) (l0_0 : List Int) (a1_0 : Int) (a1_1 : Int) (a1_2 : Int) (l1_3 : List (S119)) (a2 : Int) (a3 : Int) : Option (Int) := (impl_PieceAt.f a1_0 a1_1 a1_2 l1_3 a3).bind fun t306 => (impl_LandingFor.l0 k a2 (-1) 0 t306 l0_0 (l0_0.length : Int) 0 a1_0 a1_1 a1_2 l1_3)
theorem impl_LandingFor.mono_l : ∀ k, (∀ y0 y1 y2 y3 y4 y5 y6 y7 y8 y9 y10, LeO (impl_LandingFor.l0 k y0 y1 y2 y3 y4 y5 y6 y7 y8 y9 y10) (impl_LandingFor.l0 (k + 1) y0 y1 y2 y3 y4 y5 y6 y7 y8 y9 y10)) ∧ (∀ y0 y1 y2 y3 y4 y5 y6 y7 y8 y9 y10 y11 y12 y13 y14 y15, LeO (impl_LandingFor.j1 k y0 y1 y2 y3 y4 y5 y6 y7 y8 y9 y10 y11 y12 y13 y14 y15) (impl_LandingFor.j1 (k + 1) y0 y1 y2 y3 y4 y5 y6 y7 y8 y9 y10 y11 y12 y13 y14 y15))
  | 0 => ⟨fun _ _ _ _ _ _ _ _ _ _ _ r h => by simp [impl_LandingFor.l0] at h, fun _ _ _ _ _ _ _ _ _ _ _ _ _ _ _ _ r h => by simp [impl_LandingFor.j1] at h⟩
  | k + 1 => by
    obtain ⟨ih0, ih1⟩ := impl_LandingFor.mono_l k
    refine ⟨?_, ?_⟩
    · intro y0 y1 y2 y3 y4 y5 y6 y7 y8 y9 y10
      unfold impl_LandingFor.l0
      repeat' first
      | (with_reducible exact ih0 _ _ _ _ _ _ _ _ _ _ _)
      | (with_reducible exact ih1 _ _ _ _ _ _ _ _ _ _ _ _ _ _ _ _)
      | (with_reducible exact LeO.refl _)
      | (with_reducible exact LeO.none _)
      | (with_reducible refine LeO.ite ?_ ?_)
      | (with_reducible refine LeO.bind ?_ (fun _ => ?_))
      | exact ih0 _ _ _ _ _ _ _ _ _ _ _
      | exact ih1 _ _ _ _ _ _ _ _ _ _ _ _ _ _ _ _
      | exact LeO.none _
      | refine LeO.ite ?_ ?_
      | refine LeO.bind ?_ (fun _ => ?_)
    · intro y0 y1 y2 y3 y4 y5 y6 y7 y8 y9 y10 y11 y12 y13 y14 y15
      unfold impl_LandingFor.j1
      repeat' first
      | (with_reducible exact ih0 _ _ _ _ _ _ _ _ _ _ _)
      | (with_reducible exact ih1 _ _ _ _ _ _ _ _ _ _ _ _ _ _ _ _)
      | (with_reducible exact LeO.refl _)
      | (with_reducible exact LeO.none _)
      | (with_reducible refine LeO.ite ?_ ?_)
      | (with_reducible refine LeO.bind ?_ (fun _ => ?_))
      | exact ih0 _ _ _ _ _ _ _ _ _ _ _
      | exact ih1 _ _ _ _ _ _ _ _ _ _ _ _ _ _ _ _
      | exact LeO.none _
      | refine LeO.ite ?_ ?_
      | refine LeO.bind ?_ (fun _ => ?_)
theorem impl_LandingFor.mono : ∀ a0 a1 a2 a3 a4 a5 a6 k, LeO (impl_LandingFor.f k a0 a1 a2 a3 a4 a5 a6) (impl_LandingFor.f (k + 1) a0 a1 a2 a3 a4 a5 a6) := by
  intro a0 a1 a2 a3 a4 a5 a6 k
  obtain ⟨ih0, ih1⟩ := impl_LandingFor.mono_l k
  unfold impl_LandingFor.f
  repeat' first
      | (with_reducible exact ih0 _ _ _ _ _ _ _ _ _ _ _)
      | (with_reducible exact ih1 _ _ _ _ _ _ _ _ _ _ _ _ _ _ _ _)
      | (with_reducible exact LeO.refl _)
      | (with_reducible exact LeO.none _)
      | (with_reducible refine LeO.ite ?_ ?_)
      | (with_reducible refine LeO.bind ?_ (fun _ => ?_))
      | exact ih0 _ _ _ _ _ _ _ _ _ _ _
      | exact ih1 _ _ _ _ _ _ _ _ _ _ _ _ _ _ _ _
      | exact LeO.none _
      | refine LeO.ite ?_ ?_
      | refine LeO.bind ?_ (fun _ => ?_)
set_option maxHeartbeats 8000000 in
set_option maxRecDepth 100000 in
theorem impl_LandingFor.calls (k : Nat) (A0_0 : Option Addr) (c0_0 : Nat) (l0_0 : List Int) (a1_0 : Int) (a1_1 : Int) (a1_2 : Int) (A1_3 : Option Addr) (c1_3 : Nat) (l1_3 : List (S119)) (a2 : Int) (a3 : Int) (r : Int) (w : World) (hr0_0 : Kd.C (Kd.int .i64) w A0_0 l0_0.length l0_0) (hc0_0 : l0_0.length ≤ c0_0) (hr1_3 : Kd.C k119 w A1_3 l1_3.length l1_3) (hc1_3 : l1_3.length ≤ c1_3) (h : impl_LandingFor.f k l0_0 a1_0 a1_1 a1_2 l1_3 a2 a3 = some r) :
  Calls Try.prog 45 #[.agg #[.slice A0_0 l0_0.length c0_0], .agg #[.int .i64 a1_0, .int .i64 a1_1, .int .i64 a1_2, .slice A1_3 l1_3.length c1_3], .int .i64 a2, .int .i64 a3] w fun e w' => e = .returned (.int .i64 r) ∧ Below w.heap.size w w' := by
 have hu31 := Try.underlying31; have hu35 := Try.underlying35; have hu80 := Try.underlying80; have HR0_0 := aM_ hr0_0; have HC0_0 := aM_ hc0_0; clear hr0_0 hc0_0; have HR1_3 := aM_ hr1_3; have HC1_3 := aM_ hc1_3; clear hr1_3 hc1_3; have HB := aM_ (Below.refl w.heap.size w)
 have H : ((impl_PieceAt.f a1_0 a1_1 a1_2 l1_3 a3).bind fun t306 => (impl_LandingFor.l0 k a2 (-1) 0 t306 l0_0 (l0_0.length : Int) 0 a1_0 a1_1 a1_2 l1_3)) = some r := h
 clear h
 replace H := Option.bind_eq_some_iff.mp H
 obtain ⟨t306, A50, H⟩ := H
 (try dsimp only at H)
 have A5 := aM_ A50; clear A50
 have H' := aM_ H
 clear H
 go_enter Try.func45, Try.ntmps45
 go_wp2_with (first | ((with_reducible refine gate_dst (N := 4) rfl ?_); (try (refine gate_guard (by rfl) ?_; dsimp only)); refine box_event ?hg (N := 4) ?hd (cs := #[.slice A0_0 l0_0.length c0_0]) (t := 31) ?hr ?_; (case hd => rfl); (case hg => rfl); (case hr => first | (go_simp; done) | (go_simp; rfl)); intro gb304 hg w6 hbox hb; have n0_ := aM_ (wS_ (by repeat (first | (with_reducible first | exact HB.out | apply wA_ | apply wN_ | apply wD_) | exact HB.out)) hb); have n1_ := aM_ (hbox); have n2_ := aM_ ((by rw [hg]; exact (sZ_ (by repeat (first | (with_reducible first | exact HB.out | apply wA_ | apply wN_ | apply wD_) | exact HB.out))) : w.heap.size ≤ gb304)); have n3_ := aM_ ((by rw [hg]; exact (sZ_ (by repeat (first | (with_reducible first | exact HB.out | apply wA_ | apply wN_ | apply wD_) | exact HB.out))) : w.heap.size ≤ gb304)); clear HB; have HB := n0_; have BK304 := n1_; have GW304 := n2_; have GE304 := n3_; clear n0_ n1_ n2_ n3_; clear hb hbox hg) | ((with_reducible refine gate_dst (N := 5) rfl ?_); (try (refine gate_guard (by rfl) ?_; dsimp only)); refine box_event ?hg (N := 5) ?hd (cs := #[.int .i64 a1_0, .int .i64 a1_1, .int .i64 a1_2, .slice A1_3 l1_3.length c1_3]) (t := 35) ?hr ?_; (case hd => rfl); (case hg => rfl); (case hr => first | (go_simp; done) | (go_simp; rfl)); intro gb305 hg w7 hbox hb; have n0_ := aM_ (bB_ (g := gb304) (by (with_reducible repeat (first | refine bN_ ?_ _ | refine bD_ ?_ | refine bA_ ?_ _)); exact BK304.out) hb); have n1_ := aM_ (wS_ (by repeat (first | (with_reducible first | exact HB.out | apply wA_ | apply wN_ | apply wD_ | refine wE_ ?_ GE304.out) | exact HB.out)) hb); have n2_ := aM_ (hbox); have n3_ := aM_ ((by rw [hg]; exact (sZ_ (by repeat (first | (with_reducible first | exact HB.out | apply wA_ | apply wN_ | apply wD_ | refine wE_ ?_ GE304.out) | exact HB.out))) : w.heap.size ≤ gb305)); have n4_ := aM_ ((by rw [hg]; exact (sZ_ (by repeat (first | (with_reducible first | exact HB.out | apply wA_ | apply wN_ | apply wD_ | refine wE_ ?_ GE304.out) | exact HB.out))) : w.heap.size ≤ gb305)); have n5_ := aM_ ((by rw [hg]; exact Nat.ne_of_lt (blk_lt (g := gb304) (by (with_reducible repeat (first | refine bN_ ?_ _ | refine bD_ ?_ | refine bA_ ?_ _)); exact BK304.out)) : gb304 ≠ gb305)); have n6_ := aM_ ((by rw [hg]; exact Nat.ne_of_gt (blk_lt (g := gb304) (by (with_reducible repeat (first | refine bN_ ?_ _ | refine bD_ ?_ | refine bA_ ?_ _)); exact BK304.out)) : gb305 ≠ gb304)); clear BK304; clear HB; have BK304 := n0_; have HB := n1_; have BK305 := n2_; have GW305 := n3_; have GE305 := n4_; have NB304_305 := n5_; have NB305_304 := n6_; clear n0_ n1_ n2_ n3_ n4_ n5_ n6_; clear hb hbox hg; have hnb8 := NB305_304.out; have hnc8 := NB304_305.out; have hcz9_0 : w7.cell? ⟨gb305, 0, none⟩ = some (.int .i64 a1_0) := (blk_cell BK305.out 0).trans rfl; have hcz9_1 : w7.cell? ⟨gb305, 1, none⟩ = some (.int .i64 a1_1) := (blk_cell BK305.out 1).trans rfl; have hcz9_2 : w7.cell? ⟨gb305, 2, none⟩ = some (.int .i64 a1_2) := (blk_cell BK305.out 2).trans rfl; have hcz9_3 : w7.cell? ⟨gb305, 3, none⟩ = some (.slice A1_3 l1_3.length c1_3) := (blk_cell BK305.out 3).trans rfl; have hfz9_0 := blk_frozen BK305.out 0; have hfz9_1 := blk_frozen BK305.out 1; have hfz9_2 := blk_frozen BK305.out 2; have hfz9_3 := blk_frozen BK305.out 3) | ((with_reducible refine gate_callee (f := 58) rfl ?_); refine goesL_ (some 19) rfl rfl Try.func58 (by kernel_rfl) rfl #[.agg #[.int .i64 a1_0, .int .i64 a1_1, .int .i64 a1_2, .slice A1_3 l1_3.length c1_3], .int .i64 a3] rfl (by (try simp only [List.map_toArray, List.map_cons, List.map_nil]); first | done | rfl | (simp only [List.length_drop, List.length_take]; rfl)) ?_; (with_reducible refine (impl_PieceAt.calls a1_0 a1_1 a1_2 _ _ l1_3 a3 t306 _ ?side1 ?side2 A5.out).mono ?_); (case side1 => repeat (first | exact (Kd.C_below HR1_3.out HB.out) | (with_reducible refine cA_ ?_ _) | (with_reducible refine cN_ ?_ _) | (with_reducible refine cD_ ?_))); (case side2 => exact HC1_3.out); rintro e w10 ⟨rfl, hb⟩; refine ⟨_, rfl, ?_⟩; have n0_ := aM_ (bB_ (g := gb304) (by (with_reducible repeat (first | refine bN_ ?_ _ | refine bD_ ?_ | refine bA_ ?_ _)); exact BK304.out) hb); have n1_ := aM_ (bB_ (g := gb305) (by (with_reducible repeat (first | refine bN_ ?_ _ | refine bD_ ?_ | refine bA_ ?_ _)); exact BK305.out) hb); have n2_ := aM_ (wS_ (by repeat (first | (with_reducible first | exact HB.out | apply wA_ | apply wN_ | apply wD_ | refine wE_ ?_ GE304.out | refine wE_ ?_ GE305.out) | exact HB.out)) hb); clear BK304; clear BK305; clear HB; have BK304 := n0_; have BK305 := n1_; have HB := n2_; clear n0_ n1_ n2_; (try clear hb); (try clear hb2); (try clear hk); (try clear hi); have hcz11_0 : w10.cell? ⟨gb304, 0, none⟩ = some (.slice A0_0 l0_0.length c0_0) := (blk_cell BK304.out 0).trans rfl; have hfz11_0 := blk_frozen BK304.out 0))
 go_loopg [9, 10, 23] k (fun kq v9 v10 v23 w' => ∃ (x9_1 : Int) (x10_1 : Int) (x23_1 : Int), v9 = .int .i64 x9_1 ∧ v10 = .int .i64 x10_1 ∧ v23 = .int .i64 x23_1 ∧ Aside0 (impl_LandingFor.l0 kq a2 x9_1 x10_1 t306 l0_0 (l0_0.length : Int) x23_1 a1_0 a1_1 a1_2 l1_3 = some r) ∧ Aside0 (kq ≤ k) ∧ Aside0 (w'.heap[gb304]? = some (.cells #[(.slice A0_0 l0_0.length c0_0)] 31 (0, 0))) ∧ Aside0 (w'.heap[gb305]? = some (.cells #[.int .i64 a1_0, .int .i64 a1_1, .int .i64 a1_2, (.slice A1_3 l1_3.length c1_3)] 35 (0, 0))) ∧ Aside0 (Below w.heap.size w w'))
 case atStart => exact ⟨((-1)), (0), (0), (by first | rfl | (simp; done) | (simp [*]; done)), (by first | rfl | (simp; done) | (simp [*]; done)), (by first | rfl | (simp; done) | (simp [*]; done)), H', ⟨Nat.le_refl _⟩, ⟨by (with_reducible repeat (first | refine bN_ ?_ _ | refine bD_ ?_ | refine bA_ ?_ _)); exact BK304.out⟩, ⟨by (with_reducible repeat (first | refine bN_ ?_ _ | refine bD_ ?_ | refine bA_ ?_ _)); exact BK305.out⟩, ⟨by repeat (first | (with_reducible first | exact HB.out | apply wA_ | apply wN_ | apply wD_ | refine wE_ ?_ GE304.out | refine wE_ ?_ GE305.out) | exact HB.out)⟩⟩
 case round =>
  clear H'
  try clear c1
  try clear p2
  try clear c4
  try clear c5
  try clear c8
  try clear hcz11_0
  try clear hcz9_0
  try clear hcz9_1
  try clear hcz9_2
  try clear hcz9_3
  try clear hfz11_0
  try clear hfz9_0
  try clear hfz9_1
  try clear hfz9_2
  try clear hfz9_3
  obtain ⟨x9_1, x10_1, x23_1, rfl, rfl, rfl, HA, HK1, BK304, BK305, HB⟩ := hrel
  cases gk with
  | zero => exact absurd HA.out (by simp [impl_LandingFor.l0])
  | succ k1 =>
   have H := HA.out; clear HA
   simp only [impl_LandingFor.l0] at H
   by_cases c12 : x23_1 < (l0_0.length : Int)
   ·rw [if_pos c12] at H
    have c12b0 : decide (x23_1 < (l0_0.length : Int)) = true := decide_eq_true c12
    clear c12
    by_cases c13 : 0 ≤ x23_1
    ·rw [if_pos c13] at H
     have c13b0 : decide (0 ≤ x23_1) = true := decide_eq_true c13
     clear c13
     by_cases c14 : x23_1 < (l0_0.length : Int)
     ·rw [if_pos c14] at H
      have c14b0 : decide (x23_1 < (l0_0.length : Int)) = true := decide_eq_true c14
      clear c14
      replace H := Option.bind_eq_some_iff.mp H
      obtain ⟨⟨t308, t309, t312, t315⟩, A150, H⟩ := H
      (try dsimp only at H)
      have A15 := aM_ A150; clear A150; have HC16 := aM_ H; clear H
      have p307 : 0 ≤ (x23_1 : Int) := of_decide_eq_true (by first | (with_reducible assumption) | assumption)
      have q307 : x23_1 < (l0_0.length : Int) := of_decide_eq_true (by first | (with_reducible assumption) | assumption)
      obtain ⟨ad307, e307, hx307_0⟩ := Kd.at_int HR0_0.out x23_1 p307 q307
      cases e307
      replace hx307_0 := (HB.out.cell (World.block_lt_of_cell? w _ hx307_0)).trans hx307_0
      replace p307 := eq_true p307; replace q307 := eq_true q307; have hnb17 := NB305_304.out; have hnc17 := NB304_305.out
      have hcz18_0 : wr.cell? ⟨gb305, 0, none⟩ = some (.int .i64 a1_0) := (blk_cell BK305.out 0).trans rfl
      have hcz18_1 : wr.cell? ⟨gb305, 1, none⟩ = some (.int .i64 a1_1) := (blk_cell BK305.out 1).trans rfl
      have hcz18_2 : wr.cell? ⟨gb305, 2, none⟩ = some (.int .i64 a1_2) := (blk_cell BK305.out 2).trans rfl
      have hcz18_3 : wr.cell? ⟨gb305, 3, none⟩ = some (.slice A1_3 l1_3.length c1_3) := (blk_cell BK305.out 3).trans rfl
      have hfz18_0 := blk_frozen BK305.out 0; have hfz18_1 := blk_frozen BK305.out 1; have hfz18_2 := blk_frozen BK305.out 2; have hfz18_3 := blk_frozen BK305.out 3
      go_upto_region 7 with (first | ((with_reducible refine gate_callee (f := 60) rfl ?_); refine goesL_ (some 31) rfl rfl Try.func60 (by kernel_rfl) rfl #[.agg #[.int .i64 a1_0, .int .i64 a1_1, .int .i64 a1_2, .slice A1_3 l1_3.length c1_3], .int .i64 t306, .int .i64 (rd l0_0 x23_1)] rfl (by (try simp only [List.map_toArray, List.map_cons, List.map_nil]); first | done | rfl | (simp only [List.length_drop, List.length_take]; rfl)) ?_; (with_reducible refine (impl_TableIn.calls a1_0 a1_1 a1_2 _ _ l1_3 t306 (rd l0_0 x23_1) t308 t309 t312 t315 _ ?side1 ?side2 A15.out).mono ?_); (case side1 => repeat (first | exact (Kd.C_below HR1_3.out HB.out) | (with_reducible refine cA_ ?_ _) | (with_reducible refine cN_ ?_ _) | (with_reducible refine cD_ ?_))); (case side2 => exact HC1_3.out); rintro e w19 ⟨v310, v313, rfl, ho0, ho1, hb⟩; refine ⟨_, rfl, ?_⟩; have n0_ := aM_ (Kd.R_lower ho0 (sZ_ (by repeat (first | (with_reducible first | exact HB.out | apply wA_ | apply wN_ | apply wD_ | refine wE_ ?_ GE304.out | refine wE_ ?_ GE305.out) | exact HB.out)))); have n1_ := aM_ (Kd.R_lower ho1 (sZ_ (by repeat (first | (with_reducible first | exact HB.out | apply wA_ | apply wN_ | apply wD_ | refine wE_ ?_ GE304.out | refine wE_ ?_ GE305.out) | exact HB.out)))); have n2_ := aM_ (bB_ (g := gb304) (by (with_reducible repeat (first | refine bN_ ?_ _ | refine bD_ ?_ | refine bA_ ?_ _)); exact BK304.out) hb); have n3_ := aM_ (bB_ (g := gb305) (by (with_reducible repeat (first | refine bN_ ?_ _ | refine bD_ ?_ | refine bA_ ?_ _)); exact BK305.out) hb); have n4_ := aM_ (wS_ (by repeat (first | (with_reducible first | exact HB.out | apply wA_ | apply wN_ | apply wD_ | refine wE_ ?_ GE304.out | refine wE_ ?_ GE305.out) | exact HB.out)) hb); clear BK304; clear BK305; clear HB; have HO311 := n0_; have HO314 := n1_; have BK304 := n2_; have BK305 := n3_; have HB := n4_; clear n0_ n1_ n2_ n3_ n4_; (try clear hb); (try clear hb2); (try clear hk); (try clear hi); (try clear ho0); (try clear ho1)) | ((with_reducible refine gate_dst (N := 14) rfl ?_); (try (refine gate_guard (by rfl) ?_; dsimp only)); refine box_event ?hg (N := 14) ?hd (cs := #[.int .i64 0, .slice none 0 0, .slice none 0 0]) (t := 80) ?hr ?_; (case hd => rfl); (case hg => rfl); (case hr => first | (go_simp; done) | (go_simp; rfl)); intro gb316 hg w20 hbox hb; have n0_ := aM_ (rB_ (by (with_reducible repeat (first | apply rA_ | apply rN_ | apply rD_)); exact HO311.out) hb); have n1_ := aM_ (rB_ (by (with_reducible repeat (first | apply rA_ | apply rN_ | apply rD_)); exact HO314.out) hb); have n2_ := aM_ (bB_ (g := gb304) (by (with_reducible repeat (first | refine bN_ ?_ _ | refine bD_ ?_ | refine bA_ ?_ _)); exact BK304.out) hb); have n3_ := aM_ (bB_ (g := gb305) (by (with_reducible repeat (first | refine bN_ ?_ _ | refine bD_ ?_ | refine bA_ ?_ _)); exact BK305.out) hb); have n4_ := aM_ (wS_ (by repeat (first | (with_reducible first | exact HB.out | apply wA_ | apply wN_ | apply wD_ | refine wE_ ?_ GE304.out | refine wE_ ?_ GE305.out) | exact HB.out)) hb); have n5_ := aM_ (hbox); have n6_ := aM_ ((by rw [hg]; exact (sZ_ (by repeat (first | (with_reducible first | exact HB.out | apply wA_ | apply wN_ | apply wD_ | refine wE_ ?_ GE304.out | refine wE_ ?_ GE305.out) | exact HB.out))) : w.heap.size ≤ gb316)); have n7_ := aM_ ((by rw [hg]; exact (sZ_ (by repeat (first | (with_reducible first | exact HB.out | apply wA_ | apply wN_ | apply wD_ | refine wE_ ?_ GE304.out | refine wE_ ?_ GE305.out) | exact HB.out))) : w.heap.size ≤ gb316)); have n8_ := aM_ ((by rw [hg]; exact Nat.ne_of_lt (blk_lt (g := gb304) (by (with_reducible repeat (first | refine bN_ ?_ _ | refine bD_ ?_ | refine bA_ ?_ _)); exact BK304.out)) : gb304 ≠ gb316)); have n9_ := aM_ ((by rw [hg]; exact Nat.ne_of_gt (blk_lt (g := gb304) (by (with_reducible repeat (first | refine bN_ ?_ _ | refine bD_ ?_ | refine bA_ ?_ _)); exact BK304.out)) : gb316 ≠ gb304)); have n10_ := aM_ ((by rw [hg]; exact Nat.ne_of_lt (blk_lt (g := gb305) (by (with_reducible repeat (first | refine bN_ ?_ _ | refine bD_ ?_ | refine bA_ ?_ _)); exact BK305.out)) : gb305 ≠ gb316)); have n11_ := aM_ ((by rw [hg]; exact Nat.ne_of_gt (blk_lt (g := gb305) (by (with_reducible repeat (first | refine bN_ ?_ _ | refine bD_ ?_ | refine bA_ ?_ _)); exact BK305.out)) : gb316 ≠ gb305)); clear HO311; clear HO314; clear BK304; clear BK305; clear HB; have HO311 := n0_; have HO314 := n1_; have BK304 := n2_; have BK305 := n3_; have HB := n4_; have BK316 := n5_; have GW316 := n6_; have GE316 := n7_; have NB304_316 := n8_; have NB316_304 := n9_; have NB305_316 := n10_; have NB316_305 := n11_; clear n0_ n1_ n2_ n3_ n4_ n5_ n6_ n7_ n8_ n9_ n10_ n11_; clear hb hbox hg; have hnb21 := NB316_304.out; have hnc21 := NB304_316.out; have hnb22 := NB316_305.out; have hnc22 := NB305_316.out; have hcz23_0 : w20.cell? ⟨gb316, 0, none⟩ = some (.int .i64 0) := (blk_cell BK316.out 0).trans rfl; have hcz23_1 : w20.cell? ⟨gb316, 1, none⟩ = some (.slice none 0 0) := (blk_cell BK316.out 1).trans rfl; have hcz23_2 : w20.cell? ⟨gb316, 2, none⟩ = some (.slice none 0 0) := (blk_cell BK316.out 2).trans rfl; have hfz23_0 := blk_frozen BK316.out 0; have hfz23_1 := blk_frozen BK316.out 1; have hfz23_2 := blk_frozen BK316.out 2; obtain ⟨Ao24, co24, eo24⟩ := Kd.R_slice HO311.out; subst eo24; obtain ⟨Ao25, co25, eo25⟩ := Kd.R_slice HO314.out; subst eo25))
      (try simp only [Act.put, List.setIfInBounds_toArray, List.set_cons_zero, List.set_cons_succ])
      go_cut [51] (fun v51 wc => ∃ (kq : Nat) (x51_15 : Bool), v51 = .bool x51_15 ∧ Aside0 (impl_LandingFor.j1 kq a2 x9_1 x10_1 t306 (rd l0_0 x23_1) l0_0 (l0_0.length : Int) x23_1 x51_15 a1_0 a1_1 a1_2 l1_3 t308 t309 t312 = some r) ∧ Aside0 (kq ≤ k1) ∧ Aside0 (Kd.R (Kd.int .i64) 3 wc w.heap.size (fun k_ => some k_ ≠ ((.slice Ao25 t312.length co25) : Value).ownBlock) (.slice Ao24 t309.length co24) t309) ∧ Aside0 (Kd.R (Kd.int .i64) 3 wc w.heap.size (fun k_ => some k_ ≠ ((.slice Ao24 t309.length co24) : Value).ownBlock) (.slice Ao25 t312.length co25) t312) ∧ Aside0 (wc.heap[gb304]? = some (.cells #[(.slice (some ad307) l0_0.length c0_0)] 31 (0, 0))) ∧ Aside0 (wc.heap[gb305]? = some (.cells #[.int .i64 a1_0, .int .i64 a1_1, .int .i64 a1_2, (.slice A1_3 l1_3.length c1_3)] 35 (0, 0))) ∧ Aside0 (wc.heap[gb316]? = some (.cells #[.int .i64 t308, (.slice Ao24 t309.length co24), (.slice Ao25 t312.length co25)] 80 (0, 0))) ∧ Aside0 (Below w.heap.size w wc))
      case first =>
       have H := HC16.out; clear HC16
       by_cases c26 : t315 = true
       ·subst c26
        have H1 : ((impl_isIndex.f a2 (t309.length : Int)).bind fun t317 => (if t317 = true then (if 0 ≤ a2 then (if a2 < (t309.length : Int) then (impl_LandingFor.j1 k1 a2 x9_1 x10_1 t306 (rd l0_0 x23_1) l0_0 (l0_0.length : Int) x23_1 (decide ((rd t309 a2) < 0)) a1_0 a1_1 a1_2 l1_3 t308 t309 t312) else (none)) else (none)) else (impl_LandingFor.j1 k1 a2 x9_1 x10_1 t306 (rd l0_0 x23_1) l0_0 (l0_0.length : Int) x23_1 true a1_0 a1_1 a1_2 l1_3 t308 t309 t312))) = some r := by rw [if_pos rfl] at H; exact H
        clear H; have H := H1; clear H1
        replace H := Option.bind_eq_some_iff.mp H
        obtain ⟨t317, A270, H⟩ := H
        (try dsimp only at H)
        have A27 := aM_ A270; clear A270
        by_cases c28 : t317 = true
        ·subst c28
         have H1 : (if 0 ≤ a2 then (if a2 < (t309.length : Int) then (impl_LandingFor.j1 k1 a2 x9_1 x10_1 t306 (rd l0_0 x23_1) l0_0 (l0_0.length : Int) x23_1 (decide ((rd t309 a2) < 0)) a1_0 a1_1 a1_2 l1_3 t308 t309 t312) else (none)) else (none)) = some r := by rw [if_pos rfl] at H; exact H
         clear H; have H := H1; clear H1
         by_cases c29 : 0 ≤ a2
         ·rw [if_pos c29] at H
          have c29b0 : decide (0 ≤ a2) = true := decide_eq_true c29
          clear c29
          (first | rw [c29b0] | (simp only [i64_w, i32_w]; rw [c29b0]) | skip)
          by_cases c30 : a2 < (t309.length : Int)
          ·rw [if_pos c30] at H
           have c30b0 : decide (a2 < (t309.length : Int)) = true := decide_eq_true c30
           clear c30
           have H' := aM_ H
           clear H; have hnb31 := NB316_304.out; have hnc31 := NB304_316.out; have hnb32 := NB316_305.out; have hnc32 := NB305_316.out
           have hcz33_0 : w20.cell? ⟨gb316, 0, none⟩ = some (.int .i64 0) := (blk_cell BK316.out 0).trans rfl
           have hcz33_1 : w20.cell? ⟨gb316, 1, none⟩ = some (.slice none 0 0) := (blk_cell BK316.out 1).trans rfl
           have hcz33_2 : w20.cell? ⟨gb316, 2, none⟩ = some (.slice none 0 0) := (blk_cell BK316.out 2).trans rfl
           have hfz33_0 := blk_frozen BK316.out 0; have hfz33_1 := blk_frozen BK316.out 1; have hfz33_2 := blk_frozen BK316.out 2
           go_wp2_with (first | (go_at_call 74; (with_reducible refine (impl_isIndex.calls a2 (t309.length : Int) true _ A27.out).mono ?_); rintro e w' ⟨rfl, ⟨nd, rfl⟩⟩; have p318 : 0 ≤ (a2 : Int) := of_decide_eq_true (by first | (with_reducible assumption) | assumption); have q318 : a2 < (t309.length : Int) := of_decide_eq_true (by first | (with_reducible assumption) | assumption); obtain ⟨ad318, e318, hx318_0⟩ := Kd.at_int (Kd.R_reads' HO311.out).2.2 a2 p318 q318; cases e318; have hn318_0 : ad318.block ≠ gb316 := Kd.own_blk (Kd.R_ne HO311.out BK316.out (by decide)); have hn318_1 : ad318.block ≠ gb316 := Kd.own_blk (Kd.R_ne HO311.out BK316.out (by decide)); have hn318_2 : ad318.block ≠ gb316 := Kd.own_blk (Kd.R_ne HO311.out BK316.out (by decide)); replace hx318_0 := (cell_far (p := ⟨gb316, 0, none⟩) (by first | (rw [add_block]; exact hn318_0) | (show (Addr.add _ _).block ≠ _; rw [add_block]; exact hn318_0) | exact hn318_0) (.int .i64 t308)).trans hx318_0; replace hx318_0 := (cell_far (p := ⟨gb316, 1, none⟩) (by first | (rw [add_block]; exact hn318_1) | (show (Addr.add _ _).block ≠ _; rw [add_block]; exact hn318_1) | exact hn318_1) (.slice (some ad318) t309.length co24)).trans hx318_0; replace hx318_0 := (cell_far (p := ⟨gb316, 2, none⟩) (by first | (rw [add_block]; exact hn318_2) | (show (Addr.add _ _).block ≠ _; rw [add_block]; exact hn318_2) | exact hn318_2) (.slice Ao25 t312.length co25)).trans hx318_0; clear hn318_0; clear hn318_1; clear hn318_2; replace p318 := eq_true p318; replace q318 := eq_true q318))
           go_meet
           case rel => exact ⟨_, (decide ((rd t309 a2) < 0)), (by first | rfl | (simp; done) | (simp [*]; done)), H', ⟨by have := HK1.out; first | omega | exact Nat.le_refl _⟩, ⟨by (with_reducible repeat (first | apply rA_ | apply rN_ | apply rD_)); exact Kd.R_mono (Kd.R_far (p := ⟨gb316, 2, none⟩) (Kd.R_far (p := ⟨gb316, 1, none⟩) (Kd.R_far (p := ⟨gb316, 0, none⟩) (Kd.R_types HO311.out BK316.out (by decide)) (fun _ hk => hk.2) (.int .i64 t308)) (fun _ hk => hk.2) (.slice (some ad318) t309.length co24)) (fun _ hk => hk.2) (.slice Ao25 t312.length co25)) (fun _ hk => hk.1)⟩, ⟨by (with_reducible repeat (first | apply rA_ | apply rN_ | apply rD_)); exact Kd.R_mono (Kd.R_far (p := ⟨gb316, 2, none⟩) (Kd.R_far (p := ⟨gb316, 1, none⟩) (Kd.R_far (p := ⟨gb316, 0, none⟩) (Kd.R_types HO314.out BK316.out (by decide)) (fun _ hk => hk.2) (.int .i64 t308)) (fun _ hk => hk.2) (.slice (some ad318) t309.length co24)) (fun _ hk => hk.2) (.slice Ao25 t312.length co25)) (fun _ hk => hk.1)⟩, ⟨by (with_reducible repeat (first | refine bN_ ?_ _ | refine bD_ ?_ | refine bA_ ?_ _)); refine blk_far ?_ NB304_316.out _; (with_reducible repeat (first | refine bN_ ?_ _ | refine bD_ ?_ | refine bA_ ?_ _)); refine blk_far ?_ NB304_316.out _; (with_reducible repeat (first | refine bN_ ?_ _ | refine bD_ ?_ | refine bA_ ?_ _)); refine blk_far ?_ NB304_316.out _; (with_reducible repeat (first | refine bN_ ?_ _ | refine bD_ ?_ | refine bA_ ?_ _)); exact BK304.out⟩, ⟨by (with_reducible repeat (first | refine bN_ ?_ _ | refine bD_ ?_ | refine bA_ ?_ _)); refine blk_far ?_ NB305_316.out _; (with_reducible repeat (first | refine bN_ ?_ _ | refine bD_ ?_ | refine bA_ ?_ _)); refine blk_far ?_ NB305_316.out _; (with_reducible repeat (first | refine bN_ ?_ _ | refine bD_ ?_ | refine bA_ ?_ _)); refine blk_far ?_ NB305_316.out _; (with_reducible repeat (first | refine bN_ ?_ _ | refine bD_ ?_ | refine bA_ ?_ _)); exact BK305.out⟩, ⟨by (with_reducible repeat (first | refine bN_ ?_ _ | refine bD_ ?_ | refine bA_ ?_ _)); refine blk_put (cs := #[.int .i64 t308, .slice (some ad318) t309.length co24, .slice none 0 0]) ?_ 2 _ rfl; (with_reducible repeat (first | refine bN_ ?_ _ | refine bD_ ?_ | refine bA_ ?_ _)); refine blk_put (cs := #[.int .i64 t308, .slice none 0 0, .slice none 0 0]) ?_ 1 _ rfl; (with_reducible repeat (first | refine bN_ ?_ _ | refine bD_ ?_ | refine bA_ ?_ _)); refine blk_put (cs := #[.int .i64 0, .slice none 0 0, .slice none 0 0]) ?_ 0 _ rfl; (with_reducible repeat (first | refine bN_ ?_ _ | refine bD_ ?_ | refine bA_ ?_ _)); exact BK316.out⟩, ⟨by repeat (first | (with_reducible first | exact HB.out | apply wA_ | apply wN_ | apply wD_ | refine wE_ ?_ GE304.out | refine wE_ ?_ GE305.out | refine wE_ ?_ GE316.out) | exact HB.out)⟩⟩
          ·rw [if_neg c30] at H
           exact absurd H (by simp)
         ·rw [if_neg c29] at H
          exact absurd H (by simp)
        ·replace c28 := Bool.eq_false_iff.mpr c28
         subst c28
         have H1 : (impl_LandingFor.j1 k1 a2 x9_1 x10_1 t306 (rd l0_0 x23_1) l0_0 (l0_0.length : Int) x23_1 true a1_0 a1_1 a1_2 l1_3 t308 t309 t312) = some r := by rw [if_neg (show ¬ (false = true) by decide)] at H; exact H
         clear H; have H := H1; clear H1
         have H' := aM_ H
         clear H; have hnb34 := NB316_304.out; have hnc34 := NB304_316.out; have hnb35 := NB316_305.out; have hnc35 := NB305_316.out
         have hcz36_0 : w20.cell? ⟨gb316, 0, none⟩ = some (.int .i64 0) := (blk_cell BK316.out 0).trans rfl
         have hcz36_1 : w20.cell? ⟨gb316, 1, none⟩ = some (.slice none 0 0) := (blk_cell BK316.out 1).trans rfl
         have hcz36_2 : w20.cell? ⟨gb316, 2, none⟩ = some (.slice none 0 0) := (blk_cell BK316.out 2).trans rfl
         have hfz36_0 := blk_frozen BK316.out 0; have hfz36_1 := blk_frozen BK316.out 1; have hfz36_2 := blk_frozen BK316.out 2
         go_wp2_with (first | (go_at_call 74; (with_reducible refine (impl_isIndex.calls a2 (t309.length : Int) false _ A27.out).mono ?_); rintro e w' ⟨rfl, ⟨nd, rfl⟩⟩))
         go_meet
         case rel => exact ⟨_, (true), (by first | rfl | (simp; done) | (simp [*]; done)), H', ⟨by have := HK1.out; first | omega | exact Nat.le_refl _⟩, ⟨by (with_reducible repeat (first | apply rA_ | apply rN_ | apply rD_)); exact Kd.R_mono (Kd.R_far (p := ⟨gb316, 2, none⟩) (Kd.R_far (p := ⟨gb316, 1, none⟩) (Kd.R_far (p := ⟨gb316, 0, none⟩) (Kd.R_types HO311.out BK316.out (by decide)) (fun _ hk => hk.2) (.int .i64 t308)) (fun _ hk => hk.2) (.slice Ao24 t309.length co24)) (fun _ hk => hk.2) (.slice Ao25 t312.length co25)) (fun _ hk => hk.1)⟩, ⟨by (with_reducible repeat (first | apply rA_ | apply rN_ | apply rD_)); exact Kd.R_mono (Kd.R_far (p := ⟨gb316, 2, none⟩) (Kd.R_far (p := ⟨gb316, 1, none⟩) (Kd.R_far (p := ⟨gb316, 0, none⟩) (Kd.R_types HO314.out BK316.out (by decide)) (fun _ hk => hk.2) (.int .i64 t308)) (fun _ hk => hk.2) (.slice Ao24 t309.length co24)) (fun _ hk => hk.2) (.slice Ao25 t312.length co25)) (fun _ hk => hk.1)⟩, ⟨by (with_reducible repeat (first | refine bN_ ?_ _ | refine bD_ ?_ | refine bA_ ?_ _)); refine blk_far ?_ NB304_316.out _; (with_reducible repeat (first | refine bN_ ?_ _ | refine bD_ ?_ | refine bA_ ?_ _)); refine blk_far ?_ NB304_316.out _; (with_reducible repeat (first | refine bN_ ?_ _ | refine bD_ ?_ | refine bA_ ?_ _)); refine blk_far ?_ NB304_316.out _; (with_reducible repeat (first | refine bN_ ?_ _ | refine bD_ ?_ | refine bA_ ?_ _)); exact BK304.out⟩, ⟨by (with_reducible repeat (first | refine bN_ ?_ _ | refine bD_ ?_ | refine bA_ ?_ _)); refine blk_far ?_ NB305_316.out _; (with_reducible repeat (first | refine bN_ ?_ _ | refine bD_ ?_ | refine bA_ ?_ _)); refine blk_far ?_ NB305_316.out _; (with_reducible repeat (first | refine bN_ ?_ _ | refine bD_ ?_ | refine bA_ ?_ _)); refine blk_far ?_ NB305_316.out _; (with_reducible repeat (first | refine bN_ ?_ _ | refine bD_ ?_ | refine bA_ ?_ _)); exact BK305.out⟩, ⟨by (with_reducible repeat (first | refine bN_ ?_ _ | refine bD_ ?_ | refine bA_ ?_ _)); refine blk_put (cs := #[.int .i64 t308, .slice Ao24 t309.length co24, .slice none 0 0]) ?_ 2 _ rfl; (with_reducible repeat (first | refine bN_ ?_ _ | refine bD_ ?_ | refine bA_ ?_ _)); refine blk_put (cs := #[.int .i64 t308, .slice none 0 0, .slice none 0 0]) ?_ 1 _ rfl; (with_reducible repeat (first | refine bN_ ?_ _ | refine bD_ ?_ | refine bA_ ?_ _)); refine blk_put (cs := #[.int .i64 0, .slice none 0 0, .slice none 0 0]) ?_ 0 _ rfl; (with_reducible repeat (first | refine bN_ ?_ _ | refine bD_ ?_ | refine bA_ ?_ _)); exact BK316.out⟩, ⟨by repeat (first | (with_reducible first | exact HB.out | apply wA_ | apply wN_ | apply wD_ | refine wE_ ?_ GE304.out | refine wE_ ?_ GE305.out | refine wE_ ?_ GE316.out) | exact HB.out)⟩⟩
       ·replace c26 := Bool.eq_false_iff.mpr c26
        subst c26
        have H1 : (impl_LandingFor.j1 k1 a2 x9_1 x10_1 t306 (rd l0_0 x23_1) l0_0 (l0_0.length : Int) x23_1 true a1_0 a1_1 a1_2 l1_3 t308 t309 t312) = some r := by rw [if_neg (show ¬ (false = true) by decide)] at H; exact H
        clear H; have H := H1; clear H1
        have H' := aM_ H
        clear H
        go_wp2
        go_meet
        case rel => exact ⟨_, (true), (by first | rfl | (simp; done) | (simp [*]; done)), H', ⟨by have := HK1.out; first | omega | exact Nat.le_refl _⟩, ⟨by (with_reducible repeat (first | apply rA_ | apply rN_ | apply rD_)); exact Kd.R_mono (Kd.R_far (p := ⟨gb316, 2, none⟩) (Kd.R_far (p := ⟨gb316, 1, none⟩) (Kd.R_far (p := ⟨gb316, 0, none⟩) (Kd.R_types HO311.out BK316.out (by decide)) (fun _ hk => hk.2) (.int .i64 t308)) (fun _ hk => hk.2) (.slice Ao24 t309.length co24)) (fun _ hk => hk.2) (.slice Ao25 t312.length co25)) (fun _ hk => hk.1)⟩, ⟨by (with_reducible repeat (first | apply rA_ | apply rN_ | apply rD_)); exact Kd.R_mono (Kd.R_far (p := ⟨gb316, 2, none⟩) (Kd.R_far (p := ⟨gb316, 1, none⟩) (Kd.R_far (p := ⟨gb316, 0, none⟩) (Kd.R_types HO314.out BK316.out (by decide)) (fun _ hk => hk.2) (.int .i64 t308)) (fun _ hk => hk.2) (.slice Ao24 t309.length co24)) (fun _ hk => hk.2) (.slice Ao25 t312.length co25)) (fun _ hk => hk.1)⟩, ⟨by (with_reducible repeat (first | refine bN_ ?_ _ | refine bD_ ?_ | refine bA_ ?_ _)); refine blk_far ?_ NB304_316.out _; (with_reducible repeat (first | refine bN_ ?_ _ | refine bD_ ?_ | refine bA_ ?_ _)); refine blk_far ?_ NB304_316.out _; (with_reducible repeat (first | refine bN_ ?_ _ | refine bD_ ?_ | refine bA_ ?_ _)); refine blk_far ?_ NB304_316.out _; (with_reducible repeat (first | refine bN_ ?_ _ | refine bD_ ?_ | refine bA_ ?_ _)); exact BK304.out⟩, ⟨by (with_reducible repeat (first | refine bN_ ?_ _ | refine bD_ ?_ | refine bA_ ?_ _)); refine blk_far ?_ NB305_316.out _; (with_reducible repeat (first | refine bN_ ?_ _ | refine bD_ ?_ | refine bA_ ?_ _)); refine blk_far ?_ NB305_316.out _; (with_reducible repeat (first | refine bN_ ?_ _ | refine bD_ ?_ | refine bA_ ?_ _)); refine blk_far ?_ NB305_316.out _; (with_reducible repeat (first | refine bN_ ?_ _ | refine bD_ ?_ | refine bA_ ?_ _)); exact BK305.out⟩, ⟨by (with_reducible repeat (first | refine bN_ ?_ _ | refine bD_ ?_ | refine bA_ ?_ _)); refine blk_put (cs := #[.int .i64 t308, .slice Ao24 t309.length co24, .slice none 0 0]) ?_ 2 _ rfl; (with_reducible repeat (first | refine bN_ ?_ _ | refine bD_ ?_ | refine bA_ ?_ _)); refine blk_put (cs := #[.int .i64 t308, .slice none 0 0, .slice none 0 0]) ?_ 1 _ rfl; (with_reducible repeat (first | refine bN_ ?_ _ | refine bD_ ?_ | refine bA_ ?_ _)); refine blk_put (cs := #[.int .i64 0, .slice none 0 0, .slice none 0 0]) ?_ 0 _ rfl; (with_reducible repeat (first | refine bN_ ?_ _ | refine bD_ ?_ | refine bA_ ?_ _)); exact BK316.out⟩, ⟨by repeat (first | (with_reducible first | exact HB.out | apply wA_ | apply wN_ | apply wD_ | refine wE_ ?_ GE304.out | refine wE_ ?_ GE305.out | refine wE_ ?_ GE316.out) | exact HB.out)⟩⟩
      case rest =>
       clear HC16
       try clear c1
       try clear c2
       try clear p2
       try clear c3
       try clear p3
       try clear q3
       try clear hx3
       try clear c4
       try clear c5
       try clear c6
       try clear c8
       try clear c12
       try clear c12b0
       try clear c13
       try clear c13b0
       try clear c14
       try clear c14b0
       try clear c17
       try clear c21
       try clear c22
       try clear c26
       try clear c28
       try clear c29
       try clear c29b0
       try clear c30
       try clear c30b0
       try clear p30
       try clear q30
       try clear hx30
       try clear c31
       try clear p31
       try clear q31
       try clear hx31
       try clear c32
       try clear c34
       try clear c35
       try clear hcz11_0
       try clear hcz18_0
       try clear hcz18_1
       try clear hcz18_2
       try clear hcz18_3
       try clear hcz23_0
       try clear hcz23_1
       try clear hcz23_2
       try clear hcz33_0
       try clear hcz33_1
       try clear hcz33_2
       try clear hcz36_0
       try clear hcz36_1
       try clear hcz36_2
       try clear hcz9_0
       try clear hcz9_1
       try clear hcz9_2
       try clear hcz9_3
       try clear hfz11_0
       try clear hfz18_0
       try clear hfz18_1
       try clear hfz18_2
       try clear hfz18_3
       try clear hfz23_0
       try clear hfz23_1
       try clear hfz23_2
       try clear hfz33_0
       try clear hfz33_1
       try clear hfz33_2
       try clear hfz36_0
       try clear hfz36_1
       try clear hfz36_2
       try clear hfz9_0
       try clear hfz9_1
       try clear hfz9_2
       try clear hfz9_3
       try clear hx307_0
       try clear hx318_0
       try clear p2
       try clear p307
       try clear p318
       try clear q307
       try clear q318
       obtain ⟨kq, x51_15, rfl, HA, HJ15, HO_317001, HO_317002, BK304, BK305, BK316, HB⟩ := hcut
       cases kq with
       | zero => exact absurd HA.out (by simp [impl_LandingFor.j1])
       | succ kj15 =>
        have H := HA.out; clear HA
        simp only [impl_LandingFor.j1] at H
        by_cases c37 : x51_15 = true
        ·subst c37
         have H1 : (impl_LandingFor.l0 kj15 a2 x9_1 x10_1 t306 l0_0 (l0_0.length : Int) (wrap64 (x23_1 + 1)) a1_0 a1_1 a1_2 l1_3) = some r := by rw [if_pos rfl] at H; exact H
         clear H; have H := H1; clear H1
         have H' := aM_ H
         clear H
         go_wp2
         go_roundg kj15
         case measure => have := HK1.out; have := HJ15.out; omega
         case rel => exact ⟨(x9_1), (x10_1), (wrap64 (x23_1 + 1)), (by first | rfl | (simp; done) | (simp [*]; done)), (by first | rfl | (simp; done) | (simp [*]; done)), (by first | rfl | (simp; done) | (simp [*]; done)), H', ⟨by have := HK1.out; have := HJ15.out; omega⟩, ⟨by (with_reducible repeat (first | refine bN_ ?_ _ | refine bD_ ?_ | refine bA_ ?_ _)); exact BK304.out⟩, ⟨by (with_reducible repeat (first | refine bN_ ?_ _ | refine bD_ ?_ | refine bA_ ?_ _)); exact BK305.out⟩, ⟨by repeat (first | (with_reducible first | exact HB.out | apply wA_ | apply wN_ | apply wD_ | refine wE_ ?_ GE304.out | refine wE_ ?_ GE305.out | refine wE_ ?_ GE316.out) | exact HB.out)⟩⟩
        ·replace c37 := Bool.eq_false_iff.mpr c37
         subst c37
         have H1 : (if 0 ≤ a2 then (if a2 < (t309.length : Int) then (if x9_1 < 0 then (impl_LandingFor.l0 kj15 a2 (rd l0_0 x23_1) (rd t309 a2) t306 l0_0 (l0_0.length : Int) (wrap64 (x23_1 + 1)) a1_0 a1_1 a1_2 l1_3) else (if (rd t309 a2) < x10_1 then (impl_LandingFor.l0 kj15 a2 (rd l0_0 x23_1) (rd t309 a2) t306 l0_0 (l0_0.length : Int) (wrap64 (x23_1 + 1)) a1_0 a1_1 a1_2 l1_3) else (if (rd t309 a2) = x10_1 then (if (rd l0_0 x23_1) < x9_1 then (impl_LandingFor.l0 kj15 a2 (rd l0_0 x23_1) (rd t309 a2) t306 l0_0 (l0_0.length : Int) (wrap64 (x23_1 + 1)) a1_0 a1_1 a1_2 l1_3) else (impl_LandingFor.l0 kj15 a2 x9_1 x10_1 t306 l0_0 (l0_0.length : Int) (wrap64 (x23_1 + 1)) a1_0 a1_1 a1_2 l1_3)) else (impl_LandingFor.l0 kj15 a2 x9_1 x10_1 t306 l0_0 (l0_0.length : Int) (wrap64 (x23_1 + 1)) a1_0 a1_1 a1_2 l1_3)))) else (none)) else (none)) = some r := by rw [if_neg (show ¬ (false = true) by decide)] at H; exact H
         clear H; have H := H1; clear H1
         by_cases c38 : 0 ≤ a2
         ·rw [if_pos c38] at H
          have c38b0 : decide (0 ≤ a2) = true := decide_eq_true c38
          clear c38
          by_cases c39 : a2 < (t309.length : Int)
          ·rw [if_pos c39] at H
           have c39b0 : decide (a2 < (t309.length : Int)) = true := decide_eq_true c39
           clear c39
           by_cases c40 : x9_1 < 0
           ·rw [if_pos c40] at H
            have c40b0 : decide (x9_1 < 0) = true := decide_eq_true c40
            clear c40
            have H' := aM_ H
            clear H; have hnb41 := NB316_304.out; have hnc41 := NB304_316.out; have hnb42 := NB316_305.out; have hnc42 := NB305_316.out
            have hcz43_0 : wc.cell? ⟨gb316, 0, none⟩ = some (.int .i64 t308) := (blk_cell BK316.out 0).trans rfl
            have hcz43_1 : wc.cell? ⟨gb316, 1, none⟩ = some (.slice Ao24 t309.length co24) := (blk_cell BK316.out 1).trans rfl
            have hcz43_2 : wc.cell? ⟨gb316, 2, none⟩ = some (.slice Ao25 t312.length co25) := (blk_cell BK316.out 2).trans rfl
            have hfz43_0 := blk_frozen BK316.out 0; have hfz43_1 := blk_frozen BK316.out 1; have hfz43_2 := blk_frozen BK316.out 2
            have p319 : 0 ≤ (a2 : Int) := of_decide_eq_true (by first | (with_reducible assumption) | assumption)
            have q319 : a2 < (t309.length : Int) := of_decide_eq_true (by first | (with_reducible assumption) | assumption)
            obtain ⟨ad319, e319, hx319_0⟩ := Kd.at_int (Kd.R_reads' HO_317001.out).2.2 a2 p319 q319
            cases e319
            replace p319 := eq_true p319; replace q319 := eq_true q319
            go_wp2
            go_roundg kj15
            case measure => have := HK1.out; have := HJ15.out; omega
            case rel => exact ⟨((rd l0_0 x23_1)), (rd t309 a2), (wrap64 (x23_1 + 1)), (by first | rfl | (simp; done) | (simp [*]; done)), (by first | rfl | (simp; done) | (simp [*]; done)), (by first | rfl | (simp; done) | (simp [*]; done)), H', ⟨by have := HK1.out; have := HJ15.out; omega⟩, ⟨by (with_reducible repeat (first | refine bN_ ?_ _ | refine bD_ ?_ | refine bA_ ?_ _)); exact BK304.out⟩, ⟨by (with_reducible repeat (first | refine bN_ ?_ _ | refine bD_ ?_ | refine bA_ ?_ _)); exact BK305.out⟩, ⟨by repeat (first | (with_reducible first | exact HB.out | apply wA_ | apply wN_ | apply wD_ | refine wE_ ?_ GE304.out | refine wE_ ?_ GE305.out | refine wE_ ?_ GE316.out) | exact HB.out)⟩⟩
           ·rw [if_neg c40] at H
            have c40b0 : decide (x9_1 < 0) = false := decide_eq_false c40
            clear c40
            by_cases c44 : (rd t309 a2) < x10_1
            ·rw [if_pos c44] at H
             have c44b0 : decide ((rd t309 a2) < x10_1) = true := decide_eq_true c44
             clear c44
             have H' := aM_ H
             clear H; have hnb45 := NB316_304.out; have hnc45 := NB304_316.out; have hnb46 := NB316_305.out; have hnc46 := NB305_316.out
             have hcz47_0 : wc.cell? ⟨gb316, 0, none⟩ = some (.int .i64 t308) := (blk_cell BK316.out 0).trans rfl
             have hcz47_1 : wc.cell? ⟨gb316, 1, none⟩ = some (.slice Ao24 t309.length co24) := (blk_cell BK316.out 1).trans rfl
             have hcz47_2 : wc.cell? ⟨gb316, 2, none⟩ = some (.slice Ao25 t312.length co25) := (blk_cell BK316.out 2).trans rfl
             have hfz47_0 := blk_frozen BK316.out 0; have hfz47_1 := blk_frozen BK316.out 1; have hfz47_2 := blk_frozen BK316.out 2
             have p319 : 0 ≤ (a2 : Int) := of_decide_eq_true (by first | (with_reducible assumption) | assumption)
             have q319 : a2 < (t309.length : Int) := of_decide_eq_true (by first | (with_reducible assumption) | assumption)
             obtain ⟨ad319, e319, hx319_0⟩ := Kd.at_int (Kd.R_reads' HO_317001.out).2.2 a2 p319 q319
             cases e319
             replace p319 := eq_true p319; replace q319 := eq_true q319
             go_wp2
             go_roundg kj15
             case measure => have := HK1.out; have := HJ15.out; omega
             case rel => exact ⟨((rd l0_0 x23_1)), (rd t309 a2), (wrap64 (x23_1 + 1)), (by first | rfl | (simp; done) | (simp [*]; done)), (by first | rfl | (simp; done) | (simp [*]; done)), (by first | rfl | (simp; done) | (simp [*]; done)), H', ⟨by have := HK1.out; have := HJ15.out; omega⟩, ⟨by (with_reducible repeat (first | refine bN_ ?_ _ | refine bD_ ?_ | refine bA_ ?_ _)); exact BK304.out⟩, ⟨by (with_reducible repeat (first | refine bN_ ?_ _ | refine bD_ ?_ | refine bA_ ?_ _)); exact BK305.out⟩, ⟨by repeat (first | (with_reducible first | exact HB.out | apply wA_ | apply wN_ | apply wD_ | refine wE_ ?_ GE304.out | refine wE_ ?_ GE305.out | refine wE_ ?_ GE316.out) | exact HB.out)⟩⟩
            ·rw [if_neg c44] at H
             have c44b0 : decide ((rd t309 a2) < x10_1) = false := decide_eq_false c44
             clear c44
             by_cases c48 : (rd t309 a2) = x10_1
             ·rw [if_pos c48] at H
              have c48b0 : ((rd t309 a2) == x10_1) = true := beq_iff_eq.mpr c48
              have c48b1 : ((rd t309 a2) != x10_1) = false := bne_eq_false_iff_eq.mpr c48
              clear c48
              by_cases c49 : (rd l0_0 x23_1) < x9_1
              ·rw [if_pos c49] at H
               have c49b0 : decide ((rd l0_0 x23_1) < x9_1) = true := decide_eq_true c49
               clear c49
               have H' := aM_ H
               clear H; have hnb50 := NB316_304.out; have hnc50 := NB304_316.out; have hnb51 := NB316_305.out; have hnc51 := NB305_316.out
               have hcz52_0 : wc.cell? ⟨gb316, 0, none⟩ = some (.int .i64 t308) := (blk_cell BK316.out 0).trans rfl
               have hcz52_1 : wc.cell? ⟨gb316, 1, none⟩ = some (.slice Ao24 t309.length co24) := (blk_cell BK316.out 1).trans rfl
               have hcz52_2 : wc.cell? ⟨gb316, 2, none⟩ = some (.slice Ao25 t312.length co25) := (blk_cell BK316.out 2).trans rfl
               have hfz52_0 := blk_frozen BK316.out 0; have hfz52_1 := blk_frozen BK316.out 1; have hfz52_2 := blk_frozen BK316.out 2
               have p319 : 0 ≤ (a2 : Int) := of_decide_eq_true (by first | (with_reducible assumption) | assumption)
               have q319 : a2 < (t309.length : Int) := of_decide_eq_true (by first | (with_reducible assumption) | assumption)
               obtain ⟨ad319, e319, hx319_0⟩ := Kd.at_int (Kd.R_reads' HO_317001.out).2.2 a2 p319 q319
               cases e319
               replace p319 := eq_true p319; replace q319 := eq_true q319
               go_wp2
               go_roundg kj15
               case measure => have := HK1.out; have := HJ15.out; omega
               case rel => exact ⟨((rd l0_0 x23_1)), (rd t309 a2), (wrap64 (x23_1 + 1)), (by first | rfl | (simp; done) | (simp [*]; done)), (by first | rfl | (simp; done) | (simp [*]; done)), (by first | rfl | (simp; done) | (simp [*]; done)), H', ⟨by have := HK1.out; have := HJ15.out; omega⟩, ⟨by (with_reducible repeat (first | refine bN_ ?_ _ | refine bD_ ?_ | refine bA_ ?_ _)); exact BK304.out⟩, ⟨by (with_reducible repeat (first | refine bN_ ?_ _ | refine bD_ ?_ | refine bA_ ?_ _)); exact BK305.out⟩, ⟨by repeat (first | (with_reducible first | exact HB.out | apply wA_ | apply wN_ | apply wD_ | refine wE_ ?_ GE304.out | refine wE_ ?_ GE305.out | refine wE_ ?_ GE316.out) | exact HB.out)⟩⟩
              ·rw [if_neg c49] at H
               have c49b0 : decide ((rd l0_0 x23_1) < x9_1) = false := decide_eq_false c49
               clear c49
               have H' := aM_ H
               clear H; have hnb53 := NB316_304.out; have hnc53 := NB304_316.out; have hnb54 := NB316_305.out; have hnc54 := NB305_316.out
               have hcz55_0 : wc.cell? ⟨gb316, 0, none⟩ = some (.int .i64 t308) := (blk_cell BK316.out 0).trans rfl
               have hcz55_1 : wc.cell? ⟨gb316, 1, none⟩ = some (.slice Ao24 t309.length co24) := (blk_cell BK316.out 1).trans rfl
               have hcz55_2 : wc.cell? ⟨gb316, 2, none⟩ = some (.slice Ao25 t312.length co25) := (blk_cell BK316.out 2).trans rfl
               have hfz55_0 := blk_frozen BK316.out 0; have hfz55_1 := blk_frozen BK316.out 1; have hfz55_2 := blk_frozen BK316.out 2
               have p319 : 0 ≤ (a2 : Int) := of_decide_eq_true (by first | (with_reducible assumption) | assumption)
               have q319 : a2 < (t309.length : Int) := of_decide_eq_true (by first | (with_reducible assumption) | assumption)
               obtain ⟨ad319, e319, hx319_0⟩ := Kd.at_int (Kd.R_reads' HO_317001.out).2.2 a2 p319 q319
               cases e319
               replace p319 := eq_true p319; replace q319 := eq_true q319
               go_wp2
               go_roundg kj15
               case measure => have := HK1.out; have := HJ15.out; omega
               case rel => exact ⟨(x9_1), (x10_1), (wrap64 (x23_1 + 1)), (by first | rfl | (simp; done) | (simp [*]; done)), (by first | rfl | (simp; done) | (simp [*]; done)), (by first | rfl | (simp; done) | (simp [*]; done)), H', ⟨by have := HK1.out; have := HJ15.out; omega⟩, ⟨by (with_reducible repeat (first | refine bN_ ?_ _ | refine bD_ ?_ | refine bA_ ?_ _)); exact BK304.out⟩, ⟨by (with_reducible repeat (first | refine bN_ ?_ _ | refine bD_ ?_ | refine bA_ ?_ _)); exact BK305.out⟩, ⟨by repeat (first | (with_reducible first | exact HB.out | apply wA_ | apply wN_ | apply wD_ | refine wE_ ?_ GE304.out | refine wE_ ?_ GE305.out | refine wE_ ?_ GE316.out) | exact HB.out)⟩⟩
             ·rw [if_neg c48] at H
              have c48b0 : ((rd t309 a2) == x10_1) = false := beq_eq_false_iff_ne.mpr c48
              have c48b1 : ((rd t309 a2) != x10_1) = true := bne_iff_ne.mpr c48
              have H' := aM_ H
              clear H; have hnb56 := NB316_304.out; have hnc56 := NB304_316.out; have hnb57 := NB316_305.out; have hnc57 := NB305_316.out
              have hcz58_0 : wc.cell? ⟨gb316, 0, none⟩ = some (.int .i64 t308) := (blk_cell BK316.out 0).trans rfl
              have hcz58_1 : wc.cell? ⟨gb316, 1, none⟩ = some (.slice Ao24 t309.length co24) := (blk_cell BK316.out 1).trans rfl
              have hcz58_2 : wc.cell? ⟨gb316, 2, none⟩ = some (.slice Ao25 t312.length co25) := (blk_cell BK316.out 2).trans rfl
              have hfz58_0 := blk_frozen BK316.out 0; have hfz58_1 := blk_frozen BK316.out 1; have hfz58_2 := blk_frozen BK316.out 2
              have p319 : 0 ≤ (a2 : Int) := of_decide_eq_true (by first | (with_reducible assumption) | assumption)
              have q319 : a2 < (t309.length : Int) := of_decide_eq_true (by first | (with_reducible assumption) | assumption)
              obtain ⟨ad319, e319, hx319_0⟩ := Kd.at_int (Kd.R_reads' HO_317001.out).2.2 a2 p319 q319
              cases e319
              replace p319 := eq_true p319; replace q319 := eq_true q319
              go_wp2
              go_roundg kj15
              case measure => have := HK1.out; have := HJ15.out; omega
              case rel => exact ⟨(x9_1), (x10_1), (wrap64 (x23_1 + 1)), (by first | rfl | (simp; done) | (simp [*]; done)), (by first | rfl | (simp; done) | (simp [*]; done)), (by first | rfl | (simp; done) | (simp [*]; done)), H', ⟨by have := HK1.out; have := HJ15.out; omega⟩, ⟨by (with_reducible repeat (first | refine bN_ ?_ _ | refine bD_ ?_ | refine bA_ ?_ _)); exact BK304.out⟩, ⟨by (with_reducible repeat (first | refine bN_ ?_ _ | refine bD_ ?_ | refine bA_ ?_ _)); exact BK305.out⟩, ⟨by repeat (first | (with_reducible first | exact HB.out | apply wA_ | apply wN_ | apply wD_ | refine wE_ ?_ GE304.out | refine wE_ ?_ GE305.out | refine wE_ ?_ GE316.out) | exact HB.out)⟩⟩
          ·rw [if_neg c39] at H
           exact absurd H (by simp)
         ·rw [if_neg c38] at H
          exact absurd H (by simp)
     ·rw [if_neg c14] at H
      exact absurd H (by simp)
    ·rw [if_neg c13] at H
     exact absurd H (by simp)
   ·rw [if_neg c12] at H
    have c12b0 : decide (x23_1 < (l0_0.length : Int)) = false := decide_eq_false c12
    clear c12
    obtain rfl := Option.some.inj H
    go_wp2
    go_ret
    exact ⟨by first | rfl | (simp [errW_none, errW_some] <;> rfl) | (simp [*, errW_none, errW_some] <;> rfl), by repeat (first | (with_reducible first | exact HB.out | apply wA_ | apply wN_ | apply wD_ | refine wE_ ?_ GE304.out | refine wE_ ?_ GE305.out) | exact HB.out)⟩

/-! ### impl_ServedBy: function 47 -/
def impl_ServedBy.l0 : Nat → Int → Int → Int → Int → List Int → Int → Int → Int → List (S119) → Option (Int)
  | 0, _, _, _, _, _, _, _, _, _ => none
  | k + 1, x2, x7, x12, x13, x321000, x322000, x322001, x322002, x322003 => if x13 < x12 then ((impl_LandingFor.f k x321000 x322000 x322001 x322002 x322003 x13 x2).bind fun t322 => (if t322 ≥ 0 then (impl_ServedBy.l0 k x2 (wrap64 (x7 + 1)) x12 (wrap64 (x13 + 1)) x321000 x322000 x322001 x322002 x322003) else (impl_ServedBy.l0 k x2 x7 x12 (wrap64 (x13 + 1)) x321000 x322000 x322001 x322002 x322003))) else (some x7)
def impl_ServedBy.f (k : Nat) (l0_0 : List Int) (a1_0 : Int) (a1_1 : Int) (a1_2 : Int) (l1_3 : List (S119)) (a2 : Int) : Option (Int) := impl_ServedBy.l0 k a2 0 (mx 0 (mn a1_0 12)) 0 l0_0 a1_0 a1_1 a1_2 l1_3
theorem impl_ServedBy.mono_l : ∀ k, (∀ y0 y1 y2 y3 y4 y5 y6 y7 y8, LeO (impl_ServedBy.l0 k y0 y1 y2 y3 y4 y5 y6 y7 y8) (impl_ServedBy.l0 (k + 1) y0 y1 y2 y3 y4 y5 y6 y7 y8))
  | 0 => fun _ _ _ _ _ _ _ _ _ r h => by simp [impl_ServedBy.l0] at h
  | k + 1 => by
    have ih0 := impl_ServedBy.mono_l k
    · intro y0 y1 y2 y3 y4 y5 y6 y7 y8
      unfold impl_ServedBy.l0
      repeat' first
      | (with_reducible exact ih0 _ _ _ _ _ _ _ _ _)
      | (with_reducible exact impl_LandingFor.mono _ _ _ _ _ _ _ _)
      | (with_reducible exact LeO.refl _)
      | (with_reducible exact LeO.none _)
      | (with_reducible refine LeO.ite ?_ ?_)
      | (with_reducible refine LeO.bind ?_ (fun _ => ?_))
      | exact ih0 _ _ _ _ _ _ _ _ _
      | exact impl_LandingFor.mono _ _ _ _ _ _ _ _
      | exact LeO.none _
      | refine LeO.ite ?_ ?_
      | refine LeO.bind ?_ (fun _ => ?_)
theorem impl_ServedBy.mono : ∀ a0 a1 a2 a3 a4 a5 k, LeO (impl_ServedBy.f k a0 a1 a2 a3 a4 a5) (impl_ServedBy.f (k + 1) a0 a1 a2 a3 a4 a5) := by
  intro a0 a1 a2 a3 a4 a5 k
  have ih0 := impl_ServedBy.mono_l k
  unfold impl_ServedBy.f
  repeat' first
      | (with_reducible exact ih0 _ _ _ _ _ _ _ _ _)
      | (with_reducible exact impl_LandingFor.mono _ _ _ _ _ _ _ _)
      | (with_reducible exact LeO.refl _)
      | (with_reducible exact LeO.none _)
      | (with_reducible refine LeO.ite ?_ ?_)
      | (with_reducible refine LeO.bind ?_ (fun _ => ?_))
      | exact ih0 _ _ _ _ _ _ _ _ _
      | exact impl_LandingFor.mono _ _ _ _ _ _ _ _
      | exact LeO.none _
      | refine LeO.ite ?_ ?_
      | refine LeO.bind ?_ (fun _ => ?_)
set_option maxHeartbeats 8000000 in
set_option maxRecDepth 100000 in
theorem impl_ServedBy.calls (k : Nat) (A0_0 : Option Addr) (c0_0 : Nat) (l0_0 : List Int) (a1_0 : Int) (a1_1 : Int) (a1_2 : Int) (A1_3 : Option Addr) (c1_3 : Nat) (l1_3 : List (S119)) (a2 : Int) (r : Int) (w : World) (hr0_0 : Kd.C (Kd.int .i64) w A0_0 l0_0.length l0_0) (hc0_0 : l0_0.length ≤ c0_0) (hr1_3 : Kd.C k119 w A1_3 l1_3.length l1_3) (hc1_3 : l1_3.length ≤ c1_3) (h : impl_ServedBy.f k l0_0 a1_0 a1_1 a1_2 l1_3 a2 = some r) :
  Calls Try.prog 47 #[.agg #[.slice A0_0 l0_0.length c0_0], .agg #[.int .i64 a1_0, .int .i64 a1_1, .int .i64 a1_2, .slice A1_3 l1_3.length c1_3], .int .i64 a2] w fun e w' => e = .returned (.int .i64 r) ∧ Below w.heap.size w w' := by
 have hu31 := Try.underlying31; have hu35 := Try.underlying35; have HR0_0 := aM_ hr0_0; have HC0_0 := aM_ hc0_0; clear hr0_0 hc0_0; have HR1_3 := aM_ hr1_3; have HC1_3 := aM_ hc1_3; clear hr1_3 hc1_3; have HB := aM_ (Below.refl w.heap.size w)
 have H : (impl_ServedBy.l0 k a2 0 (mx 0 (mn a1_0 12)) 0 l0_0 a1_0 a1_1 a1_2 l1_3) = some r := h
 clear h
 obtain ⟨ji4, hji4⟩ : ∃ j_ : Int, (mn a1_0 12) = j_ := ⟨_, rfl⟩
 replace H : (impl_ServedBy.l0 k a2 0 (mx 0 (ji4)) 0 l0_0 a1_0 a1_1 a1_2 l1_3) = some r := by first | (rw [hji4] at H; exact H) | (simp only [hji4] at H ⊢; exact H)
 (try (have hji4h : ji4 ≤ 12 := by (rw [← hji4]; unfold mn; (repeat' split) <;> omega)))
 (try (have hji4g : ji4 ≤ 64 := by omega))
 have hji4_ : (if 12 < a1_0 then 12 else a1_0) = ji4 := hji4
 obtain ⟨ji5, hji5⟩ : ∃ j_ : Int, (mx 0 (ji4)) = j_ := ⟨_, rfl⟩
 replace H : (impl_ServedBy.l0 k a2 0 ji5 0 l0_0 a1_0 a1_1 a1_2 l1_3) = some r := by first | (rw [hji5] at H; exact H) | (simp only [hji5] at H ⊢; exact H)
 have hji5_ : (if 0 < (ji4) then (ji4) else 0) = ji5 := hji5
 have H' := aM_ H
 clear H
 go_enter Try.func47, Try.ntmps47
 go_wp2_with (first | ((with_reducible refine gate_dst (N := 3) rfl ?_); refine box_event ?hg (N := 3) ?hd (cs := #[.slice A0_0 l0_0.length c0_0]) (t := 31) ?hr ?_; (case hd => rfl); (case hg => rfl); (case hr => first | (go_simp; done) | (go_simp; rfl)); intro gb320 hg w6 hbox hb; have n0_ := aM_ (wS_ (by repeat (first | (with_reducible first | exact HB.out | apply wA_ | apply wN_ | apply wD_) | exact HB.out)) hb); have n1_ := aM_ (hbox); have n2_ := aM_ ((by rw [hg]; exact (sZ_ (by repeat (first | (with_reducible first | exact HB.out | apply wA_ | apply wN_ | apply wD_) | exact HB.out))) : w.heap.size ≤ gb320)); have n3_ := aM_ ((by rw [hg]; exact (sZ_ (by repeat (first | (with_reducible first | exact HB.out | apply wA_ | apply wN_ | apply wD_) | exact HB.out))) : w.heap.size ≤ gb320)); clear HB; have HB := n0_; have BK320 := n1_; have GW320 := n2_; have GE320 := n3_; clear n0_ n1_ n2_ n3_; clear hb hbox hg) | ((with_reducible refine gate_dst (N := 4) rfl ?_); refine box_event ?hg (N := 4) ?hd (cs := #[.int .i64 a1_0, .int .i64 a1_1, .int .i64 a1_2, .slice A1_3 l1_3.length c1_3]) (t := 35) ?hr ?_; (case hd => rfl); (case hg => rfl); (case hr => first | (go_simp; done) | (go_simp; rfl)); intro gb321 hg w7 hbox hb; have n0_ := aM_ (bB_ (g := gb320) (by (with_reducible repeat (first | refine bN_ ?_ _ | refine bD_ ?_ | refine bA_ ?_ _)); exact BK320.out) hb); have n1_ := aM_ (wS_ (by repeat (first | (with_reducible first | exact HB.out | apply wA_ | apply wN_ | apply wD_ | refine wE_ ?_ GE320.out) | exact HB.out)) hb); have n2_ := aM_ (hbox); have n3_ := aM_ ((by rw [hg]; exact (sZ_ (by repeat (first | (with_reducible first | exact HB.out | apply wA_ | apply wN_ | apply wD_ | refine wE_ ?_ GE320.out) | exact HB.out))) : w.heap.size ≤ gb321)); have n4_ := aM_ ((by rw [hg]; exact (sZ_ (by repeat (first | (with_reducible first | exact HB.out | apply wA_ | apply wN_ | apply wD_ | refine wE_ ?_ GE320.out) | exact HB.out))) : w.heap.size ≤ gb321)); have n5_ := aM_ ((by rw [hg]; exact Nat.ne_of_lt (blk_lt (g := gb320) (by (with_reducible repeat (first | refine bN_ ?_ _ | refine bD_ ?_ | refine bA_ ?_ _)); exact BK320.out)) : gb320 ≠ gb321)); have n6_ := aM_ ((by rw [hg]; exact Nat.ne_of_gt (blk_lt (g := gb320) (by (with_reducible repeat (first | refine bN_ ?_ _ | refine bD_ ?_ | refine bA_ ?_ _)); exact BK320.out)) : gb321 ≠ gb320)); clear BK320; clear HB; have BK320 := n0_; have HB := n1_; have BK321 := n2_; have GW321 := n3_; have GE321 := n4_; have NB320_321 := n5_; have NB321_320 := n6_; clear n0_ n1_ n2_ n3_ n4_ n5_ n6_; clear hb hbox hg; have hnb8 := NB321_320.out; have hnc8 := NB320_321.out; have hcz9_0 : w7.cell? ⟨gb321, 0, none⟩ = some (.int .i64 a1_0) := (blk_cell BK321.out 0).trans rfl; have hcz9_1 : w7.cell? ⟨gb321, 1, none⟩ = some (.int .i64 a1_1) := (blk_cell BK321.out 1).trans rfl; have hcz9_2 : w7.cell? ⟨gb321, 2, none⟩ = some (.int .i64 a1_2) := (blk_cell BK321.out 2).trans rfl; have hcz9_3 : w7.cell? ⟨gb321, 3, none⟩ = some (.slice A1_3 l1_3.length c1_3) := (blk_cell BK321.out 3).trans rfl; have hfz9_0 := blk_frozen BK321.out 0; have hfz9_1 := blk_frozen BK321.out 1; have hfz9_2 := blk_frozen BK321.out 2; have hfz9_3 := blk_frozen BK321.out 3))
 go_loopg [7, 13] k (fun kq v7 v13 w' => ∃ (x7_1 : Int) (x13_1 : Int), v7 = .int .i64 x7_1 ∧ v13 = .int .i64 x13_1 ∧ Aside0 (impl_ServedBy.l0 kq a2 x7_1 ji5 x13_1 l0_0 a1_0 a1_1 a1_2 l1_3 = some r) ∧ Aside0 (kq ≤ k) ∧ Aside0 (w'.heap[gb320]? = some (.cells #[(.slice A0_0 l0_0.length c0_0)] 31 (0, 0))) ∧ Aside0 (w'.heap[gb321]? = some (.cells #[.int .i64 a1_0, .int .i64 a1_1, .int .i64 a1_2, (.slice A1_3 l1_3.length c1_3)] 35 (0, 0))) ∧ Aside0 (Below w.heap.size w w'))
 case atStart => exact ⟨(0), (0), (by first | rfl | (simp; done) | (simp [*]; done)), (by first | rfl | (simp; done) | (simp [*]; done)), H', ⟨Nat.le_refl _⟩, ⟨by (with_reducible repeat (first | refine bN_ ?_ _ | refine bD_ ?_ | refine bA_ ?_ _)); exact BK320.out⟩, ⟨by (with_reducible repeat (first | refine bN_ ?_ _ | refine bD_ ?_ | refine bA_ ?_ _)); exact BK321.out⟩, ⟨by repeat (first | (with_reducible first | exact HB.out | apply wA_ | apply wN_ | apply wD_ | refine wE_ ?_ GE320.out | refine wE_ ?_ GE321.out) | exact HB.out)⟩⟩
 case round =>
  clear H'
  try clear c1
  try clear p2
  try clear c4
  try clear c8
  try clear hcz9_0
  try clear hcz9_1
  try clear hcz9_2
  try clear hcz9_3
  try clear hfz9_0
  try clear hfz9_1
  try clear hfz9_2
  try clear hfz9_3
  obtain ⟨x7_1, x13_1, rfl, rfl, HA, HK1, BK320, BK321, HB⟩ := hrel
  cases gk with
  | zero => exact absurd HA.out (by simp [impl_ServedBy.l0])
  | succ k1 =>
   have H := HA.out; clear HA
   simp only [impl_ServedBy.l0] at H
   by_cases c10 : x13_1 < ji5
   ·rw [if_pos c10] at H
    have c10b0 : decide (x13_1 < ji5) = true := decide_eq_true c10
    clear c10
    replace H := Option.bind_eq_some_iff.mp H
    obtain ⟨t322, A110, H⟩ := H
    (try dsimp only at H)
    have A11 := aM_ A110; clear A110
    by_cases c12 : t322 ≥ 0
    ·rw [if_pos c12] at H
     have c12b0 : decide (0 ≤ t322) = true := decide_eq_true c12
     clear c12
     have H' := aM_ H
     clear H; have hnb13 := NB320_321.out; have hnc13 := NB321_320.out
     have hcz14_0 : wr.cell? ⟨gb320, 0, none⟩ = some (.slice A0_0 l0_0.length c0_0) := (blk_cell BK320.out 0).trans rfl
     have hfz14_0 := blk_frozen BK320.out 0
     have hcz15_0 : wr.cell? ⟨gb321, 0, none⟩ = some (.int .i64 a1_0) := (blk_cell BK321.out 0).trans rfl
     have hcz15_1 : wr.cell? ⟨gb321, 1, none⟩ = some (.int .i64 a1_1) := (blk_cell BK321.out 1).trans rfl
     have hcz15_2 : wr.cell? ⟨gb321, 2, none⟩ = some (.int .i64 a1_2) := (blk_cell BK321.out 2).trans rfl
     have hcz15_3 : wr.cell? ⟨gb321, 3, none⟩ = some (.slice A1_3 l1_3.length c1_3) := (blk_cell BK321.out 3).trans rfl
     have hfz15_0 := blk_frozen BK321.out 0; have hfz15_1 := blk_frozen BK321.out 1; have hfz15_2 := blk_frozen BK321.out 2; have hfz15_3 := blk_frozen BK321.out 3
     go_wp2_with (first | ((with_reducible refine gate_callee (f := 45) rfl ?_); refine goesL_ (some 20) rfl rfl Try.func45 (by kernel_rfl) rfl #[.agg #[.slice A0_0 l0_0.length c0_0], .agg #[.int .i64 a1_0, .int .i64 a1_1, .int .i64 a1_2, .slice A1_3 l1_3.length c1_3], .int .i64 x13_1, .int .i64 a2] rfl (by (try simp only [List.map_toArray, List.map_cons, List.map_nil]); first | done | rfl | (simp only [List.length_drop, List.length_take]; rfl)) ?_; (with_reducible refine (impl_LandingFor.calls k1 _ _ l0_0 a1_0 a1_1 a1_2 _ _ l1_3 x13_1 a2 t322 _ ?side1 ?side2 ?side3 ?side4 A11.out).mono ?_); (case side1 => repeat (first | exact (Kd.C_below HR0_0.out HB.out) | (with_reducible refine cA_ ?_ _) | (with_reducible refine cN_ ?_ _) | (with_reducible refine cD_ ?_))); (case side2 => exact HC0_0.out); (case side3 => repeat (first | exact (Kd.C_below HR1_3.out HB.out) | (with_reducible refine cA_ ?_ _) | (with_reducible refine cN_ ?_ _) | (with_reducible refine cD_ ?_))); (case side4 => exact HC1_3.out); rintro e w16 ⟨rfl, hb⟩; refine ⟨_, rfl, ?_⟩; have n0_ := aM_ (bB_ (g := gb320) (by (with_reducible repeat (first | refine bN_ ?_ _ | refine bD_ ?_ | refine bA_ ?_ _)); exact BK320.out) hb); have n1_ := aM_ (bB_ (g := gb321) (by (with_reducible repeat (first | refine bN_ ?_ _ | refine bD_ ?_ | refine bA_ ?_ _)); exact BK321.out) hb); have n2_ := aM_ (wS_ (by repeat (first | (with_reducible first | exact HB.out | apply wA_ | apply wN_ | apply wD_ | refine wE_ ?_ GE320.out | refine wE_ ?_ GE321.out) | exact HB.out)) hb); clear BK320; clear BK321; clear HB; have BK320 := n0_; have BK321 := n1_; have HB := n2_; clear n0_ n1_ n2_; (try clear hb); (try clear hb2); (try clear hk); (try clear hi)))
     go_roundg k1
     case measure => have := HK1.out; omega
     case rel => exact ⟨(wrap64 (x7_1 + 1)), (wrap64 (x13_1 + 1)), (by first | rfl | (simp; done) | (simp [*]; done)), (by first | rfl | (simp; done) | (simp [*]; done)), H', ⟨by have := HK1.out; omega⟩, ⟨by (with_reducible repeat (first | refine bN_ ?_ _ | refine bD_ ?_ | refine bA_ ?_ _)); exact BK320.out⟩, ⟨by (with_reducible repeat (first | refine bN_ ?_ _ | refine bD_ ?_ | refine bA_ ?_ _)); exact BK321.out⟩, ⟨by repeat (first | (with_reducible first | exact HB.out | apply wA_ | apply wN_ | apply wD_ | refine wE_ ?_ GE320.out | refine wE_ ?_ GE321.out) | exact HB.out)⟩⟩
    ·rw [if_neg c12] at H
     have c12b0 : decide (0 ≤ t322) = false := decide_eq_false c12
     clear c12
     have H' := aM_ H
     clear H; have hnb17 := NB320_321.out; have hnc17 := NB321_320.out
     have hcz18_0 : wr.cell? ⟨gb320, 0, none⟩ = some (.slice A0_0 l0_0.length c0_0) := (blk_cell BK320.out 0).trans rfl
     have hfz18_0 := blk_frozen BK320.out 0
     have hcz19_0 : wr.cell? ⟨gb321, 0, none⟩ = some (.int .i64 a1_0) := (blk_cell BK321.out 0).trans rfl
     have hcz19_1 : wr.cell? ⟨gb321, 1, none⟩ = some (.int .i64 a1_1) := (blk_cell BK321.out 1).trans rfl
     have hcz19_2 : wr.cell? ⟨gb321, 2, none⟩ = some (.int .i64 a1_2) := (blk_cell BK321.out 2).trans rfl
     have hcz19_3 : wr.cell? ⟨gb321, 3, none⟩ = some (.slice A1_3 l1_3.length c1_3) := (blk_cell BK321.out 3).trans rfl
     have hfz19_0 := blk_frozen BK321.out 0; have hfz19_1 := blk_frozen BK321.out 1; have hfz19_2 := blk_frozen BK321.out 2; have hfz19_3 := blk_frozen BK321.out 3
     go_wp2_with (first | ((with_reducible refine gate_callee (f := 45) rfl ?_); refine goesL_ (some 20) rfl rfl Try.func45 (by kernel_rfl) rfl #[.agg #[.slice A0_0 l0_0.length c0_0], .agg #[.int .i64 a1_0, .int .i64 a1_1, .int .i64 a1_2, .slice A1_3 l1_3.length c1_3], .int .i64 x13_1, .int .i64 a2] rfl (by (try simp only [List.map_toArray, List.map_cons, List.map_nil]); first | done | rfl | (simp only [List.length_drop, List.length_take]; rfl)) ?_; (with_reducible refine (impl_LandingFor.calls k1 _ _ l0_0 a1_0 a1_1 a1_2 _ _ l1_3 x13_1 a2 t322 _ ?side1 ?side2 ?side3 ?side4 A11.out).mono ?_); (case side1 => repeat (first | exact (Kd.C_below HR0_0.out HB.out) | (with_reducible refine cA_ ?_ _) | (with_reducible refine cN_ ?_ _) | (with_reducible refine cD_ ?_))); (case side2 => exact HC0_0.out); (case side3 => repeat (first | exact (Kd.C_below HR1_3.out HB.out) | (with_reducible refine cA_ ?_ _) | (with_reducible refine cN_ ?_ _) | (with_reducible refine cD_ ?_))); (case side4 => exact HC1_3.out); rintro e w20 ⟨rfl, hb⟩; refine ⟨_, rfl, ?_⟩; have n0_ := aM_ (bB_ (g := gb320) (by (with_reducible repeat (first | refine bN_ ?_ _ | refine bD_ ?_ | refine bA_ ?_ _)); exact BK320.out) hb); have n1_ := aM_ (bB_ (g := gb321) (by (with_reducible repeat (first | refine bN_ ?_ _ | refine bD_ ?_ | refine bA_ ?_ _)); exact BK321.out) hb); have n2_ := aM_ (wS_ (by repeat (first | (with_reducible first | exact HB.out | apply wA_ | apply wN_ | apply wD_ | refine wE_ ?_ GE320.out | refine wE_ ?_ GE321.out) | exact HB.out)) hb); clear BK320; clear BK321; clear HB; have BK320 := n0_; have BK321 := n1_; have HB := n2_; clear n0_ n1_ n2_; (try clear hb); (try clear hb2); (try clear hk); (try clear hi)))
     go_roundg k1
     case measure => have := HK1.out; omega
     case rel => exact ⟨(x7_1), (wrap64 (x13_1 + 1)), (by first | rfl | (simp; done) | (simp [*]; done)), (by first | rfl | (simp; done) | (simp [*]; done)), H', ⟨by have := HK1.out; omega⟩, ⟨by (with_reducible repeat (first | refine bN_ ?_ _ | refine bD_ ?_ | refine bA_ ?_ _)); exact BK320.out⟩, ⟨by (with_reducible repeat (first | refine bN_ ?_ _ | refine bD_ ?_ | refine bA_ ?_ _)); exact BK321.out⟩, ⟨by repeat (first | (with_reducible first | exact HB.out | apply wA_ | apply wN_ | apply wD_ | refine wE_ ?_ GE320.out | refine wE_ ?_ GE321.out) | exact HB.out)⟩⟩
   ·rw [if_neg c10] at H
    have c10b0 : decide (x13_1 < ji5) = false := decide_eq_false c10
    clear c10
    obtain rfl := Option.some.inj H
    go_wp2
    go_ret
    exact ⟨by first | rfl | (simp [errW_none, errW_some] <;> rfl) | (simp only [← hji4, ← hji5]; first | rfl | (simp [errW_none, errW_some] <;> rfl)) | (simp [*, errW_none, errW_some] <;> rfl), by repeat (first | (with_reducible first | exact HB.out | apply wA_ | apply wN_ | apply wD_ | refine wE_ ?_ GE320.out | refine wE_ ?_ GE321.out) | exact HB.out)⟩

end Go.Proofs.Ytegkplalnljgjaa.PFnExactServedBy
