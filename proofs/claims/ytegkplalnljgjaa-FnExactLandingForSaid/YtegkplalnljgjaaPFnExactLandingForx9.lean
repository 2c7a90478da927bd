/- The functions that the law reaches, as plain Lean functions, each with the proof that the Go code comes to its answers; conditions: those that each theorem names. (printed by a program of this session) -/
import Derived.Test.YtegkplalnljgjaaPFnExactLandingForx0
import Derived.Test.YtegkplalnljgjaaPFnExactLandingForx8
namespace Go.Proofs.Ytegkplalnljgjaa.PFnExactLandingFor
open Go.RowKit Go.Proofs.YtegkplalnljgjaaW.PrintWords Go.Proofs.YtegkplalnljgjaaW.PrintLast Go.Proofs.YtegkplalnljgjaaW.PrintMore
attribute [local go_sem] max2_int min2_int max_two min_two max_three min_three max_four min_four   -- for this text's walks alone
set_option linter.unusedVariables false
set_option linter.unusedSimpArgs false

/-! ### impl_LandingFor: function 45 -/
mutual
def impl_LandingFor.l0 : Nat → Int → Int → Int → Int → List Int → Int → Int → Int → Int → Int → List (S119) → Option (Int)
  | 0, _, _, _, _, _, _, _, _, _, _, _ => none
  | k + 1, x2, x9, x10, x11, x21, x22, x23, x302000, x302001, x302002, x302003 => if x23 < x22 then (if 0 ≤ x23 then (if x23 < (x21.length : Int) then ((impl_TableIn.f x302000 x302001 x302002 x302003 x11 (rd x21 x23)).bind fun bt304 => (if bt304.2.2.2 = true then ((impl_isIndex.f x2 (bt304.2.1.length : Int)).bind fun t313 => (if t313 = true then (if 0 ≤ x2 then (if x2 < (bt304.2.1.length : Int) then (impl_LandingFor.j1 k x2 x9 x10 x11 (rd x21 x23) x21 x22 x23 (decide ((rd bt304.2.1 x2) < 0)) x302000 x302001 x302002 x302003 bt304.1 bt304.2.1 bt304.2.2.1) else (none)) else (none)) else (impl_LandingFor.j1 k x2 x9 x10 x11 (rd x21 x23) x21 x22 x23 true x302000 x302001 x302002 x302003 bt304.1 bt304.2.1 bt304.2.2.1))) else (impl_LandingFor.j1 k x2 x9 x10 x11 (rd x21 x23) x21 x22 x23 true x302000 x302001 x302002 x302003 bt304.1 bt304.2.1 bt304.2.2.1))) else (none)) else (none)) else (some x9)
def impl_LandingFor.j1 : Nat → Int → Int → Int → Int → Int → List Int → Int → Int → Bool → Int → Int → Int → List (S119) → Int → List Int → List Int → Option (Int)
  | 0, _, _, _, _, _, _, _, _, _, _, _, _, _, _, _, _ => none
  | k + 1, x2, x9, x10, x11, x13, x21, x22, x23, x51, x302000, x302001, x302002, x302003, x313000, x313001, x313002 => if x51 = true then (impl_LandingFor.l0 k x2 x9 x10 x11 x21 x22 (wrap64 (x23 + 1)) x302000 x302001 x302002 x302003) else (if 0 ≤ x2 then (if x2 < (x313001.length : Int) then (if x9 < 0 then (impl_LandingFor.l0 k x2 x13 (rd x313001 x2) x11 x21 x22 (wrap64 (x23 + 1)) x302000 x302001 x302002 x302003) else (if (rd x313001 x2) < x10 then (impl_LandingFor.l0 k x2 x13 (rd x313001 x2) x11 x21 x22 (wrap64 (x23 + 1)) x302000 x302001 x302002 x302003) else (if (rd x313001 x2) = x10 then (if x13 < x9 then (impl_LandingFor.l0 k x2 x13 (rd x313001 x2) x11 x21 x22 (wrap64 (x23 + 1)) x302000 x302001 x302002 x302003) else (impl_LandingFor.l0 k x2 x9 x10 x11 x21 x22 (wrap64 (x23 + 1)) x302000 x302001 x302002 x302003)) else (impl_LandingFor.l0 k x2 x9 x10 x11 x21 x22 (wrap64 (x23 + 1)) x302000 x302001 x302002 x302003)))) else (none)) else (none))
end
def impl_LandingFor.f (k : Nat) (l0_0 : List Int) (a1_0 : Int) (a1_1 : Int) (a1_2 : Int) (l1_3 : List (S119)) (a2 : Int) (a3 : Int) : Option (Int) := (impl_PieceAt.f a1_0 a1_1 a1_2 l1_3 a3).bind fun t302 => (impl_LandingFor.l0 k a2 (-1) 0 t302 l0_0 (l0_0.length : Int) 0 a1_0 a1_1 a1_2 l1_3)
theorem impl_LandingFor.mono_l : ∀ k, (∀ y0 y1 y2 y3 y4 y5 y6 y7 y8 y9 y10, LeO (impl_LandingFor.l0 k y0 y1 y2 y3 y4 y5 y6 y7 y8 y9 y10) (impl_LandingFor.l0 (k + 1) y0 y1 y2 y3 y4 y5 y6 y7 y8 y9 y10)) ∧ (∀ y0 y1 y2 y3 y4 y5 y6 y7 y8 y9 y10 y11 y12 y13 y14 y15, LeO (impl_LandingFor.j1 k y0 y1 y2 y3 y4 y5 y6 y7 y8 y9 y10 y11 y12 y13 y14 y15) (impl_LandingFor.j1 (k + 1) y0 y1 y2 y3 y4 y5 y6 y7 y8 y9 y10 y11 y12 y13 y14 y15))
  | 0 => ⟨fun _ _ _ _ _ _ _ _ _ _ _ r h => by simp [impl_LandingFor.l0] at h, fun _ _ _ _ _ _ _ _ _ _ _ _ _ _ _ _ r h => by simp [impl_LandingFor.j1] at h⟩
  | k + 1 => by
    obtain ⟨ih0, ih1⟩ := impl_LandingFor.mono_l k
    refine ⟨?_, ?_⟩
    · intro y0 y1 y2 y3 y4 y5 y6 y7 y8 y9 y10
      unfold impl_LandingFor.l0
      repeat' first
      | (with_reducible exact ih0 _ _ _ _ _ _ _ _ _ _ _)
      | (with_reducible exact ih1 _ _ _ _ _ _ _ _ _ _ _ _ _ _ _ _)
      | (with_reducible exact LeO.refl _)
      | (with_reducible exact LeO.none _)
      | (with_reducible refine LeO.ite ?_ ?_)
      | (with_reducible refine LeO.bind ?_ (fun _ => ?_))
      | exact ih0 _ _ _ _ _ _ _ _ _ _ _
      | exact ih1 _ _ _ _ _ _ _ _ _ _ _ _ _ _ _ _
      | exact LeO.none _
      | refine LeO.ite ?_ ?_
      | refine LeO.bind ?_ (fun _ => ?_)
    · intro y0 y1 y2 y3 y4 y5 y6 y7 y8 y9 y10 y11 y12 y13 y14 y15
      unfold impl_LandingFor.j1
      repeat' first
      | (with_reducible exact ih0 _ _ _ _ _ _ _ _ _ _ _)
      | (with_reducible exact ih1 _ _ _ _ _ _ _ _ _ _ _ _ _ _ _ _)
      | (with_reducible exact LeO.refl _)
      | (with_reducible exact LeO.none _)
      | (with_reducible refine LeO.ite ?_ ?_)
      | (with_reducible refine LeO.bind ?_ (fun _ => ?_))
      | exact ih0 _ _ _ _ _ _ _ _ _ _ _
      | exact ih1 _ _ _ _ _ _ _ _ _ _ _ _ _ _ _ _
      | exact LeO.none _
      | refine LeO.ite ?_ ?_
      | refine LeO.bind ?_ (fun _ => ?_)
theorem impl_LandingFor.mono : ∀ a0 a1 a2 a3 a4 a5 a6 k, LeO (impl_LandingFor.f k a0 a1 a2 a3 a4 a5 a6) (impl_LandingFor.f (k + 1) a0 a1 a2 a3 a4 a5 a6) := by
  intro a0 a1 a2 a3 a4 a5 a6 k
  obtain ⟨ih0, ih1⟩ := impl_LandingFor.mono_l k
  unfold impl_LandingFor.f
  repeat' first
      | (with_reducible exact ih0 _ _ _ _ _ _ _ _ _ _ _)
      | (with_reducible exact ih1 _ _ _ _ _ _ _ _ _ _ _ _ _ _ _ _)
      | (with_reducible exact LeO.refl _)
      | (with_reducible exact LeO.none _)
      | (with_reducible refine LeO.ite ?_ ?_)
      | (with_reducible refine LeO.bind ?_ (fun _ => ?_))
      | exact ih0 _ _ _ _ _ _ _ _ _ _ _
      | exact ih1 _ _ _ _ _ _ _ _ _ _ _ _ _ _ _ _
      | exact LeO.none _
      | refine LeO.ite ?_ ?_
      | refine LeO.bind ?_ (fun _ => ?_)
set_option maxHeartbeats 8000000 in
set_option maxRecDepth 100000 in
theorem impl_LandingFor.calls (k : Nat) (A0_0 : Option Addr) (c0_0 : Nat) (l0_0 : List Int) (a1_0 : Int) (a1_1 : Int) (a1_2 : Int) (A1_3 : Option Addr) (c1_3 : Nat) (l1_3 : List (S119)) (a2 : Int) (a3 : Int) (r : Int) (w : World) (hr0_0 : Kd.C (Kd.int .i64) w A0_0 l0_0.length l0_0) (hc0_0 : l0_0.length ≤ c0_0) (hr1_3 : Kd.C k119 w A1_3 l1_3.length l1_3) (hc1_3 : l1_3.length ≤ c1_3) (h : impl_LandingFor.f k l0_0 a1_0 a1_1 a1_2 l1_3 a2 a3 = some r) :
  Calls Try.prog 45 #[.agg #[.slice A0_0 l0_0.length c0_0], .agg #[.int .i64 a1_0, .int .i64 a1_1, .int .i64 a1_2, .slice A1_3 l1_3.length c1_3], .int .i64 a2, .int .i64 a3] w fun e w' => e = .returned (.int .i64 r) ∧ Below w.heap.size w w' := by
 have hu31 := Try.underlying31; have hu35 := Try.underlying35; have hu80 := Try.underlying80; have HR0_0 := aM_ hr0_0; have HC0_0 := aM_ hc0_0; clear hr0_0 hc0_0; have HR1_3 := aM_ hr1_3; have HC1_3 := aM_ hc1_3; clear hr1_3 hc1_3; have HB := aM_ (Below.refl w.heap.size w)
 have H : ((impl_PieceAt.f a1_0 a1_1 a1_2 l1_3 a3).bind fun t302 => (impl_LandingFor.l0 k a2 (-1) 0 t302 l0_0 (l0_0.length : Int) 0 a1_0 a1_1 a1_2 l1_3)) = some r := h
 clear h
 replace H := Option.bind_eq_some_iff.mp H
 obtain ⟨t302, A50, H⟩ := H
 (try dsimp only at H)
 have A5 := aM_ A50; clear A50
 have H' := aM_ H
 clear H
 go_enter Try.func45, Try.ntmps45
 go_wp2_with (first | ((with_reducible refine gate_dst (N := 4) rfl ?_); (try (refine gate_guard (by rfl) ?_; dsimp only)); refine box_event ?hg (N := 4) ?hd (cs := #[.slice A0_0 l0_0.length c0_0]) (t := 31) ?hr ?_; (case hd => rfl); (case hg => rfl); (case hr => first | (go_simp; done) | (go_simp; rfl)); intro gb300 hg w6 hbox hb; have n0_ := aM_ (wS_ (by repeat (first | (with_reducible first | exact HB.out | apply wA_ | apply wN_ | apply wD_) | exact HB.out)) hb); have n1_ := aM_ (hbox); have n2_ := aM_ ((by rw [hg]; exact (sZ_ (by repeat (first | (with_reducible first | exact HB.out | apply wA_ | apply wN_ | apply wD_) | exact HB.out))) : w.heap.size ≤ gb300)); have n3_ := aM_ ((by rw [hg]; exact (sZ_ (by repeat (first | (with_reducible first | exact HB.out | apply wA_ | apply wN_ | apply wD_) | exact HB.out))) : w.heap.size ≤ gb300)); clear HB; have HB := n0_; have BK300 := n1_; have GW300 := n2_; have GE300 := n3_; clear n0_ n1_ n2_ n3_; clear hb hbox hg) | ((with_reducible refine gate_dst (N := 5) rfl ?_); (try (refine gate_guard (by rfl) ?_; dsimp only)); refine box_event ?hg (N := 5) ?hd (cs := #[.int .i64 a1_0, .int .i64 a1_1, .int .i64 a1_2, .slice A1_3 l1_3.length c1_3]) (t := 35) ?hr ?_; (case hd => rfl); (case hg => rfl); (case hr => first | (go_simp; done) | (go_simp; rfl)); intro gb301 hg w7 hbox hb; have n0_ := aM_ (bB_ (g := gb300) (by (with_reducible repeat (first | refine bN_ ?_ _ | refine bD_ ?_ | refine bA_ ?_ _)); exact BK300.out) hb); have n1_ := aM_ (wS_ (by repeat (first | (with_reducible first | exact HB.out | apply wA_ | apply wN_ | apply wD_ | refine wE_ ?_ GE300.out) | exact HB.out)) hb); have n2_ := aM_ (hbox); have n3_ := aM_ ((by rw [hg]; exact (sZ_ (by repeat (first | (with_reducible first | exact HB.out | apply wA_ | apply wN_ | apply wD_ | refine wE_ ?_ GE300.out) | exact HB.out))) : w.heap.size ≤ gb301)); have n4_ := aM_ ((by rw [hg]; exact (sZ_ (by repeat (first | (with_reducible first | exact HB.out | apply wA_ | apply wN_ | apply wD_ | refine wE_ ?_ GE300.out) | exact HB.out))) : w.heap.size ≤ gb301)); have n5_ := aM_ ((by rw [hg]; exact Nat.ne_of_lt (blk_lt (g := gb300) (by (with_reducible repeat (first | refine bN_ ?_ _ | refine bD_ ?_ | refine bA_ ?_ _)); exact BK300.out)) : gb300 ≠ gb301)); have n6_ := aM_ ((by rw [hg]; exact Nat.ne_of_gt (blk_lt (g := gb300) (by (with_reducible repeat (first | refine bN_ ?_ _ | refine bD_ ?_ | refine bA_ ?_ _)); exact BK300.out)) : gb301 ≠ gb300)); clear BK300; clear HB; have BK300 := n0_; have HB := n1_; have BK301 := n2_; have GW301 := n3_; have GE301 := n4_; have NB300_301 := n5_; have NB301_300 := n6_; clear n0_ n1_ n2_ n3_ n4_ n5_ n6_; clear hb hbox hg; have hnb8 := NB301_300.out; have hnc8 := NB300_301.out; have hcz9_0 : w7.cell? ⟨gb301, 0, none⟩ = some (.int .i64 a1_0) := (blk_cell BK301.out 0).trans rfl; have hcz9_1 : w7.cell? ⟨gb301, 1, none⟩ = some (.int .i64 a1_1) := (blk_cell BK301.out 1).trans rfl; have hcz9_2 : w7.cell? ⟨gb301, 2, none⟩ = some (.int .i64 a1_2) := (blk_cell BK301.out 2).trans rfl; have hcz9_3 : w7.cell? ⟨gb301, 3, none⟩ = some (.slice A1_3 l1_3.length c1_3) := (blk_cell BK301.out 3).trans rfl; have hfz9_0 := blk_frozen BK301.out 0; have hfz9_1 := blk_frozen BK301.out 1; have hfz9_2 := blk_frozen BK301.out 2; have hfz9_3 := blk_frozen BK301.out 3) | ((with_reducible refine gate_callee (f := 58) rfl ?_); refine goesL_ (some 19) rfl rfl Try.func58 (by kernel_rfl) rfl #[.agg #[.int .i64 a1_0, .int .i64 a1_1, .int .i64 a1_2, .slice A1_3 l1_3.length c1_3], .int .i64 a3] rfl (by (try simp only [List.map_toArray, List.map_cons, List.map_nil]); first | done | rfl | (simp only [List.length_drop, List.length_take]; rfl)) ?_; (with_reducible refine (impl_PieceAt.calls a1_0 a1_1 a1_2 _ _ l1_3 a3 t302 _ ?side1 ?side2 A5.out).mono ?_); (case side1 => repeat (first | exact (Kd.C_below HR1_3.out HB.out) | (with_reducible refine cA_ ?_ _) | (with_reducible refine cN_ ?_ _) | (with_reducible refine cD_ ?_))); (case side2 => exact HC1_3.out); rintro e w10 ⟨rfl, hb⟩; refine ⟨_, rfl, ?_⟩; have n0_ := aM_ (bB_ (g := gb300) (by (with_reducible repeat (first | refine bN_ ?_ _ | refine bD_ ?_ | refine bA_ ?_ _)); exact BK300.out) hb); have n1_ := aM_ (bB_ (g := gb301) (by (with_reducible repeat (first | refine bN_ ?_ _ | refine bD_ ?_ | refine bA_ ?_ _)); exact BK301.out) hb); have n2_ := aM_ (wS_ (by repeat (first | (with_reducible first | exact HB.out | apply wA_ | apply wN_ | apply wD_ | refine wE_ ?_ GE300.out | refine wE_ ?_ GE301.out) | exact HB.out)) hb); clear BK300; clear BK301; clear HB; have BK300 := n0_; have BK301 := n1_; have HB := n2_; clear n0_ n1_ n2_; (try clear hb); (try clear hb2); (try clear hk); (try clear hi); have hcz11_0 : w10.cell? ⟨gb300, 0, none⟩ = some (.slice A0_0 l0_0.length c0_0) := (blk_cell BK300.out 0).trans rfl; have hfz11_0 := blk_frozen BK300.out 0))
 go_loopg [9, 10, 23] k (fun kq v9 v10 v23 w' => ∃ (x9_1 : Int) (x10_1 : Int) (x23_1 : Int), v9 = .int .i64 x9_1 ∧ v10 = .int .i64 x10_1 ∧ v23 = .int .i64 x23_1 ∧ Aside0 (impl_LandingFor.l0 kq a2 x9_1 x10_1 t302 l0_0 (l0_0.length : Int) x23_1 a1_0 a1_1 a1_2 l1_3 = some r) ∧ Aside0 (kq ≤ k) ∧ Aside0 (w'.heap[gb300]? = some (.cells #[(.slice A0_0 l0_0.length c0_0)] 31 (0, 0))) ∧ Aside0 (w'.heap[gb301]? = some (.cells #[.int .i64 a1_0, .int .i64 a1_1, .int .i64 a1_2, (.slice A1_3 l1_3.length c1_3)] 35 (0, 0))) ∧ Aside0 (Below w.heap.size w w'))
 case atStart => exact ⟨((-1)), (0), (0), (by first | rfl | (simp; done) | (simp [*]; done)), (by first | rfl | (simp; done) | (simp [*]; done)), (by first | rfl | (simp; done) | (simp [*]; done)), H', ⟨Nat.le_refl _⟩, ⟨by (with_reducible repeat (first | refine bN_ ?_ _ | refine bD_ ?_ | refine bA_ ?_ _)); exact BK300.out⟩, ⟨by (with_reducible repeat (first | refine bN_ ?_ _ | refine bD_ ?_ | refine bA_ ?_ _)); exact BK301.out⟩, ⟨by repeat (first | (with_reducible first | exact HB.out | apply wA_ | apply wN_ | apply wD_ | refine wE_ ?_ GE300.out | refine wE_ ?_ GE301.out) | exact HB.out)⟩⟩
 case round =>
  clear H'
  try clear c1
  try clear p2
  try clear c4
  try clear c5
  try clear c8
  try clear hcz11_0
  try clear hcz9_0
  try clear hcz9_1
  try clear hcz9_2
  try clear hcz9_3
  try clear hfz11_0
  try clear hfz9_0
  try clear hfz9_1
  try clear hfz9_2
  try clear hfz9_3
  obtain ⟨x9_1, x10_1, x23_1, rfl, rfl, rfl, HA, HK1, BK300, BK301, HB⟩ := hrel
  cases gk with
  | zero => exact absurd HA.out (by simp [impl_LandingFor.l0])
  | succ k1 =>
   have H := HA.out; clear HA
   simp only [impl_LandingFor.l0] at H
   by_cases c12 : x23_1 < (l0_0.length : Int)
   ·rw [if_pos c12] at H
    have c12b0 : decide (x23_1 < (l0_0.length : Int)) = true := decide_eq_true c12
    clear c12
    by_cases c13 : 0 ≤ x23_1
    ·rw [if_pos c13] at H
     have c13b0 : decide (0 ≤ x23_1) = true := decide_eq_true c13
     clear c13
     by_cases c14 : x23_1 < (l0_0.length : Int)
     ·rw [if_pos c14] at H
      have c14b0 : decide (x23_1 < (l0_0.length : Int)) = true := decide_eq_true c14
      clear c14
      replace H := Option.bind_eq_some_iff.mp H
      obtain ⟨⟨t304, t305, t308, t311⟩, A150, H⟩ := H
      (try dsimp only at H)
      have A15 := aM_ A150; clear A150; have HC16 := aM_ H; clear H
      have p303 : 0 ≤ (x23_1 : Int) := of_decide_eq_true (by first | (with_reducible assumption) | assumption)
      have q303 : x23_1 < (l0_0.length : Int) := of_decide_eq_true (by first | (with_reducible assumption) | assumption)
      obtain ⟨ad303, e303, hx303_0⟩ := Kd.at_int HR0_0.out x23_1 p303 q303
      cases e303
      replace hx303_0 := (HB.out.cell (World.block_lt_of_cell? w _ hx303_0)).trans hx303_0
      replace p303 := eq_true p303; replace q303 := eq_true q303; have hnb17 := NB301_300.out; have hnc17 := NB300_301.out
      have hcz18_0 : wr.cell? ⟨gb301, 0, none⟩ = some (.int .i64 a1_0) := (blk_cell BK301.out 0).trans rfl
      have hcz18_1 : wr.cell? ⟨gb301, 1, none⟩ = some (.int .i64 a1_1) := (blk_cell BK301.out 1).trans rfl
      have hcz18_2 : wr.cell? ⟨gb301, 2, none⟩ = some (.int .i64 a1_2) := (blk_cell BK301.out 2).trans rfl
      have hcz18_3 : wr.cell? ⟨gb301, 3, none⟩ = some (.slice A1_3 l1_3.length c1_3) := (blk_cell BK301.out 3).trans rfl
      have hfz18_0 := blk_frozen BK301.out 0; have hfz18_1 := blk_frozen BK301.out 1; have hfz18_2 := blk_frozen BK301.out 2; have hfz18_3 := blk_frozen BK301.out 3
      go_upto_region 7 with (first | ((with_reducible refine gate_callee (f := 60) rfl ?_); refine goesL_ (some 31) rfl rfl Try.func60 (by kernel_rfl) rfl #[.agg #[.int .i64 a1_0, .int .i64 a1_1, .int .i64 a1_2, .slice A1_3 l1_3.length c1_3], .int .i64 t302, .int .i64 (rd l0_0 x23_1)] rfl (by (try simp only [List.map_toArray, List.map_cons, List.map_nil]); first | done | rfl | (simp only [List.length_drop, List.length_take]; rfl)) ?_; (with_reducible refine (impl_TableIn.calls a1_0 a1_1 a1_2 _ _ l1_3 t302 (rd l0_0 x23_1) t304 t305 t308 t311 _ ?side1 ?side2 A15.out).mono ?_); (case side1 => repeat (first | exact (Kd.C_below HR1_3.out HB.out) | (with_reducible refine cA_ ?_ _) | (with_reducible refine cN_ ?_ _) | (with_reducible refine cD_ ?_))); (case side2 => exact HC1_3.out); rintro e w19 ⟨v306, v309, rfl, ho0, ho1, hb⟩; refine ⟨_, rfl, ?_⟩; have n0_ := aM_ (Kd.R_lower ho0 (sZ_ (by repeat (first | (with_reducible first | exact HB.out | apply wA_ | apply wN_ | apply wD_ | refine wE_ ?_ GE300.out | refine wE_ ?_ GE301.out) | exact HB.out)))); have n1_ := aM_ (Kd.R_lower ho1 (sZ_ (by repeat (first | (with_reducible first | exact HB.out | apply wA_ | apply wN_ | apply wD_ | refine wE_ ?_ GE300.out | refine wE_ ?_ GE301.out) | exact HB.out)))); have n2_ := aM_ (bB_ (g := gb300) (by (with_reducible repeat (first | refine bN_ ?_ _ | refine bD_ ?_ | refine bA_ ?_ _)); exact BK300.out) hb); have n3_ := aM_ (bB_ (g := gb301) (by (with_reducible repeat (first | refine bN_ ?_ _ | refine bD_ ?_ | refine bA_ ?_ _)); exact BK301.out) hb); have n4_ := aM_ (wS_ (by repeat (first | (with_reducible first | exact HB.out | apply wA_ | apply wN_ | apply wD_ | refine wE_ ?_ GE300.out | refine wE_ ?_ GE301.out) | exact HB.out)) hb); clear BK300; clear BK301; clear HB; have HO307 := n0_; have HO310 := n1_; have BK300 := n2_; have BK301 := n3_; have HB := n4_; clear n0_ n1_ n2_ n3_ n4_; (try clear hb); (try clear hb2); (try clear hk); (try clear hi); (try clear ho0); (try clear ho1)) | ((with_reducible refine gate_dst (N := 14) rfl ?_); (try (refine gate_guard (by rfl) ?_; dsimp only)); refine box_event ?hg (N := 14) ?hd (cs := #[.int .i64 0, .slice none 0 0, .slice none 0 0]) (t := 80) ?hr ?_; (case hd => rfl); (case hg => rfl); (case hr => first | (go_simp; done) | (go_simp; rfl)); intro gb312 hg w20 hbox hb; have n0_ := aM_ (rB_ (by (with_reducible repeat (first | apply rA_ | apply rN_ | apply rD_)); exact HO307.out) hb); have n1_ := aM_ (rB_ (by (with_reducible repeat (first | apply rA_ | apply rN_ | apply rD_)); exact HO310.out) hb); have n2_ := aM_ (bB_ (g := gb300) (by (with_reducible repeat (first | refine bN_ ?_ _ | refine bD_ ?_ | refine bA_ ?_ _)); exact BK300.out) hb); have n3_ := aM_ (bB_ (g := gb301) (by (with_reducible repeat (first | refine bN_ ?_ _ | refine bD_ ?_ | refine bA_ ?_ _)); exact BK301.out) hb); have n4_ := aM_ (wS_ (by repeat (first | (with_reducible first | exact HB.out | apply wA_ | apply wN_ | apply wD_ | refine wE_ ?_ GE300.out | refine wE_ ?_ GE301.out) | exact HB.out)) hb); have n5_ := aM_ (hbox); have n6_ := aM_ ((by rw [hg]; exact (sZ_ (by repeat (first | (with_reducible first | exact HB.out | apply wA_ | apply wN_ | apply wD_ | refine wE_ ?_ GE300.out | refine wE_ ?_ GE301.out) | exact HB.out))) : w.heap.size ≤ gb312)); have n7_ := aM_ ((by rw [hg]; exact (sZ_ (by repeat (first | (with_reducible first | exact HB.out | apply wA_ | apply wN_ | apply wD_ | refine wE_ ?_ GE300.out | refine wE_ ?_ GE301.out) | exact HB.out))) : w.heap.size ≤ gb312)); have n8_ := aM_ ((by rw [hg]; exact Nat.ne_of_lt (blk_lt (g := gb300) (by (with_reducible repeat (first | refine bN_ ?_ _ | refine bD_ ?_ | refine bA_ ?_ _)); exact BK300.out)) : gb300 ≠ gb312)); have n9_ := aM_ ((by rw [hg]; exact Nat.ne_of_gt (blk_lt (g := gb300) (by (with_reducible repeat (first | refine bN_ ?_ _ | refine bD_ ?_ | refine bA_ ?_ _)); exact BK300.out)) : gb312 ≠ gb300)); have n10_ := aM_ ((by rw [hg]; exact Nat.ne_of_lt (blk_lt (g := gb301) (by (with_reducible repeat (first | refine bN_ ?_ _ | refine bD_ ?_ | refine bA_ ?_ _)); exact BK301.out)) : gb301 ≠ gb312)); have n11_ := aM_ ((by rw [hg]; exact Nat.ne_of_gt (blk_lt (g := gb301) (by (with_reducible repeat (first | refine bN_ ?_ _ | refine bD_ ?_ | refine bA_ ?_ _)); exact BK301.out)) : gb312 ≠ gb301)); clear HO307; clear HO310; clear BK300; clear BK301; clear HB; have HO307 := n0_; have HO310 := n1_; have BK300 := n2_; have BK301 := n3_; have HB := n4_; have BK312 := n5_; have GW312 := n6_; have GE312 := n7_; have NB300_312 := n8_; have NB312_300 := n9_; have NB301_312 := n10_; have NB312_301 := n11_; clear n0_ n1_ n2_ n3_ n4_ n5_ n6_ n7_ n8_ n9_ n10_ n11_; clear hb hbox hg; have hnb21 := NB312_300.out; have hnc21 := NB300_312.out; have hnb22 := NB312_301.out; have hnc22 := NB301_312.out; have hcz23_0 : w20.cell? ⟨gb312, 0, none⟩ = some (.int .i64 0) := (blk_cell BK312.out 0).trans rfl; have hcz23_1 : w20.cell? ⟨gb312, 1, none⟩ = some (.slice none 0 0) := (blk_cell BK312.out 1).trans rfl; have hcz23_2 : w20.cell? ⟨gb312, 2, none⟩ = some (.slice none 0 0) := (blk_cell BK312.out 2).trans rfl; have hfz23_0 := blk_frozen BK312.out 0; have hfz23_1 := blk_frozen BK312.out 1; have hfz23_2 := blk_frozen BK312.out 2; obtain ⟨Ao24, co24, eo24⟩ := Kd.R_slice HO307.out; subst eo24; obtain ⟨Ao25, co25, eo25⟩ := Kd.R_slice HO310.out; subst eo25))
      (try simp only [Act.put, List.setIfInBounds_toArray, List.set_cons_zero, List.set_cons_succ])
      go_cut [51] (fun v51 wc => ∃ (kq : Nat) (x51_15 : Bool), v51 = .bool x51_15 ∧ Aside0 (impl_LandingFor.j1 kq a2 x9_1 x10_1 t302 (rd l0_0 x23_1) l0_0 (l0_0.length : Int) x23_1 x51_15 a1_0 a1_1 a1_2 l1_3 t304 t305 t308 = some r) ∧ Aside0 (kq ≤ k1) ∧ Aside0 (Kd.R (Kd.int .i64) 3 wc w.heap.size (fun k_ => some k_ ≠ ((.slice Ao25 t308.length co25) : Value).ownBlock) (.slice Ao24 t305.length co24) t305) ∧ Aside0 (Kd.R (Kd.int .i64) 3 wc w.heap.size (fun k_ => some k_ ≠ ((.slice Ao24 t305.length co24) : Value).ownBlock) (.slice Ao25 t308.length co25) t308) ∧ Aside0 (wc.heap[gb300]? = some (.cells #[(.slice (some ad303) l0_0.length c0_0)] 31 (0, 0))) ∧ Aside0 (wc.heap[gb301]? = some (.cells #[.int .i64 a1_0, .int .i64 a1_1, .int .i64 a1_2, (.slice A1_3 l1_3.length c1_3)] 35 (0, 0))) ∧ Aside0 (wc.heap[gb312]? = some (.cells #[.int .i64 t304, (.slice Ao24 t305.length co24), (.slice Ao25 t308.length co25)] 80 (0, 0))) ∧ Aside0 (Below w.heap.size w wc))
      case first =>
       have H := HC16.out; clear HC16
       by_cases c26 : t311 = true
       ·subst c26
        have H1 : ((impl_isIndex.f a2 (t305.length : Int)).bind fun t313 => (if t313 = true then (if 0 ≤ a2 then (if a2 < (t305.length : Int) then (impl_LandingFor.j1 k1 a2 x9_1 x10_1 t302 (rd l0_0 x23_1) l0_0 (l0_0.length : Int) x23_1 (decide ((rd t305 a2) < 0)) a1_0 a1_1 a1_2 l1_3 t304 t305 t308) else (none)) else (none)) else (impl_LandingFor.j1 k1 a2 x9_1 x10_1 t302 (rd l0_0 x23_1) l0_0 (l0_0.length : Int) x23_1 true a1_0 a1_1 a1_2 l1_3 t304 t305 t308))) = some r := by rw [if_pos rfl] at H; exact H
        clear H; have H := H1; clear H1
        replace H := Option.bind_eq_some_iff.mp H
        obtain ⟨t313, A270, H⟩ := H
        (try dsimp only at H)
        have A27 := aM_ A270; clear A270
        by_cases c28 : t313 = true
        ·subst c28
         have H1 : (if 0 ≤ a2 then (if a2 < (t305.length : Int) then (impl_LandingFor.j1 k1 a2 x9_1 x10_1 t302 (rd l0_0 x23_1) l0_0 (l0_0.length : Int) x23_1 (decide ((rd t305 a2) < 0)) a1_0 a1_1 a1_2 l1_3 t304 t305 t308) else (none)) else (none)) = some r := by rw [if_pos rfl] at H; exact H
         clear H; have H := H1; clear H1
         by_cases c29 : 0 ≤ a2
         ·rw [if_pos c29] at H
          have c29b0 : decide (0 ≤ a2) = true := decide_eq_true c29
          clear c29
          (first | rw [c29b0] | (simp only [i64_w, i32_w]; rw [c29b0]) | skip)
          by_cases c30 : a2 < (t305.length : Int)
          ·rw [if_pos c30] at H
           have c30b0 : decide (a2 < (t305.length : Int)) = true := decide_eq_true c30
           clear c30
           have H' := aM_ H
           clear H; have hnb31 := NB312_300.out; have hnc31 := NB300_312.out; have hnb32 := NB312_301.out; have hnc32 := NB301_312.out
           have hcz33_0 : w20.cell? ⟨gb312, 0, none⟩ = some (.int .i64 0) := (blk_cell BK312.out 0).trans rfl
           have hcz33_1 : w20.cell? ⟨gb312, 1, none⟩ = some (.slice none 0 0) := (blk_cell BK312.out 1).trans rfl
           have hcz33_2 : w20.cell? ⟨gb312, 2, none⟩ = some (.slice none 0 0) := (blk_cell BK312.out 2).trans rfl
           have hfz33_0 := blk_frozen BK312.out 0; have hfz33_1 := blk_frozen BK312.out 1; have hfz33_2 := blk_frozen BK312.out 2
           go_wp2_with (first | (go_at_call 74; (with_reducible refine (impl_isIndex.calls a2 (t305.length : Int) true _ A27.out).mono ?_); rintro e w' ⟨rfl, ⟨nd, rfl⟩⟩; have p314 : 0 ≤ (a2 : Int) := of_decide_eq_true (by first | (with_reducible assumption) | assumption); have q314 : a2 < (t305.length : Int) := of_decide_eq_true (by first | (with_reducible assumption) | assumption); obtain ⟨ad314, e314, hx314_0⟩ := Kd.at_int (Kd.R_reads' HO307.out).2.2 a2 p314 q314; cases e314; have hn314_0 : ad314.block ≠ gb312 := Kd.own_blk (Kd.R_ne HO307.out BK312.out (by decide)); have hn314_1 : ad314.block ≠ gb312 := Kd.own_blk (Kd.R_ne HO307.out BK312.out (by decide)); have hn314_2 : ad314.block ≠ gb312 := Kd.own_blk (Kd.R_ne HO307.out BK312.out (by decide)); replace hx314_0 := (cell_far (p := ⟨gb312, 0, none⟩) (by first | (rw [add_block]; exact hn314_0) | (show (Addr.add _ _).block ≠ _; rw [add_block]; exact hn314_0) | exact hn314_0) (.int .i64 t304)).trans hx314_0; replace hx314_0 := (cell_far (p := ⟨gb312, 1, none⟩) (by first | (rw [add_block]; exact hn314_1) | (show (Addr.add _ _).block ≠ _; rw [add_block]; exact hn314_1) | exact hn314_1) (.slice (some ad314) t305.length co24)).trans hx314_0; replace hx314_0 := (cell_far (p := ⟨gb312, 2, none⟩) (by first | (rw [add_block]; exact hn314_2) | (show (Addr.add _ _).block ≠ _; rw [add_block]; exact hn314_2) | exact hn314_2) (.slice Ao25 t308.length co25)).trans hx314_0; clear hn314_0; clear hn314_1; clear hn314_2; replace p314 := eq_true p314; replace q314 := eq_true q314))
           go_meet
           case rel => exact ⟨_, (decide ((rd t305 a2) < 0)), (by first | rfl | (simp; done) | (simp [*]; done)), H', ⟨by have := HK1.out; first | omega | exact Nat.le_refl _⟩, ⟨by (with_reducible repeat (first | apply rA_ | apply rN_ | apply rD_)); exact Kd.R_mono (Kd.R_far (p := ⟨gb312, 2, none⟩) (Kd.R_far (p := ⟨gb312, 1, none⟩) (Kd.R_far (p := ⟨gb312, 0, none⟩) (Kd.R_types HO307.out BK312.out (by decide)) (fun _ hk => hk.2) (.int .i64 t304)) (fun _ hk => hk.2) (.slice (some ad314) t305.length co24)) (fun _ hk => hk.2) (.slice Ao25 t308.length co25)) (fun _ hk => hk.1)⟩, ⟨by (with_reducible repeat (first | apply rA_ | apply rN_ | apply rD_)); exact Kd.R_mono (Kd.R_far (p := ⟨gb312, 2, none⟩) (Kd.R_far (p := ⟨gb312, 1, none⟩) (Kd.R_far (p := ⟨gb312, 0, none⟩) (Kd.R_types HO310.out BK312.out (by decide)) (fun _ hk => hk.2) (.int .i64 t304)) (fun _ hk => hk.2) (.slice (some ad314) t305.length co24)) (fun _ hk => hk.2) (.slice Ao25 t308.length co25)) (fun _ hk => hk.1)⟩, ⟨by (with_reducible repeat (first | refine bN_ ?_ _ | refine bD_ ?_ | refine bA_ ?_ _)); refine blk_far ?_ NB300_312.out _; (with_reducible repeat (first | refine bN_ ?_ _ | refine bD_ ?_ | refine bA_ ?_ _)); refine blk_far ?_ NB300_312.out _; (with_reducible repeat (first | refine bN_ ?_ _ | refine bD_ ?_ | refine bA_ ?_ _)); refine blk_far ?_ NB300_312.out _; (with_reducible repeat (first | refine bN_ ?_ _ | refine bD_ ?_ | refine bA_ ?_ _)); exact BK300.out⟩, ⟨by (with_reducible repeat (first | refine bN_ ?_ _ | refine bD_ ?_ | refine bA_ ?_ _)); refine blk_far ?_ NB301_312.out _; (with_reducible repeat (first | refine bN_ ?_ _ | refine bD_ ?_ | refine bA_ ?_ _)); refine blk_far ?_ NB301_312.out _; (with_reducible repeat (first | refine bN_ ?_ _ | refine bD_ ?_ | refine bA_ ?_ _)); refine blk_far ?_ NB301_312.out _; (with_reducible repeat (first | refine bN_ ?_ _ | refine bD_ ?_ | refine bA_ ?_ _)); exact BK301.out⟩, ⟨by (with_reducible repeat (first | refine bN_ ?_ _ | refine bD_ ?_ | refine bA_ ?_ _)); refine blk_put (cs := #[.int .i64 t304, .slice (some ad314) t305.length co24, .slice none 0 0]) ?_ 2 _ rfl; (with_reducible repeat (first | refine bN_ ?_ _ | refine bD_ ?_ | refine bA_ ?_ _)); refine blk_put (cs := #[.int .i64 t304, .slice none 0 0, .slice none 0 0]) ?_ 1 _ rfl; (with_reducible repeat (first | refine bN_ ?_ _ | refine bD_ ?_ | refine bA_ ?_ _)); refine blk_put (cs := #[.int .i64 0, .slice none 0 0, .slice none 0 0]) ?_ 0 _ rfl; (with_reducible repeat (first | refine bN_ ?_ _ | refine bD_ ?_ | refine bA_ ?_ _)); exact BK312.out⟩, ⟨by repeat (first | (with_reducible first | exact HB.out | apply wA_ | apply wN_ | apply wD_ | refine wE_ ?_ GE300.out | refine wE_ ?_ GE301.out | refine wE_ ?_ GE312.out) | exact HB.out)⟩⟩
          ·rw [if_neg c30] at H
           exact absurd H (by simp)
         ·rw [if_neg c29] at H
          exact absurd H (by simp)
        ·replace c28 := Bool.eq_false_iff.mpr c28
         subst c28
         have H1 : (impl_LandingFor.j1 k1 a2 x9_1 x10_1 t302 (rd l0_0 x23_1) l0_0 (l0_0.length : Int) x23_1 true a1_0 a1_1 a1_2 l1_3 t304 t305 t308) = some r := by rw [if_neg (show ¬ (false = true) by decide)] at H; exact H
         clear H; have H := H1; clear H1
         have H' := aM_ H
         clear H; have hnb34 := NB312_300.out; have hnc34 := NB300_312.out; have hnb35 := NB312_301.out; have hnc35 := NB301_312.out
         have hcz36_0 : w20.cell? ⟨gb312, 0, none⟩ = some (.int .i64 0) := (blk_cell BK312.out 0).trans rfl
         have hcz36_1 : w20.cell? ⟨gb312, 1, none⟩ = some (.slice none 0 0) := (blk_cell BK312.out 1).trans rfl
         have hcz36_2 : w20.cell? ⟨gb312, 2, none⟩ = some (.slice none 0 0) := (blk_cell BK312.out 2).trans rfl
         have hfz36_0 := blk_frozen BK312.out 0; have hfz36_1 := blk_frozen BK312.out 1; have hfz36_2 := blk_frozen BK312.out 2
         go_wp2_with (first | (go_at_call 74; (with_reducible refine (impl_isIndex.calls a2 (t305.length : Int) false _ A27.out).mono ?_); rintro e w' ⟨rfl, ⟨nd, rfl⟩⟩))
         go_meet
         case rel => exact ⟨_, (true), (by first | rfl | (simp; done) | (simp [*]; done)), H', ⟨by have := HK1.out; first | omega | exact Nat.le_refl _⟩, ⟨by (with_reducible repeat (first | apply rA_ | apply rN_ | apply rD_)); exact Kd.R_mono (Kd.R_far (p := ⟨gb312, 2, none⟩) (Kd.R_far (p := ⟨gb312, 1, none⟩) (Kd.R_far (p := ⟨gb312, 0, none⟩) (Kd.R_types HO307.out BK312.out (by decide)) (fun _ hk => hk.2) (.int .i64 t304)) (fun _ hk => hk.2) (.slice Ao24 t305.length co24)) (fun _ hk => hk.2) (.slice Ao25 t308.length co25)) (fun _ hk => hk.1)⟩, ⟨by (with_reducible repeat (first | apply rA_ | apply rN_ | apply rD_)); exact Kd.R_mono (Kd.R_far (p := ⟨gb312, 2, none⟩) (Kd.R_far (p := ⟨gb312, 1, none⟩) (Kd.R_far (p := ⟨gb312, 0, none⟩) (Kd.R_types HO310.out BK312.out (by decide)) (fun _ hk => hk.2) (.int .i64 t304)) (fun _ hk => hk.2) (.slice Ao24 t305.length co24)) (fun _ hk => hk.2) (.slice Ao25 t308.length co25)) (fun _ hk => hk.1)⟩, ⟨by (with_reducible repeat (first | refine bN_ ?_ _ | refine bD_ ?_ | refine bA_ ?_ _)); refine blk_far ?_ NB300_312.out _; (with_reducible repeat (first | refine bN_ ?_ _ | refine bD_ ?_ | refine bA_ ?_ _)); refine blk_far ?_ NB300_312.out _; (with_reducible repeat (first | refine bN_ ?_ _ | refine bD_ ?_ | refine bA_ ?_ _)); refine blk_far ?_ NB300_312.out _; (with_reducible repeat (first | refine bN_ ?_ _ | refine bD_ ?_ | refine bA_ ?_ _)); exact BK300.out⟩, ⟨by (with_reducible repeat (first | refine bN_ ?_ _ | refine bD_ ?_ | refine bA_ ?_ _)); refine blk_far ?_ NB301_312.out _; (with_reducible repeat (first | refine bN_ ?_ _ | refine bD_ ?_ | refine bA_ ?_ _)); refine blk_far ?_ NB301_312.out _; (with_reducible repeat (first | refine bN_ ?_ _ | refine bD_ ?_ | refine bA_ ?_ _)); refine blk_far ?_ NB301_312.out _; (with_reducible repeat (first | refine bN_ ?_ _ | refine bD_ ?_ | refine bA_ ?_ _)); exact BK301.out⟩, ⟨by (with_reducible repeat (first | refine bN_ ?_ _ | refine bD_ ?_ | refine bA_ ?_ _)); refine blk_put (cs := #[.int .i64 t304, .slice Ao24 t305.length co24, .slice none 0 0]) ?_ 2 _ rfl; (with_reducible repeat (first | refine bN_ ?_ _ | refine bD_ ?_ | refine bA_ ?_ _)); refine blk_put (cs := #[.int .i64 t304, .slice none 0 0, .slice none 0 0]) ?_ 1 _ rfl; (with_reducible repeat (first | refine bN_ ?_ _ | refine bD_ ?_ | refine bA_ ?_ _)); refine blk_put (cs := #[.int .i64 0, .slice none 0 0, .slice none 0 0]) ?_ 0 _ rfl; (with_reducible repeat (first | refine bN_ ?_ _ | refine bD_ ?_ | refine bA_ ?_ _)); exact BK312.out⟩, ⟨by repeat (first | (with_reducible first | exact HB.out | apply wA_ | apply wN_ | apply wD_ | refine wE_ ?_ GE300.out | refine wE_ ?_ GE301.out | refine wE_ ?_ GE312.out) | exact HB.out)⟩⟩
       ·replace c26 := Bool.eq_false_iff.mpr c26
        subst c26
        have H1 : (impl_LandingFor.j1 k1 a2 x9_1 x10_1 t302 (rd l0_0 x23_1) l0_0 (l0_0.length : Int) x23_1 true a1_0 a1_1 a1_2 l1_3 t304 t305 t308) = some r := by rw [if_neg (show ¬ (false = true) by decide)] at H; exact H
        clear H; have H := H1; clear H1
        have H' := aM_ H
        clear H
        go_wp2
        go_meet
        case rel => exact ⟨_, (true), (by first | rfl | (simp; done) | (simp [*]; done)), H', ⟨by have := HK1.out; first | omega | exact Nat.le_refl _⟩, ⟨by (with_reducible repeat (first | apply rA_ | apply rN_ | apply rD_)); exact Kd.R_mono (Kd.R_far (p := ⟨gb312, 2, none⟩) (Kd.R_far (p := ⟨gb312, 1, none⟩) (Kd.R_far (p := ⟨gb312, 0, none⟩) (Kd.R_types HO307.out BK312.out (by decide)) (fun _ hk => hk.2) (.int .i64 t304)) (fun _ hk => hk.2) (.slice Ao24 t305.length co24)) (fun _ hk => hk.2) (.slice Ao25 t308.length co25)) (fun _ hk => hk.1)⟩, ⟨by (with_reducible repeat (first | apply rA_ | apply rN_ | apply rD_)); exact Kd.R_mono (Kd.R_far (p := ⟨gb312, 2, none⟩) (Kd.R_far (p := ⟨gb312, 1, none⟩) (Kd.R_far (p := ⟨gb312, 0, none⟩) (Kd.R_types HO310.out BK312.out (by decide)) (fun _ hk => hk.2) (.int .i64 t304)) (fun _ hk => hk.2) (.slice Ao24 t305.length co24)) (fun _ hk => hk.2) (.slice Ao25 t308.length co25)) (fun _ hk => hk.1)⟩, ⟨by (with_reducible repeat (first | refine bN_ ?_ _ | refine bD_ ?_ | refine bA_ ?_ _)); refine blk_far ?_ NB300_312.out _; (with_reducible repeat (first | refine bN_ ?_ _ | refine bD_ ?_ | refine bA_ ?_ _)); refine blk_far ?_ NB300_312.out _; (with_reducible repeat (first | refine bN_ ?_ _ | refine bD_ ?_ | refine bA_ ?_ _)); refine blk_far ?_ NB300_312.out _; (with_reducible repeat (first | refine bN_ ?_ _ | refine bD_ ?_ | refine bA_ ?_ _)); exact BK300.out⟩, ⟨by (with_reducible repeat (first | refine bN_ ?_ _ | refine bD_ ?_ | refine bA_ ?_ _)); refine blk_far ?_ NB301_312.out _; (with_reducible repeat (first | refine bN_ ?_ _ | refine bD_ ?_ | refine bA_ ?_ _)); refine blk_far ?_ NB301_312.out _; (with_reducible repeat (first | refine bN_ ?_ _ | refine bD_ ?_ | refine bA_ ?_ _)); refine blk_far ?_ NB301_312.out _; (with_reducible repeat (first | refine bN_ ?_ _ | refine bD_ ?_ | refine bA_ ?_ _)); exact BK301.out⟩, ⟨by (with_reducible repeat (first | refine bN_ ?_ _ | refine bD_ ?_ | refine bA_ ?_ _)); refine blk_put (cs := #[.int .i64 t304, .slice Ao24 t305.length co24, .slice none 0 0]) ?_ 2 _ rfl; (with_reducible repeat (first | refine bN_ ?_ _ | refine bD_ ?_ | refine bA_ ?_ _)); refine blk_put (cs := #[.int .i64 t304, .slice none 0 0, .slice none 0 0]) ?_ 1 _ rfl; (with_reducible repeat (first | refine bN_ ?_ _ | refine bD_ ?_ | refine bA_ ?_ _)); refine blk_put (cs := #[.int .i64 0, .slice none 0 0, .slice none 0 0]) ?_ 0 _ rfl; (with_reducible repeat (first | refine bN_ ?_ _ | refine bD_ ?_ | refine bA_ ?_ _)); exact BK312.out⟩, ⟨by repeat (first | (with_reducible first | exact HB.out | apply wA_ | apply wN_ | apply wD_ | refine wE_ ?_ GE300.out | refine wE_ ?_ GE301.out | refine wE_ ?_ GE312.out) | exact HB.out)⟩⟩
      case rest =>
       clear HC16
       try clear c1
       try clear c2
       try clear p2
       try clear c3
       try clear p3
       try clear q3
       try clear hx3
       try clear c4
       try clear c5
       try clear c6
       try clear c8
       try clear c12
       try clear c12b0
       try clear c13
       try clear c13b0
       try clear c14
       try clear c14b0
       try clear c17
       try clear c21
       try clear c22
       try clear c26
       try clear c28
       try clear c29
       try clear c29b0
       try clear c30
       try clear c30b0
       try clear p30
       try clear q30
       try clear hx30
       try clear c31
       try clear p31
       try clear q31
       try clear hx31
       try clear c32
       try clear c34
       try clear c35
       try clear hcz11_0
       try clear hcz18_0
       try clear hcz18_1
       try clear hcz18_2
       try clear hcz18_3
       try clear hcz23_0
       try clear hcz23_1
       try clear hcz23_2
       try clear hcz33_0
       try clear hcz33_1
       try clear hcz33_2
       try clear hcz36_0
       try clear hcz36_1
       try clear hcz36_2
       try clear hcz9_0
       try clear hcz9_1
       try clear hcz9_2
       try clear hcz9_3
       try clear hfz11_0
       try clear hfz18_0
       try clear hfz18_1
       try clear hfz18_2
       try clear hfz18_3
       try clear hfz23_0
       try clear hfz23_1
       try clear hfz23_2
       try clear hfz33_0
       try clear hfz33_1
       try clear hfz33_2
       try clear hfz36_0
       try clear hfz36_1
       try clear hfz36_2
       try clear hfz9_0
       try clear hfz9_1
       try clear hfz9_2
       try clear hfz9_3
       try clear hx303_0
       try clear hx314_0
       try clear p2
       try clear p303
       try clear p314
       try clear q303
       try clear q314
       obtain ⟨kq, x51_15, rfl, HA, HJ15, HO_313001, HO_313002, BK300, BK301, BK312, HB⟩ := hcut
       cases kq with
       | zero => exact absurd HA.out (by simp [impl_LandingFor.j1])
       | succ kj15 =>
        have H := HA.out; clear HA
        simp only [impl_LandingFor.j1] at H
        by_cases c37 : x51_15 = true
        ·subst c37
         have H1 : (impl_LandingFor.l0 kj15 a2 x9_1 x10_1 t302 l0_0 (l0_0.length : Int) (wrap64 (x23_1 + 1)) a1_0 a1_1 a1_2 l1_3) = some r := by rw [if_pos rfl] at H; exact H
         clear H; have H := H1; clear H1
         have H' := aM_ H
         clear H
         go_wp2
         go_roundg kj15
         case measure => have := HK1.out; have := HJ15.out; omega
         case rel => exact ⟨(x9_1), (x10_1), (wrap64 (x23_1 + 1)), (by first | rfl | (simp; done) | (simp [*]; done)), (by first | rfl | (simp; done) | (simp [*]; done)), (by first | rfl | (simp; done) | (simp [*]; done)), H', ⟨by have := HK1.out; have := HJ15.out; omega⟩, ⟨by (with_reducible repeat (first | refine bN_ ?_ _ | refine bD_ ?_ | refine bA_ ?_ _)); exact BK300.out⟩, ⟨by (with_reducible repeat (first | refine bN_ ?_ _ | refine bD_ ?_ | refine bA_ ?_ _)); exact BK301.out⟩, ⟨by repeat (first | (with_reducible first | exact HB.out | apply wA_ | apply wN_ | apply wD_ | refine wE_ ?_ GE300.out | refine wE_ ?_ GE301.out | refine wE_ ?_ GE312.out) | exact HB.out)⟩⟩
        ·replace c37 := Bool.eq_false_iff.mpr c37
         subst c37
         have H1 : (if 0 ≤ a2 then (if a2 < (t305.length : Int) then (if x9_1 < 0 then (impl_LandingFor.l0 kj15 a2 (rd l0_0 x23_1) (rd t305 a2) t302 l0_0 (l0_0.length : Int) (wrap64 (x23_1 + 1)) a1_0 a1_1 a1_2 l1_3) else (if (rd t305 a2) < x10_1 then (impl_LandingFor.l0 kj15 a2 (rd l0_0 x23_1) (rd t305 a2) t302 l0_0 (l0_0.length : Int) (wrap64 (x23_1 + 1)) a1_0 a1_1 a1_2 l1_3) else (if (rd t305 a2) = x10_1 then (if (rd l0_0 x23_1) < x9_1 then (impl_LandingFor.l0 kj15 a2 (rd l0_0 x23_1) (rd t305 a2) t302 l0_0 (l0_0.length : Int) (wrap64 (x23_1 + 1)) a1_0 a1_1 a1_2 l1_3) else (impl_LandingFor.l0 kj15 a2 x9_1 x10_1 t302 l0_0 (l0_0.length : Int) (wrap64 (x23_1 + 1)) a1_0 a1_1 a1_2 l1_3)) else (impl_LandingFor.l0 kj15 a2 x9_1 x10_1 t302 l0_0 (l0_0.length : Int) (wrap64 (x23_1 + 1)) a1_0 a1_1 a1_2 l1_3)))) else (none)) else (none)) = some r := by rw [if_neg (show ¬ (false = true) by decide)] at H; exact H
         clear H; have H := H1; clear H1
         by_cases c38 : 0 ≤ a2
         ·rw [if_pos c38] at H
          have c38b0 : decide (0 ≤ a2) = true := decide_eq_true c38
          clear c38
          by_cases c39 : a2 < (t305.length : Int)
          ·rw [if_pos c39] at H
           have c39b0 : decide (a2 < (t305.length : Int)) = true := decide_eq_true c39
           clear c39
           by_cases c40 : x9_1 < 0
           ·rw [if_pos c40] at H
            have c40b0 : decide (x9_1 < 0) = true := decide_eq_true c40
            clear c40
            have H' := aM_ H
            clear H; have hnb41 := NB312_300.out; have hnc41 := NB300_312.out; have hnb42 := NB312_301.out; have hnc42 := NB301_312.out
            have hcz43_0 : wc.cell? ⟨gb312, 0, none⟩ = some (.int .i64 t304) := (blk_cell BK312.out 0).trans rfl
            have hcz43_1 : wc.cell? ⟨gb312, 1, none⟩ = some (.slice Ao24 t305.length co24) := (blk_cell BK312.out 1).trans rfl
            have hcz43_2 : wc.cell? ⟨gb312, 2, none⟩ = some (.slice Ao25 t308.length co25) := (blk_cell BK312.out 2).trans rfl
            have hfz43_0 := blk_frozen BK312.out 0; have hfz43_1 := blk_frozen BK312.out 1; have hfz43_2 := blk_frozen BK312.out 2
            have p315 : 0 ≤ (a2 : Int) := of_decide_eq_true (by first | (with_reducible assumption) | assumption)
            have q315 : a2 < (t305.length : Int) := of_decide_eq_true (by first | (with_reducible assumption) | assumption)
            obtain ⟨ad315, e315, hx315_0⟩ := Kd.at_int (Kd.R_reads' HO_313001.out).2.2 a2 p315 q315
            cases e315
            replace p315 := eq_true p315; replace q315 := eq_true q315
            go_wp2
            go_roundg kj15
            case measure => have := HK1.out; have := HJ15.out; omega
            case rel => exact ⟨((rd l0_0 x23_1)), (rd t305 a2), (wrap64 (x23_1 + 1)), (by first | rfl | (simp; done) | (simp [*]; done)), (by first | rfl | (simp; done) | (simp [*]; done)), (by first | rfl | (simp; done) | (simp [*]; done)), H', ⟨by have := HK1.out; have := HJ15.out; omega⟩, ⟨by (with_reducible repeat (first | refine bN_ ?_ _ | refine bD_ ?_ | refine bA_ ?_ _)); exact BK300.out⟩, ⟨by (with_reducible repeat (first | refine bN_ ?_ _ | refine bD_ ?_ | refine bA_ ?_ _)); exact BK301.out⟩, ⟨by repeat (first | (with_reducible first | exact HB.out | apply wA_ | apply wN_ | apply wD_ | refine wE_ ?_ GE300.out | refine wE_ ?_ GE301.out | refine wE_ ?_ GE312.out) | exact HB.out)⟩⟩
           ·rw [if_neg c40] at H
            have c40b0 : decide (x9_1 < 0) = false := decide_eq_false c40
            clear c40
            by_cases c44 : (rd t305 a2) < x10_1
            ·rw [if_pos c44] at H
             have c44b0 : decide ((rd t305 a2) < x10_1) = true := decide_eq_true c44
             clear c44
             have H' := aM_ H
             clear H; have hnb45 := NB312_300.out; have hnc45 := NB300_312.out; have hnb46 := NB312_301.out; have hnc46 := NB301_312.out
             have hcz47_0 : wc.cell? ⟨gb312, 0, none⟩ = some (.int .i64 t304) := (blk_cell BK312.out 0).trans rfl
             have hcz47_1 : wc.cell? ⟨gb312, 1, none⟩ = some (.slice Ao24 t305.length co24) := (blk_cell BK312.out 1).trans rfl
             have hcz47_2 : wc.cell? ⟨gb312, 2, none⟩ = some (.slice Ao25 t308.length co25) := (blk_cell BK312.out 2).trans rfl
             have hfz47_0 := blk_frozen BK312.out 0; have hfz47_1 := blk_frozen BK312.out 1; have hfz47_2 := blk_frozen BK312.out 2
             have p315 : 0 ≤ (a2 : Int) := of_decide_eq_true (by first | (with_reducible assumption) | assumption)
             have q315 : a2 < (t305.length : Int) := of_decide_eq_true (by first | (with_reducible assumption) | assumption)
             obtain ⟨ad315, e315, hx315_0⟩ := Kd.at_int (Kd.R_reads' HO_313001.out).2.2 a2 p315 q315
             cases e315
             replace p315 := eq_true p315; replace q315 := eq_true q315
             go_wp2
             go_roundg kj15
             case measure => have := HK1.out; have := HJ15.out; omega
             case rel => exact ⟨((rd l0_0 x23_1)), (rd t305 a2), (wrap64 (x23_1 + 1)), (by first | rfl | (simp; done) | (simp [*]; done)), (by first | rfl | (simp; done) | (simp [*]; done)), (by first | rfl | (simp; done) | (simp [*]; done)), H', ⟨by have := HK1.out; have := HJ15.out; omega⟩, ⟨by (with_reducible repeat (first | refine bN_ ?_ _ | refine bD_ ?_ | refine bA_ ?_ _)); exact BK300.out⟩, ⟨by (with_reducible repeat (first | refine bN_ ?_ _ | refine bD_ ?_ | refine bA_ ?_ _)); exact BK301.out⟩, ⟨by repeat (first | (with_reducible first | exact HB.out | apply wA_ | apply wN_ | apply wD_ | refine wE_ ?_ GE300.out | refine wE_ ?_ GE301.out | refine wE_ ?_ GE312.out) | exact HB.out)⟩⟩
            ·rw [if_neg c44] at H
             have c44b0 : decide ((rd t305 a2) < x10_1) = false := decide_eq_false c44
             clear c44
             by_cases c48 : (rd t305 a2) = x10_1
             ·rw [if_pos c48] at H
              have c48b0 : ((rd t305 a2) == x10_1) = true := beq_iff_eq.mpr c48
              have c48b1 : ((rd t305 a2) != x10_1) = false := bne_eq_false_iff_eq.mpr c48
              clear c48
              by_cases c49 : (rd l0_0 x23_1) < x9_1
              ·rw [if_pos c49] at H
               have c49b0 : decide ((rd l0_0 x23_1) < x9_1) = true := decide_eq_true c49
               clear c49
               have H' := aM_ H
               clear H; have hnb50 := NB312_300.out; have hnc50 := NB300_312.out; have hnb51 := NB312_301.out; have hnc51 := NB301_312.out
               have hcz52_0 : wc.cell? ⟨gb312, 0, none⟩ = some (.int .i64 t304) := (blk_cell BK312.out 0).trans rfl
               have hcz52_1 : wc.cell? ⟨gb312, 1, none⟩ = some (.slice Ao24 t305.length co24) := (blk_cell BK312.out 1).trans rfl
               have hcz52_2 : wc.cell? ⟨gb312, 2, none⟩ = some (.slice Ao25 t308.length co25) := (blk_cell BK312.out 2).trans rfl
               have hfz52_0 := blk_frozen BK312.out 0; have hfz52_1 := blk_frozen BK312.out 1; have hfz52_2 := blk_frozen BK312.out 2
               have p315 : 0 ≤ (a2 : Int) := of_decide_eq_true (by first | (with_reducible assumption) | assumption)
               have q315 : a2 < (t305.length : Int) := of_decide_eq_true (by first | (with_reducible assumption) | assumption)
               obtain ⟨ad315, e315, hx315_0⟩ := Kd.at_int (Kd.R_reads' HO_313001.out).2.2 a2 p315 q315
               cases e315
               replace p315 := eq_true p315; replace q315 := eq_true q315
               go_wp2
               go_roundg kj15
               case measure => have := HK1.out; have := HJ15.out; omega
               case rel => exact ⟨((rd l0_0 x23_1)), (rd t305 a2), (wrap64 (x23_1 + 1)), (by first | rfl | (simp; done) | (simp [*]; done)), (by first | rfl | (simp; done) | (simp [*]; done)), (by first | rfl | (simp; done) | (simp [*]; done)), H', ⟨by have := HK1.out; have := HJ15.out; omega⟩, ⟨by (with_reducible repeat (first | refine bN_ ?_ _ | refine bD_ ?_ | refine bA_ ?_ _)); exact BK300.out⟩, ⟨by (with_reducible repeat (first | refine bN_ ?_ _ | refine bD_ ?_ | refine bA_ ?_ _)); exact BK301.out⟩, ⟨by repeat (first | (with_reducible first | exact HB.out | apply wA_ | apply wN_ | apply wD_ | refine wE_ ?_ GE300.out | refine wE_ ?_ GE301.out | refine wE_ ?_ GE312.out) | exact HB.out)⟩⟩
              ·rw [if_neg c49] at H
               have c49b0 : decide ((rd l0_0 x23_1) < x9_1) = false := decide_eq_false c49
               clear c49
               have H' := aM_ H
               clear H; have hnb53 := NB312_300.out; have hnc53 := NB300_312.out; have hnb54 := NB312_301.out; have hnc54 := NB301_312.out
               have hcz55_0 : wc.cell? ⟨gb312, 0, none⟩ = some (.int .i64 t304) := (blk_cell BK312.out 0).trans rfl
               have hcz55_1 : wc.cell? ⟨gb312, 1, none⟩ = some (.slice Ao24 t305.length co24) := (blk_cell BK312.out 1).trans rfl
               have hcz55_2 : wc.cell? ⟨gb312, 2, none⟩ = some (.slice Ao25 t308.length co25) := (blk_cell BK312.out 2).trans rfl
               have hfz55_0 := blk_frozen BK312.out 0; have hfz55_1 := blk_frozen BK312.out 1; have hfz55_2 := blk_frozen BK312.out 2
               have p315 : 0 ≤ (a2 : Int) := of_decide_eq_true (by first | (with_reducible assumption) | assumption)
               have q315 : a2 < (t305.length : Int) := of_decide_eq_true (by first | (with_reducible assumption) | assumption)
               obtain ⟨ad315, e315, hx315_0⟩ := Kd.at_int (Kd.R_reads' HO_313001.out).2.2 a2 p315 q315
               cases e315
               replace p315 := eq_true p315; replace q315 := eq_true q315
               go_wp2
               go_roundg kj15
               case measure => have := HK1.out; have := HJ15.out; omega
               case rel => exact ⟨(x9_1), (x10_1), (wrap64 (x23_1 + 1)), (by first | rfl | (simp; done) | (simp [*]; done)), (by first | rfl | (simp; done) | (simp [*]; done)), (by first | rfl | (simp; done) | (simp [*]; done)), H', ⟨by have := HK1.out; have := HJ15.out; omega⟩, ⟨by (with_reducible repeat (first | refine bN_ ?_ _ | refine bD_ ?_ | refine bA_ ?_ _)); exact BK300.out⟩, ⟨by (with_reducible repeat (first | refine bN_ ?_ _ | refine bD_ ?_ | refine bA_ ?_ _)); exact BK301.out⟩, ⟨by repeat (first | (with_reducible first | exact HB.out | apply wA_ | apply wN_ | apply wD_ | refine wE_ ?_ GE300.out | refine wE_ ?_ GE301.out | refine wE_ ?_ GE312.out) | exact HB.out)⟩⟩
             ·rw [if_neg c48] at H
              have c48b0 : ((rd t305 a2) == x10_1) = false := beq_eq_false_iff_ne.mpr c48
              have c48b1 : ((rd t305 a2) != x10_1) = true := bne_iff_ne.mpr c48
              have H' := aM_ H
              clear H; have hnb56 := NB312_300.out; have hnc56 := NB300_312.out; have hnb57 := NB312_301.out; have hnc57 := NB301_312.out
              have hcz58_0 : wc.cell? ⟨gb312, 0, none⟩ = some (.int .i64 t304) := (blk_cell BK312.out 0).trans rfl
              have hcz58_1 : wc.cell? ⟨gb312, 1, none⟩ = some (.slice Ao24 t305.length co24) := (blk_cell BK312.out 1).trans rfl
              have hcz58_2 : wc.cell? ⟨gb312, 2, none⟩ = some (.slice Ao25 t308.length co25) := (blk_cell BK312.out 2).trans rfl
              have hfz58_0 := blk_frozen BK312.out 0; have hfz58_1 := blk_frozen BK312.out 1; have hfz58_2 := blk_frozen BK312.out 2
              have p315 : 0 ≤ (a2 : Int) := of_decide_eq_true (by first | (with_reducible assumption) | assumption)
              have q315 : a2 < (t305.length : Int) := of_decide_eq_true (by first | (with_reducible assumption) | assumption)
              obtain ⟨ad315, e315, hx315_0⟩ := Kd.at_int (Kd.R_reads' HO_313001.out).2.2 a2 p315 q315
              cases e315
              replace p315 := eq_true p315; replace q315 := eq_true q315
              go_wp2
              go_roundg kj15
              case measure => have := HK1.out; have := HJ15.out; omega
              case rel => exact ⟨(x9_1), (x10_1), (wrap64 (x23_1 + 1)), (by first | rfl | (simp; done) | (simp [*]; done)), (by first | rfl | (simp; done) | (simp [*]; done)), (by first | rfl | (simp; done) | (simp [*]; done)), H', ⟨by have := HK1.out; have := HJ15.out; omega⟩, ⟨by (with_reducible repeat (first | refine bN_ ?_ _ | refine bD_ ?_ | refine bA_ ?_ _)); exact BK300.out⟩, ⟨by (with_reducible repeat (first | refine bN_ ?_ _ | refine bD_ ?_ | refine bA_ ?_ _)); exact BK301.out⟩, ⟨by repeat (first | (with_reducible first | exact HB.out | apply wA_ | apply wN_ | apply wD_ | refine wE_ ?_ GE300.out | refine wE_ ?_ GE301.out | refine wE_ ?_ GE312.out) | exact HB.out)⟩⟩
          ·rw [if_neg c39] at H
           exact absurd H (by simp)
         ·rw [if_neg c38] at H
          exact absurd H (by simp)
     ·rw [if_neg c14] at H
      exact absurd H (by simp)
    ·rw [if_neg c13] at H
     exact absurd H (by simp)
   ·rw [if_neg c12] at H
    have c12b0 : decide (x23_1 < (l0_0.length : Int)) = false := decide_eq_false c12
    clear c12
    obtain rfl := Option.some.inj H
    go_wp2
    go_ret
    exact ⟨by first | rfl | (simp [errW_none, errW_some] <;> rfl) | (simp [*, errW_none, errW_some] <;> rfl), by repeat (first | (with_reducible first | exact HB.out | apply wA_ | apply wN_ | apply wD_ | refine wE_ ?_ GE300.out | refine wE_ ?_ GE301.out) | exact HB.out)⟩

end Go.Proofs.Ytegkplalnljgjaa.PFnExactLandingFor
