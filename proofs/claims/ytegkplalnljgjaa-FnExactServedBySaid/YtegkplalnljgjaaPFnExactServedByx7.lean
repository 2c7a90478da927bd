/- The functions that the law reaches, as plain Lean functions, each with the proof that the Go code comes to its answers; conditions: those that each theorem names. (printed by a program of this session) -/
import Derived.Test.YtegkplalnljgjaaPFnExactServedByx0
import Derived.Test.YtegkplalnljgjaaPFnExactServedByx5
import Derived.Test.YtegkplalnljgjaaPFnExactServedByx6
namespace Go.Proofs.Ytegkplalnljgjaa.PFnExactServedBy
open Go.RowKit Go.Proofs.YtegkplalnljgjaaW.PrintWords Go.Proofs.YtegkplalnljgjaaW.PrintLast Go.Proofs.YtegkplalnljgjaaW.PrintMore
attribute [local go_sem] max2_int min2_int max_two min_two max_three min_three max_four min_four   -- for this text's walks alone
set_option linter.unusedVariables false
set_option linter.unusedSimpArgs false

/-! ### spec_LandingFor: function 44 -/
mutual
def spec_LandingFor.l0 : Nat → Int → Int → Int → Int → Int → List Int → Int → Int → Int → List (S119) → Option (Int)
  | 0, _, _, _, _, _, _, _, _, _, _ => none
  | k + 1, x2, x9, x10, x11, x12, x255000, x256000, x256001, x256002, x256003 => if x12 < (x255000.length : Int) then (if 0 ≤ x12 then ((spec_TableIn.f x256000 x256001 x256002 x256003 x11 (rd x255000 x12)).bind fun bt258 => (if bt258.2.2.2 = true then ((spec_l1In.f x2 0 (wrap64 ((bt258.2.1.length : Int) - 1))).bind fun t267 => (if t267 = true then (if 0 ≤ x2 then (if x2 < (bt258.2.1.length : Int) then (spec_LandingFor.j1 k x2 x9 x10 x11 x12 (decide ((rd bt258.2.1 x2) < 0)) x255000 x256000 x256001 x256002 x256003 bt258.1 bt258.2.1 bt258.2.2.1) else (none)) else (none)) else (spec_LandingFor.j1 k x2 x9 x10 x11 x12 true x255000 x256000 x256001 x256002 x256003 bt258.1 bt258.2.1 bt258.2.2.1))) else (spec_LandingFor.j1 k x2 x9 x10 x11 x12 true x255000 x256000 x256001 x256002 x256003 bt258.1 bt258.2.1 bt258.2.2.1))) else (none)) else (some x9)
def spec_LandingFor.j1 : Nat → Int → Int → Int → Int → Int → Bool → List Int → Int → Int → Int → List (S119) → Int → List Int → List Int → Option (Int)
  | 0, _, _, _, _, _, _, _, _, _, _, _, _, _, _ => none
  | k + 1, x2, x9, x10, x11, x12, x54, x255000, x256000, x256001, x256002, x256003, x267000, x267001, x267002 => if x54 = true then (spec_LandingFor.l0 k x2 x9 x10 x11 (wrap64 (x12 + 1)) x255000 x256000 x256001 x256002 x256003) else (if x9 < 0 then (if 0 ≤ x12 then (if x12 < (x255000.length : Int) then (if 0 ≤ x2 then (if x2 < (x267001.length : Int) then (spec_LandingFor.l0 k x2 (rd x255000 x12) (rd x267001 x2) x11 (wrap64 (x12 + 1)) x255000 x256000 x256001 x256002 x256003) else (none)) else (none)) else (none)) else (none)) else (if 0 ≤ x2 then (if x2 < (x267001.length : Int) then (if (rd x267001 x2) < x10 then (if 0 ≤ x12 then (if x12 < (x255000.length : Int) then (spec_LandingFor.l0 k x2 (rd x255000 x12) (rd x267001 x2) x11 (wrap64 (x12 + 1)) x255000 x256000 x256001 x256002 x256003) else (none)) else (none)) else (if (rd x267001 x2) = x10 then (if 0 ≤ x12 then (if x12 < (x255000.length : Int) then (if (rd x255000 x12) < x9 then (spec_LandingFor.l0 k x2 (rd x255000 x12) (rd x267001 x2) x11 (wrap64 (x12 + 1)) x255000 x256000 x256001 x256002 x256003) else (spec_LandingFor.l0 k x2 x9 x10 x11 (wrap64 (x12 + 1)) x255000 x256000 x256001 x256002 x256003)) else (none)) else (none)) else (spec_LandingFor.l0 k x2 x9 x10 x11 (wrap64 (x12 + 1)) x255000 x256000 x256001 x256002 x256003))) else (none)) else (none)))
end
def spec_LandingFor.f (k : Nat) (l0_0 : List Int) (a1_0 : Int) (a1_1 : Int) (a1_2 : Int) (l1_3 : List (S119)) (a2 : Int) (a3 : Int) : Option (Int) := (spec_PieceAt.f k a1_0 a1_1 a1_2 l1_3 a3).bind fun t256 => (spec_LandingFor.l0 k a2 (-1) 0 t256 0 l0_0 a1_0 a1_1 a1_2 l1_3)
theorem spec_LandingFor.mono_l : ∀ k, (∀ y0 y1 y2 y3 y4 y5 y6 y7 y8 y9, LeO (spec_LandingFor.l0 k y0 y1 y2 y3 y4 y5 y6 y7 y8 y9) (spec_LandingFor.l0 (k + 1) y0 y1 y2 y3 y4 y5 y6 y7 y8 y9)) ∧ (∀ y0 y1 y2 y3 y4 y5 y6 y7 y8 y9 y10 y11 y12 y13, LeO (spec_LandingFor.j1 k y0 y1 y2 y3 y4 y5 y6 y7 y8 y9 y10 y11 y12 y13) (spec_LandingFor.j1 (k + 1) y0 y1 y2 y3 y4 y5 y6 y7 y8 y9 y10 y11 y12 y13))
  | 0 => ⟨fun _ _ _ _ _ _ _ _ _ _ r h => by simp [spec_LandingFor.l0] at h, fun _ _ _ _ _ _ _ _ _ _ _ _ _ _ r h => by simp [spec_LandingFor.j1] at h⟩
  | k + 1 => by
    obtain ⟨ih0, ih1⟩ := spec_LandingFor.mono_l k
    refine ⟨?_, ?_⟩
    · intro y0 y1 y2 y3 y4 y5 y6 y7 y8 y9
      unfold spec_LandingFor.l0
      repeat' first
      | (with_reducible exact ih0 _ _ _ _ _ _ _ _ _ _)
      | (with_reducible exact ih1 _ _ _ _ _ _ _ _ _ _ _ _ _ _)
      | (with_reducible exact spec_PieceAt.mono _ _ _ _ _ _)
      | (with_reducible exact LeO.refl _)
      | (with_reducible exact LeO.none _)
      | (with_reducible refine LeO.ite ?_ ?_)
      | (with_reducible refine LeO.bind ?_ (fun _ => ?_))
      | exact ih0 _ _ _ _ _ _ _ _ _ _
      | exact ih1 _ _ _ _ _ _ _ _ _ _ _ _ _ _
      | exact spec_PieceAt.mono _ _ _ _ _ _
      | exact LeO.none _
      | refine LeO.ite ?_ ?_
      | refine LeO.bind ?_ (fun _ => ?_)
    · intro y0 y1 y2 y3 y4 y5 y6 y7 y8 y9 y10 y11 y12 y13
      unfold spec_LandingFor.j1
      repeat' first
      | (with_reducible exact ih0 _ _ _ _ _ _ _ _ _ _)
      | (with_reducible exact ih1 _ _ _ _ _ _ _ _ _ _ _ _ _ _)
      | (with_reducible exact spec_PieceAt.mono _ _ _ _ _ _)
      | (with_reducible exact LeO.refl _)
      | (with_reducible exact LeO.none _)
      | (with_reducible refine LeO.ite ?_ ?_)
      | (with_reducible refine LeO.bind ?_ (fun _ => ?_))
      | exact ih0 _ _ _ _ _ _ _ _ _ _
      | exact ih1 _ _ _ _ _ _ _ _ _ _ _ _ _ _
      | exact spec_PieceAt.mono _ _ _ _ _ _
      | exact LeO.none _
      | refine LeO.ite ?_ ?_
      | refine LeO.bind ?_ (fun _ => ?_)
theorem spec_LandingFor.mono : ∀ a0 a1 a2 a3 a4 a5 a6 k, LeO (spec_LandingFor.f k a0 a1 a2 a3 a4 a5 a6) (spec_LandingFor.f (k + 1) a0 a1 a2 a3 a4 a5 a6) := by
  intro a0 a1 a2 a3 a4 a5 a6 k
  obtain ⟨ih0, ih1⟩ := spec_LandingFor.mono_l k
  unfold spec_LandingFor.f
  repeat' first
      | (with_reducible exact ih0 _ _ _ _ _ _ _ _ _ _)
      | (with_reducible exact ih1 _ _ _ _ _ _ _ _ _ _ _ _ _ _)
      | (with_reducible exact spec_PieceAt.mono _ _ _ _ _ _)
      | (with_reducible exact LeO.refl _)
      | (with_reducible exact LeO.none _)
      | (with_reducible refine LeO.ite ?_ ?_)
      | (with_reducible refine LeO.bind ?_ (fun _ => ?_))
      | exact ih0 _ _ _ _ _ _ _ _ _ _
      | exact ih1 _ _ _ _ _ _ _ _ _ _ _ _ _ _
      | exact spec_PieceAt.mono _ _ _ _ _ _
      | exact LeO.none _
      | refine LeO.ite ?_ ?_
      | refine LeO.bind ?_ (fun _ => ?_)
def spec_LandingFor.T7 : Bool × List (List Nat × List Nat) := (true, [([], []), ([], []), ([], []), ([2], [2]), ([], []), ([3, 4], [3, 4]), ([5], [5]), ([0, 1, 6], [0, 1, 6]), ([7], [7]), ([8], [8]), ([8], [8]), ([], []), ([11, 9, 7, 0, 1, 2, 3, 4, 5, 6, 7, 8, 9, 11], [9, 11]), ([10, 12, 0, 1, 2, 3, 4, 5, 6, 7, 8, 9, 10, 11, 12], [10])])
def spec_LandingFor.B7 : List Nat := [0, 0, 0, 4, 0, 28, 60, 127, 255, 511, 511, 0, 3071, 8191]
theorem spec_LandingFor.tab7 : rtab .any (opsOf Try.f44 7) = spec_LandingFor.T7 := by kernel_rfl
theorem spec_LandingFor.bits7 : waitsOk spec_LandingFor.T7.2 spec_LandingFor.B7 = true := by kernel_rfl
set_option maxHeartbeats 8000000 in
set_option maxRecDepth 100000 in
theorem spec_LandingFor.calls (k : Nat) (A0_0 : Option Addr) (c0_0 : Nat) (l0_0 : List Int) (a1_0 : Int) (a1_1 : Int) (a1_2 : Int) (A1_3 : Option Addr) (c1_3 : Nat) (l1_3 : List (S119)) (a2 : Int) (a3 : Int) (r : Int) (w : World) (hr0_0 : Kd.C (Kd.int .i64) w A0_0 l0_0.length l0_0) (hc0_0 : l0_0.length ≤ c0_0) (hr1_3 : Kd.C k119 w A1_3 l1_3.length l1_3) (hc1_3 : l1_3.length ≤ c1_3) (h : spec_LandingFor.f k l0_0 a1_0 a1_1 a1_2 l1_3 a2 a3 = some r) :
  Calls Try.prog 44 #[.agg #[.slice A0_0 l0_0.length c0_0], .agg #[.int .i64 a1_0, .int .i64 a1_1, .int .i64 a1_2, .slice A1_3 l1_3.length c1_3], .int .i64 a2, .int .i64 a3] w fun e w' => e = .returned (.int .i64 r) ∧ Below w.heap.size w w' := by
 have hu31 := Try.underlying31; have hu35 := Try.underlying35; have hu80 := Try.underlying80; have HR0_0 := aM_ hr0_0; have HC0_0 := aM_ hc0_0; clear hr0_0 hc0_0; have HR1_3 := aM_ hr1_3; have HC1_3 := aM_ hc1_3; clear hr1_3 hc1_3; have HB := aM_ (Below.refl w.heap.size w)
 have H : ((spec_PieceAt.f k a1_0 a1_1 a1_2 l1_3 a3).bind fun t256 => (spec_LandingFor.l0 k a2 (-1) 0 t256 0 l0_0 a1_0 a1_1 a1_2 l1_3)) = some r := h
 clear h
 replace H := Option.bind_eq_some_iff.mp H
 obtain ⟨t256, A50, H⟩ := H
 (try dsimp only at H)
 have A5 := aM_ A50; clear A50
 have H' := aM_ H
 clear H
 go_enter Try.func44, Try.ntmps44
 go_wp2_with (first | ((with_reducible refine gate_dst (N := 4) rfl ?_); (try (refine gate_guard (by rfl) ?_; dsimp only)); refine box_event ?hg (N := 4) ?hd (cs := #[.slice A0_0 l0_0.length c0_0]) (t := 31) ?hr ?_; (case hd => rfl); (case hg => rfl); (case hr => first | (go_simp; done) | (go_simp; rfl)); intro gb254 hg w6 hbox hb; have n0_ := aM_ (wS_ (by repeat (first | (with_reducible first | exact HB.out | apply wA_ | apply wN_ | apply wD_) | exact HB.out)) hb); have n1_ := aM_ (hbox); have n2_ := aM_ ((by rw [hg]; exact (sZ_ (by repeat (first | (with_reducible first | exact HB.out | apply wA_ | apply wN_ | apply wD_) | exact HB.out))) : w.heap.size ≤ gb254)); have n3_ := aM_ ((by rw [hg]; exact (sZ_ (by repeat (first | (with_reducible first | exact HB.out | apply wA_ | apply wN_ | apply wD_) | exact HB.out))) : w.heap.size ≤ gb254)); clear HB; have HB := n0_; have BK254 := n1_; have GW254 := n2_; have GE254 := n3_; clear n0_ n1_ n2_ n3_; clear hb hbox hg) | ((with_reducible refine gate_dst (N := 5) rfl ?_); (try (refine gate_guard (by rfl) ?_; dsimp only)); refine box_event ?hg (N := 5) ?hd (cs := #[.int .i64 a1_0, .int .i64 a1_1, .int .i64 a1_2, .slice A1_3 l1_3.length c1_3]) (t := 35) ?hr ?_; (case hd => rfl); (case hg => rfl); (case hr => first | (go_simp; done) | (go_simp; rfl)); intro gb255 hg w7 hbox hb; have n0_ := aM_ (bB_ (g := gb254) (by (with_reducible repeat (first | refine bN_ ?_ _ | refine bD_ ?_ | refine bA_ ?_ _)); exact BK254.out) hb); have n1_ := aM_ (wS_ (by repeat (first | (with_reducible first | exact HB.out | apply wA_ | apply wN_ | apply wD_ | refine wE_ ?_ GE254.out) | exact HB.out)) hb); have n2_ := aM_ (hbox); have n3_ := aM_ ((by rw [hg]; exact (sZ_ (by repeat (first | (with_reducible first | exact HB.out | apply wA_ | apply wN_ | apply wD_ | refine wE_ ?_ GE254.out) | exact HB.out))) : w.heap.size ≤ gb255)); have n4_ := aM_ ((by rw [hg]; exact (sZ_ (by repeat (first | (with_reducible first | exact HB.out | apply wA_ | apply wN_ | apply wD_ | refine wE_ ?_ GE254.out) | exact HB.out))) : w.heap.size ≤ gb255)); have n5_ := aM_ ((by rw [hg]; exact Nat.ne_of_lt (blk_lt (g := gb254) (by (with_reducible repeat (first | refine bN_ ?_ _ | refine bD_ ?_ | refine bA_ ?_ _)); exact BK254.out)) : gb254 ≠ gb255)); have n6_ := aM_ ((by rw [hg]; exact Nat.ne_of_gt (blk_lt (g := gb254) (by (with_reducible repeat (first | refine bN_ ?_ _ | refine bD_ ?_ | refine bA_ ?_ _)); exact BK254.out)) : gb255 ≠ gb254)); clear BK254; clear HB; have BK254 := n0_; have HB := n1_; have BK255 := n2_; have GW255 := n3_; have GE255 := n4_; have NB254_255 := n5_; have NB255_254 := n6_; clear n0_ n1_ n2_ n3_ n4_ n5_ n6_; clear hb hbox hg; have hnb8 := NB255_254.out; have hnc8 := NB254_255.out; have hcz9_0 : w7.cell? ⟨gb255, 0, none⟩ = some (.int .i64 a1_0) := (blk_cell BK255.out 0).trans rfl; have hcz9_1 : w7.cell? ⟨gb255, 1, none⟩ = some (.int .i64 a1_1) := (blk_cell BK255.out 1).trans rfl; have hcz9_2 : w7.cell? ⟨gb255, 2, none⟩ = some (.int .i64 a1_2) := (blk_cell BK255.out 2).trans rfl; have hcz9_3 : w7.cell? ⟨gb255, 3, none⟩ = some (.slice A1_3 l1_3.length c1_3) := (blk_cell BK255.out 3).trans rfl; have hfz9_0 := blk_frozen BK255.out 0; have hfz9_1 := blk_frozen BK255.out 1; have hfz9_2 := blk_frozen BK255.out 2; have hfz9_3 := blk_frozen BK255.out 3) | ((with_reducible refine gate_callee (f := 87) rfl ?_); refine goesL_ (some 17) rfl rfl Try.func87 (by kernel_rfl) rfl #[.agg #[.int .i64 a1_0, .int .i64 a1_1, .int .i64 a1_2, .slice A1_3 l1_3.length c1_3], .int .i64 a3] rfl (by (try simp only [List.map_toArray, List.map_cons, List.map_nil]); first | done | rfl | (simp only [List.length_drop, List.length_take]; rfl)) ?_; (with_reducible refine (spec_PieceAt.calls k a1_0 a1_1 a1_2 _ _ l1_3 a3 t256 _ ?side1 ?side2 A5.out).mono ?_); (case side1 => repeat (first | exact (Kd.C_below HR1_3.out HB.out) | (with_reducible refine cA_ ?_ _) | (with_reducible refine cN_ ?_ _) | (with_reducible refine cD_ ?_))); (case side2 => exact HC1_3.out); rintro e w10 ⟨rfl, hb⟩; refine ⟨_, rfl, ?_⟩; have n0_ := aM_ (bB_ (g := gb254) (by (with_reducible repeat (first | refine bN_ ?_ _ | refine bD_ ?_ | refine bA_ ?_ _)); exact BK254.out) hb); have n1_ := aM_ (bB_ (g := gb255) (by (with_reducible repeat (first | refine bN_ ?_ _ | refine bD_ ?_ | refine bA_ ?_ _)); exact BK255.out) hb); have n2_ := aM_ (wS_ (by repeat (first | (with_reducible first | exact HB.out | apply wA_ | apply wN_ | apply wD_ | refine wE_ ?_ GE254.out | refine wE_ ?_ GE255.out) | exact HB.out)) hb); clear BK254; clear BK255; clear HB; have BK254 := n0_; have BK255 := n1_; have HB := n2_; clear n0_ n1_ n2_; (try clear hb); (try clear hb2); (try clear hk); (try clear hi)))
 go_loopg [9, 10, 12] k (fun kq v9 v10 v12 w' => ∃ (x9_1 : Int) (x10_1 : Int) (x12_1 : Int), v9 = .int .i64 x9_1 ∧ v10 = .int .i64 x10_1 ∧ v12 = .int .i64 x12_1 ∧ Aside0 (spec_LandingFor.l0 kq a2 x9_1 x10_1 t256 x12_1 l0_0 a1_0 a1_1 a1_2 l1_3 = some r) ∧ Aside0 (kq ≤ k) ∧ Aside0 (w'.heap[gb254]? = some (.cells #[(.slice A0_0 l0_0.length c0_0)] 31 (0, 0))) ∧ Aside0 (w'.heap[gb255]? = some (.cells #[.int .i64 a1_0, .int .i64 a1_1, .int .i64 a1_2, (.slice A1_3 l1_3.length c1_3)] 35 (0, 0))) ∧ Aside0 (Below w.heap.size w w'))
 case atStart => exact ⟨((-1)), (0), (0), (by first | rfl | (simp; done) | (simp [*]; done)), (by first | rfl | (simp; done) | (simp [*]; done)), (by first | rfl | (simp; done) | (simp [*]; done)), H', ⟨Nat.le_refl _⟩, ⟨by (with_reducible repeat (first | refine bN_ ?_ _ | refine bD_ ?_ | refine bA_ ?_ _)); exact BK254.out⟩, ⟨by (with_reducible repeat (first | refine bN_ ?_ _ | refine bD_ ?_ | refine bA_ ?_ _)); exact BK255.out⟩, ⟨by repeat (first | (with_reducible first | exact HB.out | apply wA_ | apply wN_ | apply wD_ | refine wE_ ?_ GE254.out | refine wE_ ?_ GE255.out) | exact HB.out)⟩⟩
 case round =>
  clear H'
  try clear c1
  try clear p2
  try clear c4
  try clear c8
  try clear hcz9_0
  try clear hcz9_1
  try clear hcz9_2
  try clear hcz9_3
  try clear hfz9_0
  try clear hfz9_1
  try clear hfz9_2
  try clear hfz9_3
  obtain ⟨x9_1, x10_1, x12_1, rfl, rfl, rfl, HA, HK1, BK254, BK255, HB⟩ := hrel
  cases gk with
  | zero => exact absurd HA.out (by simp [spec_LandingFor.l0])
  | succ k1 =>
   have H := HA.out; clear HA
   simp only [spec_LandingFor.l0] at H
   by_cases c11 : x12_1 < (l0_0.length : Int)
   ·rw [if_pos c11] at H
    have c11b0 : decide (x12_1 < (l0_0.length : Int)) = true := decide_eq_true c11
    clear c11
    by_cases c12 : 0 ≤ x12_1
    ·rw [if_pos c12] at H
     have c12b0 : decide (0 ≤ x12_1) = true := decide_eq_true c12
     clear c12
     replace H := Option.bind_eq_some_iff.mp H
     obtain ⟨⟨t258, t259, t262, t265⟩, A130, H⟩ := H
     (try dsimp only at H)
     have A13 := aM_ A130; clear A130; have HC14 := aM_ H; clear H; have hnb15 := NB254_255.out; have hnc15 := NB255_254.out
     have hcz16_0 : wr.cell? ⟨gb254, 0, none⟩ = some (.slice A0_0 l0_0.length c0_0) := (blk_cell BK254.out 0).trans rfl
     have hfz16_0 := blk_frozen BK254.out 0
     try go_wp2
     have n0_ := aM_ (bD_ BK254.out); have n1_ := aM_ (bD_ BK255.out); have n2_ := aM_ (wD_ HB.out); clear BK254 BK255 HB; have BK254 := n0_; have BK255 := n1_; have HB := n2_; clear n0_ n1_ n2_
     have p257 : 0 ≤ (x12_1 : Int) := of_decide_eq_true (by first | (with_reducible assumption) | assumption)
     have q257 : x12_1 < (l0_0.length : Int) := of_decide_eq_true (by first | (with_reducible assumption) | assumption)
     obtain ⟨ad257, e257, hx257_0⟩ := Kd.at_int HR0_0.out x12_1 p257 q257
     have hw257_0 := hx257_0
     cases e257
     replace hx257_0 := (HB.out.cell (World.block_lt_of_cell? w _ hx257_0)).trans hx257_0
     replace p257 := eq_true p257; replace q257 := eq_true q257
     refine start_ (n := 14) (S := fun w' => w'.cell? ⟨gb255, 0, none⟩ = some (.int .i64 a1_0) ∧ w'.cell? ⟨gb255, 1, none⟩ = some (.int .i64 a1_1) ∧ w'.cell? ⟨gb255, 2, none⟩ = some (.int .i64 a1_2) ∧ w'.cell? ⟨gb255, 3, none⟩ = some (.slice A1_3 l1_3.length c1_3) ∧ w'.cell? ⟨gb254, 0, none⟩ = some (.slice (some ad257) l0_0.length c0_0) ∧ w'.cell? (ad257.add (x12_1).toNat) = some (.int .i64 (rd l0_0 x12_1))) (ds := []) #[false, false, false, false, false, false, false, false, false, false, false, false, false, false] (by kernel_rfl) rfl rfl ⟨(blk_cell BK255.out 0).trans rfl, (blk_cell BK255.out 1).trans rfl, (blk_cell BK255.out 2).trans rfl, (blk_cell BK255.out 3).trans rfl, (blk_cell BK254.out 0).trans rfl, ((HB.out.cell (World.block_lt_of_cell? w _ hw257_0)).trans hw257_0)⟩ (fun hHeld => ?_); refine with_tabW spec_LandingFor.tab7 spec_LandingFor.bits7 (fun HT_ HW_ => ?_)
     generalize wr.drew = w17 at BK254 BK255 HB hx257_0 hHeld ⊢
     refine pure_ (i := 1) (N := some 27) (v := ?_) (a' := ?_) #[false, true, false, false, false, false, false, false, false, false, false, false, false, false] rfl rfl (any_of HT_.out (by kernel_rfl)) (fun _ _ _ h => h) (Or.inl ⟨by rfl, ?_⟩) ?_ ?_
     rotate_left
     ·intro w'
      go_simp
      with_reducible rfl
     rotate_left
     ·simp only [Act.put, List.setIfInBounds_toArray, List.set_cons_zero, List.set_cons_succ, i64_w, i32_w]
      rfl
     refine pure_ (i := 2) (N := some 28) (v := ?_) (a' := ?_) #[false, true, true, false, false, false, false, false, false, false, false, false, false, false] rfl rfl (any_of HT_.out (by kernel_rfl)) (fun _ _ _ h => h) (Or.inl ⟨by rfl, ?_⟩) ?_ ?_
     rotate_left
     ·intro w'
      go_simp
      with_reducible rfl
     rotate_left
     ·simp only [Act.put, List.setIfInBounds_toArray, List.set_cons_zero, List.set_cons_succ, i64_w, i32_w]
      rfl
     refine pure_ (i := 4) (N := some 30) (v := ?_) (a' := ?_) #[false, true, true, false, true, false, false, false, false, false, false, false, false, false] rfl rfl (any_of HT_.out (by kernel_rfl)) (fun _ _ _ h => h) (Or.inl ⟨by rfl, ?_⟩) ?_ ?_
     rotate_left
     ·intro w'
      go_simp
      with_reducible rfl
     rotate_left
     ·simp only [Act.put, List.setIfInBounds_toArray, List.set_cons_zero, List.set_cons_succ, i64_w, i32_w]
      rfl
     refine take_ (i := 0) (N := some 26) (v := ?_) (a' := ?_) #[true, true, true, false, true, false, false, false, false, false, false, false, false, false] rfl rfl (take_ofW HT_.out HW_.out (by kernel_rfl)) (fun _ _ _ h => h) (Or.inl ⟨by rfl, ?_⟩) hHeld ?_ ?_
     rotate_left
     ·rintro w' ⟨s0, s1, s2, s3, s4, s5⟩
      go_simp
      with_reducible rfl
     rotate_left
     ·simp only [Act.put, List.setIfInBounds_toArray, List.set_cons_zero, List.set_cons_succ, i64_w, i32_w]
      rfl
     refine take_ (i := 3) (N := some 29) (v := ?_) (a' := ?_) #[true, true, true, true, true, false, false, false, false, false, false, false, false, false] rfl rfl (take_ofW HT_.out HW_.out (by kernel_rfl)) (fun _ _ _ h => h) (Or.inl ⟨by rfl, ?_⟩) hHeld ?_ ?_
     rotate_left
     ·rintro w' ⟨s0, s1, s2, s3, s4, s5⟩
      go_simp
      with_reducible rfl
     rotate_left
     ·simp only [Act.put, List.setIfInBounds_toArray, List.set_cons_zero, List.set_cons_succ, i64_w, i32_w]
      rfl
     refine pure_ (i := 5) (N := some 31) (v := ?_) (a' := ?_) #[true, true, true, true, true, true, false, false, false, false, false, false, false, false] rfl rfl (any_of HT_.out (by kernel_rfl)) (fun _ _ _ h => h) (Or.inl ⟨by rfl, ?_⟩) ?_ ?_
     rotate_left
     ·intro w'
      go_simp
      with_reducible rfl
     rotate_left
     ·simp only [Act.put, List.setIfInBounds_toArray, List.set_cons_zero, List.set_cons_succ, i64_w, i32_w]
      rfl
     refine take_ (i := 6) (N := some 32) (v := ?_) (a' := ?_) #[true, true, true, true, true, true, true, false, false, false, false, false, false, false] rfl rfl (take_ofW HT_.out HW_.out (by kernel_rfl)) (fun _ _ _ h => h) (Or.inl ⟨by rfl, ?_⟩) hHeld ?_ ?_
     rotate_left
     ·rintro w' ⟨s0, s1, s2, s3, s4, s5⟩
      go_simp
      with_reducible rfl
     rotate_left
     ·simp only [Act.put, List.setIfInBounds_toArray, List.set_cons_zero, List.set_cons_succ, i64_w, i32_w]
      rfl
     refine join_ (σ := Value × Value × Nat) 2 #[true, true, true, true, true, true, true, true, true, true, true, true, false, false] (fun s_ => [(33, .tuple #[.agg #[.int .i64 t258, s_.1, s_.2.1], .bool t265]), (13, .pointer (some ⟨s_.2.2, 0, none⟩)), (25, .tuple #[.agg #[.int .i64 t258, s_.1, s_.2.1], .bool t265]), (34, .agg #[.int .i64 t258, s_.1, s_.2.1]), (35, .bool t265)]) (fun s_ w' => (w'.cell? ⟨gb255, 0, none⟩ = some (.int .i64 a1_0) ∧ w'.cell? ⟨gb255, 1, none⟩ = some (.int .i64 a1_1) ∧ w'.cell? ⟨gb255, 2, none⟩ = some (.int .i64 a1_2) ∧ w'.cell? ⟨gb255, 3, none⟩ = some (.slice A1_3 l1_3.length c1_3) ∧ w'.cell? ⟨gb254, 0, none⟩ = some (.slice (some ad257) l0_0.length c0_0) ∧ w'.cell? (ad257.add (x12_1).toNat) = some (.int .i64 (rd l0_0 x12_1))) ∧ (Kd.R (Kd.int .i64) 3 w' w.heap.size (fun k_ => some k_ ≠ (s_.2.1 : Value).ownBlock) s_.1 t259) ∧ (Kd.R (Kd.int .i64) 3 w' w.heap.size (fun k_ => some k_ ≠ (s_.1 : Value).ownBlock) s_.2.1 t262) ∧ (w'.heap[gb254]? = some (.cells #[.slice (some ad257) l0_0.length c0_0] 31 (0, 0))) ∧ (w'.heap[gb255]? = some (.cells #[.int .i64 a1_0, .int .i64 a1_1, .int .i64 a1_2, .slice A1_3 l1_3.length c1_3] 35 (0, 0))) ∧ (w'.heap[s_.2.2]? = some (.cells #[.int .i64 0, .slice none 0 0, .slice none 0 0] 80 (0, 0))) ∧ (w.heap.size ≤ s_.2.2) ∧ (w.heap.size ≤ s_.2.2) ∧ (gb254 ≠ s_.2.2) ∧ (s_.2.2 ≠ gb254) ∧ (gb255 ≠ s_.2.2) ∧ (s_.2.2 ≠ gb255) ∧ (Below w.heap.size w w')) ?_ ?_
     rotate_left
     ·intro hCont
      refine two_ (i := 7) (j := 11) (Ni := some 33) (Nj := some 13) #[true, true, true, true, true, true, true, true, false, false, false, false, false, false] #[true, true, true, true, true, true, true, false, false, false, false, true, false, false] rfl rfl rfl rfl (two_of HT_.out (by kernel_rfl)) (by decide) (by decide) (fun K hK => ?_) (fun K hK => ?_)
      ·skip
       refine goes_ Try.func88 (by kernel_rfl) rfl #[.agg #[.int .i64 a1_0, .int .i64 a1_1, .int .i64 a1_2, .slice A1_3 l1_3.length c1_3], .int .i64 t256, .int .i64 (rd l0_0 x12_1)] (by rfl) rfl rfl (by (try simp only [List.map_toArray, List.map_cons, List.map_nil]); first | done | rfl | (simp only [List.length_drop, List.length_take]; rfl)) ?_
       with_reducible refine (spec_TableIn.calls a1_0 a1_1 a1_2 _ _ l1_3 t256 (rd l0_0 x12_1) t258 t259 t262 t265 _ ?side1 ?side2 A13.out).mono ?_
       (case side1 => repeat (first | exact (Kd.C_below HR1_3.out HB.out) | (with_reducible refine cA_ ?_ _) | (with_reducible refine cN_ ?_ _) | (with_reducible refine cD_ ?_)))
       (case side2 => exact HC1_3.out)
       rintro e w18 ⟨v260, v263, rfl, ho0, ho1, hb⟩
       refine ⟨_, rfl, ?_⟩
       have n0_ := aM_ (Kd.R_lower ho0 (sZ_ (by repeat (first | (with_reducible first | exact HB.out | apply wA_ | apply wN_ | apply wD_ | refine wE_ ?_ GE254.out | refine wE_ ?_ GE255.out) | exact HB.out)))); have n1_ := aM_ (Kd.R_lower ho1 (sZ_ (by repeat (first | (with_reducible first | exact HB.out | apply wA_ | apply wN_ | apply wD_ | refine wE_ ?_ GE254.out | refine wE_ ?_ GE255.out) | exact HB.out)))); have n2_ := aM_ (bB_ (g := gb254) (by (with_reducible repeat (first | refine bN_ ?_ _ | refine bD_ ?_ | refine bA_ ?_ _)); exact BK254.out) hb); have n3_ := aM_ (bB_ (g := gb255) (by (with_reducible repeat (first | refine bN_ ?_ _ | refine bD_ ?_ | refine bA_ ?_ _)); exact BK255.out) hb); have n4_ := aM_ (wS_ (by repeat (first | (with_reducible first | exact HB.out | apply wA_ | apply wN_ | apply wD_ | refine wE_ ?_ GE254.out | refine wE_ ?_ GE255.out) | exact HB.out)) hb); clear BK254 BK255 HB; have HO261 := n0_; have HO264 := n1_; have BK254 := n2_; have BK255 := n3_; have HB := n4_; clear n0_ n1_ n2_ n3_ n4_; (try clear hb); (try clear hb2); (try clear hk); (try clear hi); (try clear ho0); (try clear ho1)
       refine hK.out _ _ ⟨(blk_cell BK255.out 0).trans rfl, (blk_cell BK255.out 1).trans rfl, (blk_cell BK255.out 2).trans rfl, (blk_cell BK255.out 3).trans rfl, (blk_cell BK254.out 0).trans rfl, ((HB.out.cell (World.block_lt_of_cell? w _ hw257_0)).trans hw257_0)⟩ (fun hHeld => ?_)
       clear hK K
       refine norm_ (a' := ?_) ?_ ?_
       rotate_left
       ·show Act.put _ (some 33) _ = _
        simp only [Act.put, List.setIfInBounds_toArray, List.set_cons_zero, List.set_cons_succ, i64_w, i32_w]
        rfl
       refine pure_ (i := 8) (N := some 25) (v := ?_) (a' := ?_) #[true, true, true, true, true, true, true, true, true, false, false, false, false, false] rfl rfl (any_of HT_.out (by kernel_rfl)) (fun _ _ _ h => h) (Or.inl ⟨by rfl, ?_⟩) ?_ ?_
       rotate_left
       ·intro w'
        go_simp
        with_reducible rfl
       rotate_left
       ·simp only [Act.put, List.setIfInBounds_toArray, List.set_cons_zero, List.set_cons_succ, i64_w, i32_w]
        rfl
       refine pure_ (i := 9) (N := some 34) (v := ?_) (a' := ?_) #[true, true, true, true, true, true, true, true, true, true, false, false, false, false] rfl rfl (any_of HT_.out (by kernel_rfl)) (fun _ _ _ h => h) (Or.inl ⟨by rfl, ?_⟩) ?_ ?_
       rotate_left
       ·intro w'
        go_simp
        with_reducible rfl
       rotate_left
       ·simp only [Act.put, List.setIfInBounds_toArray, List.set_cons_zero, List.set_cons_succ, i64_w, i32_w]
        rfl
       refine pure_ (i := 10) (N := some 35) (v := ?_) (a' := ?_) #[true, true, true, true, true, true, true, true, true, true, true, false, false, false] rfl rfl (any_of HT_.out (by kernel_rfl)) (fun _ _ _ h => h) (Or.inl ⟨by rfl, ?_⟩) ?_ ?_
       rotate_left
       ·intro w'
        go_simp
        with_reducible rfl
       rotate_left
       ·simp only [Act.put, List.setIfInBounds_toArray, List.set_cons_zero, List.set_cons_succ, i64_w, i32_w]
        rfl
       refine one_ (i := 11) (N := some 13) #[true, true, true, true, true, true, true, true, true, true, true, true, false, false] rfl rfl (one_of HT_.out (by kernel_rfl)) (by decide) (fun K hK => ?_)
       refine box_step ?hg (N := 13) ?hd (cs := #[.int .i64 0, .slice none 0 0, .slice none 0 0]) (t := 80) ?hr ?_; (case hd => rfl); (case hg => rfl); (case hr => first | (go_simp; done) | (go_simp; rfl))
       intro gb266 hg w19 hbox hb
       have n0_ := aM_ (rB_ (by (with_reducible repeat (first | apply rA_ | apply rN_ | apply rD_)); exact HO261.out) hb); have n1_ := aM_ (rB_ (by (with_reducible repeat (first | apply rA_ | apply rN_ | apply rD_)); exact HO264.out) hb); have n2_ := aM_ (bB_ (g := gb254) (by (with_reducible repeat (first | refine bN_ ?_ _ | refine bD_ ?_ | refine bA_ ?_ _)); exact BK254.out) hb); have n3_ := aM_ (bB_ (g := gb255) (by (with_reducible repeat (first | refine bN_ ?_ _ | refine bD_ ?_ | refine bA_ ?_ _)); exact BK255.out) hb); have n4_ := aM_ (wS_ (by repeat (first | (with_reducible first | exact HB.out | apply wA_ | apply wN_ | apply wD_ | refine wE_ ?_ GE254.out | refine wE_ ?_ GE255.out) | exact HB.out)) hb); have n5_ := aM_ (hbox); have n6_ := aM_ ((by rw [hg]; exact (sZ_ (by repeat (first | (with_reducible first | exact HB.out | apply wA_ | apply wN_ | apply wD_ | refine wE_ ?_ GE254.out | refine wE_ ?_ GE255.out) | exact HB.out))) : w.heap.size ≤ gb266)); have n7_ := aM_ ((by rw [hg]; exact (sZ_ (by repeat (first | (with_reducible first | exact HB.out | apply wA_ | apply wN_ | apply wD_ | refine wE_ ?_ GE254.out | refine wE_ ?_ GE255.out) | exact HB.out))) : w.heap.size ≤ gb266)); have n8_ := aM_ ((by rw [hg]; exact Nat.ne_of_lt (blk_lt (g := gb254) (by (with_reducible repeat (first | refine bN_ ?_ _ | refine bD_ ?_ | refine bA_ ?_ _)); exact BK254.out)) : gb254 ≠ gb266)); have n9_ := aM_ ((by rw [hg]; exact Nat.ne_of_gt (blk_lt (g := gb254) (by (with_reducible repeat (first | refine bN_ ?_ _ | refine bD_ ?_ | refine bA_ ?_ _)); exact BK254.out)) : gb266 ≠ gb254)); have n10_ := aM_ ((by rw [hg]; exact Nat.ne_of_lt (blk_lt (g := gb255) (by (with_reducible repeat (first | refine bN_ ?_ _ | refine bD_ ?_ | refine bA_ ?_ _)); exact BK255.out)) : gb255 ≠ gb266)); have n11_ := aM_ ((by rw [hg]; exact Nat.ne_of_gt (blk_lt (g := gb255) (by (with_reducible repeat (first | refine bN_ ?_ _ | refine bD_ ?_ | refine bA_ ?_ _)); exact BK255.out)) : gb266 ≠ gb255)); clear HO261 HO264 BK254 BK255 HB; have HO261 := n0_; have HO264 := n1_; have BK254 := n2_; have BK255 := n3_; have HB := n4_; have BK266 := n5_; have GW266 := n6_; have GE266 := n7_; have NB254_266 := n8_; have NB266_254 := n9_; have NB255_266 := n10_; have NB266_255 := n11_; clear n0_ n1_ n2_ n3_ n4_ n5_ n6_ n7_ n8_ n9_ n10_ n11_; clear hb hbox hg
       refine hK.out _ _ ⟨(blk_cell BK255.out 0).trans rfl, (blk_cell BK255.out 1).trans rfl, (blk_cell BK255.out 2).trans rfl, (blk_cell BK255.out 3).trans rfl, (blk_cell BK254.out 0).trans rfl, ((HB.out.cell (World.block_lt_of_cell? w _ hw257_0)).trans hw257_0)⟩ (fun hHeld => ?_)
       clear hK K
       refine norm_ (a' := ?_) ?_ ?_
       rotate_left
       ·show Act.put _ (some 13) _ = _
        simp only [Act.put, List.setIfInBounds_toArray, List.set_cons_zero, List.set_cons_succ, i64_w, i32_w]
        rfl
       exact norm_ (by simp only [putAll, Act.put, List.setIfInBounds_toArray, List.set_cons_zero, List.set_cons_succ]) (hCont (v260, v263, gb266) _ ⟨hHeld, (by (with_reducible repeat (first | apply rA_ | apply rN_ | apply rD_)); exact HO261.out), (by (with_reducible repeat (first | apply rA_ | apply rN_ | apply rD_)); exact HO264.out), (by (with_reducible repeat (first | refine bN_ ?_ _ | refine bD_ ?_ | refine bA_ ?_ _)); exact BK254.out), (by (with_reducible repeat (first | refine bN_ ?_ _ | refine bD_ ?_ | refine bA_ ?_ _)); exact BK255.out), (by (with_reducible repeat (first | refine bN_ ?_ _ | refine bD_ ?_ | refine bA_ ?_ _)); exact BK266.out), GW266.out, GE266.out, NB254_266.out, NB266_254.out, NB255_266.out, NB266_255.out, (by repeat (first | (with_reducible first | exact HB.out | apply wA_ | apply wN_ | apply wD_ | refine wE_ ?_ GE254.out | refine wE_ ?_ GE255.out | refine wE_ ?_ GE266.out) | exact HB.out))⟩)
      ·skip
       refine box_step ?hg (N := 13) ?hd (cs := #[.int .i64 0, .slice none 0 0, .slice none 0 0]) (t := 80) ?hr ?_; (case hd => rfl); (case hg => rfl); (case hr => first | (go_simp; done) | (go_simp; rfl))
       intro gb266 hg w18 hbox hb
       have n0_ := aM_ (bB_ (g := gb254) (by (with_reducible repeat (first | refine bN_ ?_ _ | refine bD_ ?_ | refine bA_ ?_ _)); exact BK254.out) hb); have n1_ := aM_ (bB_ (g := gb255) (by (with_reducible repeat (first | refine bN_ ?_ _ | refine bD_ ?_ | refine bA_ ?_ _)); exact BK255.out) hb); have n2_ := aM_ (wS_ (by repeat (first | (with_reducible first | exact HB.out | apply wA_ | apply wN_ | apply wD_ | refine wE_ ?_ GE254.out | refine wE_ ?_ GE255.out) | exact HB.out)) hb); have n3_ := aM_ (hbox); have n4_ := aM_ ((by rw [hg]; exact (sZ_ (by repeat (first | (with_reducible first | exact HB.out | apply wA_ | apply wN_ | apply wD_ | refine wE_ ?_ GE254.out | refine wE_ ?_ GE255.out) | exact HB.out))) : w.heap.size ≤ gb266)); have n5_ := aM_ ((by rw [hg]; exact (sZ_ (by repeat (first | (with_reducible first | exact HB.out | apply wA_ | apply wN_ | apply wD_ | refine wE_ ?_ GE254.out | refine wE_ ?_ GE255.out) | exact HB.out))) : w.heap.size ≤ gb266)); have n6_ := aM_ ((by rw [hg]; exact Nat.ne_of_lt (blk_lt (g := gb254) (by (with_reducible repeat (first | refine bN_ ?_ _ | refine bD_ ?_ | refine bA_ ?_ _)); exact BK254.out)) : gb254 ≠ gb266)); have n7_ := aM_ ((by rw [hg]; exact Nat.ne_of_gt (blk_lt (g := gb254) (by (with_reducible repeat (first | refine bN_ ?_ _ | refine bD_ ?_ | refine bA_ ?_ _)); exact BK254.out)) : gb266 ≠ gb254)); have n8_ := aM_ ((by rw [hg]; exact Nat.ne_of_lt (blk_lt (g := gb255) (by (with_reducible repeat (first | refine bN_ ?_ _ | refine bD_ ?_ | refine bA_ ?_ _)); exact BK255.out)) : gb255 ≠ gb266)); have n9_ := aM_ ((by rw [hg]; exact Nat.ne_of_gt (blk_lt (g := gb255) (by (with_reducible repeat (first | refine bN_ ?_ _ | refine bD_ ?_ | refine bA_ ?_ _)); exact BK255.out)) : gb266 ≠ gb255)); clear BK254 BK255 HB; have BK254 := n0_; have BK255 := n1_; have HB := n2_; have BK266 := n3_; have GW266 := n4_; have GE266 := n5_; have NB254_266 := n6_; have NB266_254 := n7_; have NB255_266 := n8_; have NB266_255 := n9_; clear n0_ n1_ n2_ n3_ n4_ n5_ n6_ n7_ n8_ n9_; clear hb hbox hg
       refine hK.out _ _ ⟨(blk_cell BK255.out 0).trans rfl, (blk_cell BK255.out 1).trans rfl, (blk_cell BK255.out 2).trans rfl, (blk_cell BK255.out 3).trans rfl, (blk_cell BK254.out 0).trans rfl, ((HB.out.cell (World.block_lt_of_cell? w _ hw257_0)).trans hw257_0)⟩ (fun hHeld => ?_)
       clear hK K
       refine norm_ (a' := ?_) ?_ ?_
       rotate_left
       ·show Act.put _ (some 13) _ = _
        simp only [Act.put, List.setIfInBounds_toArray, List.set_cons_zero, List.set_cons_succ, i64_w, i32_w]
        rfl
       refine one_ (i := 7) (N := some 33) #[true, true, true, true, true, true, true, true, false, false, false, true, false, false] rfl rfl (one_of HT_.out (by kernel_rfl)) (by decide) (fun K hK => ?_)
       refine goes_ Try.func88 (by kernel_rfl) rfl #[.agg #[.int .i64 a1_0, .int .i64 a1_1, .int .i64 a1_2, .slice A1_3 l1_3.length c1_3], .int .i64 t256, .int .i64 (rd l0_0 x12_1)] (by rfl) rfl rfl (by (try simp only [List.map_toArray, List.map_cons, List.map_nil]); first | done | rfl | (simp only [List.length_drop, List.length_take]; rfl)) ?_
       with_reducible refine (spec_TableIn.calls a1_0 a1_1 a1_2 _ _ l1_3 t256 (rd l0_0 x12_1) t258 t259 t262 t265 _ ?side1 ?side2 A13.out).mono ?_
       (case side1 => repeat (first | exact (Kd.C_below HR1_3.out HB.out) | (with_reducible refine cA_ ?_ _) | (with_reducible refine cN_ ?_ _) | (with_reducible refine cD_ ?_)))
       (case side2 => exact HC1_3.out)
       rintro e w19 ⟨v260, v263, rfl, ho0, ho1, hb⟩
       refine ⟨_, rfl, ?_⟩
       have n0_ := aM_ (Kd.R_lower ho0 (sZ_ (by repeat (first | (with_reducible first | exact HB.out | apply wA_ | apply wN_ | apply wD_ | refine wE_ ?_ GE254.out | refine wE_ ?_ GE255.out | refine wE_ ?_ GE266.out) | exact HB.out)))); have n1_ := aM_ (Kd.R_lower ho1 (sZ_ (by repeat (first | (with_reducible first | exact HB.out | apply wA_ | apply wN_ | apply wD_ | refine wE_ ?_ GE254.out | refine wE_ ?_ GE255.out | refine wE_ ?_ GE266.out) | exact HB.out)))); have n2_ := aM_ (bB_ (g := gb254) (by (with_reducible repeat (first | refine bN_ ?_ _ | refine bD_ ?_ | refine bA_ ?_ _)); exact BK254.out) hb); have n3_ := aM_ (bB_ (g := gb255) (by (with_reducible repeat (first | refine bN_ ?_ _ | refine bD_ ?_ | refine bA_ ?_ _)); exact BK255.out) hb); have n4_ := aM_ (bB_ (g := gb266) (by (with_reducible repeat (first | refine bN_ ?_ _ | refine bD_ ?_ | refine bA_ ?_ _)); exact BK266.out) hb); have n5_ := aM_ (wS_ (by repeat (first | (with_reducible first | exact HB.out | apply wA_ | apply wN_ | apply wD_ | refine wE_ ?_ GE254.out | refine wE_ ?_ GE255.out | refine wE_ ?_ GE266.out) | exact HB.out)) hb); clear BK254 BK255 BK266 HB; have HO261 := n0_; have HO264 := n1_; have BK254 := n2_; have BK255 := n3_; have BK266 := n4_; have HB := n5_; clear n0_ n1_ n2_ n3_ n4_ n5_; (try clear hb); (try clear hb2); (try clear hk); (try clear hi); (try clear ho0); (try clear ho1)
       refine hK.out _ _ ⟨(blk_cell BK255.out 0).trans rfl, (blk_cell BK255.out 1).trans rfl, (blk_cell BK255.out 2).trans rfl, (blk_cell BK255.out 3).trans rfl, (blk_cell BK254.out 0).trans rfl, ((HB.out.cell (World.block_lt_of_cell? w _ hw257_0)).trans hw257_0)⟩ (fun hHeld => ?_)
       clear hK K
       refine norm_ (a' := ?_) ?_ ?_
       rotate_left
       ·show Act.put _ (some 33) _ = _
        simp only [Act.put, List.setIfInBounds_toArray, List.set_cons_zero, List.set_cons_succ, i64_w, i32_w]
        rfl
       refine pure_ (i := 8) (N := some 25) (v := ?_) (a' := ?_) #[true, true, true, true, true, true, true, true, true, false, false, true, false, false] rfl rfl (any_of HT_.out (by kernel_rfl)) (fun _ _ _ h => h) (Or.inl ⟨by rfl, ?_⟩) ?_ ?_
       rotate_left
       ·intro w'
        go_simp
        with_reducible rfl
       rotate_left
       ·simp only [Act.put, List.setIfInBounds_toArray, List.set_cons_zero, List.set_cons_succ, i64_w, i32_w]
        rfl
       refine pure_ (i := 9) (N := some 34) (v := ?_) (a' := ?_) #[true, true, true, true, true, true, true, true, true, true, false, true, false, false] rfl rfl (any_of HT_.out (by kernel_rfl)) (fun _ _ _ h => h) (Or.inl ⟨by rfl, ?_⟩) ?_ ?_
       rotate_left
       ·intro w'
        go_simp
        with_reducible rfl
       rotate_left
       ·simp only [Act.put, List.setIfInBounds_toArray, List.set_cons_zero, List.set_cons_succ, i64_w, i32_w]
        rfl
       refine pure_ (i := 10) (N := some 35) (v := ?_) (a' := ?_) #[true, true, true, true, true, true, true, true, true, true, true, true, false, false] rfl rfl (any_of HT_.out (by kernel_rfl)) (fun _ _ _ h => h) (Or.inl ⟨by rfl, ?_⟩) ?_ ?_
       rotate_left
       ·intro w'
        go_simp
        with_reducible rfl
       rotate_left
       ·simp only [Act.put, List.setIfInBounds_toArray, List.set_cons_zero, List.set_cons_succ, i64_w, i32_w]
        rfl
       exact norm_ (by simp only [putAll, Act.put, List.setIfInBounds_toArray, List.set_cons_zero, List.set_cons_succ]) (hCont (v260, v263, gb266) _ ⟨hHeld, (by (with_reducible repeat (first | apply rA_ | apply rN_ | apply rD_)); exact HO261.out), (by (with_reducible repeat (first | apply rA_ | apply rN_ | apply rD_)); exact HO264.out), (by (with_reducible repeat (first | refine bN_ ?_ _ | refine bD_ ?_ | refine bA_ ?_ _)); exact BK254.out), (by (with_reducible repeat (first | refine bN_ ?_ _ | refine bD_ ?_ | refine bA_ ?_ _)); exact BK255.out), (by (with_reducible repeat (first | refine bN_ ?_ _ | refine bD_ ?_ | refine bA_ ?_ _)); exact BK266.out), GW266.out, GE266.out, NB254_266.out, NB266_254.out, NB255_266.out, NB266_255.out, (by repeat (first | (with_reducible first | exact HB.out | apply wA_ | apply wN_ | apply wD_ | refine wE_ ?_ GE254.out | refine wE_ ?_ GE255.out | refine wE_ ?_ GE266.out) | exact HB.out))⟩)
     rintro ⟨v260, v263, gb266⟩ w20 ⟨hS_, h0_, h1_, h2_, h3_, h4_, h5_, h6_, h7_, h8_, h9_, h10_, h11_⟩
     have n0_ : Aside0 (Kd.R (Kd.int .i64) 3 w20 w.heap.size (fun k_ => some k_ ≠ (v263 : Value).ownBlock) v260 t259) := ⟨h0_⟩
     have n1_ : Aside0 (Kd.R (Kd.int .i64) 3 w20 w.heap.size (fun k_ => some k_ ≠ (v260 : Value).ownBlock) v263 t262) := ⟨h1_⟩
     have n2_ : Aside0 (w20.heap[gb254]? = some (.cells #[.slice (some ad257) l0_0.length c0_0] 31 (0, 0))) := ⟨h2_⟩
     have n3_ : Aside0 (w20.heap[gb255]? = some (.cells #[.int .i64 a1_0, .int .i64 a1_1, .int .i64 a1_2, .slice A1_3 l1_3.length c1_3] 35 (0, 0))) := ⟨h3_⟩
     have n4_ : Aside0 (w20.heap[gb266]? = some (.cells #[.int .i64 0, .slice none 0 0, .slice none 0 0] 80 (0, 0))) := ⟨h4_⟩
     have n5_ : Aside0 (w.heap.size ≤ gb266) := ⟨h5_⟩
     have n6_ : Aside0 (w.heap.size ≤ gb266) := ⟨h6_⟩
     have n7_ : Aside0 (gb254 ≠ gb266) := ⟨h7_⟩
     have n8_ : Aside0 (gb266 ≠ gb254) := ⟨h8_⟩
     have n9_ : Aside0 (gb255 ≠ gb266) := ⟨h9_⟩
     have n10_ : Aside0 (gb266 ≠ gb255) := ⟨h10_⟩
     have n11_ : Aside0 (Below w.heap.size w w20) := ⟨h11_⟩
     clear BK254 BK255 HB h0_ h1_ h2_ h3_ h4_ h5_ h6_ h7_ h8_ h9_ h10_ h11_; have HO261 := n0_; have HO264 := n1_; have BK254 := n2_; have BK255 := n3_; have BK266 := n4_; have GW266 := n5_; have GE266 := n6_; have NB254_266 := n7_; have NB266_254 := n8_; have NB255_266 := n9_; have NB266_255 := n10_; have HB := n11_; clear n0_ n1_ n2_ n3_ n4_ n5_ n6_ n7_ n8_ n9_ n10_ n11_
     have hHeld : w20.cell? ⟨gb255, 0, none⟩ = some (.int .i64 a1_0) ∧ w20.cell? ⟨gb255, 1, none⟩ = some (.int .i64 a1_1) ∧ w20.cell? ⟨gb255, 2, none⟩ = some (.int .i64 a1_2) ∧ w20.cell? ⟨gb255, 3, none⟩ = some (.slice A1_3 l1_3.length c1_3) ∧ w20.cell? ⟨gb254, 0, none⟩ = some (.slice (some ad257) l0_0.length c0_0) ∧ w20.cell? (ad257.add (x12_1).toNat) = some (.int .i64 (rd l0_0 x12_1)) := hS_
     obtain ⟨Ao22, co22, eo22⟩ := Kd.R_slice HO261.out
     (first | subst eo22 | (injection eo22 with f1_ f2_ f3_; have f4_ := f1_.symm; have f5_ := f3_.symm; clear f1_ f2_ f3_; subst f4_; subst f5_))
     obtain ⟨Ao24, co24, eo24⟩ := Kd.R_slice HO264.out
     (first | subst eo24 | (injection eo24 with f1_ f2_ f3_; have f4_ := f1_.symm; have f5_ := f3_.symm; clear f1_ f2_ f3_; subst f4_; subst f5_))
     refine norm_ (a' := ?_) ?_ ?_
     rotate_left
     ·simp only [putAll, Act.put, List.setIfInBounds_toArray, List.set_cons_zero, List.set_cons_succ]
      rfl
     refine one_ (i := 12) (N := none) #[true, true, true, true, true, true, true, true, true, true, true, true, true, false] rfl rfl (one_of HT_.out (by kernel_rfl)) (by decide) (fun K hK => ?_)
     have hs21 : w20.cell? ⟨gb266, 0, none⟩ = some (.int .i64 0) := (blk_cell BK266.out 0).trans rfl
     have hfs21 := blk_frozen BK266.out 0; have hns21_0 := NB254_266.out; have hns21_1 := NB255_266.out; have hms21_0 := NB266_254.out; have hms21_1 := NB266_255.out
     have hs23 : w20.cell? ⟨gb266, 1, none⟩ = some (.slice none 0 0) := (blk_cell BK266.out 1).trans rfl
     have hfs23 := blk_frozen BK266.out 1; have hns23_0 := NB254_266.out; have hns23_1 := NB255_266.out; have hms23_0 := NB266_254.out; have hms23_1 := NB266_255.out
     have hs25 : w20.cell? ⟨gb266, 2, none⟩ = some (.slice none 0 0) := (blk_cell BK266.out 2).trans rfl
     have hfs25 := blk_frozen BK266.out 2; have hns25_0 := NB254_266.out; have hns25_1 := NB255_266.out; have hms25_0 := NB266_254.out; have hms25_1 := NB266_255.out
     refine skip_ (w1 := ?_) (by rfl) rfl ?_ ?_
     rotate_left
     ·go_simp
      rfl
     refine hK.out _ _ ⟨((cell_far (p := ⟨gb266, _, none⟩) NB255_266.out _).trans (((cell_far (p := ⟨gb266, _, none⟩) NB255_266.out _).trans (((cell_far (p := ⟨gb266, _, none⟩) NB255_266.out _).trans (hHeld.1)))))), ((cell_far (p := ⟨gb266, _, none⟩) NB255_266.out _).trans (((cell_far (p := ⟨gb266, _, none⟩) NB255_266.out _).trans (((cell_far (p := ⟨gb266, _, none⟩) NB255_266.out _).trans (hHeld.2.1)))))), ((cell_far (p := ⟨gb266, _, none⟩) NB255_266.out _).trans (((cell_far (p := ⟨gb266, _, none⟩) NB255_266.out _).trans (((cell_far (p := ⟨gb266, _, none⟩) NB255_266.out _).trans (hHeld.2.2.1)))))), ((cell_far (p := ⟨gb266, _, none⟩) NB255_266.out _).trans (((cell_far (p := ⟨gb266, _, none⟩) NB255_266.out _).trans (((cell_far (p := ⟨gb266, _, none⟩) NB255_266.out _).trans (hHeld.2.2.2.1)))))), ((cell_far (p := ⟨gb266, _, none⟩) NB254_266.out _).trans (((cell_far (p := ⟨gb266, _, none⟩) NB254_266.out _).trans (((cell_far (p := ⟨gb266, _, none⟩) NB254_266.out _).trans (hHeld.2.2.2.2.1)))))), ((cell_far (p := ⟨gb266, _, none⟩) (by first | exact Nat.ne_of_lt (Nat.lt_of_lt_of_le (by have := World.block_lt_of_cell? _ _ hw257_0; first | rwa [add_block] at this | exact this) GW266.out) | (rw [add_block]; exact Nat.ne_of_lt (Nat.lt_of_lt_of_le (by have := World.block_lt_of_cell? _ _ hw257_0; first | rwa [add_block] at this | exact this) GW266.out)) | (show (Addr.add _ _).block ≠ _; rw [add_block]; exact Nat.ne_of_lt (Nat.lt_of_lt_of_le (by have := World.block_lt_of_cell? _ _ hw257_0; first | rwa [add_block] at this | exact this) GW266.out)) | (dsimp only; exact Nat.ne_of_lt (Nat.lt_of_lt_of_le (by have := World.block_lt_of_cell? _ _ hw257_0; first | rwa [add_block] at this | exact this) GW266.out))) _).trans (((cell_far (p := ⟨gb266, _, none⟩) (by first | exact Nat.ne_of_lt (Nat.lt_of_lt_of_le (by have := World.block_lt_of_cell? _ _ hw257_0; first | rwa [add_block] at this | exact this) GW266.out) | (rw [add_block]; exact Nat.ne_of_lt (Nat.lt_of_lt_of_le (by have := World.block_lt_of_cell? _ _ hw257_0; first | rwa [add_block] at this | exact this) GW266.out)) | (show (Addr.add _ _).block ≠ _; rw [add_block]; exact Nat.ne_of_lt (Nat.lt_of_lt_of_le (by have := World.block_lt_of_cell? _ _ hw257_0; first | rwa [add_block] at this | exact this) GW266.out)) | (dsimp only; exact Nat.ne_of_lt (Nat.lt_of_lt_of_le (by have := World.block_lt_of_cell? _ _ hw257_0; first | rwa [add_block] at this | exact this) GW266.out))) _).trans (((cell_far (p := ⟨gb266, _, none⟩) (by first | exact Nat.ne_of_lt (Nat.lt_of_lt_of_le (by have := World.block_lt_of_cell? _ _ hw257_0; first | rwa [add_block] at this | exact this) GW266.out) | (rw [add_block]; exact Nat.ne_of_lt (Nat.lt_of_lt_of_le (by have := World.block_lt_of_cell? _ _ hw257_0; first | rwa [add_block] at this | exact this) GW266.out)) | (show (Addr.add _ _).block ≠ _; rw [add_block]; exact Nat.ne_of_lt (Nat.lt_of_lt_of_le (by have := World.block_lt_of_cell? _ _ hw257_0; first | rwa [add_block] at this | exact this) GW266.out)) | (dsimp only; exact Nat.ne_of_lt (Nat.lt_of_lt_of_le (by have := World.block_lt_of_cell? _ _ hw257_0; first | rwa [add_block] at this | exact this) GW266.out))) _).trans (hHeld.2.2.2.2.2))))))⟩ (fun hHeld => ?_)
     clear hK K
     refine pure_ (i := 13) (N := some 14) (v := ?_) (a' := ?_) #[true, true, true, true, true, true, true, true, true, true, true, true, true, true] rfl rfl (any_of HT_.out (by kernel_rfl)) (fun _ _ _ h => h) (Or.inl ⟨by rfl, ?_⟩) ?_ ?_
     rotate_left
     ·intro w'
      go_simp
      with_reducible rfl
     rotate_left
     ·simp only [Act.put, List.setIfInBounds_toArray, List.set_cons_zero, List.set_cons_succ, i64_w, i32_w]
      rfl
     refine done_ (done_of HT_.out (by kernel_rfl)) ?_
     go_upto_region 8 with (fail)
     go_cut [54] (fun v54 wc => ∃ (kq : Nat) (x54_13 : Bool), v54 = .bool x54_13 ∧ Aside0 (spec_LandingFor.j1 kq a2 x9_1 x10_1 t256 x12_1 x54_13 l0_0 a1_0 a1_1 a1_2 l1_3 t258 t259 t262 = some r) ∧ Aside0 (kq ≤ k1) ∧ Aside0 (Kd.R (Kd.int .i64) 3 wc w.heap.size (fun k_ => some k_ ≠ ((.slice Ao24 t262.length co24) : Value).ownBlock) (.slice Ao22 t259.length co22) t259) ∧ Aside0 (Kd.R (Kd.int .i64) 3 wc w.heap.size (fun k_ => some k_ ≠ ((.slice Ao22 t259.length co22) : Value).ownBlock) (.slice Ao24 t262.length co24) t262) ∧ Aside0 (wc.heap[gb254]? = some (.cells #[(.slice (some ad257) l0_0.length c0_0)] 31 (0, 0))) ∧ Aside0 (wc.heap[gb255]? = some (.cells #[.int .i64 a1_0, .int .i64 a1_1, .int .i64 a1_2, (.slice A1_3 l1_3.length c1_3)] 35 (0, 0))) ∧ Aside0 (wc.heap[gb266]? = some (.cells #[.int .i64 t258, (.slice Ao22 t259.length co22), (.slice Ao24 t262.length co24)] 80 (0, 0))) ∧ Aside0 (Below w.heap.size w wc))
     case first =>
      have H := HC14.out; clear HC14
      by_cases c26 : t265 = true
      ·subst c26
       have H1 : ((spec_l1In.f a2 0 (wrap64 ((t259.length : Int) - 1))).bind fun t267 => (if t267 = true then (if 0 ≤ a2 then (if a2 < (t259.length : Int) then (spec_LandingFor.j1 k1 a2 x9_1 x10_1 t256 x12_1 (decide ((rd t259 a2) < 0)) l0_0 a1_0 a1_1 a1_2 l1_3 t258 t259 t262) else (none)) else (none)) else (spec_LandingFor.j1 k1 a2 x9_1 x10_1 t256 x12_1 true l0_0 a1_0 a1_1 a1_2 l1_3 t258 t259 t262))) = some r := by rw [if_pos rfl] at H; exact H
       clear H; have H := H1; clear H1
       replace H := Option.bind_eq_some_iff.mp H
       obtain ⟨t267, A270, H⟩ := H
       (try dsimp only at H)
       have A27 := aM_ A270; clear A270
       by_cases c28 : t267 = true
       ·subst c28
        have H1 : (if 0 ≤ a2 then (if a2 < (t259.length : Int) then (spec_LandingFor.j1 k1 a2 x9_1 x10_1 t256 x12_1 (decide ((rd t259 a2) < 0)) l0_0 a1_0 a1_1 a1_2 l1_3 t258 t259 t262) else (none)) else (none)) = some r := by rw [if_pos rfl] at H; exact H
        clear H; have H := H1; clear H1
        by_cases c29 : 0 ≤ a2
        ·rw [if_pos c29] at H
         have c29b0 : decide (0 ≤ a2) = true := decide_eq_true c29
         clear c29
         (first | rw [c29b0] | (simp only [i64_w, i32_w]; rw [c29b0]) | skip)
         by_cases c30 : a2 < (t259.length : Int)
         ·rw [if_pos c30] at H
          have c30b0 : decide (a2 < (t259.length : Int)) = true := decide_eq_true c30
          clear c30
          have H' := aM_ H
          clear H; have hnb31 := NB266_254.out; have hnc31 := NB254_266.out; have hnb32 := NB266_255.out; have hnc32 := NB255_266.out
          have hcz33_0 : w20.cell? ⟨gb266, 0, none⟩ = some (.int .i64 0) := (blk_cell BK266.out 0).trans rfl
          have hcz33_1 : w20.cell? ⟨gb266, 1, none⟩ = some (.slice none 0 0) := (blk_cell BK266.out 1).trans rfl
          have hcz33_2 : w20.cell? ⟨gb266, 2, none⟩ = some (.slice none 0 0) := (blk_cell BK266.out 2).trans rfl
          have hfz33_0 := blk_frozen BK266.out 0; have hfz33_1 := blk_frozen BK266.out 1; have hfz33_2 := blk_frozen BK266.out 2
          go_wp2_with (first | (go_at_call 83; (first | (with_reducible refine (spec_l1In.calls a2 0 (wrap64 ((t259.length : Int) - 1)) true _ A27.out).mono ?_) | (with_reducible refine (spec_l1In.calls a2 0 (IntKind.i64.wrap ((t259.length : Int) - 1)) true _ (by rw [i64_w]; exact A27.out)).mono ?_)); rintro e w' ⟨rfl, ⟨nd, rfl⟩⟩; have p268 : 0 ≤ (a2 : Int) := of_decide_eq_true (by first | (with_reducible assumption) | assumption); have q268 : a2 < (t259.length : Int) := of_decide_eq_true (by first | (with_reducible assumption) | assumption); obtain ⟨ad268, e268, hx268_0⟩ := Kd.at_int (Kd.R_reads' HO261.out).2.2 a2 p268 q268; cases e268; have hn268_0 : ad268.block ≠ gb266 := Kd.own_blk (Kd.R_ne HO261.out BK266.out (by decide)); have hn268_1 : ad268.block ≠ gb266 := Kd.own_blk (Kd.R_ne HO261.out BK266.out (by decide)); have hn268_2 : ad268.block ≠ gb266 := Kd.own_blk (Kd.R_ne HO261.out BK266.out (by decide)); replace hx268_0 := (cell_far (p := ⟨gb266, 0, none⟩) (by first | (rw [add_block]; exact hn268_0) | (show (Addr.add _ _).block ≠ _; rw [add_block]; exact hn268_0) | exact hn268_0) (.int .i64 t258)).trans hx268_0; replace hx268_0 := (cell_far (p := ⟨gb266, 1, none⟩) (by first | (rw [add_block]; exact hn268_1) | (show (Addr.add _ _).block ≠ _; rw [add_block]; exact hn268_1) | exact hn268_1) (.slice (some ad268) t259.length co22)).trans hx268_0; replace hx268_0 := (cell_far (p := ⟨gb266, 2, none⟩) (by first | (rw [add_block]; exact hn268_2) | (show (Addr.add _ _).block ≠ _; rw [add_block]; exact hn268_2) | exact hn268_2) (.slice Ao24 t262.length co24)).trans hx268_0; clear hn268_0; clear hn268_1; clear hn268_2; replace p268 := eq_true p268; replace q268 := eq_true q268))
          go_meet
          case rel => exact ⟨_, (decide ((rd t259 a2) < 0)), (by first | rfl | (simp; done) | (simp [*]; done)), H', ⟨by have := HK1.out; first | omega | exact Nat.le_refl _⟩, ⟨by (with_reducible repeat (first | apply rA_ | apply rN_ | apply rD_)); exact Kd.R_mono (Kd.R_far (p := ⟨gb266, 2, none⟩) (Kd.R_far (p := ⟨gb266, 1, none⟩) (Kd.R_far (p := ⟨gb266, 0, none⟩) (Kd.R_types HO261.out BK266.out (by decide)) (fun _ hk => hk.2) (.int .i64 t258)) (fun _ hk => hk.2) (.slice (some ad268) t259.length co22)) (fun _ hk => hk.2) (.slice Ao24 t262.length co24)) (fun _ hk => hk.1)⟩, ⟨by (with_reducible repeat (first | apply rA_ | apply rN_ | apply rD_)); exact Kd.R_mono (Kd.R_far (p := ⟨gb266, 2, none⟩) (Kd.R_far (p := ⟨gb266, 1, none⟩) (Kd.R_far (p := ⟨gb266, 0, none⟩) (Kd.R_types HO264.out BK266.out (by decide)) (fun _ hk => hk.2) (.int .i64 t258)) (fun _ hk => hk.2) (.slice (some ad268) t259.length co22)) (fun _ hk => hk.2) (.slice Ao24 t262.length co24)) (fun _ hk => hk.1)⟩, ⟨by (with_reducible repeat (first | refine bN_ ?_ _ | refine bD_ ?_ | refine bA_ ?_ _)); refine blk_far ?_ NB254_266.out _; (with_reducible repeat (first | refine bN_ ?_ _ | refine bD_ ?_ | refine bA_ ?_ _)); refine blk_far ?_ NB254_266.out _; (with_reducible repeat (first | refine bN_ ?_ _ | refine bD_ ?_ | refine bA_ ?_ _)); refine blk_far ?_ NB254_266.out _; (with_reducible repeat (first | refine bN_ ?_ _ | refine bD_ ?_ | refine bA_ ?_ _)); exact BK254.out⟩, ⟨by (with_reducible repeat (first | refine bN_ ?_ _ | refine bD_ ?_ | refine bA_ ?_ _)); refine blk_far ?_ NB255_266.out _; (with_reducible repeat (first | refine bN_ ?_ _ | refine bD_ ?_ | refine bA_ ?_ _)); refine blk_far ?_ NB255_266.out _; (with_reducible repeat (first | refine bN_ ?_ _ | refine bD_ ?_ | refine bA_ ?_ _)); refine blk_far ?_ NB255_266.out _; (with_reducible repeat (first | refine bN_ ?_ _ | refine bD_ ?_ | refine bA_ ?_ _)); exact BK255.out⟩, ⟨by (with_reducible repeat (first | refine bN_ ?_ _ | refine bD_ ?_ | refine bA_ ?_ _)); refine blk_put (cs := #[.int .i64 t258, .slice (some ad268) t259.length co22, .slice none 0 0]) ?_ 2 _ rfl; (with_reducible repeat (first | refine bN_ ?_ _ | refine bD_ ?_ | refine bA_ ?_ _)); refine blk_put (cs := #[.int .i64 t258, .slice none 0 0, .slice none 0 0]) ?_ 1 _ rfl; (with_reducible repeat (first | refine bN_ ?_ _ | refine bD_ ?_ | refine bA_ ?_ _)); refine blk_put (cs := #[.int .i64 0, .slice none 0 0, .slice none 0 0]) ?_ 0 _ rfl; (with_reducible repeat (first | refine bN_ ?_ _ | refine bD_ ?_ | refine bA_ ?_ _)); exact BK266.out⟩, ⟨by repeat (first | (with_reducible first | exact HB.out | apply wA_ | apply wN_ | apply wD_ | refine wE_ ?_ GE254.out | refine wE_ ?_ GE255.out | refine wE_ ?_ GE266.out) | exact HB.out)⟩⟩
         ·rw [if_neg c30] at H
          exact absurd H (by simp)
        ·rw [if_neg c29] at H
         exact absurd H (by simp)
       ·replace c28 := Bool.eq_false_iff.mpr c28
        subst c28
        have H1 : (spec_LandingFor.j1 k1 a2 x9_1 x10_1 t256 x12_1 true l0_0 a1_0 a1_1 a1_2 l1_3 t258 t259 t262) = some r := by rw [if_neg (show ¬ (false = true) by decide)] at H; exact H
        clear H; have H := H1; clear H1
        have H' := aM_ H
        clear H; have hnb34 := NB266_254.out; have hnc34 := NB254_266.out; have hnb35 := NB266_255.out; have hnc35 := NB255_266.out
        have hcz36_0 : w20.cell? ⟨gb266, 0, none⟩ = some (.int .i64 0) := (blk_cell BK266.out 0).trans rfl
        have hcz36_1 : w20.cell? ⟨gb266, 1, none⟩ = some (.slice none 0 0) := (blk_cell BK266.out 1).trans rfl
        have hcz36_2 : w20.cell? ⟨gb266, 2, none⟩ = some (.slice none 0 0) := (blk_cell BK266.out 2).trans rfl
        have hfz36_0 := blk_frozen BK266.out 0; have hfz36_1 := blk_frozen BK266.out 1; have hfz36_2 := blk_frozen BK266.out 2
        go_wp2_with (first | (go_at_call 83; (first | (with_reducible refine (spec_l1In.calls a2 0 (wrap64 ((t259.length : Int) - 1)) false _ A27.out).mono ?_) | (with_reducible refine (spec_l1In.calls a2 0 (IntKind.i64.wrap ((t259.length : Int) - 1)) false _ (by rw [i64_w]; exact A27.out)).mono ?_)); rintro e w' ⟨rfl, ⟨nd, rfl⟩⟩))
        go_meet
        case rel => exact ⟨_, (true), (by first | rfl | (simp; done) | (simp [*]; done)), H', ⟨by have := HK1.out; first | omega | exact Nat.le_refl _⟩, ⟨by (with_reducible repeat (first | apply rA_ | apply rN_ | apply rD_)); exact Kd.R_mono (Kd.R_far (p := ⟨gb266, 2, none⟩) (Kd.R_far (p := ⟨gb266, 1, none⟩) (Kd.R_far (p := ⟨gb266, 0, none⟩) (Kd.R_types HO261.out BK266.out (by decide)) (fun _ hk => hk.2) (.int .i64 t258)) (fun _ hk => hk.2) (.slice Ao22 t259.length co22)) (fun _ hk => hk.2) (.slice Ao24 t262.length co24)) (fun _ hk => hk.1)⟩, ⟨by (with_reducible repeat (first | apply rA_ | apply rN_ | apply rD_)); exact Kd.R_mono (Kd.R_far (p := ⟨gb266, 2, none⟩) (Kd.R_far (p := ⟨gb266, 1, none⟩) (Kd.R_far (p := ⟨gb266, 0, none⟩) (Kd.R_types HO264.out BK266.out (by decide)) (fun _ hk => hk.2) (.int .i64 t258)) (fun _ hk => hk.2) (.slice Ao22 t259.length co22)) (fun _ hk => hk.2) (.slice Ao24 t262.length co24)) (fun _ hk => hk.1)⟩, ⟨by (with_reducible repeat (first | refine bN_ ?_ _ | refine bD_ ?_ | refine bA_ ?_ _)); refine blk_far ?_ NB254_266.out _; (with_reducible repeat (first | refine bN_ ?_ _ | refine bD_ ?_ | refine bA_ ?_ _)); refine blk_far ?_ NB254_266.out _; (with_reducible repeat (first | refine bN_ ?_ _ | refine bD_ ?_ | refine bA_ ?_ _)); refine blk_far ?_ NB254_266.out _; (with_reducible repeat (first | refine bN_ ?_ _ | refine bD_ ?_ | refine bA_ ?_ _)); exact BK254.out⟩, ⟨by (with_reducible repeat (first | refine bN_ ?_ _ | refine bD_ ?_ | refine bA_ ?_ _)); refine blk_far ?_ NB255_266.out _; (with_reducible repeat (first | refine bN_ ?_ _ | refine bD_ ?_ | refine bA_ ?_ _)); refine blk_far ?_ NB255_266.out _; (with_reducible repeat (first | refine bN_ ?_ _ | refine bD_ ?_ | refine bA_ ?_ _)); refine blk_far ?_ NB255_266.out _; (with_reducible repeat (first | refine bN_ ?_ _ | refine bD_ ?_ | refine bA_ ?_ _)); exact BK255.out⟩, ⟨by (with_reducible repeat (first | refine bN_ ?_ _ | refine bD_ ?_ | refine bA_ ?_ _)); refine blk_put (cs := #[.int .i64 t258, .slice Ao22 t259.length co22, .slice none 0 0]) ?_ 2 _ rfl; (with_reducible repeat (first | refine bN_ ?_ _ | refine bD_ ?_ | refine bA_ ?_ _)); refine blk_put (cs := #[.int .i64 t258, .slice none 0 0, .slice none 0 0]) ?_ 1 _ rfl; (with_reducible repeat (first | refine bN_ ?_ _ | refine bD_ ?_ | refine bA_ ?_ _)); refine blk_put (cs := #[.int .i64 0, .slice none 0 0, .slice none 0 0]) ?_ 0 _ rfl; (with_reducible repeat (first | refine bN_ ?_ _ | refine bD_ ?_ | refine bA_ ?_ _)); exact BK266.out⟩, ⟨by repeat (first | (with_reducible first | exact HB.out | apply wA_ | apply wN_ | apply wD_ | refine wE_ ?_ GE254.out | refine wE_ ?_ GE255.out | refine wE_ ?_ GE266.out) | exact HB.out)⟩⟩
      ·replace c26 := Bool.eq_false_iff.mpr c26
       subst c26
       have H1 : (spec_LandingFor.j1 k1 a2 x9_1 x10_1 t256 x12_1 true l0_0 a1_0 a1_1 a1_2 l1_3 t258 t259 t262) = some r := by rw [if_neg (show ¬ (false = true) by decide)] at H; exact H
       clear H; have H := H1; clear H1
       have H' := aM_ H
       clear H
       go_wp2
       go_meet
       case rel => exact ⟨_, (true), (by first | rfl | (simp; done) | (simp [*]; done)), H', ⟨by have := HK1.out; first | omega | exact Nat.le_refl _⟩, ⟨by (with_reducible repeat (first | apply rA_ | apply rN_ | apply rD_)); exact Kd.R_mono (Kd.R_far (p := ⟨gb266, 2, none⟩) (Kd.R_far (p := ⟨gb266, 1, none⟩) (Kd.R_far (p := ⟨gb266, 0, none⟩) (Kd.R_types HO261.out BK266.out (by decide)) (fun _ hk => hk.2) (.int .i64 t258)) (fun _ hk => hk.2) (.slice Ao22 t259.length co22)) (fun _ hk => hk.2) (.slice Ao24 t262.length co24)) (fun _ hk => hk.1)⟩, ⟨by (with_reducible repeat (first | apply rA_ | apply rN_ | apply rD_)); exact Kd.R_mono (Kd.R_far (p := ⟨gb266, 2, none⟩) (Kd.R_far (p := ⟨gb266, 1, none⟩) (Kd.R_far (p := ⟨gb266, 0, none⟩) (Kd.R_types HO264.out BK266.out (by decide)) (fun _ hk => hk.2) (.int .i64 t258)) (fun _ hk => hk.2) (.slice Ao22 t259.length co22)) (fun _ hk => hk.2) (.slice Ao24 t262.length co24)) (fun _ hk => hk.1)⟩, ⟨by (with_reducible repeat (first | refine bN_ ?_ _ | refine bD_ ?_ | refine bA_ ?_ _)); refine blk_far ?_ NB254_266.out _; (with_reducible repeat (first | refine bN_ ?_ _ | refine bD_ ?_ | refine bA_ ?_ _)); refine blk_far ?_ NB254_266.out _; (with_reducible repeat (first | refine bN_ ?_ _ | refine bD_ ?_ | refine bA_ ?_ _)); refine blk_far ?_ NB254_266.out _; (with_reducible repeat (first | refine bN_ ?_ _ | refine bD_ ?_ | refine bA_ ?_ _)); exact BK254.out⟩, ⟨by (with_reducible repeat (first | refine bN_ ?_ _ | refine bD_ ?_ | refine bA_ ?_ _)); refine blk_far ?_ NB255_266.out _; (with_reducible repeat (first | refine bN_ ?_ _ | refine bD_ ?_ | refine bA_ ?_ _)); refine blk_far ?_ NB255_266.out _; (with_reducible repeat (first | refine bN_ ?_ _ | refine bD_ ?_ | refine bA_ ?_ _)); refine blk_far ?_ NB255_266.out _; (with_reducible repeat (first | refine bN_ ?_ _ | refine bD_ ?_ | refine bA_ ?_ _)); exact BK255.out⟩, ⟨by (with_reducible repeat (first | refine bN_ ?_ _ | refine bD_ ?_ | refine bA_ ?_ _)); refine blk_put (cs := #[.int .i64 t258, .slice Ao22 t259.length co22, .slice none 0 0]) ?_ 2 _ rfl; (with_reducible repeat (first | refine bN_ ?_ _ | refine bD_ ?_ | refine bA_ ?_ _)); refine blk_put (cs := #[.int .i64 t258, .slice none 0 0, .slice none 0 0]) ?_ 1 _ rfl; (with_reducible repeat (first | refine bN_ ?_ _ | refine bD_ ?_ | refine bA_ ?_ _)); refine blk_put (cs := #[.int .i64 0, .slice none 0 0, .slice none 0 0]) ?_ 0 _ rfl; (with_reducible repeat (first | refine bN_ ?_ _ | refine bD_ ?_ | refine bA_ ?_ _)); exact BK266.out⟩, ⟨by repeat (first | (with_reducible first | exact HB.out | apply wA_ | apply wN_ | apply wD_ | refine wE_ ?_ GE254.out | refine wE_ ?_ GE255.out | refine wE_ ?_ GE266.out) | exact HB.out)⟩⟩
     case rest =>
      clear HC14
      try clear c1
      try clear c2
      try clear p2
      try clear q2
      try clear hx2
      try clear c3
      try clear c4
      try clear p6
      try clear c8
      try clear c11
      try clear c11b0
      try clear c12
      try clear c12b0
      try clear c15
      try clear p25
      try clear q25
      try clear hx25
      try clear c26
      try clear p26
      try clear q26
      try clear hx26
      try clear c28
      try clear c29
      try clear c29b0
      try clear c30
      try clear c30b0
      try clear c31
      try clear c32
      try clear c34
      try clear c35
      try clear hcz16_0
      try clear hcz33_0
      try clear hcz33_1
      try clear hcz33_2
      try clear hcz36_0
      try clear hcz36_1
      try clear hcz36_2
      try clear hcz9_0
      try clear hcz9_1
      try clear hcz9_2
      try clear hcz9_3
      try clear hfz16_0
      try clear hfz33_0
      try clear hfz33_1
      try clear hfz33_2
      try clear hfz36_0
      try clear hfz36_1
      try clear hfz36_2
      try clear hfz9_0
      try clear hfz9_1
      try clear hfz9_2
      try clear hfz9_3
      try clear hx257_0
      try clear hx268_0
      try clear p2
      try clear p257
      try clear p268
      try clear q257
      try clear q268
      obtain ⟨kq, x54_13, rfl, HA, HJ13, HO_267001, HO_267002, BK254, BK255, BK266, HB⟩ := hcut
      cases kq with
      | zero => exact absurd HA.out (by simp [spec_LandingFor.j1])
      | succ kj13 =>
       have H := HA.out; clear HA
       simp only [spec_LandingFor.j1] at H
       by_cases c37 : x54_13 = true
       ·subst c37
        have H1 : (spec_LandingFor.l0 kj13 a2 x9_1 x10_1 t256 (wrap64 (x12_1 + 1)) l0_0 a1_0 a1_1 a1_2 l1_3) = some r := by rw [if_pos rfl] at H; exact H
        clear H; have H := H1; clear H1
        have H' := aM_ H
        clear H
        go_wp2
        go_roundg kj13
        case measure => have := HK1.out; have := HJ13.out; omega
        case rel => exact ⟨(x9_1), (x10_1), (wrap64 (x12_1 + 1)), (by first | rfl | (simp; done) | (simp [*]; done)), (by first | rfl | (simp; done) | (simp [*]; done)), (by first | rfl | (simp; done) | (simp [*]; done)), H', ⟨by have := HK1.out; have := HJ13.out; omega⟩, ⟨by (with_reducible repeat (first | refine bN_ ?_ _ | refine bD_ ?_ | refine bA_ ?_ _)); exact BK254.out⟩, ⟨by (with_reducible repeat (first | refine bN_ ?_ _ | refine bD_ ?_ | refine bA_ ?_ _)); exact BK255.out⟩, ⟨by repeat (first | (with_reducible first | exact HB.out | apply wA_ | apply wN_ | apply wD_ | refine wE_ ?_ GE254.out | refine wE_ ?_ GE255.out | refine wE_ ?_ GE266.out) | exact HB.out)⟩⟩
       ·replace c37 := Bool.eq_false_iff.mpr c37
        subst c37
        have H1 : (if x9_1 < 0 then (if 0 ≤ x12_1 then (if x12_1 < (l0_0.length : Int) then (if 0 ≤ a2 then (if a2 < (t259.length : Int) then (spec_LandingFor.l0 kj13 a2 (rd l0_0 x12_1) (rd t259 a2) t256 (wrap64 (x12_1 + 1)) l0_0 a1_0 a1_1 a1_2 l1_3) else (none)) else (none)) else (none)) else (none)) else (if 0 ≤ a2 then (if a2 < (t259.length : Int) then (if (rd t259 a2) < x10_1 then (if 0 ≤ x12_1 then (if x12_1 < (l0_0.length : Int) then (spec_LandingFor.l0 kj13 a2 (rd l0_0 x12_1) (rd t259 a2) t256 (wrap64 (x12_1 + 1)) l0_0 a1_0 a1_1 a1_2 l1_3) else (none)) else (none)) else (if (rd t259 a2) = x10_1 then (if 0 ≤ x12_1 then (if x12_1 < (l0_0.length : Int) then (if (rd l0_0 x12_1) < x9_1 then (spec_LandingFor.l0 kj13 a2 (rd l0_0 x12_1) (rd t259 a2) t256 (wrap64 (x12_1 + 1)) l0_0 a1_0 a1_1 a1_2 l1_3) else (spec_LandingFor.l0 kj13 a2 x9_1 x10_1 t256 (wrap64 (x12_1 + 1)) l0_0 a1_0 a1_1 a1_2 l1_3)) else (none)) else (none)) else (spec_LandingFor.l0 kj13 a2 x9_1 x10_1 t256 (wrap64 (x12_1 + 1)) l0_0 a1_0 a1_1 a1_2 l1_3))) else (none)) else (none))) = some r := by rw [if_neg (show ¬ (false = true) by decide)] at H; exact H
        clear H; have H := H1; clear H1
        by_cases c38 : x9_1 < 0
        ·rw [if_pos c38] at H
         have c38b0 : decide (x9_1 < 0) = true := decide_eq_true c38
         clear c38
         by_cases c39 : 0 ≤ x12_1
         ·rw [if_pos c39] at H
          have c39b0 : decide (0 ≤ x12_1) = true := decide_eq_true c39
          clear c39
          by_cases c40 : x12_1 < (l0_0.length : Int)
          ·rw [if_pos c40] at H
           have c40b0 : decide (x12_1 < (l0_0.length : Int)) = true := decide_eq_true c40
           clear c40
           by_cases c41 : 0 ≤ a2
           ·rw [if_pos c41] at H
            have c41b0 : decide (0 ≤ a2) = true := decide_eq_true c41
            clear c41
            by_cases c42 : a2 < (t259.length : Int)
            ·rw [if_pos c42] at H
             have c42b0 : decide (a2 < (t259.length : Int)) = true := decide_eq_true c42
             clear c42
             have H' := aM_ H
             clear H; have hnb43 := NB254_255.out; have hnc43 := NB255_254.out; have hnb44 := NB254_266.out; have hnc44 := NB266_254.out
             have hcz45_0 : wc.cell? ⟨gb254, 0, none⟩ = some (.slice (some ad257) l0_0.length c0_0) := (blk_cell BK254.out 0).trans rfl
             have hfz45_0 := blk_frozen BK254.out 0
             have p269 : 0 ≤ (x12_1 : Int) := of_decide_eq_true (by first | (with_reducible assumption) | assumption)
             have q269 : x12_1 < (l0_0.length : Int) := of_decide_eq_true (by first | (with_reducible assumption) | assumption)
             obtain ⟨ad269, e269, hx269_0⟩ := Kd.at_int HR0_0.out x12_1 p269 q269
             obtain rfl : ad257 = ad269 := (by injection e269)
             replace hx269_0 := (HB.out.cell (World.block_lt_of_cell? w _ hx269_0)).trans hx269_0
             replace p269 := eq_true p269; replace q269 := eq_true q269; have hnb46 := NB266_255.out; have hnc46 := NB255_266.out
             have hcz47_0 : wc.cell? ⟨gb266, 0, none⟩ = some (.int .i64 t258) := (blk_cell BK266.out 0).trans rfl
             have hcz47_1 : wc.cell? ⟨gb266, 1, none⟩ = some (.slice Ao22 t259.length co22) := (blk_cell BK266.out 1).trans rfl
             have hcz47_2 : wc.cell? ⟨gb266, 2, none⟩ = some (.slice Ao24 t262.length co24) := (blk_cell BK266.out 2).trans rfl
             have hfz47_0 := blk_frozen BK266.out 0; have hfz47_1 := blk_frozen BK266.out 1; have hfz47_2 := blk_frozen BK266.out 2
             have p270 : 0 ≤ (a2 : Int) := of_decide_eq_true (by first | (with_reducible assumption) | assumption)
             have q270 : a2 < (t259.length : Int) := of_decide_eq_true (by first | (with_reducible assumption) | assumption)
             obtain ⟨ad270, e270, hx270_0⟩ := Kd.at_int (Kd.R_reads' HO_267001.out).2.2 a2 p270 q270
             cases e270
             replace p270 := eq_true p270; replace q270 := eq_true q270
             go_wp2
             go_roundg kj13
             case measure => have := HK1.out; have := HJ13.out; omega
             case rel => exact ⟨(rd l0_0 x12_1), (rd t259 a2), (wrap64 (x12_1 + 1)), (by first | rfl | (simp; done) | (simp [*]; done)), (by first | rfl | (simp; done) | (simp [*]; done)), (by first | rfl | (simp; done) | (simp [*]; done)), H', ⟨by have := HK1.out; have := HJ13.out; omega⟩, ⟨by (with_reducible repeat (first | refine bN_ ?_ _ | refine bD_ ?_ | refine bA_ ?_ _)); exact BK254.out⟩, ⟨by (with_reducible repeat (first | refine bN_ ?_ _ | refine bD_ ?_ | refine bA_ ?_ _)); exact BK255.out⟩, ⟨by repeat (first | (with_reducible first | exact HB.out | apply wA_ | apply wN_ | apply wD_ | refine wE_ ?_ GE254.out | refine wE_ ?_ GE255.out | refine wE_ ?_ GE266.out) | exact HB.out)⟩⟩
            ·rw [if_neg c42] at H
             exact absurd H (by simp)
           ·rw [if_neg c41] at H
            exact absurd H (by simp)
          ·rw [if_neg c40] at H
           exact absurd H (by simp)
         ·rw [if_neg c39] at H
          exact absurd H (by simp)
        ·rw [if_neg c38] at H
         have c38b0 : decide (x9_1 < 0) = false := decide_eq_false c38
         clear c38
         by_cases c48 : 0 ≤ a2
         ·rw [if_pos c48] at H
          have c48b0 : decide (0 ≤ a2) = true := decide_eq_true c48
          clear c48
          by_cases c49 : a2 < (t259.length : Int)
          ·rw [if_pos c49] at H
           have c49b0 : decide (a2 < (t259.length : Int)) = true := decide_eq_true c49
           clear c49
           by_cases c50 : (rd t259 a2) < x10_1
           ·rw [if_pos c50] at H
            have c50b0 : decide ((rd t259 a2) < x10_1) = true := decide_eq_true c50
            clear c50
            by_cases c51 : 0 ≤ x12_1
            ·rw [if_pos c51] at H
             have c51b0 : decide (0 ≤ x12_1) = true := decide_eq_true c51
             clear c51
             by_cases c52 : x12_1 < (l0_0.length : Int)
             ·rw [if_pos c52] at H
              have c52b0 : decide (x12_1 < (l0_0.length : Int)) = true := decide_eq_true c52
              clear c52
              have H' := aM_ H
              clear H; have hnb53 := NB266_254.out; have hnc53 := NB254_266.out; have hnb54 := NB266_255.out; have hnc54 := NB255_266.out
              have hcz55_0 : wc.cell? ⟨gb266, 0, none⟩ = some (.int .i64 t258) := (blk_cell BK266.out 0).trans rfl
              have hcz55_1 : wc.cell? ⟨gb266, 1, none⟩ = some (.slice Ao22 t259.length co22) := (blk_cell BK266.out 1).trans rfl
              have hcz55_2 : wc.cell? ⟨gb266, 2, none⟩ = some (.slice Ao24 t262.length co24) := (blk_cell BK266.out 2).trans rfl
              have hfz55_0 := blk_frozen BK266.out 0; have hfz55_1 := blk_frozen BK266.out 1; have hfz55_2 := blk_frozen BK266.out 2
              have p271 : 0 ≤ (a2 : Int) := of_decide_eq_true (by first | (with_reducible assumption) | assumption)
              have q271 : a2 < (t259.length : Int) := of_decide_eq_true (by first | (with_reducible assumption) | assumption)
              obtain ⟨ad271, e271, hx271_0⟩ := Kd.at_int (Kd.R_reads' HO_267001.out).2.2 a2 p271 q271
              cases e271
              replace p271 := eq_true p271; replace q271 := eq_true q271; have hnb56 := NB254_255.out; have hnc56 := NB255_254.out
              have hcz57_0 : wc.cell? ⟨gb254, 0, none⟩ = some (.slice (some ad257) l0_0.length c0_0) := (blk_cell BK254.out 0).trans rfl
              have hfz57_0 := blk_frozen BK254.out 0
              have p272 : 0 ≤ (x12_1 : Int) := of_decide_eq_true (by first | (with_reducible assumption) | assumption)
              have q272 : x12_1 < (l0_0.length : Int) := of_decide_eq_true (by first | (with_reducible assumption) | assumption)
              obtain ⟨ad272, e272, hx272_0⟩ := Kd.at_int HR0_0.out x12_1 p272 q272
              obtain rfl : ad257 = ad272 := (by injection e272)
              replace hx272_0 := (HB.out.cell (World.block_lt_of_cell? w _ hx272_0)).trans hx272_0
              replace p272 := eq_true p272; replace q272 := eq_true q272
              have p273 : 0 ≤ (a2 : Int) := of_decide_eq_true (by first | (with_reducible assumption) | assumption)
              have q273 : a2 < (t259.length : Int) := of_decide_eq_true (by first | (with_reducible assumption) | assumption)
              obtain ⟨ad273, e273, hx273_0⟩ := Kd.at_int (Kd.R_reads' HO_267001.out).2.2 a2 p273 q273
              obtain rfl : ad271 = ad273 := (by injection e273)
              replace p273 := eq_true p273; replace q273 := eq_true q273
              go_wp2
              go_roundg kj13
              case measure => have := HK1.out; have := HJ13.out; omega
              case rel => exact ⟨(rd l0_0 x12_1), (rd t259 a2), (wrap64 (x12_1 + 1)), (by first | rfl | (simp; done) | (simp [*]; done)), (by first | rfl | (simp; done) | (simp [*]; done)), (by first | rfl | (simp; done) | (simp [*]; done)), H', ⟨by have := HK1.out; have := HJ13.out; omega⟩, ⟨by (with_reducible repeat (first | refine bN_ ?_ _ | refine bD_ ?_ | refine bA_ ?_ _)); exact BK254.out⟩, ⟨by (with_reducible repeat (first | refine bN_ ?_ _ | refine bD_ ?_ | refine bA_ ?_ _)); exact BK255.out⟩, ⟨by repeat (first | (with_reducible first | exact HB.out | apply wA_ | apply wN_ | apply wD_ | refine wE_ ?_ GE254.out | refine wE_ ?_ GE255.out | refine wE_ ?_ GE266.out) | exact HB.out)⟩⟩
             ·rw [if_neg c52] at H
              exact absurd H (by simp)
            ·rw [if_neg c51] at H
             exact absurd H (by simp)
           ·rw [if_neg c50] at H
            have c50b0 : decide ((rd t259 a2) < x10_1) = false := decide_eq_false c50
            clear c50
            by_cases c58 : (rd t259 a2) = x10_1
            ·rw [if_pos c58] at H
             have c58b0 : ((rd t259 a2) == x10_1) = true := beq_iff_eq.mpr c58
             have c58b1 : ((rd t259 a2) != x10_1) = false := bne_eq_false_iff_eq.mpr c58
             clear c58
             by_cases c59 : 0 ≤ x12_1
             ·rw [if_pos c59] at H
              have c59b0 : decide (0 ≤ x12_1) = true := decide_eq_true c59
              clear c59
              by_cases c60 : x12_1 < (l0_0.length : Int)
              ·rw [if_pos c60] at H
               have c60b0 : decide (x12_1 < (l0_0.length : Int)) = true := decide_eq_true c60
               clear c60
               by_cases c61 : (rd l0_0 x12_1) < x9_1
               ·rw [if_pos c61] at H
                have c61b0 : decide ((rd l0_0 x12_1) < x9_1) = true := decide_eq_true c61
                clear c61
                have H' := aM_ H
                clear H; have hnb62 := NB266_254.out; have hnc62 := NB254_266.out; have hnb63 := NB266_255.out; have hnc63 := NB255_266.out
                have hcz64_0 : wc.cell? ⟨gb266, 0, none⟩ = some (.int .i64 t258) := (blk_cell BK266.out 0).trans rfl
                have hcz64_1 : wc.cell? ⟨gb266, 1, none⟩ = some (.slice Ao22 t259.length co22) := (blk_cell BK266.out 1).trans rfl
                have hcz64_2 : wc.cell? ⟨gb266, 2, none⟩ = some (.slice Ao24 t262.length co24) := (blk_cell BK266.out 2).trans rfl
                have hfz64_0 := blk_frozen BK266.out 0; have hfz64_1 := blk_frozen BK266.out 1; have hfz64_2 := blk_frozen BK266.out 2
                have p271 : 0 ≤ (a2 : Int) := of_decide_eq_true (by first | (with_reducible assumption) | assumption)
                have q271 : a2 < (t259.length : Int) := of_decide_eq_true (by first | (with_reducible assumption) | assumption)
                obtain ⟨ad271, e271, hx271_0⟩ := Kd.at_int (Kd.R_reads' HO_267001.out).2.2 a2 p271 q271
                cases e271
                replace p271 := eq_true p271; replace q271 := eq_true q271
                have p274 : 0 ≤ (a2 : Int) := of_decide_eq_true (by first | (with_reducible assumption) | assumption)
                have q274 : a2 < (t259.length : Int) := of_decide_eq_true (by first | (with_reducible assumption) | assumption)
                obtain ⟨ad274, e274, hx274_0⟩ := Kd.at_int (Kd.R_reads' HO_267001.out).2.2 a2 p274 q274
                obtain rfl : ad271 = ad274 := (by injection e274)
                replace p274 := eq_true p274; replace q274 := eq_true q274; have hnb65 := NB254_255.out; have hnc65 := NB255_254.out
                have hcz66_0 : wc.cell? ⟨gb254, 0, none⟩ = some (.slice (some ad257) l0_0.length c0_0) := (blk_cell BK254.out 0).trans rfl
                have hfz66_0 := blk_frozen BK254.out 0
                have p275 : 0 ≤ (x12_1 : Int) := of_decide_eq_true (by first | (with_reducible assumption) | assumption)
                have q275 : x12_1 < (l0_0.length : Int) := of_decide_eq_true (by first | (with_reducible assumption) | assumption)
                obtain ⟨ad275, e275, hx275_0⟩ := Kd.at_int HR0_0.out x12_1 p275 q275
                obtain rfl : ad257 = ad275 := (by injection e275)
                replace hx275_0 := (HB.out.cell (World.block_lt_of_cell? w _ hx275_0)).trans hx275_0
                replace p275 := eq_true p275; replace q275 := eq_true q275
                have p276 : 0 ≤ (x12_1 : Int) := of_decide_eq_true (by first | (with_reducible assumption) | assumption)
                have q276 : x12_1 < (l0_0.length : Int) := of_decide_eq_true (by first | (with_reducible assumption) | assumption)
                obtain ⟨ad276, e276, hx276_0⟩ := Kd.at_int HR0_0.out x12_1 p276 q276
                obtain rfl : ad257 = ad276 := (by injection e276)
                replace hx276_0 := (HB.out.cell (World.block_lt_of_cell? w _ hx276_0)).trans hx276_0
                replace p276 := eq_true p276; replace q276 := eq_true q276
                have p277 : 0 ≤ (a2 : Int) := of_decide_eq_true (by first | (with_reducible assumption) | assumption)
                have q277 : a2 < (t259.length : Int) := of_decide_eq_true (by first | (with_reducible assumption) | assumption)
                obtain ⟨ad277, e277, hx277_0⟩ := Kd.at_int (Kd.R_reads' HO_267001.out).2.2 a2 p277 q277
                obtain rfl : ad271 = ad277 := (by injection e277)
                replace p277 := eq_true p277; replace q277 := eq_true q277
                go_wp2
                go_roundg kj13
                case measure => have := HK1.out; have := HJ13.out; omega
                case rel => exact ⟨(rd l0_0 x12_1), (rd t259 a2), (wrap64 (x12_1 + 1)), (by first | rfl | (simp; done) | (simp [*]; done)), (by first | rfl | (simp; done) | (simp [*]; done)), (by first | rfl | (simp; done) | (simp [*]; done)), H', ⟨by have := HK1.out; have := HJ13.out; omega⟩, ⟨by (with_reducible repeat (first | refine bN_ ?_ _ | refine bD_ ?_ | refine bA_ ?_ _)); exact BK254.out⟩, ⟨by (with_reducible repeat (first | refine bN_ ?_ _ | refine bD_ ?_ | refine bA_ ?_ _)); exact BK255.out⟩, ⟨by repeat (first | (with_reducible first | exact HB.out | apply wA_ | apply wN_ | apply wD_ | refine wE_ ?_ GE254.out | refine wE_ ?_ GE255.out | refine wE_ ?_ GE266.out) | exact HB.out)⟩⟩
               ·rw [if_neg c61] at H
                have c61b0 : decide ((rd l0_0 x12_1) < x9_1) = false := decide_eq_false c61
                clear c61
                have H' := aM_ H
                clear H; have hnb67 := NB266_254.out; have hnc67 := NB254_266.out; have hnb68 := NB266_255.out; have hnc68 := NB255_266.out
                have hcz69_0 : wc.cell? ⟨gb266, 0, none⟩ = some (.int .i64 t258) := (blk_cell BK266.out 0).trans rfl
                have hcz69_1 : wc.cell? ⟨gb266, 1, none⟩ = some (.slice Ao22 t259.length co22) := (blk_cell BK266.out 1).trans rfl
                have hcz69_2 : wc.cell? ⟨gb266, 2, none⟩ = some (.slice Ao24 t262.length co24) := (blk_cell BK266.out 2).trans rfl
                have hfz69_0 := blk_frozen BK266.out 0; have hfz69_1 := blk_frozen BK266.out 1; have hfz69_2 := blk_frozen BK266.out 2
                have p271 : 0 ≤ (a2 : Int) := of_decide_eq_true (by first | (with_reducible assumption) | assumption)
                have q271 : a2 < (t259.length : Int) := of_decide_eq_true (by first | (with_reducible assumption) | assumption)
                obtain ⟨ad271, e271, hx271_0⟩ := Kd.at_int (Kd.R_reads' HO_267001.out).2.2 a2 p271 q271
                cases e271
                replace p271 := eq_true p271; replace q271 := eq_true q271
                have p274 : 0 ≤ (a2 : Int) := of_decide_eq_true (by first | (with_reducible assumption) | assumption)
                have q274 : a2 < (t259.length : Int) := of_decide_eq_true (by first | (with_reducible assumption) | assumption)
                obtain ⟨ad274, e274, hx274_0⟩ := Kd.at_int (Kd.R_reads' HO_267001.out).2.2 a2 p274 q274
                obtain rfl : ad271 = ad274 := (by injection e274)
                replace p274 := eq_true p274; replace q274 := eq_true q274; have hnb70 := NB254_255.out; have hnc70 := NB255_254.out
                have hcz71_0 : wc.cell? ⟨gb254, 0, none⟩ = some (.slice (some ad257) l0_0.length c0_0) := (blk_cell BK254.out 0).trans rfl
                have hfz71_0 := blk_frozen BK254.out 0
                have p275 : 0 ≤ (x12_1 : Int) := of_decide_eq_true (by first | (with_reducible assumption) | assumption)
                have q275 : x12_1 < (l0_0.length : Int) := of_decide_eq_true (by first | (with_reducible assumption) | assumption)
                obtain ⟨ad275, e275, hx275_0⟩ := Kd.at_int HR0_0.out x12_1 p275 q275
                obtain rfl : ad257 = ad275 := (by injection e275)
                replace hx275_0 := (HB.out.cell (World.block_lt_of_cell? w _ hx275_0)).trans hx275_0
                replace p275 := eq_true p275; replace q275 := eq_true q275
                go_wp2
                go_roundg kj13
                case measure => have := HK1.out; have := HJ13.out; omega
                case rel => exact ⟨(x9_1), (x10_1), (wrap64 (x12_1 + 1)), (by first | rfl | (simp; done) | (simp [*]; done)), (by first | rfl | (simp; done) | (simp [*]; done)), (by first | rfl | (simp; done) | (simp [*]; done)), H', ⟨by have := HK1.out; have := HJ13.out; omega⟩, ⟨by (with_reducible repeat (first | refine bN_ ?_ _ | refine bD_ ?_ | refine bA_ ?_ _)); exact BK254.out⟩, ⟨by (with_reducible repeat (first | refine bN_ ?_ _ | refine bD_ ?_ | refine bA_ ?_ _)); exact BK255.out⟩, ⟨by repeat (first | (with_reducible first | exact HB.out | apply wA_ | apply wN_ | apply wD_ | refine wE_ ?_ GE254.out | refine wE_ ?_ GE255.out | refine wE_ ?_ GE266.out) | exact HB.out)⟩⟩
              ·rw [if_neg c60] at H
               exact absurd H (by simp)
             ·rw [if_neg c59] at H
              exact absurd H (by simp)
            ·rw [if_neg c58] at H
             have c58b0 : ((rd t259 a2) == x10_1) = false := beq_eq_false_iff_ne.mpr c58
             have c58b1 : ((rd t259 a2) != x10_1) = true := bne_iff_ne.mpr c58
             have H' := aM_ H
             clear H; have hnb72 := NB266_254.out; have hnc72 := NB254_266.out; have hnb73 := NB266_255.out; have hnc73 := NB255_266.out
             have hcz74_0 : wc.cell? ⟨gb266, 0, none⟩ = some (.int .i64 t258) := (blk_cell BK266.out 0).trans rfl
             have hcz74_1 : wc.cell? ⟨gb266, 1, none⟩ = some (.slice Ao22 t259.length co22) := (blk_cell BK266.out 1).trans rfl
             have hcz74_2 : wc.cell? ⟨gb266, 2, none⟩ = some (.slice Ao24 t262.length co24) := (blk_cell BK266.out 2).trans rfl
             have hfz74_0 := blk_frozen BK266.out 0; have hfz74_1 := blk_frozen BK266.out 1; have hfz74_2 := blk_frozen BK266.out 2
             have p271 : 0 ≤ (a2 : Int) := of_decide_eq_true (by first | (with_reducible assumption) | assumption)
             have q271 : a2 < (t259.length : Int) := of_decide_eq_true (by first | (with_reducible assumption) | assumption)
             obtain ⟨ad271, e271, hx271_0⟩ := Kd.at_int (Kd.R_reads' HO_267001.out).2.2 a2 p271 q271
             cases e271
             replace p271 := eq_true p271; replace q271 := eq_true q271
             have p274 : 0 ≤ (a2 : Int) := of_decide_eq_true (by first | (with_reducible assumption) | assumption)
             have q274 : a2 < (t259.length : Int) := of_decide_eq_true (by first | (with_reducible assumption) | assumption)
             obtain ⟨ad274, e274, hx274_0⟩ := Kd.at_int (Kd.R_reads' HO_267001.out).2.2 a2 p274 q274
             obtain rfl : ad271 = ad274 := (by injection e274)
             replace p274 := eq_true p274; replace q274 := eq_true q274
             go_wp2
             go_roundg kj13
             case measure => have := HK1.out; have := HJ13.out; omega
             case rel => exact ⟨(x9_1), (x10_1), (wrap64 (x12_1 + 1)), (by first | rfl | (simp; done) | (simp [*]; done)), (by first | rfl | (simp; done) | (simp [*]; done)), (by first | rfl | (simp; done) | (simp [*]; done)), H', ⟨by have := HK1.out; have := HJ13.out; omega⟩, ⟨by (with_reducible repeat (first | refine bN_ ?_ _ | refine bD_ ?_ | refine bA_ ?_ _)); exact BK254.out⟩, ⟨by (with_reducible repeat (first | refine bN_ ?_ _ | refine bD_ ?_ | refine bA_ ?_ _)); exact BK255.out⟩, ⟨by repeat (first | (with_reducible first | exact HB.out | apply wA_ | apply wN_ | apply wD_ | refine wE_ ?_ GE254.out | refine wE_ ?_ GE255.out | refine wE_ ?_ GE266.out) | exact HB.out)⟩⟩
          ·rw [if_neg c49] at H
           exact absurd H (by simp)
         ·rw [if_neg c48] at H
          exact absurd H (by simp)
    ·rw [if_neg c12] at H
     exact absurd H (by simp)
   ·rw [if_neg c11] at H
    have c11b0 : decide (x12_1 < (l0_0.length : Int)) = false := decide_eq_false c11
    clear c11
    obtain rfl := Option.some.inj H
    have hnb75 := NB254_255.out; have hnc75 := NB255_254.out
    have hcz76_0 : wr.cell? ⟨gb254, 0, none⟩ = some (.slice A0_0 l0_0.length c0_0) := (blk_cell BK254.out 0).trans rfl
    have hfz76_0 := blk_frozen BK254.out 0
    go_wp2
    go_ret
    exact ⟨by first | rfl | (simp [errW_none, errW_some] <;> rfl) | (simp [*, errW_none, errW_some] <;> rfl), by repeat (first | (with_reducible first | exact HB.out | apply wA_ | apply wN_ | apply wD_ | refine wE_ ?_ GE254.out | refine wE_ ?_ GE255.out) | exact HB.out)⟩

end Go.Proofs.Ytegkplalnljgjaa.PFnExactServedBy
