/- The functions that the law reaches, as plain Lean functions, each with the proof that the Go code comes to its answers; conditions: those that each theorem names. (printed by a program of this session) -/
import Derived.Test.YtdodogkgmpaioaaPFnReachx0
import Derived.Test.YtdodogkgmpaioaaPFnReachx1
import Derived.Test.YtdodogkgmpaioaaPFnReachx4
namespace Go.Proofs.Ytdodogkgmpaioaa.PFnReach
open Go.RowKit Go.Proofs.YtdodogkgmpaioaaW.PrintWords Go.Proofs.YtdodogkgmpaioaaW.PrintLast Go.Proofs.YtdodogkgmpaioaaW.PrintMore
attribute [local go_sem] max2_int min2_int max_two min_two max_three min_three max_four min_four   -- for this text's walks alone
set_option linter.unusedVariables false
set_option linter.unusedSimpArgs false

attribute [local go_sem high] eqA123
/-! ### spec_LinksAt: function 115 -/
mutual
def spec_LinksAt.l0 : Nat → List (S144) → Int → List (S123) → Int → Option ((List (S123)))
  | 0, _, _, _, _ => none
  | k + 1, x0, x1, x5, x6 => if x6 < (x0.length : Int) then (if 0 ≤ x6 then (spec_LinksAt.l1 k x0 x1 x5 x6 false 0 ((rd_T144 x0 x6).f0) ((rd_T144 x0 x6).f1)) else (none)) else (some x5)
def spec_LinksAt.l1 : Nat → List (S144) → Int → List (S123) → Int → Bool → Int → Int → Int → Option ((List (S123)))
  | 0, _, _, _, _, _, _, _, _ => none
  | k + 1, x0, x1, x5, x6, x8, x9, x208000, x208001 => if x9 < (x5.length : Int) then (if x8 = true then (spec_LinksAt.l1 k x0 x1 x5 x6 true (wrap64 (x9 + 1)) x208000 x208001) else (if 0 ≤ x9 then (spec_LinksAt.l1 k x0 x1 x5 x6 (((rd_T123 x5 x9).f0) == x208000 && (((rd_T123 x5 x9).f1) == x208001)) (wrap64 (x9 + 1)) x208000 x208001) else (none))) else (if x8 = true then (spec_LinksAt.l0 k x0 x1 x5 (wrap64 (x6 + 1))) else (if 0 ≤ x6 then (if x6 < (x0.length : Int) then ((spec_InSpan.f ((rd_T144 x0 x6).f2) ((rd_T144 x0 x6).f3) x1).bind fun t211 => (if t211 = true then (if x5.length < 8796093022208 then (spec_LinksAt.l0 k x0 x1 (x5 ++ [(⟨x208000, x208001⟩ : S123)]) (wrap64 (x6 + 1))) else (none)) else (spec_LinksAt.l0 k x0 x1 x5 (wrap64 (x6 + 1))))) else (none)) else (none)))
end
def spec_LinksAt.f (k : Nat) (l0 : List (S144)) (a1 : Int) : Option ((List (S123))) := spec_LinksAt.l0 k l0 a1 (([] : List (S123))) 0
def spec_LinksAt.T5 : Bool × List (List Nat × List Nat) := (true, [([], []), ([], []), ([0, 1], [0, 1]), ([2], [2]), ([3], [3]), ([], []), ([], []), ([5, 6], [5, 6]), ([7], [7]), ([8], [8]), ([4, 9], [4, 9]), ([], []), ([11, 10, 0, 1, 2, 3, 4, 5, 6, 7, 8, 9, 10, 11], [10, 11])])
def spec_LinksAt.B5 : List Nat := [0, 0, 3, 7, 15, 0, 0, 96, 224, 480, 1023, 0, 4095]
theorem spec_LinksAt.tab5 : rtab .any (opsOf Try.f115 5) = spec_LinksAt.T5 := by kernel_rfl
theorem spec_LinksAt.bits5 : waitsOk spec_LinksAt.T5.2 spec_LinksAt.B5 = true := by kernel_rfl
def spec_LinksAt.T10 : Bool × List (List Nat × List Nat) := (true, [([], []), ([0], [0]), ([1], [1]), ([1], [1]), ([2, 3, 1], [1, 2, 3]), ([4, 1], [1, 4]), ([1], [1]), ([5, 6, 1], [1, 5, 6]), ([1, 7], [1, 7]), ([8, 1, 0, 1, 2, 3, 4, 5, 6, 7, 8], [0, 8])])
def spec_LinksAt.B10 : List Nat := [0, 1, 3, 3, 15, 31, 3, 127, 255, 511]
theorem spec_LinksAt.tab10 : rtab .any (opsOf Try.f115 10) = spec_LinksAt.T10 := by kernel_rfl
theorem spec_LinksAt.bits10 : waitsOk spec_LinksAt.T10.2 spec_LinksAt.B10 = true := by kernel_rfl
def spec_LinksAt.T11 : Bool × List (List Nat × List Nat) := (true, [([], []), ([0], [0]), ([1], [1]), ([2], [2]), ([2], [2]), ([3, 4, 2], [2, 3, 4]), ([5, 2], [2, 5]), ([6, 2], [2, 6]), ([2], [2]), ([2], [2]), ([8, 9, 2], [2, 8, 9]), ([10, 2], [2, 10]), ([11, 2], [2, 11]), ([7, 12, 2], [2, 7, 12]), ([2], [2]), ([13, 14, 2, 2], [2, 13, 14]), ([2, 15], [2, 15])])
def spec_LinksAt.B11 : List Nat := [0, 1, 3, 7, 7, 31, 63, 127, 7, 7, 775, 1799, 3847, 8191, 7, 32767, 65535]
theorem spec_LinksAt.tab11 : rtab .any (opsOf Try.f115 11) = spec_LinksAt.T11 := by kernel_rfl
theorem spec_LinksAt.bits11 : waitsOk spec_LinksAt.T11.2 spec_LinksAt.B11 = true := by kernel_rfl
set_option maxHeartbeats 8000000 in
set_option maxRecDepth 100000 in
theorem spec_LinksAt.calls (k : Nat) (A0 : Option Addr) (c0 : Nat) (l0 : List (S144)) (a1 : Int) (r : List (S123)) (w : World) (hr0 : Kd.C k144 w A0 l0.length l0) (hc0 : l0.length ≤ c0) (h : spec_LinksAt.f k l0 a1 = some r) :
  Calls Try.prog 115 #[.slice A0 l0.length c0, .int .i64 a1] w fun e w' => ∃ v0_ : Value, e = .returned (v0_) ∧ Kd.R k123 123 w' w.heap.size (fun _ => True) v0_ r ∧ Below w.heap.size w w' := by
 have hu123 := Try.underlying123; have hu99 := Try.underlying99; have HR0 := aM_ hr0; have HC0 := aM_ hc0; clear hr0 hc0; have HB := aM_ (Below.refl w.heap.size w)
 have H : (spec_LinksAt.l0 k l0 a1 (([] : List (S123))) 0) = some r := h
 clear h
 obtain ⟨y202, hy202⟩ : ∃ y_ : List (S123), y_ = (([] : List (S123))) := ⟨_, rfl⟩
 replace H : (spec_LinksAt.l0 k l0 a1 y202 0) = some r := by first | (rw [hy202]; with_reducible exact H) | (have H2_ := (Option.bind_some _ _).symm.trans H; rw [hy202]; with_reducible exact H2_) | (have H2_ := (Option.bind_some _ _).symm.trans H; with_reducible exact H2_) | with_reducible exact H | (rw [hy202]; exact H) | exact H
 have Ny202 := aM_ hy202; clear hy202
 have H' := aM_ H
 clear H
 go_enter Try.func115, Try.ntmps115
 go_wp2_with (first | ((with_reducible refine gate_dst (N := 10) rfl ?_); refine Kd.R_lit k123 _ 123 ?hg (N := 10) ?hd (xs := ([] : List (S123))) (inner := []) (ok := fun _ => True) (okp := fun _ => True) ?hr ?hp (fun _ hk => hk) trivial (Below.refl _ _) (Nat.le_refl _) (by simp) ?_; (case hd => rfl); (case hg => rfl); (case hr => first | (go_simp; done) | (go_simp; rfl)); (case hp => exact (Reps.none _ _)); intro v203 w3 ho4 hb hg_ hnew_; clear hg_ hnew_; (first | rw [← Ny202.out] at ho4 | (simp only [Int.reduceToNat] at ho4; rw [← Ny202.out] at ho4)); have n0_ := aM_ (Kd.R_lower ho4 (sZ_ (bw_))); have n1_ := aM_ (wS_ (bw_) hb); clear HB; have HO204 := n0_; have HB := n1_; clear n0_ n1_ hb ho4))
 go_loopg [5, 6] k (fun kq v5 v6 w' => ∃ (x5_1 : List (S123)) (x6_1 : Int), v6 = .int .i64 x6_1 ∧ Aside0 (spec_LinksAt.l0 kq l0 a1 x5_1 x6_1 = some r) ∧ Aside0 (kq ≤ k) ∧ Aside0 (Kd.R k123 123 w' w.heap.size (fun _ => True) v5 x5_1) ∧ Aside0 (Below w.heap.size w w'))
 case atStart => exact ⟨(y202), (0), (by first | rfl | (simp; done) | (simp [*]; done)), H', ⟨Nat.le_refl _⟩, ⟨by (with_reducible repeat (first | apply rA_ | apply rN_ | apply rD_)); exact HO204.out⟩, ⟨bw_⟩⟩
 case round =>
  clear H'
  obtain ⟨x5_1, x6_1, rfl, HA, HK1, HO_5, HB⟩ := hrel
  cases gk with
  | zero => exact absurd HA.out (by simp [spec_LinksAt.l0])
  | succ k1 =>
   have H := HA.out; clear HA
   simp only [spec_LinksAt.l0] at H
   by_cases c5 : x6_1 < (l0.length : Int)
   ·rw [if_pos c5] at H
    have c5b0 : decide (x6_1 < (l0.length : Int)) = true := decide_eq_true c5
    clear c5
    by_cases c6 : 0 ≤ x6_1
    ·rw [if_pos c6] at H
     have c6b0 : decide (0 ≤ x6_1) = true := decide_eq_true c6
     clear c6
     have H' := aM_ H
     clear H
     try go_wp2
     have n0_ := aM_ (rD_ HO_5.out); have n1_ := aM_ (wD_ HB.out); clear HO_5 HB; have HO_5 := n0_; have HB := n1_; clear n0_ n1_
     have p205 : 0 ≤ (x6_1 : Int) := dT_
     have q205 : x6_1 < (l0.length : Int) := dT_
     obtain ⟨ad205, e205, hx205_0, hx205_1, hx205_2, hx205_3⟩ := at_T144 HR0.out x6_1 p205 q205
     have hw205_3 := hx205_3; have hw205_2 := hx205_2; have hw205_1 := hx205_1; have hw205_0 := hx205_0
     cases e205
     replace hx205_0 := (HB.out.cell (World.block_lt_of_cell? w _ hx205_0)).trans hx205_0
     replace hx205_1 := (HB.out.cell (World.block_lt_of_cell? w _ hx205_1)).trans hx205_1
     replace hx205_2 := (HB.out.cell (World.block_lt_of_cell? w _ hx205_2)).trans hx205_2
     replace hx205_3 := (HB.out.cell (World.block_lt_of_cell? w _ hx205_3)).trans hx205_3
     replace p205 := eq_true p205; replace q205 := eq_true q205
     have p206 : 0 ≤ (x6_1 : Int) := dT_
     have q206 : x6_1 < (l0.length : Int) := dT_
     obtain ⟨ad206, e206, hx206_0, hx206_1, hx206_2, hx206_3⟩ := at_T144 HR0.out x6_1 p206 q206
     have hw206_3 := hx206_3; have hw206_2 := hx206_2; have hw206_1 := hx206_1; have hw206_0 := hx206_0
     obtain rfl : ad205 = ad206 := (by injection e206)
     replace hx206_0 := (HB.out.cell (World.block_lt_of_cell? w _ hx206_0)).trans hx206_0
     replace hx206_1 := (HB.out.cell (World.block_lt_of_cell? w _ hx206_1)).trans hx206_1
     replace hx206_2 := (HB.out.cell (World.block_lt_of_cell? w _ hx206_2)).trans hx206_2
     replace hx206_3 := (HB.out.cell (World.block_lt_of_cell? w _ hx206_3)).trans hx206_3
     replace p206 := eq_true p206; replace q206 := eq_true q206
     refine start_ (n := 13) (S := fun w' => w'.cell? (ad205.add ((x6_1).toNat * 4)) = some (.int .i64 ((rd_T144 l0 x6_1).f0)) ∧ w'.cell? ⟨(ad205.add ((x6_1).toNat * 4)).block, (ad205.add ((x6_1).toNat * 4)).off + 1, none⟩ = some (.int .i64 ((rd_T144 l0 x6_1).f1)) ∧ w'.cell? ⟨(ad205.add ((x6_1).toNat * 4)).block, (ad205.add ((x6_1).toNat * 4)).off + 2, none⟩ = some (.int .i64 ((rd_T144 l0 x6_1).f2)) ∧ w'.cell? ⟨(ad205.add ((x6_1).toNat * 4)).block, (ad205.add ((x6_1).toNat * 4)).off + 3, none⟩ = some (.int .i64 ((rd_T144 l0 x6_1).f3)) ∧ w'.cell? (ad205.add ((x6_1).toNat * 4)) = some (.int .i64 ((rd_T144 l0 x6_1).f0)) ∧ w'.cell? ⟨(ad205.add ((x6_1).toNat * 4)).block, (ad205.add ((x6_1).toNat * 4)).off + 1, none⟩ = some (.int .i64 ((rd_T144 l0 x6_1).f1)) ∧ w'.cell? ⟨(ad205.add ((x6_1).toNat * 4)).block, (ad205.add ((x6_1).toNat * 4)).off + 2, none⟩ = some (.int .i64 ((rd_T144 l0 x6_1).f2)) ∧ w'.cell? ⟨(ad205.add ((x6_1).toNat * 4)).block, (ad205.add ((x6_1).toNat * 4)).off + 3, none⟩ = some (.int .i64 ((rd_T144 l0 x6_1).f3))) (ds := []) #[false, false, false, false, false, false, false, false, false, false, false, false, false] (by kernel_rfl) rfl rfl ⟨((HB.out.cell (World.block_lt_of_cell? w _ hw205_0)).trans hw205_0), ((HB.out.cell (World.block_lt_of_cell? w _ hw205_1)).trans hw205_1), ((HB.out.cell (World.block_lt_of_cell? w _ hw205_2)).trans hw205_2), ((HB.out.cell (World.block_lt_of_cell? w _ hw205_3)).trans hw205_3), ((HB.out.cell (World.block_lt_of_cell? w _ hw206_0)).trans hw206_0), ((HB.out.cell (World.block_lt_of_cell? w _ hw206_1)).trans hw206_1), ((HB.out.cell (World.block_lt_of_cell? w _ hw206_2)).trans hw206_2), ((HB.out.cell (World.block_lt_of_cell? w _ hw206_3)).trans hw206_3)⟩ (fun hHeld => ?_); refine with_tabW spec_LinksAt.tab5 spec_LinksAt.bits5 (fun HT_ HW_ => ?_)
     generalize wr.drew = w7 at HO_5 HB hx205_0 hx205_1 hx205_2 hx205_3 hx206_0 hx206_1 hx206_2 hx206_3 hHeld ⊢
     refine pu_ 0 (some 17) #[true, false, false, false, false, false, false, false, false, false, false, false, false] rfl rfl ?_
     refine pu_ 1 (some 18) #[true, true, false, false, false, false, false, false, false, false, false, false, false] rfl rfl ?_
     refine pu_ 2 (some 19) #[true, true, true, false, false, false, false, false, false, false, false, false, false] rfl rfl ?_
     refine pu_ 3 (some 20) #[true, true, true, true, false, false, false, false, false, false, false, false, false] rfl rfl ?_
     refine pu_ 5 (some 22) #[true, true, true, true, false, true, false, false, false, false, false, false, false] rfl rfl ?_
     refine pu_ 6 (some 23) #[true, true, true, true, false, true, true, false, false, false, false, false, false] rfl rfl ?_
     refine pu_ 7 (some 24) #[true, true, true, true, false, true, true, true, false, false, false, false, false] rfl rfl ?_
     refine pu_ 8 (some 25) #[true, true, true, true, false, true, true, true, true, false, false, false, false] rfl rfl ?_
     refine tk8_ 4 (some 21) #[true, true, true, true, true, true, true, true, true, false, false, false, false] rfl rfl ?_
     refine tk8_ 9 (some 26) #[true, true, true, true, true, true, true, true, true, true, false, false, false] rfl rfl ?_
     refine pu_ 10 (some 27) #[true, true, true, true, true, true, true, true, true, true, true, false, false] rfl rfl ?_
     refine one_ (i := 11) (N := some 7) #[true, true, true, true, true, true, true, true, true, true, true, true, false] rfl rfl (one_of HT_.out (by kernel_rfl)) (by decide) (fun K hK => ?_)
     refine box_step ?hg (N := 7) ?hd (cs := #[.int .i64 0, .int .i64 0]) (t := 123) ?hr ?_; (case hd => rfl); (case hg => rfl); (case hr => first | (go_simp; done) | (go_simp; rfl))
     intro gb207 hg w8 hbox hb
     have n0_ := aM_ (rB_ (Kd.R_elderB (rb_ HO_5.out) gb207 (Nat.le_of_eq hg.symm)) hb); have n1_ := aM_ (wS_ (bw_) hb); have n2_ := aM_ (hbox); have n3_ := aM_ ((by rw [hg]; exact (sZ_ (bw_)) : w.heap.size ≤ gb207)); have n4_ := aM_ ((by rw [hg]; exact (sZ_ (bw_)) : w.heap.size ≤ gb207)); clear HO_5 HB; have HO_5 := n0_; have HB := n1_; have BK207 := n2_; have GW207 := n3_; have GE207 := n4_; clear n0_ n1_ n2_ n3_ n4_ hb hbox hg
     refine hK.out _ _ ⟨((HB.out.cell (World.block_lt_of_cell? w _ hw205_0)).trans hw205_0), ((HB.out.cell (World.block_lt_of_cell? w _ hw205_1)).trans hw205_1), ((HB.out.cell (World.block_lt_of_cell? w _ hw205_2)).trans hw205_2), ((HB.out.cell (World.block_lt_of_cell? w _ hw205_3)).trans hw205_3), ((HB.out.cell (World.block_lt_of_cell? w _ hw206_0)).trans hw206_0), ((HB.out.cell (World.block_lt_of_cell? w _ hw206_1)).trans hw206_1), ((HB.out.cell (World.block_lt_of_cell? w _ hw206_2)).trans hw206_2), ((HB.out.cell (World.block_lt_of_cell? w _ hw206_3)).trans hw206_3)⟩ (fun hHeld => ?_)
     clear hK K
     refine norm_ (a' := ?_) ?_ ?_
     rotate_left
     ·show Act.put _ (some 7) _ = _
      simp only [Act.put, List.setIfInBounds_toArray, List.set_cons_zero, List.set_cons_succ, i64_w, i32_w]
      rfl
     refine one_ (i := 12) (N := none) #[true, true, true, true, true, true, true, true, true, true, true, true, true] rfl rfl (one_of HT_.out (by kernel_rfl)) (by decide) (fun K hK => ?_)
     have hs9 : w8.cell? ⟨gb207, 0, none⟩ = some (.int .i64 0) := (blk_cell BK207.out 0).trans rfl
     have hfs9 := blk_frozen BK207.out 0
     have hs10 : w8.cell? ⟨gb207, 1, none⟩ = some (.int .i64 0) := (blk_cell BK207.out 1).trans rfl
     have hfs10 := blk_frozen BK207.out 1
     refine skip_ (w1 := ?_) (by rfl) rfl ?_ ?_
     rotate_left
     ·go_simp
      rfl
     refine hK.out _ _ ⟨((cell_far (p := ⟨gb207, _, none⟩) (by first | exact Nat.ne_of_lt (Nat.lt_of_lt_of_le (by have := World.block_lt_of_cell? _ _ hw205_0; first | rwa [add_block] at this | exact this) GW207.out) | (rw [add_block]; exact Nat.ne_of_lt (Nat.lt_of_lt_of_le (by have := World.block_lt_of_cell? _ _ hw205_0; first | rwa [add_block] at this | exact this) GW207.out)) | (show (Addr.add _ _).block ≠ _; rw [add_block]; exact Nat.ne_of_lt (Nat.lt_of_lt_of_le (by have := World.block_lt_of_cell? _ _ hw205_0; first | rwa [add_block] at this | exact this) GW207.out)) | (dsimp only; exact Nat.ne_of_lt (Nat.lt_of_lt_of_le (by have := World.block_lt_of_cell? _ _ hw205_0; first | rwa [add_block] at this | exact this) GW207.out))) _).trans (((cell_far (p := ⟨gb207, _, none⟩) (by first | exact Nat.ne_of_lt (Nat.lt_of_lt_of_le (by have := World.block_lt_of_cell? _ _ hw205_0; first | rwa [add_block] at this | exact this) GW207.out) | (rw [add_block]; exact Nat.ne_of_lt (Nat.lt_of_lt_of_le (by have := World.block_lt_of_cell? _ _ hw205_0; first | rwa [add_block] at this | exact this) GW207.out)) | (show (Addr.add _ _).block ≠ _; rw [add_block]; exact Nat.ne_of_lt (Nat.lt_of_lt_of_le (by have := World.block_lt_of_cell? _ _ hw205_0; first | rwa [add_block] at this | exact this) GW207.out)) | (dsimp only; exact Nat.ne_of_lt (Nat.lt_of_lt_of_le (by have := World.block_lt_of_cell? _ _ hw205_0; first | rwa [add_block] at this | exact this) GW207.out))) _).trans (hHeld.1)))), ((cell_far (p := ⟨gb207, _, none⟩) (by first | exact Nat.ne_of_lt (Nat.lt_of_lt_of_le (by have := World.block_lt_of_cell? _ _ hw205_1; first | rwa [add_block] at this | exact this) GW207.out) | (rw [add_block]; exact Nat.ne_of_lt (Nat.lt_of_lt_of_le (by have := World.block_lt_of_cell? _ _ hw205_1; first | rwa [add_block] at this | exact this) GW207.out)) | (show (Addr.add _ _).block ≠ _; rw [add_block]; exact Nat.ne_of_lt (Nat.lt_of_lt_of_le (by have := World.block_lt_of_cell? _ _ hw205_1; first | rwa [add_block] at this | exact this) GW207.out)) | (dsimp only; exact Nat.ne_of_lt (Nat.lt_of_lt_of_le (by have := World.block_lt_of_cell? _ _ hw205_1; first | rwa [add_block] at this | exact this) GW207.out))) _).trans (((cell_far (p := ⟨gb207, _, none⟩) (by first | exact Nat.ne_of_lt (Nat.lt_of_lt_of_le (by have := World.block_lt_of_cell? _ _ hw205_1; first | rwa [add_block] at this | exact this) GW207.out) | (rw [add_block]; exact Nat.ne_of_lt (Nat.lt_of_lt_of_le (by have := World.block_lt_of_cell? _ _ hw205_1; first | rwa [add_block] at this | exact this) GW207.out)) | (show (Addr.add _ _).block ≠ _; rw [add_block]; exact Nat.ne_of_lt (Nat.lt_of_lt_of_le (by have := World.block_lt_of_cell? _ _ hw205_1; first | rwa [add_block] at this | exact this) GW207.out)) | (dsimp only; exact Nat.ne_of_lt (Nat.lt_of_lt_of_le (by have := World.block_lt_of_cell? _ _ hw205_1; first | rwa [add_block] at this | exact this) GW207.out))) _).trans (hHeld.2.1)))), ((cell_far (p := ⟨gb207, _, none⟩) (by first | exact Nat.ne_of_lt (Nat.lt_of_lt_of_le (by have := World.block_lt_of_cell? _ _ hw205_2; first | rwa [add_block] at this | exact this) GW207.out) | (rw [add_block]; exact Nat.ne_of_lt (Nat.lt_of_lt_of_le (by have := World.block_lt_of_cell? _ _ hw205_2; first | rwa [add_block] at this | exact this) GW207.out)) | (show (Addr.add _ _).block ≠ _; rw [add_block]; exact Nat.ne_of_lt (Nat.lt_of_lt_of_le (by have := World.block_lt_of_cell? _ _ hw205_2; first | rwa [add_block] at this | exact this) GW207.out)) | (dsimp only; exact Nat.ne_of_lt (Nat.lt_of_lt_of_le (by have := World.block_lt_of_cell? _ _ hw205_2; first | rwa [add_block] at this | exact this) GW207.out))) _).trans (((cell_far (p := ⟨gb207, _, none⟩) (by first | exact Nat.ne_of_lt (Nat.lt_of_lt_of_le (by have := World.block_lt_of_cell? _ _ hw205_2; first | rwa [add_block] at this | exact this) GW207.out) | (rw [add_block]; exact Nat.ne_of_lt (Nat.lt_of_lt_of_le (by have := World.block_lt_of_cell? _ _ hw205_2; first | rwa [add_block] at this | exact this) GW207.out)) | (show (Addr.add _ _).block ≠ _; rw [add_block]; exact Nat.ne_of_lt (Nat.lt_of_lt_of_le (by have := World.block_lt_of_cell? _ _ hw205_2; first | rwa [add_block] at this | exact this) GW207.out)) | (dsimp only; exact Nat.ne_of_lt (Nat.lt_of_lt_of_le (by have := World.block_lt_of_cell? _ _ hw205_2; first | rwa [add_block] at this | exact this) GW207.out))) _).trans (hHeld.2.2.1)))), ((cell_far (p := ⟨gb207, _, none⟩) (by first | exact Nat.ne_of_lt (Nat.lt_of_lt_of_le (by have := World.block_lt_of_cell? _ _ hw205_3; first | rwa [add_block] at this | exact this) GW207.out) | (rw [add_block]; exact Nat.ne_of_lt (Nat.lt_of_lt_of_le (by have := World.block_lt_of_cell? _ _ hw205_3; first | rwa [add_block] at this | exact this) GW207.out)) | (show (Addr.add _ _).block ≠ _; rw [add_block]; exact Nat.ne_of_lt (Nat.lt_of_lt_of_le (by have := World.block_lt_of_cell? _ _ hw205_3; first | rwa [add_block] at this | exact this) GW207.out)) | (dsimp only; exact Nat.ne_of_lt (Nat.lt_of_lt_of_le (by have := World.block_lt_of_cell? _ _ hw205_3; first | rwa [add_block] at this | exact this) GW207.out))) _).trans (((cell_far (p := ⟨gb207, _, none⟩) (by first | exact Nat.ne_of_lt (Nat.lt_of_lt_of_le (by have := World.block_lt_of_cell? _ _ hw205_3; first | rwa [add_block] at this | exact this) GW207.out) | (rw [add_block]; exact Nat.ne_of_lt (Nat.lt_of_lt_of_le (by have := World.block_lt_of_cell? _ _ hw205_3; first | rwa [add_block] at this | exact this) GW207.out)) | (show (Addr.add _ _).block ≠ _; rw [add_block]; exact Nat.ne_of_lt (Nat.lt_of_lt_of_le (by have := World.block_lt_of_cell? _ _ hw205_3; first | rwa [add_block] at this | exact this) GW207.out)) | (dsimp only; exact Nat.ne_of_lt (Nat.lt_of_lt_of_le (by have := World.block_lt_of_cell? _ _ hw205_3; first | rwa [add_block] at this | exact this) GW207.out))) _).trans (hHeld.2.2.2.1)))), ((cell_far (p := ⟨gb207, _, none⟩) (by first | exact Nat.ne_of_lt (Nat.lt_of_lt_of_le (by have := World.block_lt_of_cell? _ _ hw206_0; first | rwa [add_block] at this | exact this) GW207.out) | (rw [add_block]; exact Nat.ne_of_lt (Nat.lt_of_lt_of_le (by have := World.block_lt_of_cell? _ _ hw206_0; first | rwa [add_block] at this | exact this) GW207.out)) | (show (Addr.add _ _).block ≠ _; rw [add_block]; exact Nat.ne_of_lt (Nat.lt_of_lt_of_le (by have := World.block_lt_of_cell? _ _ hw206_0; first | rwa [add_block] at this | exact this) GW207.out)) | (dsimp only; exact Nat.ne_of_lt (Nat.lt_of_lt_of_le (by have := World.block_lt_of_cell? _ _ hw206_0; first | rwa [add_block] at this | exact this) GW207.out))) _).trans (((cell_far (p := ⟨gb207, _, none⟩) (by first | exact Nat.ne_of_lt (Nat.lt_of_lt_of_le (by have := World.block_lt_of_cell? _ _ hw206_0; first | rwa [add_block] at this | exact this) GW207.out) | (rw [add_block]; exact Nat.ne_of_lt (Nat.lt_of_lt_of_le (by have := World.block_lt_of_cell? _ _ hw206_0; first | rwa [add_block] at this | exact this) GW207.out)) | (show (Addr.add _ _).block ≠ _; rw [add_block]; exact Nat.ne_of_lt (Nat.lt_of_lt_of_le (by have := World.block_lt_of_cell? _ _ hw206_0; first | rwa [add_block] at this | exact this) GW207.out)) | (dsimp only; exact Nat.ne_of_lt (Nat.lt_of_lt_of_le (by have := World.block_lt_of_cell? _ _ hw206_0; first | rwa [add_block] at this | exact this) GW207.out))) _).trans (hHeld.2.2.2.2.1)))), ((cell_far (p := ⟨gb207, _, none⟩) (by first | exact Nat.ne_of_lt (Nat.lt_of_lt_of_le (by have := World.block_lt_of_cell? _ _ hw206_1; first | rwa [add_block] at this | exact this) GW207.out) | (rw [add_block]; exact Nat.ne_of_lt (Nat.lt_of_lt_of_le (by have := World.block_lt_of_cell? _ _ hw206_1; first | rwa [add_block] at this | exact this) GW207.out)) | (show (Addr.add _ _).block ≠ _; rw [add_block]; exact Nat.ne_of_lt (Nat.lt_of_lt_of_le (by have := World.block_lt_of_cell? _ _ hw206_1; first | rwa [add_block] at this | exact this) GW207.out)) | (dsimp only; exact Nat.ne_of_lt (Nat.lt_of_lt_of_le (by have := World.block_lt_of_cell? _ _ hw206_1; first | rwa [add_block] at this | exact this) GW207.out))) _).trans (((cell_far (p := ⟨gb207, _, none⟩) (by first | exact Nat.ne_of_lt (Nat.lt_of_lt_of_le (by have := World.block_lt_of_cell? _ _ hw206_1; first | rwa [add_block] at this | exact this) GW207.out) | (rw [add_block]; exact Nat.ne_of_lt (Nat.lt_of_lt_of_le (by have := World.block_lt_of_cell? _ _ hw206_1; first | rwa [add_block] at this | exact this) GW207.out)) | (show (Addr.add _ _).block ≠ _; rw [add_block]; exact Nat.ne_of_lt (Nat.lt_of_lt_of_le (by have := World.block_lt_of_cell? _ _ hw206_1; first | rwa [add_block] at this | exact this) GW207.out)) | (dsimp only; exact Nat.ne_of_lt (Nat.lt_of_lt_of_le (by have := World.block_lt_of_cell? _ _ hw206_1; first | rwa [add_block] at this | exact this) GW207.out))) _).trans (hHeld.2.2.2.2.2.1)))), ((cell_far (p := ⟨gb207, _, none⟩) (by first | exact Nat.ne_of_lt (Nat.lt_of_lt_of_le (by have := World.block_lt_of_cell? _ _ hw206_2; first | rwa [add_block] at this | exact this) GW207.out) | (rw [add_block]; exact Nat.ne_of_lt (Nat.lt_of_lt_of_le (by have := World.block_lt_of_cell? _ _ hw206_2; first | rwa [add_block] at this | exact this) GW207.out)) | (show (Addr.add _ _).block ≠ _; rw [add_block]; exact Nat.ne_of_lt (Nat.lt_of_lt_of_le (by have := World.block_lt_of_cell? _ _ hw206_2; first | rwa [add_block] at this | exact this) GW207.out)) | (dsimp only; exact Nat.ne_of_lt (Nat.lt_of_lt_of_le (by have := World.block_lt_of_cell? _ _ hw206_2; first | rwa [add_block] at this | exact this) GW207.out))) _).trans (((cell_far (p := ⟨gb207, _, none⟩) (by first | exact Nat.ne_of_lt (Nat.lt_of_lt_of_le (by have := World.block_lt_of_cell? _ _ hw206_2; first | rwa [add_block] at this | exact this) GW207.out) | (rw [add_block]; exact Nat.ne_of_lt (Nat.lt_of_lt_of_le (by have := World.block_lt_of_cell? _ _ hw206_2; first | rwa [add_block] at this | exact this) GW207.out)) | (show (Addr.add _ _).block ≠ _; rw [add_block]; exact Nat.ne_of_lt (Nat.lt_of_lt_of_le (by have := World.block_lt_of_cell? _ _ hw206_2; first | rwa [add_block] at this | exact this) GW207.out)) | (dsimp only; exact Nat.ne_of_lt (Nat.lt_of_lt_of_le (by have := World.block_lt_of_cell? _ _ hw206_2; first | rwa [add_block] at this | exact this) GW207.out))) _).trans (hHeld.2.2.2.2.2.2.1)))), ((cell_far (p := ⟨gb207, _, none⟩) (by first | exact Nat.ne_of_lt (Nat.lt_of_lt_of_le (by have := World.block_lt_of_cell? _ _ hw206_3; first | rwa [add_block] at this | exact this) GW207.out) | (rw [add_block]; exact Nat.ne_of_lt (Nat.lt_of_lt_of_le (by have := World.block_lt_of_cell? _ _ hw206_3; first | rwa [add_block] at this | exact this) GW207.out)) | (show (Addr.add _ _).block ≠ _; rw [add_block]; exact Nat.ne_of_lt (Nat.lt_of_lt_of_le (by have := World.block_lt_of_cell? _ _ hw206_3; first | rwa [add_block] at this | exact this) GW207.out)) | (dsimp only; exact Nat.ne_of_lt (Nat.lt_of_lt_of_le (by have := World.block_lt_of_cell? _ _ hw206_3; first | rwa [add_block] at this | exact this) GW207.out))) _).trans (((cell_far (p := ⟨gb207, _, none⟩) (by first | exact Nat.ne_of_lt (Nat.lt_of_lt_of_le (by have := World.block_lt_of_cell? _ _ hw206_3; first | rwa [add_block] at this | exact this) GW207.out) | (rw [add_block]; exact Nat.ne_of_lt (Nat.lt_of_lt_of_le (by have := World.block_lt_of_cell? _ _ hw206_3; first | rwa [add_block] at this | exact this) GW207.out)) | (show (Addr.add _ _).block ≠ _; rw [add_block]; exact Nat.ne_of_lt (Nat.lt_of_lt_of_le (by have := World.block_lt_of_cell? _ _ hw206_3; first | rwa [add_block] at this | exact this) GW207.out)) | (dsimp only; exact Nat.ne_of_lt (Nat.lt_of_lt_of_le (by have := World.block_lt_of_cell? _ _ hw206_3; first | rwa [add_block] at this | exact this) GW207.out))) _).trans (hHeld.2.2.2.2.2.2.2))))⟩ (fun hHeld => ?_)
     clear hK K
     refine done_ (done_of HT_.out (by kernel_rfl)) ?_
     try go_wp2
     go_loopg [8, 9] k1 (fun kq v8 v9 w' => ∃ (x8_2 : Bool) (x9_2 : Int), v8 = .bool x8_2 ∧ v9 = .int .i64 x9_2 ∧ Aside0 (spec_LinksAt.l1 kq l0 a1 x5_1 x6_1 x8_2 x9_2 ((rd_T144 l0 x6_1).f0) ((rd_T144 l0 x6_1).f1) = some r) ∧ Aside0 (kq ≤ k1) ∧ Aside0 (Kd.R k123 123 w' w.heap.size (fun k_ => k_ ≠ gb207) u5 x5_1) ∧ Aside0 (w'.heap[gb207]? = some (.cells #[.int .i64 ((rd_T144 l0 x6_1).f0), .int .i64 ((rd_T144 l0 x6_1).f1)] 123 (0, 0))) ∧ Aside0 (Below w.heap.size w w'))
     case atStart => exact ⟨(false), (0), (by first | rfl | (simp; done) | (simp [*]; done)), (by first | rfl | (simp; done) | (simp [*]; done)), H', ⟨Nat.le_refl _⟩, ⟨by (with_reducible repeat (first | apply rA_ | apply rN_ | apply rD_)); exact Kd.R_mono (Kd.R_far (p := ⟨gb207, 1, none⟩) (Kd.R_far (p := ⟨gb207, 0, none⟩) (Kd.R_mono HO_5.out (fun k_ hk => (⟨hk, hk.2⟩ : _ ∧ k_ ≠ gb207))) (fun _ hk => hk.2) (.int .i64 ((rd_T144 l0 x6_1).f0))) (fun _ hk => hk.2) (.int .i64 ((rd_T144 l0 x6_1).f1))) (fun _ hk => hk.1.2)⟩, ⟨by (with_reducible repeat (first | refine bN_ ?_ _ | refine bD_ ?_ | refine bA_ ?_ _)); refine blk_put (cs := #[.int .i64 ((rd_T144 l0 x6_1).f0), .int .i64 0]) ?_ 1 _ rfl; (with_reducible repeat (first | refine bN_ ?_ _ | refine bD_ ?_ | refine bA_ ?_ _)); refine blk_put (cs := #[.int .i64 0, .int .i64 0]) ?_ 0 _ rfl; (with_reducible repeat (first | refine bN_ ?_ _ | refine bD_ ?_ | refine bA_ ?_ _)); exact BK207.out⟩, ⟨bw_⟩⟩
     case round =>
      clear H'
      try clear hx2
      try clear c5b0
      try clear c6b0
      try clear hx205_0
      try clear hx205_1
      try clear hx205_2
      try clear hx205_3
      try clear hx206_0
      try clear hx206_1
      try clear hx206_2
      try clear hx206_3
      obtain ⟨x8_2, x9_2, rfl, rfl, HA, HK2, HO_5, BK207, HB⟩ := hrel
      cases gk with
      | zero => exact absurd HA.out (by simp [spec_LinksAt.l1])
      | succ k2 =>
       have H := HA.out; clear HA
       simp only [spec_LinksAt.l1] at H
       by_cases c11 : x9_2 < (x5_1.length : Int)
       ·rw [if_pos c11] at H
        have c11b0 : decide (x9_2 < (x5_1.length : Int)) = true := decide_eq_true c11
        clear c11
        by_cases c12 : x8_2 = true
        ·subst c12
         have H1 : (spec_LinksAt.l1 k2 l0 a1 x5_1 x6_1 true (wrap64 (x9_2 + 1)) ((rd_T144 l0 x6_1).f0) ((rd_T144 l0 x6_1).f1)) = some r := by rw [if_pos rfl] at H; exact H
         clear H; have H := H1; clear H1
         have H' := aM_ H
         clear H
         obtain ⟨Ao13, co13, eo13⟩ := Kd.R_slice HO_5.out
         subst eo13
         try go_wp2
         have n0_ := aM_ (rD_ HO_5.out); have n1_ := aM_ (bD_ BK207.out); have n2_ := aM_ (wD_ HB.out); clear HO_5 BK207 HB; have HO_5 := n0_; have BK207 := n1_; have HB := n2_; clear n0_ n1_ n2_
         refine start_ (n := 10) (S := fun w' => True) (ds := []) #[false, false, false, false, false, false, false, false, false, false] (by kernel_rfl) rfl rfl trivial (fun hHeld => ?_); refine with_tabW spec_LinksAt.tab10 spec_LinksAt.bits10 (fun HT_ HW_ => ?_)
         generalize wr.drew = w14 at HO_5 BK207 HB hHeld ⊢
         refine pu_ 0 (some 34) #[true, false, false, false, false, false, false, false, false, false] rfl rfl ?_
         refine pu_ 1 (some 35) #[true, true, false, false, false, false, false, false, false, false] rfl rfl ?_
         refine pn_ 2 (some 36) #[true, true, true, false, false, false, false, false, false, false] rfl rfl ?_
         refine pn_ 3 (some 37) #[true, true, true, true, false, false, false, false, false, false] rfl rfl ?_
         refine pn_ 4 (some 38) #[true, true, true, true, true, false, false, false, false, false] rfl rfl ?_
         refine pn_ 5 (some 39) #[true, true, true, true, true, true, false, false, false, false] rfl rfl ?_
         refine pn_ 6 (some 40) #[true, true, true, true, true, true, true, false, false, false] rfl rfl ?_
         refine pn_ 7 (some 41) #[true, true, true, true, true, true, true, true, false, false] rfl rfl ?_
         refine pu_ 8 (some 42) #[true, true, true, true, true, true, true, true, true, false] rfl rfl ?_
         refine pu_ 9 (some 8) #[true, true, true, true, true, true, true, true, true, true] rfl rfl ?_
         refine done_ (done_of HT_.out (by kernel_rfl)) ?_
         try go_wp2
         go_roundg k2
         case measure => have := HK1.out; have := HK2.out; omega
         case rel => exact ⟨(true), (wrap64 (x9_2 + 1)), (by first | rfl | (simp; done) | (simp [*]; done)), (by first | rfl | (simp; done) | (simp [*]; done)), H', ⟨by have := HK1.out; have := HK2.out; omega⟩, ⟨by (with_reducible repeat (first | apply rA_ | apply rN_ | apply rD_)); exact HO_5.out⟩, ⟨by (with_reducible repeat (first | refine bN_ ?_ _ | refine bD_ ?_ | refine bA_ ?_ _)); exact BK207.out⟩, ⟨bw_⟩⟩
        ·replace c12 := Bool.eq_false_iff.mpr c12
         subst c12
         have H1 : (if 0 ≤ x9_2 then (spec_LinksAt.l1 k2 l0 a1 x5_1 x6_1 (((rd_T123 x5_1 x9_2).f0) == ((rd_T144 l0 x6_1).f0) && (((rd_T123 x5_1 x9_2).f1) == ((rd_T144 l0 x6_1).f1))) (wrap64 (x9_2 + 1)) ((rd_T144 l0 x6_1).f0) ((rd_T144 l0 x6_1).f1)) else (none)) = some r := by rw [if_neg (show ¬ (false = true) by decide)] at H; exact H
         clear H; have H := H1; clear H1
         by_cases c15 : 0 ≤ x9_2
         ·rw [if_pos c15] at H
          have c15b0 : decide (0 ≤ x9_2) = true := decide_eq_true c15
          clear c15
          have H' := aM_ H
          clear H
          obtain ⟨Ao16, co16, eo16⟩ := Kd.R_slice HO_5.out
          subst eo16
          try go_wp2
          have n0_ := aM_ (rD_ HO_5.out); have n1_ := aM_ (bD_ BK207.out); have n2_ := aM_ (wD_ HB.out); clear HO_5 BK207 HB; have HO_5 := n0_; have BK207 := n1_; have HB := n2_; clear n0_ n1_ n2_
          have p208 : 0 ≤ (x9_2 : Int) := dT_
          have q208 : x9_2 < (x5_1.length : Int) := dT_
          obtain ⟨ad208, e208, hx208_0, hx208_1⟩ := at_T123 (Kd.R_reads' HO_5.out).2.2 x9_2 p208 q208
          cases e208
          replace p208 := eq_true p208; replace q208 := eq_true q208
          refine start_ (n := 10) (S := fun w' => w'.cell? ⟨gb207, 0, none⟩ = some (.int .i64 ((rd_T144 l0 x6_1).f0)) ∧ w'.cell? ⟨gb207, 1, none⟩ = some (.int .i64 ((rd_T144 l0 x6_1).f1)) ∧ w'.cell? (ad208.add ((x9_2).toNat * 2)) = some (.int .i64 ((rd_T123 x5_1 x9_2).f0)) ∧ w'.cell? ⟨(ad208.add ((x9_2).toNat * 2)).block, (ad208.add ((x9_2).toNat * 2)).off + 1, none⟩ = some (.int .i64 ((rd_T123 x5_1 x9_2).f1))) (ds := []) #[false, false, false, false, false, false, false, false, false, false] (by kernel_rfl) rfl rfl ⟨(blk_cell BK207.out 0).trans rfl, (blk_cell BK207.out 1).trans rfl, hx208_0, hx208_1⟩ (fun hHeld => ?_); refine with_tabW spec_LinksAt.tab10 spec_LinksAt.bits10 (fun HT_ HW_ => ?_)
          generalize wr.drew = w17 at HO_5 BK207 HB hx208_0 hx208_1 hHeld ⊢
          refine pu_ 0 (some 34) #[true, false, false, false, false, false, false, false, false, false] rfl rfl ?_
          refine pu_ 1 (some 35) #[true, true, false, false, false, false, false, false, false, false] rfl rfl ?_
          refine pu_ 2 (some 36) #[true, true, true, false, false, false, false, false, false, false] rfl rfl ?_
          refine pu_ 3 (some 37) #[true, true, true, true, false, false, false, false, false, false] rfl rfl ?_
          refine pu_ 4 (some 38) #[true, true, true, true, true, false, false, false, false, false] rfl rfl ?_
          refine tk4_ 5 (some 39) #[true, true, true, true, true, true, false, false, false, false] rfl rfl ?_
          refine tk4_ 6 (some 40) #[true, true, true, true, true, true, true, false, false, false] rfl rfl ?_
          refine pu_ 7 (some 41) #[true, true, true, true, true, true, true, true, false, false] rfl rfl ?_
          refine pu_ 8 (some 42) #[true, true, true, true, true, true, true, true, true, false] rfl rfl ?_
          refine pu_ 9 (some 8) #[true, true, true, true, true, true, true, true, true, true] rfl rfl ?_
          refine done_ (done_of HT_.out (by kernel_rfl)) ?_
          try go_wp2
          go_roundg k2
          case measure => have := HK1.out; have := HK2.out; omega
          case rel => exact ⟨((((rd_T123 x5_1 x9_2).f0) == ((rd_T144 l0 x6_1).f0) && (((rd_T123 x5_1 x9_2).f1) == ((rd_T144 l0 x6_1).f1)))), (wrap64 (x9_2 + 1)), (by first | rfl | (simp; done) | (simp [*]; done)), (by first | rfl | (simp; done) | (simp [*]; done)), H', ⟨by have := HK1.out; have := HK2.out; omega⟩, ⟨by (with_reducible repeat (first | apply rA_ | apply rN_ | apply rD_)); exact HO_5.out⟩, ⟨by (with_reducible repeat (first | refine bN_ ?_ _ | refine bD_ ?_ | refine bA_ ?_ _)); exact BK207.out⟩, ⟨bw_⟩⟩
         ·rw [if_neg c15] at H
          exact absurd H (by simp)
       ·rw [if_neg c11] at H
        have c11b0 : decide (x9_2 < (x5_1.length : Int)) = false := decide_eq_false c11
        clear c11
        by_cases c18 : x8_2 = true
        ·subst c18
         have H1 : (spec_LinksAt.l0 k2 l0 a1 x5_1 (wrap64 (x6_1 + 1))) = some r := by rw [if_pos rfl] at H; exact H
         clear H; have H := H1; clear H1
         have H' := aM_ H
         clear H
         obtain ⟨Ao19, co19, eo19⟩ := Kd.R_slice HO_5.out
         subst eo19
         try go_wp2
         have n0_ := aM_ (rD_ HO_5.out); have n1_ := aM_ (bD_ BK207.out); have n2_ := aM_ (wD_ HB.out); clear HO_5 BK207 HB; have HO_5 := n0_; have BK207 := n1_; have HB := n2_; clear n0_ n1_ n2_
         refine start_ (n := 17) (S := fun w' => True) (ds := []) #[false, false, false, false, false, false, false, false, false, false, false, false, false, false, false, false, false] (by kernel_rfl) rfl rfl trivial (fun hHeld => ?_); refine with_tabW spec_LinksAt.tab11 spec_LinksAt.bits11 (fun HT_ HW_ => ?_)
         generalize wr.drew = w20 at HO_5 BK207 HB hHeld ⊢
         refine pu_ 0 (some 43) #[true, false, false, false, false, false, false, false, false, false, false, false, false, false, false, false, false] rfl rfl ?_
         refine pu_ 1 (some 44) #[true, true, false, false, false, false, false, false, false, false, false, false, false, false, false, false, false] rfl rfl ?_
         refine pu_ 2 (some 45) #[true, true, true, false, false, false, false, false, false, false, false, false, false, false, false, false, false] rfl rfl ?_
         refine pn_ 3 (some 46) #[true, true, true, true, false, false, false, false, false, false, false, false, false, false, false, false, false] rfl rfl ?_
         refine pn_ 4 (some 47) #[true, true, true, true, true, false, false, false, false, false, false, false, false, false, false, false, false] rfl rfl ?_
         refine pn_ 5 (some 48) #[true, true, true, true, true, true, false, false, false, false, false, false, false, false, false, false, false] rfl rfl ?_
         refine pn_ 6 (some 49) #[true, true, true, true, true, true, true, false, false, false, false, false, false, false, false, false, false] rfl rfl ?_
         refine pn_ 7 (some 50) #[true, true, true, true, true, true, true, true, false, false, false, false, false, false, false, false, false] rfl rfl ?_
         refine pn_ 8 (some 51) #[true, true, true, true, true, true, true, true, true, false, false, false, false, false, false, false, false] rfl rfl ?_
         refine pn_ 9 (some 52) #[true, true, true, true, true, true, true, true, true, true, false, false, false, false, false, false, false] rfl rfl ?_
         refine pn_ 10 (some 53) #[true, true, true, true, true, true, true, true, true, true, true, false, false, false, false, false, false] rfl rfl ?_
         refine pn_ 11 (some 54) #[true, true, true, true, true, true, true, true, true, true, true, true, false, false, false, false, false] rfl rfl ?_
         refine pn_ 12 (some 55) #[true, true, true, true, true, true, true, true, true, true, true, true, true, false, false, false, false] rfl rfl ?_
         refine pn_ 13 (some 56) #[true, true, true, true, true, true, true, true, true, true, true, true, true, true, false, false, false] rfl rfl ?_
         refine pn_ 14 (some 57) #[true, true, true, true, true, true, true, true, true, true, true, true, true, true, true, false, false] rfl rfl ?_
         refine pn_ 15 (some 58) #[true, true, true, true, true, true, true, true, true, true, true, true, true, true, true, true, false] rfl rfl ?_
         refine pu_ 16 (some 59) #[true, true, true, true, true, true, true, true, true, true, true, true, true, true, true, true, true] rfl rfl ?_
         refine done_ (done_of HT_.out (by kernel_rfl)) ?_
         try go_wp2
         go_roundg k2
         case measure => have := HK1.out; have := HK2.out; omega
         case rel => exact ⟨(x5_1), (wrap64 (x6_1 + 1)), (by first | rfl | (simp; done) | (simp [*]; done)), H', ⟨by have := HK1.out; have := HK2.out; omega⟩, ⟨by (with_reducible repeat (first | apply rA_ | apply rN_ | apply rD_)); exact Kd.R_mono HO_5.out (fun _ hk => trivial)⟩, ⟨bw_⟩⟩
        ·replace c18 := Bool.eq_false_iff.mpr c18
         subst c18
         have H1 : (if 0 ≤ x6_1 then (if x6_1 < (l0.length : Int) then ((spec_InSpan.f ((rd_T144 l0 x6_1).f2) ((rd_T144 l0 x6_1).f3) a1).bind fun t211 => (if t211 = true then (if x5_1.length < 8796093022208 then (spec_LinksAt.l0 k2 l0 a1 (x5_1 ++ [(⟨((rd_T144 l0 x6_1).f0), ((rd_T144 l0 x6_1).f1)⟩ : S123)]) (wrap64 (x6_1 + 1))) else (none)) else (spec_LinksAt.l0 k2 l0 a1 x5_1 (wrap64 (x6_1 + 1))))) else (none)) else (none)) = some r := by rw [if_neg (show ¬ (false = true) by decide)] at H; exact H
         clear H; have H := H1; clear H1
         by_cases c21 : 0 ≤ x6_1
         ·rw [if_pos c21] at H
          have c21b0 : decide (0 ≤ x6_1) = true := decide_eq_true c21
          clear c21
          by_cases c22 : x6_1 < (l0.length : Int)
          ·rw [if_pos c22] at H
           have c22b0 : decide (x6_1 < (l0.length : Int)) = true := decide_eq_true c22
           clear c22
           replace H := Option.bind_eq_some_iff.mp H
           obtain ⟨t211, A230, H⟩ := H
           (try dsimp only at H)
           have A23 := aM_ A230; clear A230
           by_cases c24 : t211 = true
           ·subst c24
            have H1 : (if x5_1.length < 8796093022208 then (spec_LinksAt.l0 k2 l0 a1 (x5_1 ++ [(⟨((rd_T144 l0 x6_1).f0), ((rd_T144 l0 x6_1).f1)⟩ : S123)]) (wrap64 (x6_1 + 1))) else (none)) = some r := by rw [if_pos rfl] at H; exact H
            clear H; have H := H1; clear H1
            by_cases c25 : x5_1.length < 8796093022208
            ·rw [if_pos c25] at H
             have LMc25 := aM_ c25; clear c25
             obtain ⟨y212, hy212⟩ : ∃ y_ : List (S123), y_ = (x5_1 ++ [(⟨((rd_T144 l0 x6_1).f0), ((rd_T144 l0 x6_1).f1)⟩ : S123)]) := ⟨_, rfl⟩
             replace H : (spec_LinksAt.l0 k2 l0 a1 y212 (wrap64 (x6_1 + 1))) = some r := by first | (rw [hy212]; with_reducible exact H) | (have H2_ := (Option.bind_some _ _).symm.trans H; rw [hy212]; with_reducible exact H2_) | (have H2_ := (Option.bind_some _ _).symm.trans H; with_reducible exact H2_) | with_reducible exact H | (rw [hy212]; exact H) | exact H
             have Ny212 := aM_ hy212; clear hy212
             have H' := aM_ H
             clear H
             obtain ⟨Ao26, co26, eo26⟩ := Kd.R_slice HO_5.out
             subst eo26
             try go_wp2
             have n0_ := aM_ (rD_ HO_5.out); have n1_ := aM_ (bD_ BK207.out); have n2_ := aM_ (wD_ HB.out); clear HO_5 BK207 HB; have HO_5 := n0_; have BK207 := n1_; have HB := n2_; clear n0_ n1_ n2_
             have p209 : 0 ≤ (x6_1 : Int) := dT_
             have q209 : x6_1 < (l0.length : Int) := dT_
             obtain ⟨ad209, e209, hx209_0, hx209_1, hx209_2, hx209_3⟩ := at_T144 HR0.out x6_1 p209 q209
             have hw209_3 := hx209_3; have hw209_2 := hx209_2; have hw209_1 := hx209_1; have hw209_0 := hx209_0
             obtain rfl : ad205 = ad209 := (by injection e209)
             replace hx209_0 := (HB.out.cell (World.block_lt_of_cell? w _ hx209_0)).trans hx209_0
             replace hx209_1 := (HB.out.cell (World.block_lt_of_cell? w _ hx209_1)).trans hx209_1
             replace hx209_2 := (HB.out.cell (World.block_lt_of_cell? w _ hx209_2)).trans hx209_2
             replace hx209_3 := (HB.out.cell (World.block_lt_of_cell? w _ hx209_3)).trans hx209_3
             replace p209 := eq_true p209; replace q209 := eq_true q209
             have p210 : 0 ≤ (x6_1 : Int) := dT_
             have q210 : x6_1 < (l0.length : Int) := dT_
             obtain ⟨ad210, e210, hx210_0, hx210_1, hx210_2, hx210_3⟩ := at_T144 HR0.out x6_1 p210 q210
             have hw210_3 := hx210_3; have hw210_2 := hx210_2; have hw210_1 := hx210_1; have hw210_0 := hx210_0
             obtain rfl : ad205 = ad210 := (by injection e210)
             replace hx210_0 := (HB.out.cell (World.block_lt_of_cell? w _ hx210_0)).trans hx210_0
             replace hx210_1 := (HB.out.cell (World.block_lt_of_cell? w _ hx210_1)).trans hx210_1
             replace hx210_2 := (HB.out.cell (World.block_lt_of_cell? w _ hx210_2)).trans hx210_2
             replace hx210_3 := (HB.out.cell (World.block_lt_of_cell? w _ hx210_3)).trans hx210_3
             replace p210 := eq_true p210; replace q210 := eq_true q210
             refine start_ (n := 17) (S := fun w' => w'.cell? (ad205.add ((x6_1).toNat * 4)) = some (.int .i64 ((rd_T144 l0 x6_1).f0)) ∧ w'.cell? ⟨(ad205.add ((x6_1).toNat * 4)).block, (ad205.add ((x6_1).toNat * 4)).off + 1, none⟩ = some (.int .i64 ((rd_T144 l0 x6_1).f1)) ∧ w'.cell? ⟨(ad205.add ((x6_1).toNat * 4)).block, (ad205.add ((x6_1).toNat * 4)).off + 2, none⟩ = some (.int .i64 ((rd_T144 l0 x6_1).f2)) ∧ w'.cell? ⟨(ad205.add ((x6_1).toNat * 4)).block, (ad205.add ((x6_1).toNat * 4)).off + 3, none⟩ = some (.int .i64 ((rd_T144 l0 x6_1).f3)) ∧ w'.cell? (ad205.add ((x6_1).toNat * 4)) = some (.int .i64 ((rd_T144 l0 x6_1).f0)) ∧ w'.cell? ⟨(ad205.add ((x6_1).toNat * 4)).block, (ad205.add ((x6_1).toNat * 4)).off + 1, none⟩ = some (.int .i64 ((rd_T144 l0 x6_1).f1)) ∧ w'.cell? ⟨(ad205.add ((x6_1).toNat * 4)).block, (ad205.add ((x6_1).toNat * 4)).off + 2, none⟩ = some (.int .i64 ((rd_T144 l0 x6_1).f2)) ∧ w'.cell? ⟨(ad205.add ((x6_1).toNat * 4)).block, (ad205.add ((x6_1).toNat * 4)).off + 3, none⟩ = some (.int .i64 ((rd_T144 l0 x6_1).f3))) (ds := []) #[false, false, false, false, false, false, false, false, false, false, false, false, false, false, false, false, false] (by kernel_rfl) rfl rfl ⟨((HB.out.cell (World.block_lt_of_cell? w _ hw209_0)).trans hw209_0), ((HB.out.cell (World.block_lt_of_cell? w _ hw209_1)).trans hw209_1), ((HB.out.cell (World.block_lt_of_cell? w _ hw209_2)).trans hw209_2), ((HB.out.cell (World.block_lt_of_cell? w _ hw209_3)).trans hw209_3), ((HB.out.cell (World.block_lt_of_cell? w _ hw210_0)).trans hw210_0), ((HB.out.cell (World.block_lt_of_cell? w _ hw210_1)).trans hw210_1), ((HB.out.cell (World.block_lt_of_cell? w _ hw210_2)).trans hw210_2), ((HB.out.cell (World.block_lt_of_cell? w _ hw210_3)).trans hw210_3)⟩ (fun hHeld => ?_); refine with_tabW spec_LinksAt.tab11 spec_LinksAt.bits11 (fun HT_ HW_ => ?_)
             generalize wr.drew = w27 at HO_5 BK207 HB hx209_0 hx209_1 hx209_2 hx209_3 hx210_0 hx210_1 hx210_2 hx210_3 hHeld ⊢
             refine pu_ 0 (some 43) #[true, false, false, false, false, false, false, false, false, false, false, false, false, false, false, false, false] rfl rfl ?_
             refine pu_ 1 (some 44) #[true, true, false, false, false, false, false, false, false, false, false, false, false, false, false, false, false] rfl rfl ?_
             refine pu_ 2 (some 45) #[true, true, true, false, false, false, false, false, false, false, false, false, false, false, false, false, false] rfl rfl ?_
             refine pu_ 3 (some 46) #[true, true, true, true, false, false, false, false, false, false, false, false, false, false, false, false, false] rfl rfl ?_
             refine pu_ 4 (some 47) #[true, true, true, true, true, false, false, false, false, false, false, false, false, false, false, false, false] rfl rfl ?_
             refine pu_ 5 (some 48) #[true, true, true, true, true, true, false, false, false, false, false, false, false, false, false, false, false] rfl rfl ?_
             refine pu_ 6 (some 49) #[true, true, true, true, true, true, true, false, false, false, false, false, false, false, false, false, false] rfl rfl ?_
             refine pu_ 8 (some 51) #[true, true, true, true, true, true, true, false, true, false, false, false, false, false, false, false, false] rfl rfl ?_
             refine pu_ 9 (some 52) #[true, true, true, true, true, true, true, false, true, true, false, false, false, false, false, false, false] rfl rfl ?_
             refine pu_ 10 (some 53) #[true, true, true, true, true, true, true, false, true, true, true, false, false, false, false, false, false] rfl rfl ?_
             refine pu_ 11 (some 54) #[true, true, true, true, true, true, true, false, true, true, true, true, false, false, false, false, false] rfl rfl ?_
             refine pu_ 14 (some 57) #[true, true, true, true, true, true, true, false, true, true, true, true, false, false, true, false, false] rfl rfl ?_
             refine tk8_ 7 (some 50) #[true, true, true, true, true, true, true, true, true, true, true, true, false, false, true, false, false] rfl rfl ?_
             refine tk8_ 12 (some 55) #[true, true, true, true, true, true, true, true, true, true, true, true, true, false, true, false, false] rfl rfl ?_
             refine pu_ 13 (some 56) #[true, true, true, true, true, true, true, true, true, true, true, true, true, true, true, false, false] rfl rfl ?_
             refine one_ (i := 15) (N := some 58) #[true, true, true, true, true, true, true, true, true, true, true, true, true, true, true, true, false] rfl rfl (one_of HT_.out (by kernel_rfl)) (by decide) (fun K hK => ?_)
             refine goes_ Try.func111 (by kernel_rfl) rfl #[.agg #[.int .i64 ((rd_T144 l0 x6_1).f2), .int .i64 ((rd_T144 l0 x6_1).f3)], .int .i64 a1] (by rfl) rfl rfl (by (try simp only [List.map_toArray, List.map_cons, List.map_nil]); first | done | rfl | (simp only [List.length_drop, List.length_take]; rfl)) ?_
             with_reducible refine (spec_InSpan.calls ((rd_T144 l0 x6_1).f2) ((rd_T144 l0 x6_1).f3) a1 true _ A23.out).mono ?_
             rintro e w28 ⟨rfl, hb⟩
             refine ⟨_, rfl, ?_⟩
             have n0_ := aM_ (rB_ (rb_ HO_5.out) hb); have n1_ := aM_ (bB_ (kb_ BK207.out) hb); have n2_ := aM_ (wS_ (bw_) hb); clear HO_5 BK207 HB; have HO_5 := n0_; have BK207 := n1_; have HB := n2_; clear n0_ n1_ n2_; (try clear hb); (try clear hb2); (try clear hk); (try clear hi)
             refine hK.out _ _ ⟨((HB.out.cell (World.block_lt_of_cell? w _ hw209_0)).trans hw209_0), ((HB.out.cell (World.block_lt_of_cell? w _ hw209_1)).trans hw209_1), ((HB.out.cell (World.block_lt_of_cell? w _ hw209_2)).trans hw209_2), ((HB.out.cell (World.block_lt_of_cell? w _ hw209_3)).trans hw209_3), ((HB.out.cell (World.block_lt_of_cell? w _ hw210_0)).trans hw210_0), ((HB.out.cell (World.block_lt_of_cell? w _ hw210_1)).trans hw210_1), ((HB.out.cell (World.block_lt_of_cell? w _ hw210_2)).trans hw210_2), ((HB.out.cell (World.block_lt_of_cell? w _ hw210_3)).trans hw210_3)⟩ (fun hHeld => ?_)
             clear hK K
             refine norm_ (a' := ?_) ?_ ?_
             rotate_left
             ·show Act.put _ (some 58) _ = _
              simp only [Act.put, List.setIfInBounds_toArray, List.set_cons_zero, List.set_cons_succ, i64_w, i32_w]
              rfl
             refine pu_ 16 (some 59) #[true, true, true, true, true, true, true, true, true, true, true, true, true, true, true, true, true] rfl rfl ?_
             refine done_ (done_of HT_.out (by kernel_rfl)) ?_
             have hcz29_0 : w28.cell? ⟨gb207, 0, none⟩ = some (.int .i64 ((rd_T144 l0 x6_1).f0)) := (blk_cell BK207.out 0).trans rfl
             have hcz29_1 : w28.cell? ⟨gb207, 1, none⟩ = some (.int .i64 ((rd_T144 l0 x6_1).f1)) := (blk_cell BK207.out 1).trans rfl
             have hfz29_0 := blk_frozen BK207.out 0; have hfz29_1 := blk_frozen BK207.out 1
             try go_wp2_with (first | ((with_reducible refine gate_builtin (b := .append) (xs := #[.tmp 60, .tmp 62]) rfl ?_); at_builtin; refine Kd.R_append k123 (w0 := w) w.heap.size rfl (.tmp 60) (.tmp 62) 100 123 (.agg #[(.int .i64 0), (.int .i64 0)]) 16 rfl Try.underlying100 info123 rfl (by decide) (by omega) (.slice Ao26 x5_1.length co26) x5_1 (⟨((rd_T144 l0 x6_1).f0), ((rd_T144 l0 x6_1).f1)⟩ : S123) [.int .i64 ((rd_T144 l0 x6_1).f0), .int .i64 ((rd_T144 l0 x6_1).f1)] (fun k_ => k_ ≠ gb207) (fun _ => False) rfl rfl ?aP (fun _ hk => hk.elim) ?aF ?aO ?aB ?aS ?aL ?_; (case aP => exact k123_mkM _ _ _ (⟨((rd_T144 l0 x6_1).f0), ((rd_T144 l0 x6_1).f1)⟩ : S123)); (case aB => exact (bw_)); (case aF => exact (fun k_ hk => Kd.freshB (kb_ BK207.out) k_ hk)); (case aO => exact (rb_ HO_5.out)); (case aS => exact (sZ_ (bw_))); (case aL => have := LMc25.out; omega); intro v213 w30 ho hb hg hat; rw [← Ny212.out] at ho; have n0_ := aM_ (blk_grown (kb_ BK207.out) hg (Kd.R_away HO_5.out (fun _ hk => hk))); have n1_ := aM_ (hb); have n2_ := aM_ (ho); clear BK207 HB HO_5; have BK207 := n0_; have HB := n1_; have HO214 := n2_; clear n0_ n1_ n2_ ho hb hg hat))
             go_roundg k2
             case measure => have := HK1.out; have := HK2.out; omega
             case rel => exact ⟨(y212), (wrap64 (x6_1 + 1)), (by first | rfl | (simp; done) | (simp [*]; done)), H', ⟨by have := HK1.out; have := HK2.out; omega⟩, ⟨by (with_reducible repeat (first | apply rA_ | apply rN_ | apply rD_)); exact Kd.R_mono HO214.out (fun _ hk => trivial)⟩, ⟨bw_⟩⟩
            ·rw [if_neg c25] at H
             exact absurd H (by simp)
           ·replace c24 := Bool.eq_false_iff.mpr c24
            subst c24
            have H1 : (spec_LinksAt.l0 k2 l0 a1 x5_1 (wrap64 (x6_1 + 1))) = some r := by rw [if_neg (show ¬ (false = true) by decide)] at H; exact H
            clear H; have H := H1; clear H1
            have H' := aM_ H
            clear H
            obtain ⟨Ao31, co31, eo31⟩ := Kd.R_slice HO_5.out
            subst eo31
            try go_wp2
            have n0_ := aM_ (rD_ HO_5.out); have n1_ := aM_ (bD_ BK207.out); have n2_ := aM_ (wD_ HB.out); clear HO_5 BK207 HB; have HO_5 := n0_; have BK207 := n1_; have HB := n2_; clear n0_ n1_ n2_
            have p209 : 0 ≤ (x6_1 : Int) := dT_
            have q209 : x6_1 < (l0.length : Int) := dT_
            obtain ⟨ad209, e209, hx209_0, hx209_1, hx209_2, hx209_3⟩ := at_T144 HR0.out x6_1 p209 q209
            have hw209_3 := hx209_3; have hw209_2 := hx209_2; have hw209_1 := hx209_1; have hw209_0 := hx209_0
            obtain rfl : ad205 = ad209 := (by injection e209)
            replace hx209_0 := (HB.out.cell (World.block_lt_of_cell? w _ hx209_0)).trans hx209_0
            replace hx209_1 := (HB.out.cell (World.block_lt_of_cell? w _ hx209_1)).trans hx209_1
            replace hx209_2 := (HB.out.cell (World.block_lt_of_cell? w _ hx209_2)).trans hx209_2
            replace hx209_3 := (HB.out.cell (World.block_lt_of_cell? w _ hx209_3)).trans hx209_3
            replace p209 := eq_true p209; replace q209 := eq_true q209
            have p210 : 0 ≤ (x6_1 : Int) := dT_
            have q210 : x6_1 < (l0.length : Int) := dT_
            obtain ⟨ad210, e210, hx210_0, hx210_1, hx210_2, hx210_3⟩ := at_T144 HR0.out x6_1 p210 q210
            have hw210_3 := hx210_3; have hw210_2 := hx210_2; have hw210_1 := hx210_1; have hw210_0 := hx210_0
            obtain rfl : ad205 = ad210 := (by injection e210)
            replace hx210_0 := (HB.out.cell (World.block_lt_of_cell? w _ hx210_0)).trans hx210_0
            replace hx210_1 := (HB.out.cell (World.block_lt_of_cell? w _ hx210_1)).trans hx210_1
            replace hx210_2 := (HB.out.cell (World.block_lt_of_cell? w _ hx210_2)).trans hx210_2
            replace hx210_3 := (HB.out.cell (World.block_lt_of_cell? w _ hx210_3)).trans hx210_3
            replace p210 := eq_true p210; replace q210 := eq_true q210
            refine start_ (n := 17) (S := fun w' => w'.cell? (ad205.add ((x6_1).toNat * 4)) = some (.int .i64 ((rd_T144 l0 x6_1).f0)) ∧ w'.cell? ⟨(ad205.add ((x6_1).toNat * 4)).block, (ad205.add ((x6_1).toNat * 4)).off + 1, none⟩ = some (.int .i64 ((rd_T144 l0 x6_1).f1)) ∧ w'.cell? ⟨(ad205.add ((x6_1).toNat * 4)).block, (ad205.add ((x6_1).toNat * 4)).off + 2, none⟩ = some (.int .i64 ((rd_T144 l0 x6_1).f2)) ∧ w'.cell? ⟨(ad205.add ((x6_1).toNat * 4)).block, (ad205.add ((x6_1).toNat * 4)).off + 3, none⟩ = some (.int .i64 ((rd_T144 l0 x6_1).f3)) ∧ w'.cell? (ad205.add ((x6_1).toNat * 4)) = some (.int .i64 ((rd_T144 l0 x6_1).f0)) ∧ w'.cell? ⟨(ad205.add ((x6_1).toNat * 4)).block, (ad205.add ((x6_1).toNat * 4)).off + 1, none⟩ = some (.int .i64 ((rd_T144 l0 x6_1).f1)) ∧ w'.cell? ⟨(ad205.add ((x6_1).toNat * 4)).block, (ad205.add ((x6_1).toNat * 4)).off + 2, none⟩ = some (.int .i64 ((rd_T144 l0 x6_1).f2)) ∧ w'.cell? ⟨(ad205.add ((x6_1).toNat * 4)).block, (ad205.add ((x6_1).toNat * 4)).off + 3, none⟩ = some (.int .i64 ((rd_T144 l0 x6_1).f3))) (ds := []) #[false, false, false, false, false, false, false, false, false, false, false, false, false, false, false, false, false] (by kernel_rfl) rfl rfl ⟨((HB.out.cell (World.block_lt_of_cell? w _ hw209_0)).trans hw209_0), ((HB.out.cell (World.block_lt_of_cell? w _ hw209_1)).trans hw209_1), ((HB.out.cell (World.block_lt_of_cell? w _ hw209_2)).trans hw209_2), ((HB.out.cell (World.block_lt_of_cell? w _ hw209_3)).trans hw209_3), ((HB.out.cell (World.block_lt_of_cell? w _ hw210_0)).trans hw210_0), ((HB.out.cell (World.block_lt_of_cell? w _ hw210_1)).trans hw210_1), ((HB.out.cell (World.block_lt_of_cell? w _ hw210_2)).trans hw210_2), ((HB.out.cell (World.block_lt_of_cell? w _ hw210_3)).trans hw210_3)⟩ (fun hHeld => ?_); refine with_tabW spec_LinksAt.tab11 spec_LinksAt.bits11 (fun HT_ HW_ => ?_)
            generalize wr.drew = w32 at HO_5 BK207 HB hx209_0 hx209_1 hx209_2 hx209_3 hx210_0 hx210_1 hx210_2 hx210_3 hHeld ⊢
            refine pu_ 0 (some 43) #[true, false, false, false, false, false, false, false, false, false, false, false, false, false, false, false, false] rfl rfl ?_
            refine pu_ 1 (some 44) #[true, true, false, false, false, false, false, false, false, false, false, false, false, false, false, false, false] rfl rfl ?_
            refine pu_ 2 (some 45) #[true, true, true, false, false, false, false, false, false, false, false, false, false, false, false, false, false] rfl rfl ?_
            refine pu_ 3 (some 46) #[true, true, true, true, false, false, false, false, false, false, false, false, false, false, false, false, false] rfl rfl ?_
            refine pu_ 4 (some 47) #[true, true, true, true, true, false, false, false, false, false, false, false, false, false, false, false, false] rfl rfl ?_
            refine pu_ 5 (some 48) #[true, true, true, true, true, true, false, false, false, false, false, false, false, false, false, false, false] rfl rfl ?_
            refine pu_ 6 (some 49) #[true, true, true, true, true, true, true, false, false, false, false, false, false, false, false, false, false] rfl rfl ?_
            refine pu_ 8 (some 51) #[true, true, true, true, true, true, true, false, true, false, false, false, false, false, false, false, false] rfl rfl ?_
            refine pu_ 9 (some 52) #[true, true, true, true, true, true, true, false, true, true, false, false, false, false, false, false, false] rfl rfl ?_
            refine pu_ 10 (some 53) #[true, true, true, true, true, true, true, false, true, true, true, false, false, false, false, false, false] rfl rfl ?_
            refine pu_ 11 (some 54) #[true, true, true, true, true, true, true, false, true, true, true, true, false, false, false, false, false] rfl rfl ?_
            refine pu_ 14 (some 57) #[true, true, true, true, true, true, true, false, true, true, true, true, false, false, true, false, false] rfl rfl ?_
            refine tk8_ 7 (some 50) #[true, true, true, true, true, true, true, true, true, true, true, true, false, false, true, false, false] rfl rfl ?_
            refine tk8_ 12 (some 55) #[true, true, true, true, true, true, true, true, true, true, true, true, true, false, true, false, false] rfl rfl ?_
            refine pu_ 13 (some 56) #[true, true, true, true, true, true, true, true, true, true, true, true, true, true, true, false, false] rfl rfl ?_
            refine one_ (i := 15) (N := some 58) #[true, true, true, true, true, true, true, true, true, true, true, true, true, true, true, true, false] rfl rfl (one_of HT_.out (by kernel_rfl)) (by decide) (fun K hK => ?_)
            refine goes_ Try.func111 (by kernel_rfl) rfl #[.agg #[.int .i64 ((rd_T144 l0 x6_1).f2), .int .i64 ((rd_T144 l0 x6_1).f3)], .int .i64 a1] (by rfl) rfl rfl (by (try simp only [List.map_toArray, List.map_cons, List.map_nil]); first | done | rfl | (simp only [List.length_drop, List.length_take]; rfl)) ?_
            with_reducible refine (spec_InSpan.calls ((rd_T144 l0 x6_1).f2) ((rd_T144 l0 x6_1).f3) a1 false _ A23.out).mono ?_
            rintro e w33 ⟨rfl, hb⟩
            refine ⟨_, rfl, ?_⟩
            have n0_ := aM_ (rB_ (rb_ HO_5.out) hb); have n1_ := aM_ (bB_ (kb_ BK207.out) hb); have n2_ := aM_ (wS_ (bw_) hb); clear HO_5 BK207 HB; have HO_5 := n0_; have BK207 := n1_; have HB := n2_; clear n0_ n1_ n2_; (try clear hb); (try clear hb2); (try clear hk); (try clear hi)
            refine hK.out _ _ ⟨((HB.out.cell (World.block_lt_of_cell? w _ hw209_0)).trans hw209_0), ((HB.out.cell (World.block_lt_of_cell? w _ hw209_1)).trans hw209_1), ((HB.out.cell (World.block_lt_of_cell? w _ hw209_2)).trans hw209_2), ((HB.out.cell (World.block_lt_of_cell? w _ hw209_3)).trans hw209_3), ((HB.out.cell (World.block_lt_of_cell? w _ hw210_0)).trans hw210_0), ((HB.out.cell (World.block_lt_of_cell? w _ hw210_1)).trans hw210_1), ((HB.out.cell (World.block_lt_of_cell? w _ hw210_2)).trans hw210_2), ((HB.out.cell (World.block_lt_of_cell? w _ hw210_3)).trans hw210_3)⟩ (fun hHeld => ?_)
            clear hK K
            refine norm_ (a' := ?_) ?_ ?_
            rotate_left
            ·show Act.put _ (some 58) _ = _
             simp only [Act.put, List.setIfInBounds_toArray, List.set_cons_zero, List.set_cons_succ, i64_w, i32_w]
             rfl
            refine pu_ 16 (some 59) #[true, true, true, true, true, true, true, true, true, true, true, true, true, true, true, true, true] rfl rfl ?_
            refine done_ (done_of HT_.out (by kernel_rfl)) ?_
            try go_wp2
            go_roundg k2
            case measure => have := HK1.out; have := HK2.out; omega
            case rel => exact ⟨(x5_1), (wrap64 (x6_1 + 1)), (by first | rfl | (simp; done) | (simp [*]; done)), H', ⟨by have := HK1.out; have := HK2.out; omega⟩, ⟨by (with_reducible repeat (first | apply rA_ | apply rN_ | apply rD_)); exact Kd.R_mono HO_5.out (fun _ hk => trivial)⟩, ⟨bw_⟩⟩
          ·rw [if_neg c22] at H
           exact absurd H (by simp)
         ·rw [if_neg c21] at H
          exact absurd H (by simp)
    ·rw [if_neg c6] at H
     exact absurd H (by simp)
   ·rw [if_neg c5] at H
    have c5b0 : decide (x6_1 < (l0.length : Int)) = false := decide_eq_false c5
    clear c5
    obtain rfl := Option.some.inj H
    go_wp2
    go_ret
    exact ⟨_, by first | rfl | (simp [errW_none, errW_some] <;> rfl) | (simp [*, errW_none, errW_some] <;> rfl), by (with_reducible repeat (first | apply rA_ | apply rN_ | apply rD_)); exact HO_5.out, bw_⟩

end Go.Proofs.Ytdodogkgmpaioaa.PFnReach
