/- The functions that the law reaches, as plain Lean functions, each with the proof that the Go code comes to its answers; conditions: those that each theorem names. (printed by a program of this session) -/
import Derived.Test.YtdodogkgmpaioaaPFnReachx0
import Derived.Test.YtdodogkgmpaioaaPFnReachx6
namespace Go.Proofs.Ytdodogkgmpaioaa.PFnReach
open Go.RowKit Go.Proofs.YtdodogkgmpaioaaW.PrintWords Go.Proofs.YtdodogkgmpaioaaW.PrintLast Go.Proofs.YtdodogkgmpaioaaW.PrintMore
attribute [local go_sem] max2_int min2_int max_two min_two max_three min_three max_four min_four   -- for this text's walks alone
set_option linter.unusedVariables false
set_option linter.unusedSimpArgs false

/-! ### spec_IsPlan: function 113 -/
def spec_IsPlan.l0 : Nat → List (S144) → Int → Int → Option (Bool)
  | 0, _, _, _ => none
  | k + 1, x0, x1, x5 => if x5 < (x0.length : Int) then (if 0 ≤ x5 then ((spec_IsContact.f ((rd_T144 x0 x5).f0) ((rd_T144 x0 x5).f1) ((rd_T144 x0 x5).f2) ((rd_T144 x0 x5).f3) x1).bind fun t198 => (if t198 = true then (if x5 > 0 then (if 0 ≤ (wrap64 (x5 - 1)) then (if (wrap64 (x5 - 1)) < (x0.length : Int) then ((spec_l11Before.f ((rd_T144 x0 (wrap64 (x5 - 1))).f0) ((rd_T144 x0 (wrap64 (x5 - 1))).f1) ((rd_T144 x0 (wrap64 (x5 - 1))).f2) ((rd_T144 x0 (wrap64 (x5 - 1))).f3) ((rd_T144 x0 x5).f0) ((rd_T144 x0 x5).f1) ((rd_T144 x0 x5).f2) ((rd_T144 x0 x5).f3)).bind fun t201 => (if t201 = true then (spec_IsPlan.l0 k x0 x1 (wrap64 (x5 + 1))) else (some false))) else (none)) else (none)) else (spec_IsPlan.l0 k x0 x1 (wrap64 (x5 + 1)))) else (some false))) else (none)) else (some true)
def spec_IsPlan.f (k : Nat) (l0 : List (S144)) (a1 : Int) : Option (Bool) := spec_IsPlan.l0 k l0 a1 0
def spec_IsPlan.T4 : Bool × List (List Nat × List Nat) := (true, [([], []), ([], []), ([0, 1], [0, 1]), ([2], [2]), ([], []), ([3, 4], [3, 4]), ([5], [5]), ([6, 5], [6]), ([7], [7]), ([8, 7], [7, 8]), ([9, 7, 7], [7, 9]), ([10], [10]), ([10], [10]), ([12, 10], [10, 12]), ([11, 13, 10], [10, 11, 13]), ([14, 10], [10, 14]), ([10], [10]), ([10], [10]), ([16, 17, 10], [10, 16, 17]), ([18, 10], [10, 18]), ([15, 19, 10, 10], [10, 15, 19]), ([20, 10], [10, 20]), ([10, 21, 7], [7, 10, 21]), ([7, 22], [7, 22])])
def spec_IsPlan.B4 : List Nat := [0, 0, 3, 7, 0, 31, 63, 127, 255, 511, 1023, 2047, 2047, 6143, 16383, 32767, 2047, 2047, 198655, 460799, 1048575, 2097151, 4194303, 8388607]
theorem spec_IsPlan.tab4 : rtab .any (opsOf Try.f113 4) = spec_IsPlan.T4 := by kernel_rfl
theorem spec_IsPlan.bits4 : waitsOk spec_IsPlan.T4.2 spec_IsPlan.B4 = true := by kernel_rfl
set_option maxHeartbeats 8000000 in
set_option maxRecDepth 100000 in
theorem spec_IsPlan.calls (k : Nat) (A0 : Option Addr) (c0 : Nat) (l0 : List (S144)) (a1 : Int) (r : Bool) (w : World) (hr0 : Kd.C k144 w A0 l0.length l0) (hc0 : l0.length ≤ c0) (h : spec_IsPlan.f k l0 a1 = some r) :
  Calls Try.prog 113 #[.slice A0 l0.length c0, .int .i64 a1] w fun e w' => e = .returned (.bool r) ∧ Below w.heap.size w w' := by
 have hu144 := Try.underlying144; have HR0 := aM_ hr0; have HC0 := aM_ hc0; clear hr0 hc0; have HB := aM_ (Below.refl w.heap.size w)
 have H : (spec_IsPlan.l0 k l0 a1 0) = some r := h
 clear h
 have H' := aM_ H
 clear H
 go_enter Try.func113, Try.ntmps113
 go_wp2
 go_loopg [5] k (fun kq v5 w' => ∃ (x5_1 : Int), v5 = .int .i64 x5_1 ∧ Aside0 (spec_IsPlan.l0 kq l0 a1 x5_1 = some r) ∧ Aside0 (kq ≤ k) ∧ Aside0 (Below w.heap.size w w'))
 case atStart => exact ⟨(0), (by first | rfl | (simp; done) | (simp [*]; done)), H', ⟨Nat.le_refl _⟩, ⟨bw_⟩⟩
 case round =>
  clear H'
  obtain ⟨x5_1, rfl, HA, HK1, HB⟩ := hrel
  cases gk with
  | zero => exact absurd HA.out (by simp [spec_IsPlan.l0])
  | succ k1 =>
   have H := HA.out; clear HA
   simp only [spec_IsPlan.l0] at H
   by_cases c3 : x5_1 < (l0.length : Int)
   ·rw [if_pos c3] at H
    have c3b0 : decide (x5_1 < (l0.length : Int)) = true := decide_eq_true c3
    clear c3
    by_cases c4 : 0 ≤ x5_1
    ·rw [if_pos c4] at H
     have c4b0 : decide (0 ≤ x5_1) = true := decide_eq_true c4
     clear c4
     replace H := Option.bind_eq_some_iff.mp H
     obtain ⟨t198, A50, H⟩ := H
     (try dsimp only at H)
     have A5 := aM_ A50; clear A50
     by_cases c6 : t198 = true
     ·subst c6
      have H1 : (if x5_1 > 0 then (if 0 ≤ (wrap64 (x5_1 - 1)) then (if (wrap64 (x5_1 - 1)) < (l0.length : Int) then ((spec_l11Before.f ((rd_T144 l0 (wrap64 (x5_1 - 1))).f0) ((rd_T144 l0 (wrap64 (x5_1 - 1))).f1) ((rd_T144 l0 (wrap64 (x5_1 - 1))).f2) ((rd_T144 l0 (wrap64 (x5_1 - 1))).f3) ((rd_T144 l0 x5_1).f0) ((rd_T144 l0 x5_1).f1) ((rd_T144 l0 x5_1).f2) ((rd_T144 l0 x5_1).f3)).bind fun t201 => (if t201 = true then (spec_IsPlan.l0 k1 l0 a1 (wrap64 (x5_1 + 1))) else (some false))) else (none)) else (none)) else (spec_IsPlan.l0 k1 l0 a1 (wrap64 (x5_1 + 1)))) = some r := by rw [if_pos rfl] at H; exact H
      clear H; have H := H1; clear H1
      by_cases c7 : x5_1 > 0
      ·rw [if_pos c7] at H
       have c7b0 : decide (0 < x5_1) = true := decide_eq_true c7
       clear c7
       obtain ⟨ji8, hji8⟩ : ∃ j_ : Int, (wrap64 (x5_1 - 1)) = j_ := ⟨_, rfl⟩
       replace H : (if 0 ≤ (ji8) then (if (ji8) < (l0.length : Int) then ((spec_l11Before.f ((rd_T144 l0 (ji8)).f0) ((rd_T144 l0 (ji8)).f1) ((rd_T144 l0 (ji8)).f2) ((rd_T144 l0 (ji8)).f3) ((rd_T144 l0 x5_1).f0) ((rd_T144 l0 x5_1).f1) ((rd_T144 l0 x5_1).f2) ((rd_T144 l0 x5_1).f3)).bind fun t201 => (if t201 = true then (spec_IsPlan.l0 k1 l0 a1 (wrap64 (x5_1 + 1))) else (some false))) else (none)) else (none)) = some r := by first | (rw [hji8] at H; exact H) | (simp only [hji8] at H ⊢; exact H)
       (try rw [hji8] at A5)
       have hji8w : (IntKind.i64.wrap (x5_1 - 1)) = ji8 := (i64_w _).trans hji8
       by_cases c9 : 0 ≤ (ji8)
       ·rw [if_pos c9] at H
        have c9b0 : decide (0 ≤ (ji8)) = true := decide_eq_true c9
        clear c9
        by_cases c10 : (ji8) < (l0.length : Int)
        ·rw [if_pos c10] at H
         have c10b0 : decide ((ji8) < (l0.length : Int)) = true := decide_eq_true c10
         clear c10
         replace H := Option.bind_eq_some_iff.mp H
         obtain ⟨t201, A110, H⟩ := H
         (try dsimp only at H)
         have A11 := aM_ A110; clear A110
         by_cases c12 : t201 = true
         ·subst c12
          have H1 : (spec_IsPlan.l0 k1 l0 a1 (wrap64 (x5_1 + 1))) = some r := by rw [if_pos rfl] at H; exact H
          clear H; have H := H1; clear H1
          have H' := aM_ H
          clear H
          try go_wp2
          have n0_ := aM_ (wD_ HB.out); clear HB; have HB := n0_; clear n0_
          have p197 : 0 ≤ (x5_1 : Int) := dT_
          have q197 : x5_1 < (l0.length : Int) := dT_
          obtain ⟨ad197, e197, hx197_0, hx197_1, hx197_2, hx197_3⟩ := at_T144 HR0.out x5_1 p197 q197
          have hw197_3 := hx197_3; have hw197_2 := hx197_2; have hw197_1 := hx197_1; have hw197_0 := hx197_0
          cases e197
          replace hx197_0 := (HB.out.cell (World.block_lt_of_cell? w _ hx197_0)).trans hx197_0
          replace hx197_1 := (HB.out.cell (World.block_lt_of_cell? w _ hx197_1)).trans hx197_1
          replace hx197_2 := (HB.out.cell (World.block_lt_of_cell? w _ hx197_2)).trans hx197_2
          replace hx197_3 := (HB.out.cell (World.block_lt_of_cell? w _ hx197_3)).trans hx197_3
          replace p197 := eq_true p197; replace q197 := eq_true q197
          have p199 : 0 ≤ ((ji8) : Int) := dT_
          have q199 : (ji8) < (l0.length : Int) := dT_
          obtain ⟨ad199, e199, hx199_0, hx199_1, hx199_2, hx199_3⟩ := at_T144 HR0.out (ji8) p199 q199
          have hw199_3 := hx199_3; have hw199_2 := hx199_2; have hw199_1 := hx199_1; have hw199_0 := hx199_0
          obtain rfl : ad197 = ad199 := (by injection e199)
          replace hx199_0 := (HB.out.cell (World.block_lt_of_cell? w _ hx199_0)).trans hx199_0
          replace hx199_1 := (HB.out.cell (World.block_lt_of_cell? w _ hx199_1)).trans hx199_1
          replace hx199_2 := (HB.out.cell (World.block_lt_of_cell? w _ hx199_2)).trans hx199_2
          replace hx199_3 := (HB.out.cell (World.block_lt_of_cell? w _ hx199_3)).trans hx199_3
          replace p199 := eq_true p199; replace q199 := eq_true q199
          have p200 : 0 ≤ (x5_1 : Int) := dT_
          have q200 : x5_1 < (l0.length : Int) := dT_
          obtain ⟨ad200, e200, hx200_0, hx200_1, hx200_2, hx200_3⟩ := at_T144 HR0.out x5_1 p200 q200
          have hw200_3 := hx200_3; have hw200_2 := hx200_2; have hw200_1 := hx200_1; have hw200_0 := hx200_0
          obtain rfl : ad197 = ad200 := (by injection e200)
          replace hx200_0 := (HB.out.cell (World.block_lt_of_cell? w _ hx200_0)).trans hx200_0
          replace hx200_1 := (HB.out.cell (World.block_lt_of_cell? w _ hx200_1)).trans hx200_1
          replace hx200_2 := (HB.out.cell (World.block_lt_of_cell? w _ hx200_2)).trans hx200_2
          replace hx200_3 := (HB.out.cell (World.block_lt_of_cell? w _ hx200_3)).trans hx200_3
          replace p200 := eq_true p200; replace q200 := eq_true q200
          refine start_ (n := 24) (S := fun w' => w'.cell? (ad197.add ((x5_1).toNat * 4)) = some (.int .i64 ((rd_T144 l0 x5_1).f0)) ∧ w'.cell? ⟨(ad197.add ((x5_1).toNat * 4)).block, (ad197.add ((x5_1).toNat * 4)).off + 1, none⟩ = some (.int .i64 ((rd_T144 l0 x5_1).f1)) ∧ w'.cell? ⟨(ad197.add ((x5_1).toNat * 4)).block, (ad197.add ((x5_1).toNat * 4)).off + 2, none⟩ = some (.int .i64 ((rd_T144 l0 x5_1).f2)) ∧ w'.cell? ⟨(ad197.add ((x5_1).toNat * 4)).block, (ad197.add ((x5_1).toNat * 4)).off + 3, none⟩ = some (.int .i64 ((rd_T144 l0 x5_1).f3)) ∧ w'.cell? (ad197.add (((ji8)).toNat * 4)) = some (.int .i64 ((rd_T144 l0 (ji8)).f0)) ∧ w'.cell? ⟨(ad197.add (((ji8)).toNat * 4)).block, (ad197.add (((ji8)).toNat * 4)).off + 1, none⟩ = some (.int .i64 ((rd_T144 l0 (ji8)).f1)) ∧ w'.cell? ⟨(ad197.add (((ji8)).toNat * 4)).block, (ad197.add (((ji8)).toNat * 4)).off + 2, none⟩ = some (.int .i64 ((rd_T144 l0 (ji8)).f2)) ∧ w'.cell? ⟨(ad197.add (((ji8)).toNat * 4)).block, (ad197.add (((ji8)).toNat * 4)).off + 3, none⟩ = some (.int .i64 ((rd_T144 l0 (ji8)).f3)) ∧ w'.cell? (ad197.add ((x5_1).toNat * 4)) = some (.int .i64 ((rd_T144 l0 x5_1).f0)) ∧ w'.cell? ⟨(ad197.add ((x5_1).toNat * 4)).block, (ad197.add ((x5_1).toNat * 4)).off + 1, none⟩ = some (.int .i64 ((rd_T144 l0 x5_1).f1)) ∧ w'.cell? ⟨(ad197.add ((x5_1).toNat * 4)).block, (ad197.add ((x5_1).toNat * 4)).off + 2, none⟩ = some (.int .i64 ((rd_T144 l0 x5_1).f2)) ∧ w'.cell? ⟨(ad197.add ((x5_1).toNat * 4)).block, (ad197.add ((x5_1).toNat * 4)).off + 3, none⟩ = some (.int .i64 ((rd_T144 l0 x5_1).f3))) (ds := []) #[false, false, false, false, false, false, false, false, false, false, false, false, false, false, false, false, false, false, false, false, false, false, false, false] (by kernel_rfl) rfl rfl ⟨((HB.out.cell (World.block_lt_of_cell? w _ hw197_0)).trans hw197_0), ((HB.out.cell (World.block_lt_of_cell? w _ hw197_1)).trans hw197_1), ((HB.out.cell (World.block_lt_of_cell? w _ hw197_2)).trans hw197_2), ((HB.out.cell (World.block_lt_of_cell? w _ hw197_3)).trans hw197_3), ((HB.out.cell (World.block_lt_of_cell? w _ hw199_0)).trans hw199_0), ((HB.out.cell (World.block_lt_of_cell? w _ hw199_1)).trans hw199_1), ((HB.out.cell (World.block_lt_of_cell? w _ hw199_2)).trans hw199_2), ((HB.out.cell (World.block_lt_of_cell? w _ hw199_3)).trans hw199_3), ((HB.out.cell (World.block_lt_of_cell? w _ hw200_0)).trans hw200_0), ((HB.out.cell (World.block_lt_of_cell? w _ hw200_1)).trans hw200_1), ((HB.out.cell (World.block_lt_of_cell? w _ hw200_2)).trans hw200_2), ((HB.out.cell (World.block_lt_of_cell? w _ hw200_3)).trans hw200_3)⟩ (fun hHeld => ?_); refine with_tabW spec_IsPlan.tab4 spec_IsPlan.bits4 (fun HT_ HW_ => ?_)
          generalize wr.drew = w13 at HB hx197_0 hx197_1 hx197_2 hx197_3 hx199_0 hx199_1 hx199_2 hx199_3 hx200_0 hx200_1 hx200_2 hx200_3 hHeld ⊢
          refine pu_ 0 (some 12) #[true, false, false, false, false, false, false, false, false, false, false, false, false, false, false, false, false, false, false, false, false, false, false, false] rfl rfl ?_
          refine pu_ 1 (some 13) #[true, true, false, false, false, false, false, false, false, false, false, false, false, false, false, false, false, false, false, false, false, false, false, false] rfl rfl ?_
          refine pu_ 2 (some 14) #[true, true, true, false, false, false, false, false, false, false, false, false, false, false, false, false, false, false, false, false, false, false, false, false] rfl rfl ?_
          refine pu_ 4 (some 16) #[true, true, true, false, true, false, false, false, false, false, false, false, false, false, false, false, false, false, false, false, false, false, false, false] rfl rfl ?_
          refine tk12_ 3 (some 15) #[true, true, true, true, true, false, false, false, false, false, false, false, false, false, false, false, false, false, false, false, false, false, false, false] rfl rfl ?_
          refine one_ (i := 5) (N := some 17) #[true, true, true, true, true, true, false, false, false, false, false, false, false, false, false, false, false, false, false, false, false, false, false, false] rfl rfl (one_of HT_.out (by kernel_rfl)) (by decide) (fun K hK => ?_)
          refine goes_ Try.func128 (by kernel_rfl) rfl #[.agg #[.int .i64 ((rd_T144 l0 x5_1).f0), .int .i64 ((rd_T144 l0 x5_1).f1), .int .i64 ((rd_T144 l0 x5_1).f2), .int .i64 ((rd_T144 l0 x5_1).f3)], .int .i64 a1] (by rfl) rfl rfl (by (try simp only [List.map_toArray, List.map_cons, List.map_nil]); first | done | rfl | (simp only [List.length_drop, List.length_take]; rfl)) ?_
          with_reducible refine (spec_IsContact.calls ((rd_T144 l0 x5_1).f0) ((rd_T144 l0 x5_1).f1) ((rd_T144 l0 x5_1).f2) ((rd_T144 l0 x5_1).f3) a1 true _ A5.out).mono ?_
          rintro e w14 ⟨rfl, hb⟩
          refine ⟨_, rfl, ?_⟩
          have n0_ := aM_ (wS_ (bw_) hb); clear HB; have HB := n0_; clear n0_; (try clear hb); (try clear hb2); (try clear hk); (try clear hi)
          refine hK.out _ _ ⟨((HB.out.cell (World.block_lt_of_cell? w _ hw197_0)).trans hw197_0), ((HB.out.cell (World.block_lt_of_cell? w _ hw197_1)).trans hw197_1), ((HB.out.cell (World.block_lt_of_cell? w _ hw197_2)).trans hw197_2), ((HB.out.cell (World.block_lt_of_cell? w _ hw197_3)).trans hw197_3), ((HB.out.cell (World.block_lt_of_cell? w _ hw199_0)).trans hw199_0), ((HB.out.cell (World.block_lt_of_cell? w _ hw199_1)).trans hw199_1), ((HB.out.cell (World.block_lt_of_cell? w _ hw199_2)).trans hw199_2), ((HB.out.cell (World.block_lt_of_cell? w _ hw199_3)).trans hw199_3), ((HB.out.cell (World.block_lt_of_cell? w _ hw200_0)).trans hw200_0), ((HB.out.cell (World.block_lt_of_cell? w _ hw200_1)).trans hw200_1), ((HB.out.cell (World.block_lt_of_cell? w _ hw200_2)).trans hw200_2), ((HB.out.cell (World.block_lt_of_cell? w _ hw200_3)).trans hw200_3)⟩ (fun hHeld => ?_)
          clear hK K
          refine norm_ (a' := ?_) ?_ ?_
          rotate_left
          ·show Act.put _ (some 17) _ = _
           simp only [Act.put, List.setIfInBounds_toArray, List.set_cons_zero, List.set_cons_succ, i64_w, i32_w]
           rfl
          refine pu_ 6 (some 18) #[true, true, true, true, true, true, true, false, false, false, false, false, false, false, false, false, false, false, false, false, false, false, false, false] rfl rfl ?_
          refine pu_ 7 (some 19) #[true, true, true, true, true, true, true, true, false, false, false, false, false, false, false, false, false, false, false, false, false, false, false, false] rfl rfl ?_
          refine pu_ 8 (some 20) #[true, true, true, true, true, true, true, true, true, false, false, false, false, false, false, false, false, false, false, false, false, false, false, false] rfl rfl ?_
          refine pu_ 9 (some 21) #[true, true, true, true, true, true, true, true, true, true, false, false, false, false, false, false, false, false, false, false, false, false, false, false] rfl rfl ?_
          refine pu_ 10 (some 22) #[true, true, true, true, true, true, true, true, true, true, true, false, false, false, false, false, false, false, false, false, false, false, false, false] rfl rfl ?_
          refine pu_ 11 (some 23) #[true, true, true, true, true, true, true, true, true, true, true, true, false, false, false, false, false, false, false, false, false, false, false, false] rfl rfl ?_
          refine pu_ 12 (some 24) #[true, true, true, true, true, true, true, true, true, true, true, true, true, false, false, false, false, false, false, false, false, false, false, false] rfl rfl ?_
          refine pu_ 13 (some 25) #[true, true, true, true, true, true, true, true, true, true, true, true, true, true, false, false, false, false, false, false, false, false, false, false] rfl rfl ?_
          refine pu_ 14 (some 26) #[true, true, true, true, true, true, true, true, true, true, true, true, true, true, true, false, false, false, false, false, false, false, false, false] rfl rfl ?_
          refine pu_ 16 (some 28) #[true, true, true, true, true, true, true, true, true, true, true, true, true, true, true, false, true, false, false, false, false, false, false, false] rfl rfl ?_
          refine pu_ 17 (some 29) #[true, true, true, true, true, true, true, true, true, true, true, true, true, true, true, false, true, true, false, false, false, false, false, false] rfl rfl ?_
          refine pu_ 18 (some 30) #[true, true, true, true, true, true, true, true, true, true, true, true, true, true, true, false, true, true, true, false, false, false, false, false] rfl rfl ?_
          refine tk12_ 15 (some 27) #[true, true, true, true, true, true, true, true, true, true, true, true, true, true, true, true, true, true, true, false, false, false, false, false] rfl rfl ?_
          refine tk12_ 19 (some 31) #[true, true, true, true, true, true, true, true, true, true, true, true, true, true, true, true, true, true, true, true, false, false, false, false] rfl rfl ?_
          refine one_ (i := 20) (N := some 32) #[true, true, true, true, true, true, true, true, true, true, true, true, true, true, true, true, true, true, true, true, true, false, false, false] rfl rfl (one_of HT_.out (by kernel_rfl)) (by decide) (fun K hK => ?_)
          refine goes_ Try.func129 (by kernel_rfl) rfl #[.agg #[.int .i64 ((rd_T144 l0 (ji8)).f0), .int .i64 ((rd_T144 l0 (ji8)).f1), .int .i64 ((rd_T144 l0 (ji8)).f2), .int .i64 ((rd_T144 l0 (ji8)).f3)], .agg #[.int .i64 ((rd_T144 l0 x5_1).f0), .int .i64 ((rd_T144 l0 x5_1).f1), .int .i64 ((rd_T144 l0 x5_1).f2), .int .i64 ((rd_T144 l0 x5_1).f3)]] (by rfl) rfl rfl (by (try simp only [List.map_toArray, List.map_cons, List.map_nil]); first | done | (simp only [hji8]; rfl) | rfl | (simp only [List.length_drop, List.length_take]; rfl)) ?_
          with_reducible refine (spec_l11Before.calls ((rd_T144 l0 (ji8)).f0) ((rd_T144 l0 (ji8)).f1) ((rd_T144 l0 (ji8)).f2) ((rd_T144 l0 (ji8)).f3) ((rd_T144 l0 x5_1).f0) ((rd_T144 l0 x5_1).f1) ((rd_T144 l0 x5_1).f2) ((rd_T144 l0 x5_1).f3) true _ A11.out).mono ?_
          rintro e w15 ⟨rfl, hb⟩
          refine ⟨_, rfl, ?_⟩
          have n0_ := aM_ (wS_ (bw_) hb); clear HB; have HB := n0_; clear n0_; (try clear hb); (try clear hb2); (try clear hk); (try clear hi)
          refine hK.out _ _ ⟨((HB.out.cell (World.block_lt_of_cell? w _ hw197_0)).trans hw197_0), ((HB.out.cell (World.block_lt_of_cell? w _ hw197_1)).trans hw197_1), ((HB.out.cell (World.block_lt_of_cell? w _ hw197_2)).trans hw197_2), ((HB.out.cell (World.block_lt_of_cell? w _ hw197_3)).trans hw197_3), ((HB.out.cell (World.block_lt_of_cell? w _ hw199_0)).trans hw199_0), ((HB.out.cell (World.block_lt_of_cell? w _ hw199_1)).trans hw199_1), ((HB.out.cell (World.block_lt_of_cell? w _ hw199_2)).trans hw199_2), ((HB.out.cell (World.block_lt_of_cell? w _ hw199_3)).trans hw199_3), ((HB.out.cell (World.block_lt_of_cell? w _ hw200_0)).trans hw200_0), ((HB.out.cell (World.block_lt_of_cell? w _ hw200_1)).trans hw200_1), ((HB.out.cell (World.block_lt_of_cell? w _ hw200_2)).trans hw200_2), ((HB.out.cell (World.block_lt_of_cell? w _ hw200_3)).trans hw200_3)⟩ (fun hHeld => ?_)
          clear hK K
          refine norm_ (a' := ?_) ?_ ?_
          rotate_left
          ·show Act.put _ (some 32) _ = _
           simp only [Act.put, List.setIfInBounds_toArray, List.set_cons_zero, List.set_cons_succ, i64_w, i32_w]
           rfl
          refine pu_ 21 (some 33) #[true, true, true, true, true, true, true, true, true, true, true, true, true, true, true, true, true, true, true, true, true, true, false, false] rfl rfl ?_
          refine pu_ 22 (some 34) #[true, true, true, true, true, true, true, true, true, true, true, true, true, true, true, true, true, true, true, true, true, true, true, false] rfl rfl ?_
          refine pu_ 23 (some 35) #[true, true, true, true, true, true, true, true, true, true, true, true, true, true, true, true, true, true, true, true, true, true, true, true] rfl rfl ?_
          refine done_ (done_of HT_.out (by kernel_rfl)) ?_
          try go_wp2
          go_roundg k1
          case measure => have := HK1.out; omega
          case rel => exact ⟨(wrap64 (x5_1 + 1)), (by first | rfl | (simp; done) | (simp [*]; done)), H', ⟨by have := HK1.out; omega⟩, ⟨bw_⟩⟩
         ·replace c12 := Bool.eq_false_iff.mpr c12
          subst c12
          have H1 : (some false) = some r := by rw [if_neg (show ¬ (false = true) by decide)] at H; exact H
          clear H; have H := H1; clear H1
          obtain rfl := Option.some.inj H
          try go_wp2
          have n0_ := aM_ (wD_ HB.out); clear HB; have HB := n0_; clear n0_
          have p197 : 0 ≤ (x5_1 : Int) := dT_
          have q197 : x5_1 < (l0.length : Int) := dT_
          obtain ⟨ad197, e197, hx197_0, hx197_1, hx197_2, hx197_3⟩ := at_T144 HR0.out x5_1 p197 q197
          have hw197_3 := hx197_3; have hw197_2 := hx197_2; have hw197_1 := hx197_1; have hw197_0 := hx197_0
          cases e197
          replace hx197_0 := (HB.out.cell (World.block_lt_of_cell? w _ hx197_0)).trans hx197_0
          replace hx197_1 := (HB.out.cell (World.block_lt_of_cell? w _ hx197_1)).trans hx197_1
          replace hx197_2 := (HB.out.cell (World.block_lt_of_cell? w _ hx197_2)).trans hx197_2
          replace hx197_3 := (HB.out.cell (World.block_lt_of_cell? w _ hx197_3)).trans hx197_3
          replace p197 := eq_true p197; replace q197 := eq_true q197
          have p199 : 0 ≤ ((ji8) : Int) := dT_
          have q199 : (ji8) < (l0.length : Int) := dT_
          obtain ⟨ad199, e199, hx199_0, hx199_1, hx199_2, hx199_3⟩ := at_T144 HR0.out (ji8) p199 q199
          have hw199_3 := hx199_3; have hw199_2 := hx199_2; have hw199_1 := hx199_1; have hw199_0 := hx199_0
          obtain rfl : ad197 = ad199 := (by injection e199)
          replace hx199_0 := (HB.out.cell (World.block_lt_of_cell? w _ hx199_0)).trans hx199_0
          replace hx199_1 := (HB.out.cell (World.block_lt_of_cell? w _ hx199_1)).trans hx199_1
          replace hx199_2 := (HB.out.cell (World.block_lt_of_cell? w _ hx199_2)).trans hx199_2
          replace hx199_3 := (HB.out.cell (World.block_lt_of_cell? w _ hx199_3)).trans hx199_3
          replace p199 := eq_true p199; replace q199 := eq_true q199
          have p200 : 0 ≤ (x5_1 : Int) := dT_
          have q200 : x5_1 < (l0.length : Int) := dT_
          obtain ⟨ad200, e200, hx200_0, hx200_1, hx200_2, hx200_3⟩ := at_T144 HR0.out x5_1 p200 q200
          have hw200_3 := hx200_3; have hw200_2 := hx200_2; have hw200_1 := hx200_1; have hw200_0 := hx200_0
          obtain rfl : ad197 = ad200 := (by injection e200)
          replace hx200_0 := (HB.out.cell (World.block_lt_of_cell? w _ hx200_0)).trans hx200_0
          replace hx200_1 := (HB.out.cell (World.block_lt_of_cell? w _ hx200_1)).trans hx200_1
          replace hx200_2 := (HB.out.cell (World.block_lt_of_cell? w _ hx200_2)).trans hx200_2
          replace hx200_3 := (HB.out.cell (World.block_lt_of_cell? w _ hx200_3)).trans hx200_3
          replace p200 := eq_true p200; replace q200 := eq_true q200
          refine start_ (n := 24) (S := fun w' => w'.cell? (ad197.add ((x5_1).toNat * 4)) = some (.int .i64 ((rd_T144 l0 x5_1).f0)) ∧ w'.cell? ⟨(ad197.add ((x5_1).toNat * 4)).block, (ad197.add ((x5_1).toNat * 4)).off + 1, none⟩ = some (.int .i64 ((rd_T144 l0 x5_1).f1)) ∧ w'.cell? ⟨(ad197.add ((x5_1).toNat * 4)).block, (ad197.add ((x5_1).toNat * 4)).off + 2, none⟩ = some (.int .i64 ((rd_T144 l0 x5_1).f2)) ∧ w'.cell? ⟨(ad197.add ((x5_1).toNat * 4)).block, (ad197.add ((x5_1).toNat * 4)).off + 3, none⟩ = some (.int .i64 ((rd_T144 l0 x5_1).f3)) ∧ w'.cell? (ad197.add (((ji8)).toNat * 4)) = some (.int .i64 ((rd_T144 l0 (ji8)).f0)) ∧ w'.cell? ⟨(ad197.add (((ji8)).toNat * 4)).block, (ad197.add (((ji8)).toNat * 4)).off + 1, none⟩ = some (.int .i64 ((rd_T144 l0 (ji8)).f1)) ∧ w'.cell? ⟨(ad197.add (((ji8)).toNat * 4)).block, (ad197.add (((ji8)).toNat * 4)).off + 2, none⟩ = some (.int .i64 ((rd_T144 l0 (ji8)).f2)) ∧ w'.cell? ⟨(ad197.add (((ji8)).toNat * 4)).block, (ad197.add (((ji8)).toNat * 4)).off + 3, none⟩ = some (.int .i64 ((rd_T144 l0 (ji8)).f3)) ∧ w'.cell? (ad197.add ((x5_1).toNat * 4)) = some (.int .i64 ((rd_T144 l0 x5_1).f0)) ∧ w'.cell? ⟨(ad197.add ((x5_1).toNat * 4)).block, (ad197.add ((x5_1).toNat * 4)).off + 1, none⟩ = some (.int .i64 ((rd_T144 l0 x5_1).f1)) ∧ w'.cell? ⟨(ad197.add ((x5_1).toNat * 4)).block, (ad197.add ((x5_1).toNat * 4)).off + 2, none⟩ = some (.int .i64 ((rd_T144 l0 x5_1).f2)) ∧ w'.cell? ⟨(ad197.add ((x5_1).toNat * 4)).block, (ad197.add ((x5_1).toNat * 4)).off + 3, none⟩ = some (.int .i64 ((rd_T144 l0 x5_1).f3))) (ds := []) #[false, false, false, false, false, false, false, false, false, false, false, false, false, false, false, false, false, false, false, false, false, false, false, false] (by kernel_rfl) rfl rfl ⟨((HB.out.cell (World.block_lt_of_cell? w _ hw197_0)).trans hw197_0), ((HB.out.cell (World.block_lt_of_cell? w _ hw197_1)).trans hw197_1), ((HB.out.cell (World.block_lt_of_cell? w _ hw197_2)).trans hw197_2), ((HB.out.cell (World.block_lt_of_cell? w _ hw197_3)).trans hw197_3), ((HB.out.cell (World.block_lt_of_cell? w _ hw199_0)).trans hw199_0), ((HB.out.cell (World.block_lt_of_cell? w _ hw199_1)).trans hw199_1), ((HB.out.cell (World.block_lt_of_cell? w _ hw199_2)).trans hw199_2), ((HB.out.cell (World.block_lt_of_cell? w _ hw199_3)).trans hw199_3), ((HB.out.cell (World.block_lt_of_cell? w _ hw200_0)).trans hw200_0), ((HB.out.cell (World.block_lt_of_cell? w _ hw200_1)).trans hw200_1), ((HB.out.cell (World.block_lt_of_cell? w _ hw200_2)).trans hw200_2), ((HB.out.cell (World.block_lt_of_cell? w _ hw200_3)).trans hw200_3)⟩ (fun hHeld => ?_); refine with_tabW spec_IsPlan.tab4 spec_IsPlan.bits4 (fun HT_ HW_ => ?_)
          generalize wr.drew = w16 at HB hx197_0 hx197_1 hx197_2 hx197_3 hx199_0 hx199_1 hx199_2 hx199_3 hx200_0 hx200_1 hx200_2 hx200_3 hHeld ⊢
          refine pu_ 0 (some 12) #[true, false, false, false, false, false, false, false, false, false, false, false, false, false, false, false, false, false, false, false, false, false, false, false] rfl rfl ?_
          refine pu_ 1 (some 13) #[true, true, false, false, false, false, false, false, false, false, false, false, false, false, false, false, false, false, false, false, false, false, false, false] rfl rfl ?_
          refine pu_ 2 (some 14) #[true, true, true, false, false, false, false, false, false, false, false, false, false, false, false, false, false, false, false, false, false, false, false, false] rfl rfl ?_
          refine pu_ 4 (some 16) #[true, true, true, false, true, false, false, false, false, false, false, false, false, false, false, false, false, false, false, false, false, false, false, false] rfl rfl ?_
          refine tk12_ 3 (some 15) #[true, true, true, true, true, false, false, false, false, false, false, false, false, false, false, false, false, false, false, false, false, false, false, false] rfl rfl ?_
          refine one_ (i := 5) (N := some 17) #[true, true, true, true, true, true, false, false, false, false, false, false, false, false, false, false, false, false, false, false, false, false, false, false] rfl rfl (one_of HT_.out (by kernel_rfl)) (by decide) (fun K hK => ?_)
          refine goes_ Try.func128 (by kernel_rfl) rfl #[.agg #[.int .i64 ((rd_T144 l0 x5_1).f0), .int .i64 ((rd_T144 l0 x5_1).f1), .int .i64 ((rd_T144 l0 x5_1).f2), .int .i64 ((rd_T144 l0 x5_1).f3)], .int .i64 a1] (by rfl) rfl rfl (by (try simp only [List.map_toArray, List.map_cons, List.map_nil]); first | done | rfl | (simp only [List.length_drop, List.length_take]; rfl)) ?_
          with_reducible refine (spec_IsContact.calls ((rd_T144 l0 x5_1).f0) ((rd_T144 l0 x5_1).f1) ((rd_T144 l0 x5_1).f2) ((rd_T144 l0 x5_1).f3) a1 true _ A5.out).mono ?_
          rintro e w17 ⟨rfl, hb⟩
          refine ⟨_, rfl, ?_⟩
          have n0_ := aM_ (wS_ (bw_) hb); clear HB; have HB := n0_; clear n0_; (try clear hb); (try clear hb2); (try clear hk); (try clear hi)
          refine hK.out _ _ ⟨((HB.out.cell (World.block_lt_of_cell? w _ hw197_0)).trans hw197_0), ((HB.out.cell (World.block_lt_of_cell? w _ hw197_1)).trans hw197_1), ((HB.out.cell (World.block_lt_of_cell? w _ hw197_2)).trans hw197_2), ((HB.out.cell (World.block_lt_of_cell? w _ hw197_3)).trans hw197_3), ((HB.out.cell (World.block_lt_of_cell? w _ hw199_0)).trans hw199_0), ((HB.out.cell (World.block_lt_of_cell? w _ hw199_1)).trans hw199_1), ((HB.out.cell (World.block_lt_of_cell? w _ hw199_2)).trans hw199_2), ((HB.out.cell (World.block_lt_of_cell? w _ hw199_3)).trans hw199_3), ((HB.out.cell (World.block_lt_of_cell? w _ hw200_0)).trans hw200_0), ((HB.out.cell (World.block_lt_of_cell? w _ hw200_1)).trans hw200_1), ((HB.out.cell (World.block_lt_of_cell? w _ hw200_2)).trans hw200_2), ((HB.out.cell (World.block_lt_of_cell? w _ hw200_3)).trans hw200_3)⟩ (fun hHeld => ?_)
          clear hK K
          refine norm_ (a' := ?_) ?_ ?_
          rotate_left
          ·show Act.put _ (some 17) _ = _
           simp only [Act.put, List.setIfInBounds_toArray, List.set_cons_zero, List.set_cons_succ, i64_w, i32_w]
           rfl
          refine pu_ 6 (some 18) #[true, true, true, true, true, true, true, false, false, false, false, false, false, false, false, false, false, false, false, false, false, false, false, false] rfl rfl ?_
          refine pu_ 7 (some 19) #[true, true, true, true, true, true, true, true, false, false, false, false, false, false, false, false, false, false, false, false, false, false, false, false] rfl rfl ?_
          refine pu_ 8 (some 20) #[true, true, true, true, true, true, true, true, true, false, false, false, false, false, false, false, false, false, false, false, false, false, false, false] rfl rfl ?_
          refine pu_ 9 (some 21) #[true, true, true, true, true, true, true, true, true, true, false, false, false, false, false, false, false, false, false, false, false, false, false, false] rfl rfl ?_
          refine pu_ 10 (some 22) #[true, true, true, true, true, true, true, true, true, true, true, false, false, false, false, false, false, false, false, false, false, false, false, false] rfl rfl ?_
          refine pu_ 11 (some 23) #[true, true, true, true, true, true, true, true, true, true, true, true, false, false, false, false, false, false, false, false, false, false, false, false] rfl rfl ?_
          refine pu_ 12 (some 24) #[true, true, true, true, true, true, true, true, true, true, true, true, true, false, false, false, false, false, false, false, false, false, false, false] rfl rfl ?_
          refine pu_ 13 (some 25) #[true, true, true, true, true, true, true, true, true, true, true, true, true, true, false, false, false, false, false, false, false, false, false, false] rfl rfl ?_
          refine pu_ 14 (some 26) #[true, true, true, true, true, true, true, true, true, true, true, true, true, true, true, false, false, false, false, false, false, false, false, false] rfl rfl ?_
          refine pu_ 16 (some 28) #[true, true, true, true, true, true, true, true, true, true, true, true, true, true, true, false, true, false, false, false, false, false, false, false] rfl rfl ?_
          refine pu_ 17 (some 29) #[true, true, true, true, true, true, true, true, true, true, true, true, true, true, true, false, true, true, false, false, false, false, false, false] rfl rfl ?_
          refine pu_ 18 (some 30) #[true, true, true, true, true, true, true, true, true, true, true, true, true, true, true, false, true, true, true, false, false, false, false, false] rfl rfl ?_
          refine tk12_ 15 (some 27) #[true, true, true, true, true, true, true, true, true, true, true, true, true, true, true, true, true, true, true, false, false, false, false, false] rfl rfl ?_
          refine tk12_ 19 (some 31) #[true, true, true, true, true, true, true, true, true, true, true, true, true, true, true, true, true, true, true, true, false, false, false, false] rfl rfl ?_
          refine one_ (i := 20) (N := some 32) #[true, true, true, true, true, true, true, true, true, true, true, true, true, true, true, true, true, true, true, true, true, false, false, false] rfl rfl (one_of HT_.out (by kernel_rfl)) (by decide) (fun K hK => ?_)
          refine goes_ Try.func129 (by kernel_rfl) rfl #[.agg #[.int .i64 ((rd_T144 l0 (ji8)).f0), .int .i64 ((rd_T144 l0 (ji8)).f1), .int .i64 ((rd_T144 l0 (ji8)).f2), .int .i64 ((rd_T144 l0 (ji8)).f3)], .agg #[.int .i64 ((rd_T144 l0 x5_1).f0), .int .i64 ((rd_T144 l0 x5_1).f1), .int .i64 ((rd_T144 l0 x5_1).f2), .int .i64 ((rd_T144 l0 x5_1).f3)]] (by rfl) rfl rfl (by (try simp only [List.map_toArray, List.map_cons, List.map_nil]); first | done | (simp only [hji8]; rfl) | rfl | (simp only [List.length_drop, List.length_take]; rfl)) ?_
          with_reducible refine (spec_l11Before.calls ((rd_T144 l0 (ji8)).f0) ((rd_T144 l0 (ji8)).f1) ((rd_T144 l0 (ji8)).f2) ((rd_T144 l0 (ji8)).f3) ((rd_T144 l0 x5_1).f0) ((rd_T144 l0 x5_1).f1) ((rd_T144 l0 x5_1).f2) ((rd_T144 l0 x5_1).f3) false _ A11.out).mono ?_
          rintro e w18 ⟨rfl, hb⟩
          refine ⟨_, rfl, ?_⟩
          have n0_ := aM_ (wS_ (bw_) hb); clear HB; have HB := n0_; clear n0_; (try clear hb); (try clear hb2); (try clear hk); (try clear hi)
          refine hK.out _ _ ⟨((HB.out.cell (World.block_lt_of_cell? w _ hw197_0)).trans hw197_0), ((HB.out.cell (World.block_lt_of_cell? w _ hw197_1)).trans hw197_1), ((HB.out.cell (World.block_lt_of_cell? w _ hw197_2)).trans hw197_2), ((HB.out.cell (World.block_lt_of_cell? w _ hw197_3)).trans hw197_3), ((HB.out.cell (World.block_lt_of_cell? w _ hw199_0)).trans hw199_0), ((HB.out.cell (World.block_lt_of_cell? w _ hw199_1)).trans hw199_1), ((HB.out.cell (World.block_lt_of_cell? w _ hw199_2)).trans hw199_2), ((HB.out.cell (World.block_lt_of_cell? w _ hw199_3)).trans hw199_3), ((HB.out.cell (World.block_lt_of_cell? w _ hw200_0)).trans hw200_0), ((HB.out.cell (World.block_lt_of_cell? w _ hw200_1)).trans hw200_1), ((HB.out.cell (World.block_lt_of_cell? w _ hw200_2)).trans hw200_2), ((HB.out.cell (World.block_lt_of_cell? w _ hw200_3)).trans hw200_3)⟩ (fun hHeld => ?_)
          clear hK K
          refine norm_ (a' := ?_) ?_ ?_
          rotate_left
          ·show Act.put _ (some 32) _ = _
           simp only [Act.put, List.setIfInBounds_toArray, List.set_cons_zero, List.set_cons_succ, i64_w, i32_w]
           rfl
          refine pu_ 21 (some 33) #[true, true, true, true, true, true, true, true, true, true, true, true, true, true, true, true, true, true, true, true, true, true, false, false] rfl rfl ?_
          refine pu_ 22 (some 34) #[true, true, true, true, true, true, true, true, true, true, true, true, true, true, true, true, true, true, true, true, true, true, true, false] rfl rfl ?_
          refine pu_ 23 (some 35) #[true, true, true, true, true, true, true, true, true, true, true, true, true, true, true, true, true, true, true, true, true, true, true, true] rfl rfl ?_
          refine done_ (done_of HT_.out (by kernel_rfl)) ?_
          try go_wp2
          go_ret
          exact ⟨by first | rfl | (simp [errW_none, errW_some] <;> rfl) | (simp only [← hji8]; first | rfl | (simp [errW_none, errW_some] <;> rfl)) | (simp [*, errW_none, errW_some] <;> rfl), bw_⟩
        ·rw [if_neg c10] at H
         exact absurd H (by simp)
       ·rw [if_neg c9] at H
        exact absurd H (by simp)
      ·rw [if_neg c7] at H
       have c7b0 : decide (0 < x5_1) = false := decide_eq_false c7
       clear c7
       have H' := aM_ H
       clear H
       try go_wp2
       have n0_ := aM_ (wD_ HB.out); clear HB; have HB := n0_; clear n0_
       have p197 : 0 ≤ (x5_1 : Int) := dT_
       have q197 : x5_1 < (l0.length : Int) := dT_
       obtain ⟨ad197, e197, hx197_0, hx197_1, hx197_2, hx197_3⟩ := at_T144 HR0.out x5_1 p197 q197
       have hw197_3 := hx197_3; have hw197_2 := hx197_2; have hw197_1 := hx197_1; have hw197_0 := hx197_0
       cases e197
       replace hx197_0 := (HB.out.cell (World.block_lt_of_cell? w _ hx197_0)).trans hx197_0
       replace hx197_1 := (HB.out.cell (World.block_lt_of_cell? w _ hx197_1)).trans hx197_1
       replace hx197_2 := (HB.out.cell (World.block_lt_of_cell? w _ hx197_2)).trans hx197_2
       replace hx197_3 := (HB.out.cell (World.block_lt_of_cell? w _ hx197_3)).trans hx197_3
       replace p197 := eq_true p197; replace q197 := eq_true q197
       refine start_ (n := 24) (S := fun w' => w'.cell? (ad197.add ((x5_1).toNat * 4)) = some (.int .i64 ((rd_T144 l0 x5_1).f0)) ∧ w'.cell? ⟨(ad197.add ((x5_1).toNat * 4)).block, (ad197.add ((x5_1).toNat * 4)).off + 1, none⟩ = some (.int .i64 ((rd_T144 l0 x5_1).f1)) ∧ w'.cell? ⟨(ad197.add ((x5_1).toNat * 4)).block, (ad197.add ((x5_1).toNat * 4)).off + 2, none⟩ = some (.int .i64 ((rd_T144 l0 x5_1).f2)) ∧ w'.cell? ⟨(ad197.add ((x5_1).toNat * 4)).block, (ad197.add ((x5_1).toNat * 4)).off + 3, none⟩ = some (.int .i64 ((rd_T144 l0 x5_1).f3))) (ds := []) #[false, false, false, false, false, false, false, false, false, false, false, false, false, false, false, false, false, false, false, false, false, false, false, false] (by kernel_rfl) rfl rfl ⟨((HB.out.cell (World.block_lt_of_cell? w _ hw197_0)).trans hw197_0), ((HB.out.cell (World.block_lt_of_cell? w _ hw197_1)).trans hw197_1), ((HB.out.cell (World.block_lt_of_cell? w _ hw197_2)).trans hw197_2), ((HB.out.cell (World.block_lt_of_cell? w _ hw197_3)).trans hw197_3)⟩ (fun hHeld => ?_); refine with_tabW spec_IsPlan.tab4 spec_IsPlan.bits4 (fun HT_ HW_ => ?_)
       generalize wr.drew = w19 at HB hx197_0 hx197_1 hx197_2 hx197_3 hHeld ⊢
       refine pu_ 0 (some 12) #[true, false, false, false, false, false, false, false, false, false, false, false, false, false, false, false, false, false, false, false, false, false, false, false] rfl rfl ?_
       refine pu_ 1 (some 13) #[true, true, false, false, false, false, false, false, false, false, false, false, false, false, false, false, false, false, false, false, false, false, false, false] rfl rfl ?_
       refine pu_ 2 (some 14) #[true, true, true, false, false, false, false, false, false, false, false, false, false, false, false, false, false, false, false, false, false, false, false, false] rfl rfl ?_
       refine pu_ 4 (some 16) #[true, true, true, false, true, false, false, false, false, false, false, false, false, false, false, false, false, false, false, false, false, false, false, false] rfl rfl ?_
       refine tk4_ 3 (some 15) #[true, true, true, true, true, false, false, false, false, false, false, false, false, false, false, false, false, false, false, false, false, false, false, false] rfl rfl ?_
       refine one_ (i := 5) (N := some 17) #[true, true, true, true, true, true, false, false, false, false, false, false, false, false, false, false, false, false, false, false, false, false, false, false] rfl rfl (one_of HT_.out (by kernel_rfl)) (by decide) (fun K hK => ?_)
       refine goes_ Try.func128 (by kernel_rfl) rfl #[.agg #[.int .i64 ((rd_T144 l0 x5_1).f0), .int .i64 ((rd_T144 l0 x5_1).f1), .int .i64 ((rd_T144 l0 x5_1).f2), .int .i64 ((rd_T144 l0 x5_1).f3)], .int .i64 a1] (by rfl) rfl rfl (by (try simp only [List.map_toArray, List.map_cons, List.map_nil]); first | done | rfl | (simp only [List.length_drop, List.length_take]; rfl)) ?_
       with_reducible refine (spec_IsContact.calls ((rd_T144 l0 x5_1).f0) ((rd_T144 l0 x5_1).f1) ((rd_T144 l0 x5_1).f2) ((rd_T144 l0 x5_1).f3) a1 true _ A5.out).mono ?_
       rintro e w20 ⟨rfl, hb⟩
       refine ⟨_, rfl, ?_⟩
       have n0_ := aM_ (wS_ (bw_) hb); clear HB; have HB := n0_; clear n0_; (try clear hb); (try clear hb2); (try clear hk); (try clear hi)
       refine hK.out _ _ ⟨((HB.out.cell (World.block_lt_of_cell? w _ hw197_0)).trans hw197_0), ((HB.out.cell (World.block_lt_of_cell? w _ hw197_1)).trans hw197_1), ((HB.out.cell (World.block_lt_of_cell? w _ hw197_2)).trans hw197_2), ((HB.out.cell (World.block_lt_of_cell? w _ hw197_3)).trans hw197_3)⟩ (fun hHeld => ?_)
       clear hK K
       refine norm_ (a' := ?_) ?_ ?_
       rotate_left
       ·show Act.put _ (some 17) _ = _
        simp only [Act.put, List.setIfInBounds_toArray, List.set_cons_zero, List.set_cons_succ, i64_w, i32_w]
        rfl
       refine pu_ 6 (some 18) #[true, true, true, true, true, true, true, false, false, false, false, false, false, false, false, false, false, false, false, false, false, false, false, false] rfl rfl ?_
       refine pu_ 7 (some 19) #[true, true, true, true, true, true, true, true, false, false, false, false, false, false, false, false, false, false, false, false, false, false, false, false] rfl rfl ?_
       refine pu_ 8 (some 20) #[true, true, true, true, true, true, true, true, true, false, false, false, false, false, false, false, false, false, false, false, false, false, false, false] rfl rfl ?_
       refine pu_ 9 (some 21) #[true, true, true, true, true, true, true, true, true, true, false, false, false, false, false, false, false, false, false, false, false, false, false, false] rfl rfl ?_
       refine pu_ 10 (some 22) #[true, true, true, true, true, true, true, true, true, true, true, false, false, false, false, false, false, false, false, false, false, false, false, false] rfl rfl ?_
       refine pn_ 11 (some 23) #[true, true, true, true, true, true, true, true, true, true, true, true, false, false, false, false, false, false, false, false, false, false, false, false] rfl rfl ?_
       refine pn_ 12 (some 24) #[true, true, true, true, true, true, true, true, true, true, true, true, true, false, false, false, false, false, false, false, false, false, false, false] rfl rfl ?_
       refine pn_ 13 (some 25) #[true, true, true, true, true, true, true, true, true, true, true, true, true, true, false, false, false, false, false, false, false, false, false, false] rfl rfl ?_
       refine pn_ 14 (some 26) #[true, true, true, true, true, true, true, true, true, true, true, true, true, true, true, false, false, false, false, false, false, false, false, false] rfl rfl ?_
       refine pn_ 15 (some 27) #[true, true, true, true, true, true, true, true, true, true, true, true, true, true, true, true, false, false, false, false, false, false, false, false] rfl rfl ?_
       refine pn_ 16 (some 28) #[true, true, true, true, true, true, true, true, true, true, true, true, true, true, true, true, true, false, false, false, false, false, false, false] rfl rfl ?_
       refine pn_ 17 (some 29) #[true, true, true, true, true, true, true, true, true, true, true, true, true, true, true, true, true, true, false, false, false, false, false, false] rfl rfl ?_
       refine pn_ 18 (some 30) #[true, true, true, true, true, true, true, true, true, true, true, true, true, true, true, true, true, true, true, false, false, false, false, false] rfl rfl ?_
       refine pn_ 19 (some 31) #[true, true, true, true, true, true, true, true, true, true, true, true, true, true, true, true, true, true, true, true, false, false, false, false] rfl rfl ?_
       refine pn_ 20 (some 32) #[true, true, true, true, true, true, true, true, true, true, true, true, true, true, true, true, true, true, true, true, true, false, false, false] rfl rfl ?_
       refine pn_ 21 (some 33) #[true, true, true, true, true, true, true, true, true, true, true, true, true, true, true, true, true, true, true, true, true, true, false, false] rfl rfl ?_
       refine pu_ 22 (some 34) #[true, true, true, true, true, true, true, true, true, true, true, true, true, true, true, true, true, true, true, true, true, true, true, false] rfl rfl ?_
       refine pu_ 23 (some 35) #[true, true, true, true, true, true, true, true, true, true, true, true, true, true, true, true, true, true, true, true, true, true, true, true] rfl rfl ?_
       refine done_ (done_of HT_.out (by kernel_rfl)) ?_
       try go_wp2
       go_roundg k1
       case measure => have := HK1.out; omega
       case rel => exact ⟨(wrap64 (x5_1 + 1)), (by first | rfl | (simp; done) | (simp [*]; done)), H', ⟨by have := HK1.out; omega⟩, ⟨bw_⟩⟩
     ·replace c6 := Bool.eq_false_iff.mpr c6
      subst c6
      have H1 : (some false) = some r := by rw [if_neg (show ¬ (false = true) by decide)] at H; exact H
      clear H; have H := H1; clear H1
      obtain rfl := Option.some.inj H
      try go_wp2
      have n0_ := aM_ (wD_ HB.out); clear HB; have HB := n0_; clear n0_
      have p197 : 0 ≤ (x5_1 : Int) := dT_
      have q197 : x5_1 < (l0.length : Int) := dT_
      obtain ⟨ad197, e197, hx197_0, hx197_1, hx197_2, hx197_3⟩ := at_T144 HR0.out x5_1 p197 q197
      have hw197_3 := hx197_3; have hw197_2 := hx197_2; have hw197_1 := hx197_1; have hw197_0 := hx197_0
      cases e197
      replace hx197_0 := (HB.out.cell (World.block_lt_of_cell? w _ hx197_0)).trans hx197_0
      replace hx197_1 := (HB.out.cell (World.block_lt_of_cell? w _ hx197_1)).trans hx197_1
      replace hx197_2 := (HB.out.cell (World.block_lt_of_cell? w _ hx197_2)).trans hx197_2
      replace hx197_3 := (HB.out.cell (World.block_lt_of_cell? w _ hx197_3)).trans hx197_3
      replace p197 := eq_true p197; replace q197 := eq_true q197
      refine start_ (n := 24) (S := fun w' => w'.cell? (ad197.add ((x5_1).toNat * 4)) = some (.int .i64 ((rd_T144 l0 x5_1).f0)) ∧ w'.cell? ⟨(ad197.add ((x5_1).toNat * 4)).block, (ad197.add ((x5_1).toNat * 4)).off + 1, none⟩ = some (.int .i64 ((rd_T144 l0 x5_1).f1)) ∧ w'.cell? ⟨(ad197.add ((x5_1).toNat * 4)).block, (ad197.add ((x5_1).toNat * 4)).off + 2, none⟩ = some (.int .i64 ((rd_T144 l0 x5_1).f2)) ∧ w'.cell? ⟨(ad197.add ((x5_1).toNat * 4)).block, (ad197.add ((x5_1).toNat * 4)).off + 3, none⟩ = some (.int .i64 ((rd_T144 l0 x5_1).f3))) (ds := []) #[false, false, false, false, false, false, false, false, false, false, false, false, false, false, false, false, false, false, false, false, false, false, false, false] (by kernel_rfl) rfl rfl ⟨((HB.out.cell (World.block_lt_of_cell? w _ hw197_0)).trans hw197_0), ((HB.out.cell (World.block_lt_of_cell? w _ hw197_1)).trans hw197_1), ((HB.out.cell (World.block_lt_of_cell? w _ hw197_2)).trans hw197_2), ((HB.out.cell (World.block_lt_of_cell? w _ hw197_3)).trans hw197_3)⟩ (fun hHeld => ?_); refine with_tabW spec_IsPlan.tab4 spec_IsPlan.bits4 (fun HT_ HW_ => ?_)
      generalize wr.drew = w21 at HB hx197_0 hx197_1 hx197_2 hx197_3 hHeld ⊢
      refine pu_ 0 (some 12) #[true, false, false, false, false, false, false, false, false, false, false, false, false, false, false, false, false, false, false, false, false, false, false, false] rfl rfl ?_
      refine pu_ 1 (some 13) #[true, true, false, false, false, false, false, false, false, false, false, false, false, false, false, false, false, false, false, false, false, false, false, false] rfl rfl ?_
      refine pu_ 2 (some 14) #[true, true, true, false, false, false, false, false, false, false, false, false, false, false, false, false, false, false, false, false, false, false, false, false] rfl rfl ?_
      refine pu_ 4 (some 16) #[true, true, true, false, true, false, false, false, false, false, false, false, false, false, false, false, false, false, false, false, false, false, false, false] rfl rfl ?_
      refine tk4_ 3 (some 15) #[true, true, true, true, true, false, false, false, false, false, false, false, false, false, false, false, false, false, false, false, false, false, false, false] rfl rfl ?_
      refine one_ (i := 5) (N := some 17) #[true, true, true, true, true, true, false, false, false, false, false, false, false, false, false, false, false, false, false, false, false, false, false, false] rfl rfl (one_of HT_.out (by kernel_rfl)) (by decide) (fun K hK => ?_)
      refine goes_ Try.func128 (by kernel_rfl) rfl #[.agg #[.int .i64 ((rd_T144 l0 x5_1).f0), .int .i64 ((rd_T144 l0 x5_1).f1), .int .i64 ((rd_T144 l0 x5_1).f2), .int .i64 ((rd_T144 l0 x5_1).f3)], .int .i64 a1] (by rfl) rfl rfl (by (try simp only [List.map_toArray, List.map_cons, List.map_nil]); first | done | rfl | (simp only [List.length_drop, List.length_take]; rfl)) ?_
      with_reducible refine (spec_IsContact.calls ((rd_T144 l0 x5_1).f0) ((rd_T144 l0 x5_1).f1) ((rd_T144 l0 x5_1).f2) ((rd_T144 l0 x5_1).f3) a1 false _ A5.out).mono ?_
      rintro e w22 ⟨rfl, hb⟩
      refine ⟨_, rfl, ?_⟩
      have n0_ := aM_ (wS_ (bw_) hb); clear HB; have HB := n0_; clear n0_; (try clear hb); (try clear hb2); (try clear hk); (try clear hi)
      refine hK.out _ _ ⟨((HB.out.cell (World.block_lt_of_cell? w _ hw197_0)).trans hw197_0), ((HB.out.cell (World.block_lt_of_cell? w _ hw197_1)).trans hw197_1), ((HB.out.cell (World.block_lt_of_cell? w _ hw197_2)).trans hw197_2), ((HB.out.cell (World.block_lt_of_cell? w _ hw197_3)).trans hw197_3)⟩ (fun hHeld => ?_)
      clear hK K
      refine norm_ (a' := ?_) ?_ ?_
      rotate_left
      ·show Act.put _ (some 17) _ = _
       simp only [Act.put, List.setIfInBounds_toArray, List.set_cons_zero, List.set_cons_succ, i64_w, i32_w]
       rfl
      refine pu_ 6 (some 18) #[true, true, true, true, true, true, true, false, false, false, false, false, false, false, false, false, false, false, false, false, false, false, false, false] rfl rfl ?_
      refine pu_ 7 (some 19) #[true, true, true, true, true, true, true, true, false, false, false, false, false, false, false, false, false, false, false, false, false, false, false, false] rfl rfl ?_
      refine pn_ 8 (some 20) #[true, true, true, true, true, true, true, true, true, false, false, false, false, false, false, false, false, false, false, false, false, false, false, false] rfl rfl ?_
      refine pn_ 9 (some 21) #[true, true, true, true, true, true, true, true, true, true, false, false, false, false, false, false, false, false, false, false, false, false, false, false] rfl rfl ?_
      refine pn_ 10 (some 22) #[true, true, true, true, true, true, true, true, true, true, true, false, false, false, false, false, false, false, false, false, false, false, false, false] rfl rfl ?_
      refine pn_ 11 (some 23) #[true, true, true, true, true, true, true, true, true, true, true, true, false, false, false, false, false, false, false, false, false, false, false, false] rfl rfl ?_
      refine pn_ 12 (some 24) #[true, true, true, true, true, true, true, true, true, true, true, true, true, false, false, false, false, false, false, false, false, false, false, false] rfl rfl ?_
      refine pn_ 13 (some 25) #[true, true, true, true, true, true, true, true, true, true, true, true, true, true, false, false, false, false, false, false, false, false, false, false] rfl rfl ?_
      refine pn_ 14 (some 26) #[true, true, true, true, true, true, true, true, true, true, true, true, true, true, true, false, false, false, false, false, false, false, false, false] rfl rfl ?_
      refine pn_ 15 (some 27) #[true, true, true, true, true, true, true, true, true, true, true, true, true, true, true, true, false, false, false, false, false, false, false, false] rfl rfl ?_
      refine pn_ 16 (some 28) #[true, true, true, true, true, true, true, true, true, true, true, true, true, true, true, true, true, false, false, false, false, false, false, false] rfl rfl ?_
      refine pn_ 17 (some 29) #[true, true, true, true, true, true, true, true, true, true, true, true, true, true, true, true, true, true, false, false, false, false, false, false] rfl rfl ?_
      refine pn_ 18 (some 30) #[true, true, true, true, true, true, true, true, true, true, true, true, true, true, true, true, true, true, true, false, false, false, false, false] rfl rfl ?_
      refine pn_ 19 (some 31) #[true, true, true, true, true, true, true, true, true, true, true, true, true, true, true, true, true, true, true, true, false, false, false, false] rfl rfl ?_
      refine pn_ 20 (some 32) #[true, true, true, true, true, true, true, true, true, true, true, true, true, true, true, true, true, true, true, true, true, false, false, false] rfl rfl ?_
      refine pn_ 21 (some 33) #[true, true, true, true, true, true, true, true, true, true, true, true, true, true, true, true, true, true, true, true, true, true, false, false] rfl rfl ?_
      refine pn_ 22 (some 34) #[true, true, true, true, true, true, true, true, true, true, true, true, true, true, true, true, true, true, true, true, true, true, true, false] rfl rfl ?_
      refine pu_ 23 (some 35) #[true, true, true, true, true, true, true, true, true, true, true, true, true, true, true, true, true, true, true, true, true, true, true, true] rfl rfl ?_
      refine done_ (done_of HT_.out (by kernel_rfl)) ?_
      try go_wp2
      go_ret
      exact ⟨by first | rfl | (simp [errW_none, errW_some] <;> rfl) | (simp [*, errW_none, errW_some] <;> rfl), bw_⟩
    ·rw [if_neg c4] at H
     exact absurd H (by simp)
   ·rw [if_neg c3] at H
    have c3b0 : decide (x5_1 < (l0.length : Int)) = false := decide_eq_false c3
    clear c3
    obtain rfl := Option.some.inj H
    go_wp2
    go_ret
    exact ⟨by first | rfl | (simp [errW_none, errW_some] <;> rfl) | (simp [*, errW_none, errW_some] <;> rfl), bw_⟩

end Go.Proofs.Ytdodogkgmpaioaa.PFnReach
