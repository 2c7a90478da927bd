/- The functions that the law reaches, as plain Lean functions, each with the proof that the Go code comes to its answers; conditions: those that each theorem names. (printed by a program of this session) -/
import Derived.Test.YtlogjmgghnifoaaPFnExactPacketPlacesx0
import Derived.Test.YtlogjmgghnifoaaPFnExactPacketPlacesx10
namespace Go.Proofs.Ytlogjmgghnifoaa.PFnExactPacketPlaces
open Go.RowKit Go.Proofs.YtlogjmgghnifoaaW.PrintWords Go.Proofs.YtlogjmgghnifoaaW.PrintLast Go.Proofs.YtlogjmgghnifoaaW.PrintMore
attribute [local go_sem] max2_int min2_int max_two min_two max_three min_three max_four min_four   -- for this text's walks alone
set_option linter.unusedVariables false
set_option linter.unusedSimpArgs false

/-! ### laws_eqBatteryS: function 94 -/
def laws_eqBatteryS.l0 : Nat → List (S195) → List (S195) → Int → Option (Bool)
  | 0, _, _, _ => none
  | k + 1, x0, x1, x5 => if x5 < (x0.length : Int) then (if 0 ≤ x5 then (if x5 < (x1.length : Int) then ((laws_eqBattery.f ((rd_T195 x0 x5).f0) ((rd_T195 x0 x5).f1) ((rd_T195 x0 x5).f2) ((rd_T195 x0 x5).f3) ((rd_T195 x0 x5).f4) ((rd_T195 x0 x5).f5) ((rd_T195 x1 x5).f0) ((rd_T195 x1 x5).f1) ((rd_T195 x1 x5).f2) ((rd_T195 x1 x5).f3) ((rd_T195 x1 x5).f4) ((rd_T195 x1 x5).f5)).bind fun t424 => (if t424 = true then (laws_eqBatteryS.l0 k x0 x1 (wrap64 (x5 + 1))) else (some false))) else (none)) else (none)) else (some true)
def laws_eqBatteryS.f (k : Nat) (l0 : List (S195)) (l1 : List (S195)) : Option (Bool) := if (l0.length : Int) = (l1.length : Int) then (laws_eqBatteryS.l0 k l0 l1 0) else (some false)
def laws_eqBatteryS.T6 : Bool × List (List Nat × List Nat) := (true, [([], []), ([], []), ([0, 1], [0, 1]), ([2], [2]), ([], []), ([], []), ([4, 5], [4, 5]), ([6], [6]), ([3, 7], [3, 7]), ([8], [8])])
def laws_eqBatteryS.B6 : List Nat := [0, 0, 3, 7, 0, 0, 48, 112, 255, 511]
theorem laws_eqBatteryS.tab6 : rtab .any (opsOf Try.f94 6) = laws_eqBatteryS.T6 := by kernel_rfl
theorem laws_eqBatteryS.bits6 : waitsOk laws_eqBatteryS.T6.2 laws_eqBatteryS.B6 = true := by kernel_rfl
set_option maxHeartbeats 8000000 in
set_option maxRecDepth 100000 in
theorem laws_eqBatteryS.calls (k : Nat) (A0 : Option Addr) (c0 : Nat) (l0 : List (S195)) (A1 : Option Addr) (c1 : Nat) (l1 : List (S195)) (r : Bool) (w : World) (hr0 : Kd.C k195 w A0 l0.length l0) (hc0 : l0.length ≤ c0) (hr1 : Kd.C k195 w A1 l1.length l1) (hc1 : l1.length ≤ c1) (hr_ : r = true) (h : laws_eqBatteryS.f k l0 l1 = some r) :
  Calls Try.prog 94 #[.slice A0 l0.length c0, .slice A1 l1.length c1] w fun e w' => e = .returned (.bool r) ∧ Below w.heap.size w w' := by
 have hu195 := Try.underlying195; have HR0 := aM_ hr0; have HC0 := aM_ hc0; clear hr0 hc0; have HR1 := aM_ hr1; have HC1 := aM_ hc1; clear hr1 hc1; have HB := aM_ (Below.refl w.heap.size w)
 have H : (if (l0.length : Int) = (l1.length : Int) then (laws_eqBatteryS.l0 k l0 l1 0) else (some false)) = some r := h
 clear h; have HTRUE := aM_ hr_; clear hr_
 by_cases c3 : (l0.length : Int) = (l1.length : Int)
 ·rw [if_pos c3] at H
  have c3b0 : ((l0.length : Int) == (l1.length : Int)) = true := beq_iff_eq.mpr c3
  have c3b1 : ((l0.length : Int) != (l1.length : Int)) = false := bne_eq_false_iff_eq.mpr c3
  have c3b2 : (l0.length == l1.length) = true := by first | simpa using c3 | (simp at c3 ⊢; omega)
  clear c3
  have H' := aM_ H
  clear H
  go_enter Try.func94, Try.ntmps94
  go_wp2
  go_loopg [5] k (fun kq v5 w' => ∃ (x5_1 : Int), v5 = .int .i64 x5_1 ∧ Aside0 (laws_eqBatteryS.l0 kq l0 l1 x5_1 = some r) ∧ Aside0 (kq ≤ k) ∧ Aside0 (Below w.heap.size w w'))
  case atStart => exact ⟨(0), (by first | rfl | (simp; done) | (simp [*]; done)), H', ⟨Nat.le_refl _⟩, ⟨bw_⟩⟩
  case round =>
   clear H'
   try clear c3b0
   try clear c3b1
   try clear c3b2
   obtain ⟨x5_1, rfl, HA, HK1, HB⟩ := hrel
   cases gk with
   | zero => exact absurd HA.out (by simp [laws_eqBatteryS.l0])
   | succ k1 =>
    have H := HA.out; clear HA
    simp only [laws_eqBatteryS.l0] at H
    by_cases c4 : x5_1 < (l0.length : Int)
    ·rw [if_pos c4] at H
     have c4b0 : decide (x5_1 < (l0.length : Int)) = true := decide_eq_true c4
     clear c4
     by_cases c5 : 0 ≤ x5_1
     ·rw [if_pos c5] at H
      have c5b0 : decide (0 ≤ x5_1) = true := decide_eq_true c5
      clear c5
      by_cases c6 : x5_1 < (l1.length : Int)
      ·rw [if_pos c6] at H
       have c6b0 : decide (x5_1 < (l1.length : Int)) = true := decide_eq_true c6
       clear c6
       replace H := Option.bind_eq_some_iff.mp H
       obtain ⟨t424, A70, H⟩ := H
       (try dsimp only at H)
       have A7 := aM_ A70; clear A70
       by_cases c8 : t424 = true
       ·subst c8
        have H1 : (laws_eqBatteryS.l0 k1 l0 l1 (wrap64 (x5_1 + 1))) = some r := by rw [if_pos rfl] at H; exact H
        clear H; have H := H1; clear H1
        have H' := aM_ H
        clear H
        try go_wp2
        have n0_ := aM_ (wD_ HB.out); clear HB; have HB := n0_; clear n0_
        have p422 : 0 ≤ (x5_1 : Int) := dT_
        have q422 : x5_1 < (l0.length : Int) := dT_
        obtain ⟨ad422, e422, hx422_0, hx422_1, hx422_2, hx422_3, hx422_4, hx422_5⟩ := at_T195 HR0.out x5_1 p422 q422
        have hw422_5 := hx422_5; have hw422_4 := hx422_4; have hw422_3 := hx422_3; have hw422_2 := hx422_2; have hw422_1 := hx422_1; have hw422_0 := hx422_0
        cases e422
        replace hx422_0 := (HB.out.cell (World.block_lt_of_cell? w _ hx422_0)).trans hx422_0
        replace hx422_1 := (HB.out.cell (World.block_lt_of_cell? w _ hx422_1)).trans hx422_1
        replace hx422_2 := (HB.out.cell (World.block_lt_of_cell? w _ hx422_2)).trans hx422_2
        replace hx422_3 := (HB.out.cell (World.block_lt_of_cell? w _ hx422_3)).trans hx422_3
        replace hx422_4 := (HB.out.cell (World.block_lt_of_cell? w _ hx422_4)).trans hx422_4
        replace hx422_5 := (HB.out.cell (World.block_lt_of_cell? w _ hx422_5)).trans hx422_5
        replace p422 := eq_true p422; replace q422 := eq_true q422
        have p423 : 0 ≤ (x5_1 : Int) := dT_
        have q423 : x5_1 < (l1.length : Int) := dT_
        obtain ⟨ad423, e423, hx423_0, hx423_1, hx423_2, hx423_3, hx423_4, hx423_5⟩ := at_T195 HR1.out x5_1 p423 q423
        have hw423_5 := hx423_5; have hw423_4 := hx423_4; have hw423_3 := hx423_3; have hw423_2 := hx423_2; have hw423_1 := hx423_1; have hw423_0 := hx423_0
        cases e423
        replace hx423_0 := (HB.out.cell (World.block_lt_of_cell? w _ hx423_0)).trans hx423_0
        replace hx423_1 := (HB.out.cell (World.block_lt_of_cell? w _ hx423_1)).trans hx423_1
        replace hx423_2 := (HB.out.cell (World.block_lt_of_cell? w _ hx423_2)).trans hx423_2
        replace hx423_3 := (HB.out.cell (World.block_lt_of_cell? w _ hx423_3)).trans hx423_3
        replace hx423_4 := (HB.out.cell (World.block_lt_of_cell? w _ hx423_4)).trans hx423_4
        replace hx423_5 := (HB.out.cell (World.block_lt_of_cell? w _ hx423_5)).trans hx423_5
        replace p423 := eq_true p423; replace q423 := eq_true q423
        refine start_ (n := 10) (S := fun w' => w'.cell? (ad422.add ((x5_1).toNat * 6)) = some (.int .i64 ((rd_T195 l0 x5_1).f0)) ∧ w'.cell? ⟨(ad422.add ((x5_1).toNat * 6)).block, (ad422.add ((x5_1).toNat * 6)).off + 1, none⟩ = some (.int .i64 ((rd_T195 l0 x5_1).f1)) ∧ w'.cell? ⟨(ad422.add ((x5_1).toNat * 6)).block, (ad422.add ((x5_1).toNat * 6)).off + 2, none⟩ = some (.int .i64 ((rd_T195 l0 x5_1).f2)) ∧ w'.cell? ⟨(ad422.add ((x5_1).toNat * 6)).block, (ad422.add ((x5_1).toNat * 6)).off + 3, none⟩ = some (.int .i64 ((rd_T195 l0 x5_1).f3)) ∧ w'.cell? ⟨(ad422.add ((x5_1).toNat * 6)).block, (ad422.add ((x5_1).toNat * 6)).off + 4, none⟩ = some (.int .i64 ((rd_T195 l0 x5_1).f4)) ∧ w'.cell? ⟨(ad422.add ((x5_1).toNat * 6)).block, (ad422.add ((x5_1).toNat * 6)).off + 5, none⟩ = some (.int .i64 ((rd_T195 l0 x5_1).f5)) ∧ w'.cell? (ad423.add ((x5_1).toNat * 6)) = some (.int .i64 ((rd_T195 l1 x5_1).f0)) ∧ w'.cell? ⟨(ad423.add ((x5_1).toNat * 6)).block, (ad423.add ((x5_1).toNat * 6)).off + 1, none⟩ = some (.int .i64 ((rd_T195 l1 x5_1).f1)) ∧ w'.cell? ⟨(ad423.add ((x5_1).toNat * 6)).block, (ad423.add ((x5_1).toNat * 6)).off + 2, none⟩ = some (.int .i64 ((rd_T195 l1 x5_1).f2)) ∧ w'.cell? ⟨(ad423.add ((x5_1).toNat * 6)).block, (ad423.add ((x5_1).toNat * 6)).off + 3, none⟩ = some (.int .i64 ((rd_T195 l1 x5_1).f3)) ∧ w'.cell? ⟨(ad423.add ((x5_1).toNat * 6)).block, (ad423.add ((x5_1).toNat * 6)).off + 4, none⟩ = some (.int .i64 ((rd_T195 l1 x5_1).f4)) ∧ w'.cell? ⟨(ad423.add ((x5_1).toNat * 6)).block, (ad423.add ((x5_1).toNat * 6)).off + 5, none⟩ = some (.int .i64 ((rd_T195 l1 x5_1).f5))) (ds := []) #[false, false, false, false, false, false, false, false, false, false] (by kernel_rfl) rfl rfl ⟨((HB.out.cell (World.block_lt_of_cell? w _ hw422_0)).trans hw422_0), ((HB.out.cell (World.block_lt_of_cell? w _ hw422_1)).trans hw422_1), ((HB.out.cell (World.block_lt_of_cell? w _ hw422_2)).trans hw422_2), ((HB.out.cell (World.block_lt_of_cell? w _ hw422_3)).trans hw422_3), ((HB.out.cell (World.block_lt_of_cell? w _ hw422_4)).trans hw422_4), ((HB.out.cell (World.block_lt_of_cell? w _ hw422_5)).trans hw422_5), ((HB.out.cell (World.block_lt_of_cell? w _ hw423_0)).trans hw423_0), ((HB.out.cell (World.block_lt_of_cell? w _ hw423_1)).trans hw423_1), ((HB.out.cell (World.block_lt_of_cell? w _ hw423_2)).trans hw423_2), ((HB.out.cell (World.block_lt_of_cell? w _ hw423_3)).trans hw423_3), ((HB.out.cell (World.block_lt_of_cell? w _ hw423_4)).trans hw423_4), ((HB.out.cell (World.block_lt_of_cell? w _ hw423_5)).trans hw423_5)⟩ (fun hHeld => ?_); refine with_tabW laws_eqBatteryS.tab6 laws_eqBatteryS.bits6 (fun HT_ HW_ => ?_)
        generalize wr.drew = w9 at HB hx422_0 hx422_1 hx422_2 hx422_3 hx422_4 hx422_5 hx423_0 hx423_1 hx423_2 hx423_3 hx423_4 hx423_5 hHeld ⊢
        refine pu_ 0 (some 17) #[true, false, false, false, false, false, false, false, false, false] rfl rfl ?_
        refine pu_ 1 (some 18) #[true, true, false, false, false, false, false, false, false, false] rfl rfl ?_
        refine pu_ 2 (some 19) #[true, true, true, false, false, false, false, false, false, false] rfl rfl ?_
        refine pu_ 4 (some 21) #[true, true, true, false, true, false, false, false, false, false] rfl rfl ?_
        refine pu_ 5 (some 22) #[true, true, true, false, true, true, false, false, false, false] rfl rfl ?_
        refine pu_ 6 (some 23) #[true, true, true, false, true, true, true, false, false, false] rfl rfl ?_
        refine tk12_ 3 (some 20) #[true, true, true, true, true, true, true, false, false, false] rfl rfl ?_
        refine tk12_ 7 (some 24) #[true, true, true, true, true, true, true, true, false, false] rfl rfl ?_
        refine one_ (i := 8) (N := some 25) #[true, true, true, true, true, true, true, true, true, false] rfl rfl (one_of HT_.out (by kernel_rfl)) (by decide) (fun K hK => ?_)
        refine goes_ Try.func152 (by kernel_rfl) rfl #[.agg #[.int .i64 ((rd_T195 l0 x5_1).f0), .int .i64 ((rd_T195 l0 x5_1).f1), .int .i64 ((rd_T195 l0 x5_1).f2), .int .i64 ((rd_T195 l0 x5_1).f3), .int .i64 ((rd_T195 l0 x5_1).f4), .int .i64 ((rd_T195 l0 x5_1).f5)], .agg #[.int .i64 ((rd_T195 l1 x5_1).f0), .int .i64 ((rd_T195 l1 x5_1).f1), .int .i64 ((rd_T195 l1 x5_1).f2), .int .i64 ((rd_T195 l1 x5_1).f3), .int .i64 ((rd_T195 l1 x5_1).f4), .int .i64 ((rd_T195 l1 x5_1).f5)]] (by rfl) rfl rfl (by (try simp only [List.map_toArray, List.map_cons, List.map_nil]); first | done | rfl | (simp only [List.length_drop, List.length_take]; rfl)) ?_
        with_reducible refine (laws_eqBattery.calls ((rd_T195 l0 x5_1).f0) ((rd_T195 l0 x5_1).f1) ((rd_T195 l0 x5_1).f2) ((rd_T195 l0 x5_1).f3) ((rd_T195 l0 x5_1).f4) ((rd_T195 l0 x5_1).f5) ((rd_T195 l1 x5_1).f0) ((rd_T195 l1 x5_1).f1) ((rd_T195 l1 x5_1).f2) ((rd_T195 l1 x5_1).f3) ((rd_T195 l1 x5_1).f4) ((rd_T195 l1 x5_1).f5) true _ rfl A7.out).mono ?_
        rintro e w10 ⟨rfl, hb⟩
        refine ⟨_, rfl, ?_⟩
        have n0_ := aM_ (wS_ (bw_) hb); clear HB; have HB := n0_; clear n0_; (try clear hb); (try clear hb2); (try clear hk); (try clear hi)
        refine hK.out _ _ ⟨((HB.out.cell (World.block_lt_of_cell? w _ hw422_0)).trans hw422_0), ((HB.out.cell (World.block_lt_of_cell? w _ hw422_1)).trans hw422_1), ((HB.out.cell (World.block_lt_of_cell? w _ hw422_2)).trans hw422_2), ((HB.out.cell (World.block_lt_of_cell? w _ hw422_3)).trans hw422_3), ((HB.out.cell (World.block_lt_of_cell? w _ hw422_4)).trans hw422_4), ((HB.out.cell (World.block_lt_of_cell? w _ hw422_5)).trans hw422_5), ((HB.out.cell (World.block_lt_of_cell? w _ hw423_0)).trans hw423_0), ((HB.out.cell (World.block_lt_of_cell? w _ hw423_1)).trans hw423_1), ((HB.out.cell (World.block_lt_of_cell? w _ hw423_2)).trans hw423_2), ((HB.out.cell (World.block_lt_of_cell? w _ hw423_3)).trans hw423_3), ((HB.out.cell (World.block_lt_of_cell? w _ hw423_4)).trans hw423_4), ((HB.out.cell (World.block_lt_of_cell? w _ hw423_5)).trans hw423_5)⟩ (fun hHeld => ?_)
        clear hK K
        refine norm_ (a' := ?_) ?_ ?_
        rotate_left
        ·show Act.put _ (some 25) _ = _
         simp only [Act.put, List.setIfInBounds_toArray, List.set_cons_zero, List.set_cons_succ, i64_w, i32_w]
         rfl
        refine pu_ 9 (some 26) #[true, true, true, true, true, true, true, true, true, true] rfl rfl ?_
        refine done_ (done_of HT_.out (by kernel_rfl)) ?_
        try go_wp2
        go_roundg k1
        case measure => have := HK1.out; omega
        case rel => exact ⟨(wrap64 (x5_1 + 1)), (by first | rfl | (simp; done) | (simp [*]; done)), H', ⟨by have := HK1.out; omega⟩, ⟨bw_⟩⟩
       ·replace c8 := Bool.eq_false_iff.mpr c8
        subst c8
        have H1 : (some false) = some r := by rw [if_neg (show ¬ (false = true) by decide)] at H; exact H
        clear H; have H := H1; clear H1
        exact absurd ((Option.some.inj H).trans HTRUE.out) (by decide)
      ·rw [if_neg c6] at H
       exact absurd H (by simp)
     ·rw [if_neg c5] at H
      exact absurd H (by simp)
    ·rw [if_neg c4] at H
     have c4b0 : decide (x5_1 < (l0.length : Int)) = false := decide_eq_false c4
     clear c4
     obtain rfl := Option.some.inj H
     go_wp2
     go_ret
     exact ⟨by first | rfl | (simp [errW_none, errW_some] <;> rfl) | (simp [*, errW_none, errW_some] <;> rfl), bw_⟩
 ·rw [if_neg c3] at H
  have c3b0 : ((l0.length : Int) == (l1.length : Int)) = false := beq_eq_false_iff_ne.mpr c3
  have c3b1 : ((l0.length : Int) != (l1.length : Int)) = true := bne_iff_ne.mpr c3
  have c3b2 : (l0.length == l1.length) = false := by first | simpa using c3 | (simp at c3 ⊢; omega)
  exact absurd ((Option.some.inj H).trans HTRUE.out) (by decide)

/-! ### laws_eqPacket: function 157 -/
def laws_eqPacket.f (a0_0 : Int) (a0_1 : Int) (a0_2 : Int) (a0_3 : Int) (a0_4 : Int) (a0_5 : Int) (a1_0 : Int) (a1_1 : Int) (a1_2 : Int) (a1_3 : Int) (a1_4 : Int) (a1_5 : Int) : Option (Bool) := if a0_0 = a1_0 then (if a0_1 = a1_1 then (if a0_2 = a1_2 then (if a0_3 = a1_3 then (if a0_4 = a1_4 then (if a0_5 = a1_5 then (some true) else (some false)) else (some false)) else (some false)) else (some false)) else (some false)) else (some false)
set_option maxHeartbeats 8000000 in
set_option maxRecDepth 100000 in
theorem laws_eqPacket.calls (a0_0 : Int) (a0_1 : Int) (a0_2 : Int) (a0_3 : Int) (a0_4 : Int) (a0_5 : Int) (a1_0 : Int) (a1_1 : Int) (a1_2 : Int) (a1_3 : Int) (a1_4 : Int) (a1_5 : Int) (r : Bool) (w : World) (hr_ : r = true) (h : laws_eqPacket.f a0_0 a0_1 a0_2 a0_3 a0_4 a0_5 a1_0 a1_1 a1_2 a1_3 a1_4 a1_5 = some r) :
    Calls Try.prog 157 #[.agg #[.int .i64 a0_0, .int .i64 a0_1, .int .i64 a0_2, .int .i64 a0_3, .int .i64 a0_4, .int .i64 a0_5], .agg #[.int .i64 a1_0, .int .i64 a1_1, .int .i64 a1_2, .int .i64 a1_3, .int .i64 a1_4, .int .i64 a1_5]] w fun e w' => e = .returned (.bool r) ∧ Below w.heap.size w w' := by
  have hu132 := Try.underlying132
  have HB := aM_ (Below.refl w.heap.size w)
  have H : (if a0_0 = a1_0 then (if a0_1 = a1_1 then (if a0_2 = a1_2 then (if a0_3 = a1_3 then (if a0_4 = a1_4 then (if a0_5 = a1_5 then (some true) else (some false)) else (some false)) else (some false)) else (some false)) else (some false)) else (some false)) = some r := h
  clear h
  have HTRUE := aM_ hr_
  clear hr_
  by_cases c3 : a0_0 = a1_0
  · rw [if_pos c3] at H
    have c3b0 : (a0_0 == a1_0) = true := beq_iff_eq.mpr c3
    have c3b1 : (a0_0 != a1_0) = false := bne_eq_false_iff_eq.mpr c3
    clear c3
    by_cases c4 : a0_1 = a1_1
    · rw [if_pos c4] at H
      have c4b0 : (a0_1 == a1_1) = true := beq_iff_eq.mpr c4
      have c4b1 : (a0_1 != a1_1) = false := bne_eq_false_iff_eq.mpr c4
      clear c4
      by_cases c5 : a0_2 = a1_2
      · rw [if_pos c5] at H
        have c5b0 : (a0_2 == a1_2) = true := beq_iff_eq.mpr c5
        have c5b1 : (a0_2 != a1_2) = false := bne_eq_false_iff_eq.mpr c5
        clear c5
        by_cases c6 : a0_3 = a1_3
        · rw [if_pos c6] at H
          have c6b0 : (a0_3 == a1_3) = true := beq_iff_eq.mpr c6
          have c6b1 : (a0_3 != a1_3) = false := bne_eq_false_iff_eq.mpr c6
          clear c6
          by_cases c7 : a0_4 = a1_4
          · rw [if_pos c7] at H
            have c7b0 : (a0_4 == a1_4) = true := beq_iff_eq.mpr c7
            have c7b1 : (a0_4 != a1_4) = false := bne_eq_false_iff_eq.mpr c7
            clear c7
            by_cases c8 : a0_5 = a1_5
            · rw [if_pos c8] at H
              have c8b0 : (a0_5 == a1_5) = true := beq_iff_eq.mpr c8
              have c8b1 : (a0_5 != a1_5) = false := bne_eq_false_iff_eq.mpr c8
              clear c8
              obtain rfl := Option.some.inj H
              go_enter Try.func157, Try.ntmps157
              go_wp2_with (first | ((with_reducible refine gate_dst (N := 2) rfl ?_); refine box_event ?hg (N := 2) ?hd (cs := #[.int .i64 a0_0, .int .i64 a0_1, .int .i64 a0_2, .int .i64 a0_3, .int .i64 a0_4, .int .i64 a0_5]) (t := 132) ?hr ?_; (case hd => rfl); (case hg => rfl); (case hr => first | (go_simp; done) | (go_simp; rfl)); intro gb425 hg w9 hbox hb; have n0_ := aM_ (wS_ (bw_) hb); have n1_ := aM_ (hbox); have n2_ := aM_ ((by rw [hg]; exact (sZ_ (bw_)) : w.heap.size ≤ gb425)); have n3_ := aM_ ((by rw [hg]; exact (sZ_ (bw_)) : w.heap.size ≤ gb425)); clear HB; have HB := n0_; have BK425 := n1_; have GW425 := n2_; have GE425 := n3_; clear n0_ n1_ n2_ n3_ hb hbox hg) | ((with_reducible refine gate_dst (N := 3) rfl ?_); refine box_event ?hg (N := 3) ?hd (cs := #[.int .i64 a1_0, .int .i64 a1_1, .int .i64 a1_2, .int .i64 a1_3, .int .i64 a1_4, .int .i64 a1_5]) (t := 132) ?hr ?_; (case hd => rfl); (case hg => rfl); (case hr => first | (go_simp; done) | (go_simp; rfl)); intro gb426 hg w10 hbox hb; have n0_ := aM_ (bB_ (kb_ BK425.out) hb); have n1_ := aM_ (wS_ (bw_) hb); have n2_ := aM_ (hbox); have n3_ := aM_ ((by rw [hg]; exact (sZ_ (bw_)) : w.heap.size ≤ gb426)); have n4_ := aM_ ((by rw [hg]; exact (sZ_ (bw_)) : w.heap.size ≤ gb426)); have n5_ := aM_ ((by rw [hg]; exact Nat.ne_of_lt (blk_lt (kb_ BK425.out)) : gb425 ≠ gb426)); have n6_ := aM_ ((by rw [hg]; exact Nat.ne_of_gt (blk_lt (kb_ BK425.out)) : gb426 ≠ gb425)); clear BK425 HB; have BK425 := n0_; have HB := n1_; have BK426 := n2_; have GW426 := n3_; have GE426 := n4_; have NB425_426 := n5_; have NB426_425 := n6_; clear n0_ n1_ n2_ n3_ n4_ n5_ n6_ hb hbox hg; have hnb11 := NB425_426.out; have hnc11 := NB426_425.out; obtain ⟨hcz12_0, hcz12_1, hcz12_2, hcz12_3, hcz12_4, hcz12_5, hfz12_0, hfz12_1, hfz12_2, hfz12_3, hfz12_4, hfz12_5⟩ := bk6_ BK425.out; obtain ⟨hcz13_0, hcz13_1, hcz13_2, hcz13_3, hcz13_4, hcz13_5, hfz13_0, hfz13_1, hfz13_2, hfz13_3, hfz13_4, hfz13_5⟩ := bk6_ BK426.out))
              go_ret
              exact ⟨by first | rfl | (simp [errW_none, errW_some] <;> rfl) | (simp [*, errW_none, errW_some] <;> rfl), bw_⟩
            · rw [if_neg c8] at H
              have c8b0 : (a0_5 == a1_5) = false := beq_eq_false_iff_ne.mpr c8
              have c8b1 : (a0_5 != a1_5) = true := bne_iff_ne.mpr c8
              exact absurd ((Option.some.inj H).trans HTRUE.out) (by decide)
          · rw [if_neg c7] at H
            have c7b0 : (a0_4 == a1_4) = false := beq_eq_false_iff_ne.mpr c7
            have c7b1 : (a0_4 != a1_4) = true := bne_iff_ne.mpr c7
            exact absurd ((Option.some.inj H).trans HTRUE.out) (by decide)
        · rw [if_neg c6] at H
          have c6b0 : (a0_3 == a1_3) = false := beq_eq_false_iff_ne.mpr c6
          have c6b1 : (a0_3 != a1_3) = true := bne_iff_ne.mpr c6
          exact absurd ((Option.some.inj H).trans HTRUE.out) (by decide)
      · rw [if_neg c5] at H
        have c5b0 : (a0_2 == a1_2) = false := beq_eq_false_iff_ne.mpr c5
        have c5b1 : (a0_2 != a1_2) = true := bne_iff_ne.mpr c5
        exact absurd ((Option.some.inj H).trans HTRUE.out) (by decide)
    · rw [if_neg c4] at H
      have c4b0 : (a0_1 == a1_1) = false := beq_eq_false_iff_ne.mpr c4
      have c4b1 : (a0_1 != a1_1) = true := bne_iff_ne.mpr c4
      exact absurd ((Option.some.inj H).trans HTRUE.out) (by decide)
  · rw [if_neg c3] at H
    have c3b0 : (a0_0 == a1_0) = false := beq_eq_false_iff_ne.mpr c3
    have c3b1 : (a0_0 != a1_0) = true := bne_iff_ne.mpr c3
    exact absurd ((Option.some.inj H).trans HTRUE.out) (by decide)

/-! ### laws_eqPacketS: function 99 -/
def laws_eqPacketS.l0 : Nat → List (S132) → List (S132) → Int → Option (Bool)
  | 0, _, _, _ => none
  | k + 1, x0, x1, x5 => if x5 < (x0.length : Int) then (if 0 ≤ x5 then (if x5 < (x1.length : Int) then ((laws_eqPacket.f ((rd_T132 x0 x5).f0) ((rd_T132 x0 x5).f1) ((rd_T132 x0 x5).f2) ((rd_T132 x0 x5).f3) ((rd_T132 x0 x5).f4) ((rd_T132 x0 x5).f5) ((rd_T132 x1 x5).f0) ((rd_T132 x1 x5).f1) ((rd_T132 x1 x5).f2) ((rd_T132 x1 x5).f3) ((rd_T132 x1 x5).f4) ((rd_T132 x1 x5).f5)).bind fun t429 => (if t429 = true then (laws_eqPacketS.l0 k x0 x1 (wrap64 (x5 + 1))) else (some false))) else (none)) else (none)) else (some true)
def laws_eqPacketS.f (k : Nat) (l0 : List (S132)) (l1 : List (S132)) : Option (Bool) := if (l0.length : Int) = (l1.length : Int) then (laws_eqPacketS.l0 k l0 l1 0) else (some false)
def laws_eqPacketS.T6 : Bool × List (List Nat × List Nat) := (true, [([], []), ([], []), ([0, 1], [0, 1]), ([2], [2]), ([], []), ([], []), ([4, 5], [4, 5]), ([6], [6]), ([3, 7], [3, 7]), ([8], [8])])
def laws_eqPacketS.B6 : List Nat := [0, 0, 3, 7, 0, 0, 48, 112, 255, 511]
theorem laws_eqPacketS.tab6 : rtab .any (opsOf Try.f99 6) = laws_eqPacketS.T6 := by kernel_rfl
theorem laws_eqPacketS.bits6 : waitsOk laws_eqPacketS.T6.2 laws_eqPacketS.B6 = true := by kernel_rfl
set_option maxHeartbeats 8000000 in
set_option maxRecDepth 100000 in
theorem laws_eqPacketS.calls (k : Nat) (A0 : Option Addr) (c0 : Nat) (l0 : List (S132)) (A1 : Option Addr) (c1 : Nat) (l1 : List (S132)) (r : Bool) (w : World) (hr0 : Kd.C k132 w A0 l0.length l0) (hc0 : l0.length ≤ c0) (hr1 : Kd.C k132 w A1 l1.length l1) (hc1 : l1.length ≤ c1) (hr_ : r = true) (h : laws_eqPacketS.f k l0 l1 = some r) :
  Calls Try.prog 99 #[.slice A0 l0.length c0, .slice A1 l1.length c1] w fun e w' => e = .returned (.bool r) ∧ Below w.heap.size w w' := by
 have hu132 := Try.underlying132; have HR0 := aM_ hr0; have HC0 := aM_ hc0; clear hr0 hc0; have HR1 := aM_ hr1; have HC1 := aM_ hc1; clear hr1 hc1; have HB := aM_ (Below.refl w.heap.size w)
 have H : (if (l0.length : Int) = (l1.length : Int) then (laws_eqPacketS.l0 k l0 l1 0) else (some false)) = some r := h
 clear h; have HTRUE := aM_ hr_; clear hr_
 by_cases c3 : (l0.length : Int) = (l1.length : Int)
 ·rw [if_pos c3] at H
  have c3b0 : ((l0.length : Int) == (l1.length : Int)) = true := beq_iff_eq.mpr c3
  have c3b1 : ((l0.length : Int) != (l1.length : Int)) = false := bne_eq_false_iff_eq.mpr c3
  have c3b2 : (l0.length == l1.length) = true := by first | simpa using c3 | (simp at c3 ⊢; omega)
  clear c3
  have H' := aM_ H
  clear H
  go_enter Try.func99, Try.ntmps99
  go_wp2
  go_loopg [5] k (fun kq v5 w' => ∃ (x5_1 : Int), v5 = .int .i64 x5_1 ∧ Aside0 (laws_eqPacketS.l0 kq l0 l1 x5_1 = some r) ∧ Aside0 (kq ≤ k) ∧ Aside0 (Below w.heap.size w w'))
  case atStart => exact ⟨(0), (by first | rfl | (simp; done) | (simp [*]; done)), H', ⟨Nat.le_refl _⟩, ⟨bw_⟩⟩
  case round =>
   clear H'
   try clear c3b0
   try clear c3b1
   try clear c3b2
   obtain ⟨x5_1, rfl, HA, HK1, HB⟩ := hrel
   cases gk with
   | zero => exact absurd HA.out (by simp [laws_eqPacketS.l0])
   | succ k1 =>
    have H := HA.out; clear HA
    simp only [laws_eqPacketS.l0] at H
    by_cases c4 : x5_1 < (l0.length : Int)
    ·rw [if_pos c4] at H
     have c4b0 : decide (x5_1 < (l0.length : Int)) = true := decide_eq_true c4
     clear c4
     by_cases c5 : 0 ≤ x5_1
     ·rw [if_pos c5] at H
      have c5b0 : decide (0 ≤ x5_1) = true := decide_eq_true c5
      clear c5
      by_cases c6 : x5_1 < (l1.length : Int)
      ·rw [if_pos c6] at H
       have c6b0 : decide (x5_1 < (l1.length : Int)) = true := decide_eq_true c6
       clear c6
       replace H := Option.bind_eq_some_iff.mp H
       obtain ⟨t429, A70, H⟩ := H
       (try dsimp only at H)
       have A7 := aM_ A70; clear A70
       by_cases c8 : t429 = true
       ·subst c8
        have H1 : (laws_eqPacketS.l0 k1 l0 l1 (wrap64 (x5_1 + 1))) = some r := by rw [if_pos rfl] at H; exact H
        clear H; have H := H1; clear H1
        have H' := aM_ H
        clear H
        try go_wp2
        have n0_ := aM_ (wD_ HB.out); clear HB; have HB := n0_; clear n0_
        have p427 : 0 ≤ (x5_1 : Int) := dT_
        have q427 : x5_1 < (l0.length : Int) := dT_
        obtain ⟨ad427, e427, hx427_0, hx427_1, hx427_2, hx427_3, hx427_4, hx427_5⟩ := at_T132 HR0.out x5_1 p427 q427
        have hw427_5 := hx427_5; have hw427_4 := hx427_4; have hw427_3 := hx427_3; have hw427_2 := hx427_2; have hw427_1 := hx427_1; have hw427_0 := hx427_0
        cases e427
        replace hx427_0 := (HB.out.cell (World.block_lt_of_cell? w _ hx427_0)).trans hx427_0
        replace hx427_1 := (HB.out.cell (World.block_lt_of_cell? w _ hx427_1)).trans hx427_1
        replace hx427_2 := (HB.out.cell (World.block_lt_of_cell? w _ hx427_2)).trans hx427_2
        replace hx427_3 := (HB.out.cell (World.block_lt_of_cell? w _ hx427_3)).trans hx427_3
        replace hx427_4 := (HB.out.cell (World.block_lt_of_cell? w _ hx427_4)).trans hx427_4
        replace hx427_5 := (HB.out.cell (World.block_lt_of_cell? w _ hx427_5)).trans hx427_5
        replace p427 := eq_true p427; replace q427 := eq_true q427
        have p428 : 0 ≤ (x5_1 : Int) := dT_
        have q428 : x5_1 < (l1.length : Int) := dT_
        obtain ⟨ad428, e428, hx428_0, hx428_1, hx428_2, hx428_3, hx428_4, hx428_5⟩ := at_T132 HR1.out x5_1 p428 q428
        have hw428_5 := hx428_5; have hw428_4 := hx428_4; have hw428_3 := hx428_3; have hw428_2 := hx428_2; have hw428_1 := hx428_1; have hw428_0 := hx428_0
        cases e428
        replace hx428_0 := (HB.out.cell (World.block_lt_of_cell? w _ hx428_0)).trans hx428_0
        replace hx428_1 := (HB.out.cell (World.block_lt_of_cell? w _ hx428_1)).trans hx428_1
        replace hx428_2 := (HB.out.cell (World.block_lt_of_cell? w _ hx428_2)).trans hx428_2
        replace hx428_3 := (HB.out.cell (World.block_lt_of_cell? w _ hx428_3)).trans hx428_3
        replace hx428_4 := (HB.out.cell (World.block_lt_of_cell? w _ hx428_4)).trans hx428_4
        replace hx428_5 := (HB.out.cell (World.block_lt_of_cell? w _ hx428_5)).trans hx428_5
        replace p428 := eq_true p428; replace q428 := eq_true q428
        refine start_ (n := 10) (S := fun w' => w'.cell? (ad427.add ((x5_1).toNat * 6)) = some (.int .i64 ((rd_T132 l0 x5_1).f0)) ∧ w'.cell? ⟨(ad427.add ((x5_1).toNat * 6)).block, (ad427.add ((x5_1).toNat * 6)).off + 1, none⟩ = some (.int .i64 ((rd_T132 l0 x5_1).f1)) ∧ w'.cell? ⟨(ad427.add ((x5_1).toNat * 6)).block, (ad427.add ((x5_1).toNat * 6)).off + 2, none⟩ = some (.int .i64 ((rd_T132 l0 x5_1).f2)) ∧ w'.cell? ⟨(ad427.add ((x5_1).toNat * 6)).block, (ad427.add ((x5_1).toNat * 6)).off + 3, none⟩ = some (.int .i64 ((rd_T132 l0 x5_1).f3)) ∧ w'.cell? ⟨(ad427.add ((x5_1).toNat * 6)).block, (ad427.add ((x5_1).toNat * 6)).off + 4, none⟩ = some (.int .i64 ((rd_T132 l0 x5_1).f4)) ∧ w'.cell? ⟨(ad427.add ((x5_1).toNat * 6)).block, (ad427.add ((x5_1).toNat * 6)).off + 5, none⟩ = some (.int .i64 ((rd_T132 l0 x5_1).f5)) ∧ w'.cell? (ad428.add ((x5_1).toNat * 6)) = some (.int .i64 ((rd_T132 l1 x5_1).f0)) ∧ w'.cell? ⟨(ad428.add ((x5_1).toNat * 6)).block, (ad428.add ((x5_1).toNat * 6)).off + 1, none⟩ = some (.int .i64 ((rd_T132 l1 x5_1).f1)) ∧ w'.cell? ⟨(ad428.add ((x5_1).toNat * 6)).block, (ad428.add ((x5_1).toNat * 6)).off + 2, none⟩ = some (.int .i64 ((rd_T132 l1 x5_1).f2)) ∧ w'.cell? ⟨(ad428.add ((x5_1).toNat * 6)).block, (ad428.add ((x5_1).toNat * 6)).off + 3, none⟩ = some (.int .i64 ((rd_T132 l1 x5_1).f3)) ∧ w'.cell? ⟨(ad428.add ((x5_1).toNat * 6)).block, (ad428.add ((x5_1).toNat * 6)).off + 4, none⟩ = some (.int .i64 ((rd_T132 l1 x5_1).f4)) ∧ w'.cell? ⟨(ad428.add ((x5_1).toNat * 6)).block, (ad428.add ((x5_1).toNat * 6)).off + 5, none⟩ = some (.int .i64 ((rd_T132 l1 x5_1).f5))) (ds := []) #[false, false, false, false, false, false, false, false, false, false] (by kernel_rfl) rfl rfl ⟨((HB.out.cell (World.block_lt_of_cell? w _ hw427_0)).trans hw427_0), ((HB.out.cell (World.block_lt_of_cell? w _ hw427_1)).trans hw427_1), ((HB.out.cell (World.block_lt_of_cell? w _ hw427_2)).trans hw427_2), ((HB.out.cell (World.block_lt_of_cell? w _ hw427_3)).trans hw427_3), ((HB.out.cell (World.block_lt_of_cell? w _ hw427_4)).trans hw427_4), ((HB.out.cell (World.block_lt_of_cell? w _ hw427_5)).trans hw427_5), ((HB.out.cell (World.block_lt_of_cell? w _ hw428_0)).trans hw428_0), ((HB.out.cell (World.block_lt_of_cell? w _ hw428_1)).trans hw428_1), ((HB.out.cell (World.block_lt_of_cell? w _ hw428_2)).trans hw428_2), ((HB.out.cell (World.block_lt_of_cell? w _ hw428_3)).trans hw428_3), ((HB.out.cell (World.block_lt_of_cell? w _ hw428_4)).trans hw428_4), ((HB.out.cell (World.block_lt_of_cell? w _ hw428_5)).trans hw428_5)⟩ (fun hHeld => ?_); refine with_tabW laws_eqPacketS.tab6 laws_eqPacketS.bits6 (fun HT_ HW_ => ?_)
        generalize wr.drew = w9 at HB hx427_0 hx427_1 hx427_2 hx427_3 hx427_4 hx427_5 hx428_0 hx428_1 hx428_2 hx428_3 hx428_4 hx428_5 hHeld ⊢
        refine pu_ 0 (some 17) #[true, false, false, false, false, false, false, false, false, false] rfl rfl ?_
        refine pu_ 1 (some 18) #[true, true, false, false, false, false, false, false, false, false] rfl rfl ?_
        refine pu_ 2 (some 19) #[true, true, true, false, false, false, false, false, false, false] rfl rfl ?_
        refine pu_ 4 (some 21) #[true, true, true, false, true, false, false, false, false, false] rfl rfl ?_
        refine pu_ 5 (some 22) #[true, true, true, false, true, true, false, false, false, false] rfl rfl ?_
        refine pu_ 6 (some 23) #[true, true, true, false, true, true, true, false, false, false] rfl rfl ?_
        refine tk12_ 3 (some 20) #[true, true, true, true, true, true, true, false, false, false] rfl rfl ?_
        refine tk12_ 7 (some 24) #[true, true, true, true, true, true, true, true, false, false] rfl rfl ?_
        refine one_ (i := 8) (N := some 25) #[true, true, true, true, true, true, true, true, true, false] rfl rfl (one_of HT_.out (by kernel_rfl)) (by decide) (fun K hK => ?_)
        refine goes_ Try.func157 (by kernel_rfl) rfl #[.agg #[.int .i64 ((rd_T132 l0 x5_1).f0), .int .i64 ((rd_T132 l0 x5_1).f1), .int .i64 ((rd_T132 l0 x5_1).f2), .int .i64 ((rd_T132 l0 x5_1).f3), .int .i64 ((rd_T132 l0 x5_1).f4), .int .i64 ((rd_T132 l0 x5_1).f5)], .agg #[.int .i64 ((rd_T132 l1 x5_1).f0), .int .i64 ((rd_T132 l1 x5_1).f1), .int .i64 ((rd_T132 l1 x5_1).f2), .int .i64 ((rd_T132 l1 x5_1).f3), .int .i64 ((rd_T132 l1 x5_1).f4), .int .i64 ((rd_T132 l1 x5_1).f5)]] (by rfl) rfl rfl (by (try simp only [List.map_toArray, List.map_cons, List.map_nil]); first | done | rfl | (simp only [List.length_drop, List.length_take]; rfl)) ?_
        with_reducible refine (laws_eqPacket.calls ((rd_T132 l0 x5_1).f0) ((rd_T132 l0 x5_1).f1) ((rd_T132 l0 x5_1).f2) ((rd_T132 l0 x5_1).f3) ((rd_T132 l0 x5_1).f4) ((rd_T132 l0 x5_1).f5) ((rd_T132 l1 x5_1).f0) ((rd_T132 l1 x5_1).f1) ((rd_T132 l1 x5_1).f2) ((rd_T132 l1 x5_1).f3) ((rd_T132 l1 x5_1).f4) ((rd_T132 l1 x5_1).f5) true _ rfl A7.out).mono ?_
        rintro e w10 ⟨rfl, hb⟩
        refine ⟨_, rfl, ?_⟩
        have n0_ := aM_ (wS_ (bw_) hb); clear HB; have HB := n0_; clear n0_; (try clear hb); (try clear hb2); (try clear hk); (try clear hi)
        refine hK.out _ _ ⟨((HB.out.cell (World.block_lt_of_cell? w _ hw427_0)).trans hw427_0), ((HB.out.cell (World.block_lt_of_cell? w _ hw427_1)).trans hw427_1), ((HB.out.cell (World.block_lt_of_cell? w _ hw427_2)).trans hw427_2), ((HB.out.cell (World.block_lt_of_cell? w _ hw427_3)).trans hw427_3), ((HB.out.cell (World.block_lt_of_cell? w _ hw427_4)).trans hw427_4), ((HB.out.cell (World.block_lt_of_cell? w _ hw427_5)).trans hw427_5), ((HB.out.cell (World.block_lt_of_cell? w _ hw428_0)).trans hw428_0), ((HB.out.cell (World.block_lt_of_cell? w _ hw428_1)).trans hw428_1), ((HB.out.cell (World.block_lt_of_cell? w _ hw428_2)).trans hw428_2), ((HB.out.cell (World.block_lt_of_cell? w _ hw428_3)).trans hw428_3), ((HB.out.cell (World.block_lt_of_cell? w _ hw428_4)).trans hw428_4), ((HB.out.cell (World.block_lt_of_cell? w _ hw428_5)).trans hw428_5)⟩ (fun hHeld => ?_)
        clear hK K
        refine norm_ (a' := ?_) ?_ ?_
        rotate_left
        ·show Act.put _ (some 25) _ = _
         simp only [Act.put, List.setIfInBounds_toArray, List.set_cons_zero, List.set_cons_succ, i64_w, i32_w]
         rfl
        refine pu_ 9 (some 26) #[true, true, true, true, true, true, true, true, true, true] rfl rfl ?_
        refine done_ (done_of HT_.out (by kernel_rfl)) ?_
        try go_wp2
        go_roundg k1
        case measure => have := HK1.out; omega
        case rel => exact ⟨(wrap64 (x5_1 + 1)), (by first | rfl | (simp; done) | (simp [*]; done)), H', ⟨by have := HK1.out; omega⟩, ⟨bw_⟩⟩
       ·replace c8 := Bool.eq_false_iff.mpr c8
        subst c8
        have H1 : (some false) = some r := by rw [if_neg (show ¬ (false = true) by decide)] at H; exact H
        clear H; have H := H1; clear H1
        exact absurd ((Option.some.inj H).trans HTRUE.out) (by decide)
      ·rw [if_neg c6] at H
       exact absurd H (by simp)
     ·rw [if_neg c5] at H
      exact absurd H (by simp)
    ·rw [if_neg c4] at H
     have c4b0 : decide (x5_1 < (l0.length : Int)) = false := decide_eq_false c4
     clear c4
     obtain rfl := Option.some.inj H
     go_wp2
     go_ret
     exact ⟨by first | rfl | (simp [errW_none, errW_some] <;> rfl) | (simp [*, errW_none, errW_some] <;> rfl), bw_⟩
 ·rw [if_neg c3] at H
  have c3b0 : ((l0.length : Int) == (l1.length : Int)) = false := beq_eq_false_iff_ne.mpr c3
  have c3b1 : ((l0.length : Int) != (l1.length : Int)) = true := bne_iff_ne.mpr c3
  have c3b2 : (l0.length == l1.length) = false := by first | simpa using c3 | (simp at c3 ⊢; omega)
  exact absurd ((Option.some.inj H).trans HTRUE.out) (by decide)

/-! ### laws_eqQueue: function 153 -/
def laws_eqQueue.f (k : Nat) (l0_0 : List (S132)) (l1_0 : List (S132)) : Option (Bool) := (laws_eqPacketS.f k l0_0 l1_0).bind fun t432 => (if t432 = true then (some true) else (some false))
set_option maxHeartbeats 8000000 in
set_option maxRecDepth 100000 in
theorem laws_eqQueue.calls (k : Nat) (A0_0 : Option Addr) (c0_0 : Nat) (l0_0 : List (S132)) (A1_0 : Option Addr) (c1_0 : Nat) (l1_0 : List (S132)) (r : Bool) (w : World) (hr0_0 : Kd.C k132 w A0_0 l0_0.length l0_0) (hc0_0 : l0_0.length ≤ c0_0) (hr1_0 : Kd.C k132 w A1_0 l1_0.length l1_0) (hc1_0 : l1_0.length ≤ c1_0) (hr_ : r = true) (h : laws_eqQueue.f k l0_0 l1_0 = some r) :
    Calls Try.prog 153 #[.agg #[.slice A0_0 l0_0.length c0_0], .agg #[.slice A1_0 l1_0.length c1_0]] w fun e w' => e = .returned (.bool r) ∧ Below w.heap.size w w' := by
  have hu130 := Try.underlying130
  have HR0_0 := aM_ hr0_0
  have HC0_0 := aM_ hc0_0
  clear hr0_0 hc0_0
  have HR1_0 := aM_ hr1_0
  have HC1_0 := aM_ hc1_0
  clear hr1_0 hc1_0
  have HB := aM_ (Below.refl w.heap.size w)
  have H : ((laws_eqPacketS.f k l0_0 l1_0).bind fun t432 => (if t432 = true then (some true) else (some false))) = some r := h
  clear h
  have HTRUE := aM_ hr_
  clear hr_
  replace H := Option.bind_eq_some_iff.mp H
  obtain ⟨t432, A30, H⟩ := H
  replace H : (if t432 = true then (some true) else (some false)) = some r := H
  have A3 := aM_ A30
  clear A30
  by_cases c4 : t432 = true
  · subst c4
    have H1 : (some true) = some r := by rw [if_pos rfl] at H; exact H
    clear H
    have H := H1
    clear H1
    obtain rfl := Option.some.inj H
    go_enter Try.func153, Try.ntmps153
    go_wp2_with (first | ((with_reducible refine gate_dst (N := 2) rfl ?_); refine box_event ?hg (N := 2) ?hd (cs := #[.slice A0_0 l0_0.length c0_0]) (t := 130) ?hr ?_; (case hd => rfl); (case hg => rfl); (case hr => first | (go_simp; done) | (go_simp; rfl)); intro gb430 hg w5 hbox hb; have n0_ := aM_ (wS_ (bw_) hb); have n1_ := aM_ (hbox); have n2_ := aM_ ((by rw [hg]; exact (sZ_ (bw_)) : w.heap.size ≤ gb430)); have n3_ := aM_ ((by rw [hg]; exact (sZ_ (bw_)) : w.heap.size ≤ gb430)); clear HB; have HB := n0_; have BK430 := n1_; have GW430 := n2_; have GE430 := n3_; clear n0_ n1_ n2_ n3_ hb hbox hg) | ((with_reducible refine gate_dst (N := 3) rfl ?_); refine box_event ?hg (N := 3) ?hd (cs := #[.slice A1_0 l1_0.length c1_0]) (t := 130) ?hr ?_; (case hd => rfl); (case hg => rfl); (case hr => first | (go_simp; done) | (go_simp; rfl)); intro gb431 hg w6 hbox hb; have n0_ := aM_ (bB_ (kb_ BK430.out) hb); have n1_ := aM_ (wS_ (bw_) hb); have n2_ := aM_ (hbox); have n3_ := aM_ ((by rw [hg]; exact (sZ_ (bw_)) : w.heap.size ≤ gb431)); have n4_ := aM_ ((by rw [hg]; exact (sZ_ (bw_)) : w.heap.size ≤ gb431)); have n5_ := aM_ ((by rw [hg]; exact Nat.ne_of_lt (blk_lt (kb_ BK430.out)) : gb430 ≠ gb431)); have n6_ := aM_ ((by rw [hg]; exact Nat.ne_of_gt (blk_lt (kb_ BK430.out)) : gb431 ≠ gb430)); clear BK430 HB; have BK430 := n0_; have HB := n1_; have BK431 := n2_; have GW431 := n3_; have GE431 := n4_; have NB430_431 := n5_; have NB431_430 := n6_; clear n0_ n1_ n2_ n3_ n4_ n5_ n6_ hb hbox hg; have hnb7 := NB430_431.out; have hnc7 := NB431_430.out; have hcz8_0 : w6.cell? ⟨gb430, 0, none⟩ = some (.slice A0_0 l0_0.length c0_0) := (blk_cell BK430.out 0).trans rfl; have hfz8_0 := blk_frozen BK430.out 0; have hcz9_0 : w6.cell? ⟨gb431, 0, none⟩ = some (.slice A1_0 l1_0.length c1_0) := (blk_cell BK431.out 0).trans rfl; have hfz9_0 := blk_frozen BK431.out 0) | ((with_reducible refine gate_callee (f := 99) rfl ?_); refine goesL_ (some 9) rfl rfl Try.func99 (by kernel_rfl) rfl #[.slice A0_0 l0_0.length c0_0, .slice A1_0 l1_0.length c1_0] rfl (by (try simp only [List.map_toArray, List.map_cons, List.map_nil]); first | done | rfl | (simp only [List.length_drop, List.length_take]; rfl)) ?_; (with_reducible refine (laws_eqPacketS.calls k _ _ l0_0 _ _ l1_0 true _ ?side1 ?side2 ?side3 ?side4 rfl A3.out).mono ?_); (case side1 => repeat (first | exact (Kd.C_below HR0_0.out HB.out) | (with_reducible refine cA_ ?_ _) | (with_reducible refine cN_ ?_ _) | (with_reducible refine cD_ ?_))); (case side2 => exact HC0_0.out); (case side3 => repeat (first | exact (Kd.C_below HR1_0.out HB.out) | (with_reducible refine cA_ ?_ _) | (with_reducible refine cN_ ?_ _) | (with_reducible refine cD_ ?_))); (case side4 => exact HC1_0.out); rintro e w10 ⟨rfl, hb⟩; refine ⟨_, rfl, ?_⟩; have n0_ := aM_ (bB_ (kb_ BK430.out) hb); have n1_ := aM_ (bB_ (kb_ BK431.out) hb); have n2_ := aM_ (wS_ (bw_) hb); clear BK430 BK431 HB; have BK430 := n0_; have BK431 := n1_; have HB := n2_; clear n0_ n1_ n2_; (try clear hb); (try clear hb2); (try clear hk); (try clear hi)))
    go_ret
    exact ⟨by first | rfl | (simp [errW_none, errW_some] <;> rfl) | (simp [*, errW_none, errW_some] <;> rfl), bw_⟩
  · replace c4 := Bool.eq_false_iff.mpr c4
    subst c4
    have H1 : (some false) = some r := by rw [if_neg (show ¬ (false = true) by decide)] at H; exact H
    clear H
    have H := H1
    clear H1
    exact absurd ((Option.some.inj H).trans HTRUE.out) (by decide)

end Go.Proofs.Ytlogjmgghnifoaa.PFnExactPacketPlaces
