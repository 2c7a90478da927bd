/- The functions that the law reaches, as plain Lean functions, each with the proof that the Go code comes to its answers; conditions: those that each theorem names. (printed by a program of this session) -/
import Derived.Test.YtlogjmgghnifoaaPFnExactPacketPlacesx0
import Derived.Test.YtlogjmgghnifoaaPFnExactPacketPlacesx12
namespace Go.Proofs.Ytlogjmgghnifoaa.PFnExactPacketPlaces
open Go.RowKit Go.Proofs.YtlogjmgghnifoaaW.PrintWords Go.Proofs.YtlogjmgghnifoaaW.PrintLast Go.Proofs.YtlogjmgghnifoaaW.PrintMore
attribute [local go_sem] max2_int min2_int max_two min_two max_three min_three max_four min_four   -- for this text's walks alone
set_option linter.unusedVariables false
set_option linter.unusedSimpArgs false

/-! ### laws_eqStreamS: function 97 -/
def laws_eqStreamS.l0 : Nat → List (S203) → List (S203) → Int → Option (Bool)
  | 0, _, _, _ => none
  | k + 1, x0, x1, x5 => if x5 < (x0.length : Int) then (if 0 ≤ x5 then (if x5 < (x1.length : Int) then ((laws_eqStream.f k ((rd_T203 x0 x5).f0) ((rd_T203 x0 x5).f1) ((rd_T203 x0 x5).f2) ((rd_T203 x1 x5).f0) ((rd_T203 x1 x5).f1) ((rd_T203 x1 x5).f2)).bind fun t446 => (if t446 = true then (laws_eqStreamS.l0 k x0 x1 (wrap64 (x5 + 1))) else (some false))) else (none)) else (none)) else (some true)
def laws_eqStreamS.f (k : Nat) (l0 : List (S203)) (l1 : List (S203)) : Option (Bool) := if (l0.length : Int) = (l1.length : Int) then (laws_eqStreamS.l0 k l0 l1 0) else (some false)
def laws_eqStreamS.T6 : Bool × List (List Nat × List Nat) := (true, [([], []), ([], []), ([0, 1], [0, 1]), ([2], [2]), ([], []), ([], []), ([4, 5], [4, 5]), ([6], [6]), ([3, 7], [3, 7]), ([8], [8])])
def laws_eqStreamS.B6 : List Nat := [0, 0, 3, 7, 0, 0, 48, 112, 255, 511]
theorem laws_eqStreamS.tab6 : rtab .any (opsOf Try.f97 6) = laws_eqStreamS.T6 := by kernel_rfl
theorem laws_eqStreamS.bits6 : waitsOk laws_eqStreamS.T6.2 laws_eqStreamS.B6 = true := by kernel_rfl
set_option maxHeartbeats 8000000 in
set_option maxRecDepth 100000 in
theorem laws_eqStreamS.calls (k : Nat) (A0 : Option Addr) (c0 : Nat) (l0 : List (S203)) (A1 : Option Addr) (c1 : Nat) (l1 : List (S203)) (r : Bool) (w : World) (hr0 : Kd.C k203 w A0 l0.length l0) (hc0 : l0.length ≤ c0) (hr1 : Kd.C k203 w A1 l1.length l1) (hc1 : l1.length ≤ c1) (hr_ : r = true) (h : laws_eqStreamS.f k l0 l1 = some r) :
  Calls Try.prog 97 #[.slice A0 l0.length c0, .slice A1 l1.length c1] w fun e w' => e = .returned (.bool r) ∧ Below w.heap.size w w' := by
 have hu203 := Try.underlying203; have HR0 := aM_ hr0; have HC0 := aM_ hc0; clear hr0 hc0; have HR1 := aM_ hr1; have HC1 := aM_ hc1; clear hr1 hc1; have HB := aM_ (Below.refl w.heap.size w)
 have H : (if (l0.length : Int) = (l1.length : Int) then (laws_eqStreamS.l0 k l0 l1 0) else (some false)) = some r := h
 clear h; have HTRUE := aM_ hr_; clear hr_
 by_cases c3 : (l0.length : Int) = (l1.length : Int)
 ·rw [if_pos c3] at H
  have c3b0 : ((l0.length : Int) == (l1.length : Int)) = true := beq_iff_eq.mpr c3
  have c3b1 : ((l0.length : Int) != (l1.length : Int)) = false := bne_eq_false_iff_eq.mpr c3
  have c3b2 : (l0.length == l1.length) = true := by first | simpa using c3 | (simp at c3 ⊢; omega)
  clear c3
  have H' := aM_ H
  clear H
  go_enter Try.func97, Try.ntmps97
  go_wp2
  go_loopg [5] k (fun kq v5 w' => ∃ (x5_1 : Int), v5 = .int .i64 x5_1 ∧ Aside0 (laws_eqStreamS.l0 kq l0 l1 x5_1 = some r) ∧ Aside0 (kq ≤ k) ∧ Aside0 (Below w.heap.size w w'))
  case atStart => exact ⟨(0), (by first | rfl | (simp; done) | (simp [*]; done)), H', ⟨Nat.le_refl _⟩, ⟨bw_⟩⟩
  case round =>
   clear H'
   try clear c3b0
   try clear c3b1
   try clear c3b2
   obtain ⟨x5_1, rfl, HA, HK1, HB⟩ := hrel
   cases gk with
   | zero => exact absurd HA.out (by simp [laws_eqStreamS.l0])
   | succ k1 =>
    have H := HA.out; clear HA
    simp only [laws_eqStreamS.l0] at H
    by_cases c4 : x5_1 < (l0.length : Int)
    ·rw [if_pos c4] at H
     have c4b0 : decide (x5_1 < (l0.length : Int)) = true := decide_eq_true c4
     clear c4
     by_cases c5 : 0 ≤ x5_1
     ·rw [if_pos c5] at H
      have c5b0 : decide (0 ≤ x5_1) = true := decide_eq_true c5
      clear c5
      by_cases c6 : x5_1 < (l1.length : Int)
      ·rw [if_pos c6] at H
       have c6b0 : decide (x5_1 < (l1.length : Int)) = true := decide_eq_true c6
       clear c6
       replace H := Option.bind_eq_some_iff.mp H
       obtain ⟨t446, A70, H⟩ := H
       (try dsimp only at H)
       have A7 := aM_ A70; clear A70
       by_cases c8 : t446 = true
       ·subst c8
        have H1 : (laws_eqStreamS.l0 k1 l0 l1 (wrap64 (x5_1 + 1))) = some r := by rw [if_pos rfl] at H; exact H
        clear H; have H := H1; clear H1
        have H' := aM_ H
        clear H
        try go_wp2
        have n0_ := aM_ (wD_ HB.out); clear HB; have HB := n0_; clear n0_
        have p444 : 0 ≤ (x5_1 : Int) := dT_
        have q444 : x5_1 < (l0.length : Int) := dT_
        obtain ⟨ad444, A444_2, c444_2, e444, hx444_0, hx444_1, hx444_2, hl444_2, hi444_2⟩ := at_T203 HR0.out x5_1 p444 q444
        have hw444_2 := hx444_2; have hw444_1 := hx444_1; have hw444_0 := hx444_0
        cases e444
        replace hx444_0 := (HB.out.cell (World.block_lt_of_cell? w _ hx444_0)).trans hx444_0
        replace hx444_1 := (HB.out.cell (World.block_lt_of_cell? w _ hx444_1)).trans hx444_1
        replace hx444_2 := (HB.out.cell (World.block_lt_of_cell? w _ hx444_2)).trans hx444_2
        have HR444_2 := aM_ hi444_2; have HC444_2 := aM_ hl444_2; clear hi444_2 hl444_2; replace p444 := eq_true p444; replace q444 := eq_true q444
        have p445 : 0 ≤ (x5_1 : Int) := dT_
        have q445 : x5_1 < (l1.length : Int) := dT_
        obtain ⟨ad445, A445_2, c445_2, e445, hx445_0, hx445_1, hx445_2, hl445_2, hi445_2⟩ := at_T203 HR1.out x5_1 p445 q445
        have hw445_2 := hx445_2; have hw445_1 := hx445_1; have hw445_0 := hx445_0
        cases e445
        replace hx445_0 := (HB.out.cell (World.block_lt_of_cell? w _ hx445_0)).trans hx445_0
        replace hx445_1 := (HB.out.cell (World.block_lt_of_cell? w _ hx445_1)).trans hx445_1
        replace hx445_2 := (HB.out.cell (World.block_lt_of_cell? w _ hx445_2)).trans hx445_2
        have HR445_2 := aM_ hi445_2; have HC445_2 := aM_ hl445_2; clear hi445_2 hl445_2; replace p445 := eq_true p445; replace q445 := eq_true q445
        refine start_ (n := 10) (S := fun w' => w'.cell? (ad444.add ((x5_1).toNat * 3)) = some (.int .i64 ((rd_T203 l0 x5_1).f0)) ∧ w'.cell? ⟨(ad444.add ((x5_1).toNat * 3)).block, (ad444.add ((x5_1).toNat * 3)).off + 1, none⟩ = some (.int .i64 ((rd_T203 l0 x5_1).f1)) ∧ w'.cell? ⟨(ad444.add ((x5_1).toNat * 3)).block, (ad444.add ((x5_1).toNat * 3)).off + 2, none⟩ = some (.slice A444_2 ((rd_T203 l0 x5_1).f2).length c444_2) ∧ w'.cell? (ad445.add ((x5_1).toNat * 3)) = some (.int .i64 ((rd_T203 l1 x5_1).f0)) ∧ w'.cell? ⟨(ad445.add ((x5_1).toNat * 3)).block, (ad445.add ((x5_1).toNat * 3)).off + 1, none⟩ = some (.int .i64 ((rd_T203 l1 x5_1).f1)) ∧ w'.cell? ⟨(ad445.add ((x5_1).toNat * 3)).block, (ad445.add ((x5_1).toNat * 3)).off + 2, none⟩ = some (.slice A445_2 ((rd_T203 l1 x5_1).f2).length c445_2)) (ds := []) #[false, false, false, false, false, false, false, false, false, false] (by kernel_rfl) rfl rfl ⟨((HB.out.cell (World.block_lt_of_cell? w _ hw444_0)).trans hw444_0), ((HB.out.cell (World.block_lt_of_cell? w _ hw444_1)).trans hw444_1), ((HB.out.cell (World.block_lt_of_cell? w _ hw444_2)).trans hw444_2), ((HB.out.cell (World.block_lt_of_cell? w _ hw445_0)).trans hw445_0), ((HB.out.cell (World.block_lt_of_cell? w _ hw445_1)).trans hw445_1), ((HB.out.cell (World.block_lt_of_cell? w _ hw445_2)).trans hw445_2)⟩ (fun hHeld => ?_); refine with_tabW laws_eqStreamS.tab6 laws_eqStreamS.bits6 (fun HT_ HW_ => ?_)
        generalize wr.drew = w9 at HB HR444_2 HR445_2 hx444_0 hx444_1 hx444_2 hx445_0 hx445_1 hx445_2 hHeld ⊢
        refine pu_ 0 (some 17) #[true, false, false, false, false, false, false, false, false, false] rfl rfl ?_
        refine pu_ 1 (some 18) #[true, true, false, false, false, false, false, false, false, false] rfl rfl ?_
        refine pu_ 2 (some 19) #[true, true, true, false, false, false, false, false, false, false] rfl rfl ?_
        refine pu_ 4 (some 21) #[true, true, true, false, true, false, false, false, false, false] rfl rfl ?_
        refine pu_ 5 (some 22) #[true, true, true, false, true, true, false, false, false, false] rfl rfl ?_
        refine pu_ 6 (some 23) #[true, true, true, false, true, true, true, false, false, false] rfl rfl ?_
        refine tk6_ 3 (some 20) #[true, true, true, true, true, true, true, false, false, false] rfl rfl ?_
        refine tk6_ 7 (some 24) #[true, true, true, true, true, true, true, true, false, false] rfl rfl ?_
        refine one_ (i := 8) (N := some 25) #[true, true, true, true, true, true, true, true, true, false] rfl rfl (one_of HT_.out (by kernel_rfl)) (by decide) (fun K hK => ?_)
        refine goes_ Try.func155 (by kernel_rfl) rfl #[.agg #[.int .i64 ((rd_T203 l0 x5_1).f0), .int .i64 ((rd_T203 l0 x5_1).f1), .slice A444_2 ((rd_T203 l0 x5_1).f2).length c444_2], .agg #[.int .i64 ((rd_T203 l1 x5_1).f0), .int .i64 ((rd_T203 l1 x5_1).f1), .slice A445_2 ((rd_T203 l1 x5_1).f2).length c445_2]] (by rfl) rfl rfl (by (try simp only [List.map_toArray, List.map_cons, List.map_nil]); first | done | rfl | (simp only [List.length_drop, List.length_take]; rfl)) ?_
        with_reducible refine (laws_eqStream.calls k1 ((rd_T203 l0 x5_1).f0) ((rd_T203 l0 x5_1).f1) _ _ ((rd_T203 l0 x5_1).f2) ((rd_T203 l1 x5_1).f0) ((rd_T203 l1 x5_1).f1) _ _ ((rd_T203 l1 x5_1).f2) true _ ?side1 ?side2 ?side3 ?side4 rfl A7.out).mono ?_
        (case side1 => repeat (first | exact (Kd.C_below HR444_2.out HB.out) | (with_reducible refine cA_ ?_ _) | (with_reducible refine cN_ ?_ _) | (with_reducible refine cD_ ?_)))
        (case side2 => exact HC444_2.out)
        (case side3 => repeat (first | exact (Kd.C_below HR445_2.out HB.out) | (with_reducible refine cA_ ?_ _) | (with_reducible refine cN_ ?_ _) | (with_reducible refine cD_ ?_)))
        (case side4 => exact HC445_2.out)
        rintro e w10 ⟨rfl, hb⟩
        refine ⟨_, rfl, ?_⟩
        have n0_ := aM_ (wS_ (bw_) hb); clear HB; have HB := n0_; clear n0_; (try clear hb); (try clear hb2); (try clear hk); (try clear hi)
        refine hK.out _ _ ⟨((HB.out.cell (World.block_lt_of_cell? w _ hw444_0)).trans hw444_0), ((HB.out.cell (World.block_lt_of_cell? w _ hw444_1)).trans hw444_1), ((HB.out.cell (World.block_lt_of_cell? w _ hw444_2)).trans hw444_2), ((HB.out.cell (World.block_lt_of_cell? w _ hw445_0)).trans hw445_0), ((HB.out.cell (World.block_lt_of_cell? w _ hw445_1)).trans hw445_1), ((HB.out.cell (World.block_lt_of_cell? w _ hw445_2)).trans hw445_2)⟩ (fun hHeld => ?_)
        clear hK K
        refine norm_ (a' := ?_) ?_ ?_
        rotate_left
        ·show Act.put _ (some 25) _ = _
         simp only [Act.put, List.setIfInBounds_toArray, List.set_cons_zero, List.set_cons_succ, i64_w, i32_w]
         rfl
        refine pu_ 9 (some 26) #[true, true, true, true, true, true, true, true, true, true] rfl rfl ?_
        refine done_ (done_of HT_.out (by kernel_rfl)) ?_
        try go_wp2
        go_roundg k1
        case measure => have := HK1.out; omega
        case rel => exact ⟨(wrap64 (x5_1 + 1)), (by first | rfl | (simp; done) | (simp [*]; done)), H', ⟨by have := HK1.out; omega⟩, ⟨bw_⟩⟩
       ·replace c8 := Bool.eq_false_iff.mpr c8
        subst c8
        have H1 : (some false) = some r := by rw [if_neg (show ¬ (false = true) by decide)] at H; exact H
        clear H; have H := H1; clear H1
        exact absurd ((Option.some.inj H).trans HTRUE.out) (by decide)
      ·rw [if_neg c6] at H
       exact absurd H (by simp)
     ·rw [if_neg c5] at H
      exact absurd H (by simp)
    ·rw [if_neg c4] at H
     have c4b0 : decide (x5_1 < (l0.length : Int)) = false := decide_eq_false c4
     clear c4
     obtain rfl := Option.some.inj H
     go_wp2
     go_ret
     exact ⟨by first | rfl | (simp [errW_none, errW_some] <;> rfl) | (simp [*, errW_none, errW_some] <;> rfl), bw_⟩
 ·rw [if_neg c3] at H
  have c3b0 : ((l0.length : Int) == (l1.length : Int)) = false := beq_eq_false_iff_ne.mpr c3
  have c3b1 : ((l0.length : Int) != (l1.length : Int)) = true := bne_iff_ne.mpr c3
  have c3b2 : (l0.length == l1.length) = false := by first | simpa using c3 | (simp at c3 ⊢; omega)
  exact absurd ((Option.some.inj H).trans HTRUE.out) (by decide)

/-! ### laws_eqFault: function 156 -/
def laws_eqFault.f (a0_0 : Int) (a0_1 : Int) (a0_2 : Int) (a0_3 : Int) (a1_0 : Int) (a1_1 : Int) (a1_2 : Int) (a1_3 : Int) : Option (Bool) := if a0_0 = a1_0 then (if a0_1 = a1_1 then (if a0_2 = a1_2 then (if a0_3 = a1_3 then (some true) else (some false)) else (some false)) else (some false)) else (some false)
set_option maxHeartbeats 8000000 in
set_option maxRecDepth 100000 in
theorem laws_eqFault.calls (a0_0 : Int) (a0_1 : Int) (a0_2 : Int) (a0_3 : Int) (a1_0 : Int) (a1_1 : Int) (a1_2 : Int) (a1_3 : Int) (r : Bool) (w : World) (hr_ : r = true) (h : laws_eqFault.f a0_0 a0_1 a0_2 a0_3 a1_0 a1_1 a1_2 a1_3 = some r) :
    Calls Try.prog 156 #[.agg #[.int .i64 a0_0, .int .i64 a0_1, .int .i64 a0_2, .int .i64 a0_3], .agg #[.int .i64 a1_0, .int .i64 a1_1, .int .i64 a1_2, .int .i64 a1_3]] w fun e w' => e = .returned (.bool r) ∧ Below w.heap.size w w' := by
  have hu206 := Try.underlying206
  have HB := aM_ (Below.refl w.heap.size w)
  have H : (if a0_0 = a1_0 then (if a0_1 = a1_1 then (if a0_2 = a1_2 then (if a0_3 = a1_3 then (some true) else (some false)) else (some false)) else (some false)) else (some false)) = some r := h
  clear h
  have HTRUE := aM_ hr_
  clear hr_
  by_cases c3 : a0_0 = a1_0
  · rw [if_pos c3] at H
    have c3b0 : (a0_0 == a1_0) = true := beq_iff_eq.mpr c3
    have c3b1 : (a0_0 != a1_0) = false := bne_eq_false_iff_eq.mpr c3
    clear c3
    by_cases c4 : a0_1 = a1_1
    · rw [if_pos c4] at H
      have c4b0 : (a0_1 == a1_1) = true := beq_iff_eq.mpr c4
      have c4b1 : (a0_1 != a1_1) = false := bne_eq_false_iff_eq.mpr c4
      clear c4
      by_cases c5 : a0_2 = a1_2
      · rw [if_pos c5] at H
        have c5b0 : (a0_2 == a1_2) = true := beq_iff_eq.mpr c5
        have c5b1 : (a0_2 != a1_2) = false := bne_eq_false_iff_eq.mpr c5
        clear c5
        by_cases c6 : a0_3 = a1_3
        · rw [if_pos c6] at H
          have c6b0 : (a0_3 == a1_3) = true := beq_iff_eq.mpr c6
          have c6b1 : (a0_3 != a1_3) = false := bne_eq_false_iff_eq.mpr c6
          clear c6
          obtain rfl := Option.some.inj H
          go_enter Try.func156, Try.ntmps156
          go_wp2_with (first | ((with_reducible refine gate_dst (N := 2) rfl ?_); refine box_event ?hg (N := 2) ?hd (cs := #[.int .i64 a0_0, .int .i64 a0_1, .int .i64 a0_2, .int .i64 a0_3]) (t := 206) ?hr ?_; (case hd => rfl); (case hg => rfl); (case hr => first | (go_simp; done) | (go_simp; rfl)); intro gb447 hg w7 hbox hb; have n0_ := aM_ (wS_ (bw_) hb); have n1_ := aM_ (hbox); have n2_ := aM_ ((by rw [hg]; exact (sZ_ (bw_)) : w.heap.size ≤ gb447)); have n3_ := aM_ ((by rw [hg]; exact (sZ_ (bw_)) : w.heap.size ≤ gb447)); clear HB; have HB := n0_; have BK447 := n1_; have GW447 := n2_; have GE447 := n3_; clear n0_ n1_ n2_ n3_ hb hbox hg) | ((with_reducible refine gate_dst (N := 3) rfl ?_); refine box_event ?hg (N := 3) ?hd (cs := #[.int .i64 a1_0, .int .i64 a1_1, .int .i64 a1_2, .int .i64 a1_3]) (t := 206) ?hr ?_; (case hd => rfl); (case hg => rfl); (case hr => first | (go_simp; done) | (go_simp; rfl)); intro gb448 hg w8 hbox hb; have n0_ := aM_ (bB_ (kb_ BK447.out) hb); have n1_ := aM_ (wS_ (bw_) hb); have n2_ := aM_ (hbox); have n3_ := aM_ ((by rw [hg]; exact (sZ_ (bw_)) : w.heap.size ≤ gb448)); have n4_ := aM_ ((by rw [hg]; exact (sZ_ (bw_)) : w.heap.size ≤ gb448)); have n5_ := aM_ ((by rw [hg]; exact Nat.ne_of_lt (blk_lt (kb_ BK447.out)) : gb447 ≠ gb448)); have n6_ := aM_ ((by rw [hg]; exact Nat.ne_of_gt (blk_lt (kb_ BK447.out)) : gb448 ≠ gb447)); clear BK447 HB; have BK447 := n0_; have HB := n1_; have BK448 := n2_; have GW448 := n3_; have GE448 := n4_; have NB447_448 := n5_; have NB448_447 := n6_; clear n0_ n1_ n2_ n3_ n4_ n5_ n6_ hb hbox hg; have hnb9 := NB447_448.out; have hnc9 := NB448_447.out; obtain ⟨hcz10_0, hcz10_1, hcz10_2, hcz10_3, hfz10_0, hfz10_1, hfz10_2, hfz10_3⟩ := bk4_ BK447.out; obtain ⟨hcz11_0, hcz11_1, hcz11_2, hcz11_3, hfz11_0, hfz11_1, hfz11_2, hfz11_3⟩ := bk4_ BK448.out))
          go_ret
          exact ⟨by first | rfl | (simp [errW_none, errW_some] <;> rfl) | (simp [*, errW_none, errW_some] <;> rfl), bw_⟩
        · rw [if_neg c6] at H
          have c6b0 : (a0_3 == a1_3) = false := beq_eq_false_iff_ne.mpr c6
          have c6b1 : (a0_3 != a1_3) = true := bne_iff_ne.mpr c6
          exact absurd ((Option.some.inj H).trans HTRUE.out) (by decide)
      · rw [if_neg c5] at H
        have c5b0 : (a0_2 == a1_2) = false := beq_eq_false_iff_ne.mpr c5
        have c5b1 : (a0_2 != a1_2) = true := bne_iff_ne.mpr c5
        exact absurd ((Option.some.inj H).trans HTRUE.out) (by decide)
    · rw [if_neg c4] at H
      have c4b0 : (a0_1 == a1_1) = false := beq_eq_false_iff_ne.mpr c4
      have c4b1 : (a0_1 != a1_1) = true := bne_iff_ne.mpr c4
      exact absurd ((Option.some.inj H).trans HTRUE.out) (by decide)
  · rw [if_neg c3] at H
    have c3b0 : (a0_0 == a1_0) = false := beq_eq_false_iff_ne.mpr c3
    have c3b1 : (a0_0 != a1_0) = true := bne_iff_ne.mpr c3
    exact absurd ((Option.some.inj H).trans HTRUE.out) (by decide)

/-! ### laws_eqFaultS: function 98 -/
def laws_eqFaultS.l0 : Nat → List (S206) → List (S206) → Int → Option (Bool)
  | 0, _, _, _ => none
  | k + 1, x0, x1, x5 => if x5 < (x0.length : Int) then (if 0 ≤ x5 then (if x5 < (x1.length : Int) then ((laws_eqFault.f ((rd_T206 x0 x5).f0) ((rd_T206 x0 x5).f1) ((rd_T206 x0 x5).f2) ((rd_T206 x0 x5).f3) ((rd_T206 x1 x5).f0) ((rd_T206 x1 x5).f1) ((rd_T206 x1 x5).f2) ((rd_T206 x1 x5).f3)).bind fun t451 => (if t451 = true then (laws_eqFaultS.l0 k x0 x1 (wrap64 (x5 + 1))) else (some false))) else (none)) else (none)) else (some true)
def laws_eqFaultS.f (k : Nat) (l0 : List (S206)) (l1 : List (S206)) : Option (Bool) := if (l0.length : Int) = (l1.length : Int) then (laws_eqFaultS.l0 k l0 l1 0) else (some false)
def laws_eqFaultS.T6 : Bool × List (List Nat × List Nat) := (true, [([], []), ([], []), ([0, 1], [0, 1]), ([2], [2]), ([], []), ([], []), ([4, 5], [4, 5]), ([6], [6]), ([3, 7], [3, 7]), ([8], [8])])
def laws_eqFaultS.B6 : List Nat := [0, 0, 3, 7, 0, 0, 48, 112, 255, 511]
theorem laws_eqFaultS.tab6 : rtab .any (opsOf Try.f98 6) = laws_eqFaultS.T6 := by kernel_rfl
theorem laws_eqFaultS.bits6 : waitsOk laws_eqFaultS.T6.2 laws_eqFaultS.B6 = true := by kernel_rfl
set_option maxHeartbeats 8000000 in
set_option maxRecDepth 100000 in
theorem laws_eqFaultS.calls (k : Nat) (A0 : Option Addr) (c0 : Nat) (l0 : List (S206)) (A1 : Option Addr) (c1 : Nat) (l1 : List (S206)) (r : Bool) (w : World) (hr0 : Kd.C k206 w A0 l0.length l0) (hc0 : l0.length ≤ c0) (hr1 : Kd.C k206 w A1 l1.length l1) (hc1 : l1.length ≤ c1) (hr_ : r = true) (h : laws_eqFaultS.f k l0 l1 = some r) :
  Calls Try.prog 98 #[.slice A0 l0.length c0, .slice A1 l1.length c1] w fun e w' => e = .returned (.bool r) ∧ Below w.heap.size w w' := by
 have hu206 := Try.underlying206; have HR0 := aM_ hr0; have HC0 := aM_ hc0; clear hr0 hc0; have HR1 := aM_ hr1; have HC1 := aM_ hc1; clear hr1 hc1; have HB := aM_ (Below.refl w.heap.size w)
 have H : (if (l0.length : Int) = (l1.length : Int) then (laws_eqFaultS.l0 k l0 l1 0) else (some false)) = some r := h
 clear h; have HTRUE := aM_ hr_; clear hr_
 by_cases c3 : (l0.length : Int) = (l1.length : Int)
 ·rw [if_pos c3] at H
  have c3b0 : ((l0.length : Int) == (l1.length : Int)) = true := beq_iff_eq.mpr c3
  have c3b1 : ((l0.length : Int) != (l1.length : Int)) = false := bne_eq_false_iff_eq.mpr c3
  have c3b2 : (l0.length == l1.length) = true := by first | simpa using c3 | (simp at c3 ⊢; omega)
  clear c3
  have H' := aM_ H
  clear H
  go_enter Try.func98, Try.ntmps98
  go_wp2
  go_loopg [5] k (fun kq v5 w' => ∃ (x5_1 : Int), v5 = .int .i64 x5_1 ∧ Aside0 (laws_eqFaultS.l0 kq l0 l1 x5_1 = some r) ∧ Aside0 (kq ≤ k) ∧ Aside0 (Below w.heap.size w w'))
  case atStart => exact ⟨(0), (by first | rfl | (simp; done) | (simp [*]; done)), H', ⟨Nat.le_refl _⟩, ⟨bw_⟩⟩
  case round =>
   clear H'
   try clear c3b0
   try clear c3b1
   try clear c3b2
   obtain ⟨x5_1, rfl, HA, HK1, HB⟩ := hrel
   cases gk with
   | zero => exact absurd HA.out (by simp [laws_eqFaultS.l0])
   | succ k1 =>
    have H := HA.out; clear HA
    simp only [laws_eqFaultS.l0] at H
    by_cases c4 : x5_1 < (l0.length : Int)
    ·rw [if_pos c4] at H
     have c4b0 : decide (x5_1 < (l0.length : Int)) = true := decide_eq_true c4
     clear c4
     by_cases c5 : 0 ≤ x5_1
     ·rw [if_pos c5] at H
      have c5b0 : decide (0 ≤ x5_1) = true := decide_eq_true c5
      clear c5
      by_cases c6 : x5_1 < (l1.length : Int)
      ·rw [if_pos c6] at H
       have c6b0 : decide (x5_1 < (l1.length : Int)) = true := decide_eq_true c6
       clear c6
       replace H := Option.bind_eq_some_iff.mp H
       obtain ⟨t451, A70, H⟩ := H
       (try dsimp only at H)
       have A7 := aM_ A70; clear A70
       by_cases c8 : t451 = true
       ·subst c8
        have H1 : (laws_eqFaultS.l0 k1 l0 l1 (wrap64 (x5_1 + 1))) = some r := by rw [if_pos rfl] at H; exact H
        clear H; have H := H1; clear H1
        have H' := aM_ H
        clear H
        try go_wp2
        have n0_ := aM_ (wD_ HB.out); clear HB; have HB := n0_; clear n0_
        have p449 : 0 ≤ (x5_1 : Int) := dT_
        have q449 : x5_1 < (l0.length : Int) := dT_
        obtain ⟨ad449, e449, hx449_0, hx449_1, hx449_2, hx449_3⟩ := at_T206 HR0.out x5_1 p449 q449
        have hw449_3 := hx449_3; have hw449_2 := hx449_2; have hw449_1 := hx449_1; have hw449_0 := hx449_0
        cases e449
        replace hx449_0 := (HB.out.cell (World.block_lt_of_cell? w _ hx449_0)).trans hx449_0
        replace hx449_1 := (HB.out.cell (World.block_lt_of_cell? w _ hx449_1)).trans hx449_1
        replace hx449_2 := (HB.out.cell (World.block_lt_of_cell? w _ hx449_2)).trans hx449_2
        replace hx449_3 := (HB.out.cell (World.block_lt_of_cell? w _ hx449_3)).trans hx449_3
        replace p449 := eq_true p449; replace q449 := eq_true q449
        have p450 : 0 ≤ (x5_1 : Int) := dT_
        have q450 : x5_1 < (l1.length : Int) := dT_
        obtain ⟨ad450, e450, hx450_0, hx450_1, hx450_2, hx450_3⟩ := at_T206 HR1.out x5_1 p450 q450
        have hw450_3 := hx450_3; have hw450_2 := hx450_2; have hw450_1 := hx450_1; have hw450_0 := hx450_0
        cases e450
        replace hx450_0 := (HB.out.cell (World.block_lt_of_cell? w _ hx450_0)).trans hx450_0
        replace hx450_1 := (HB.out.cell (World.block_lt_of_cell? w _ hx450_1)).trans hx450_1
        replace hx450_2 := (HB.out.cell (World.block_lt_of_cell? w _ hx450_2)).trans hx450_2
        replace hx450_3 := (HB.out.cell (World.block_lt_of_cell? w _ hx450_3)).trans hx450_3
        replace p450 := eq_true p450; replace q450 := eq_true q450
        refine start_ (n := 10) (S := fun w' => w'.cell? (ad449.add ((x5_1).toNat * 4)) = some (.int .i64 ((rd_T206 l0 x5_1).f0)) ∧ w'.cell? ⟨(ad449.add ((x5_1).toNat * 4)).block, (ad449.add ((x5_1).toNat * 4)).off + 1, none⟩ = some (.int .i64 ((rd_T206 l0 x5_1).f1)) ∧ w'.cell? ⟨(ad449.add ((x5_1).toNat * 4)).block, (ad449.add ((x5_1).toNat * 4)).off + 2, none⟩ = some (.int .i64 ((rd_T206 l0 x5_1).f2)) ∧ w'.cell? ⟨(ad449.add ((x5_1).toNat * 4)).block, (ad449.add ((x5_1).toNat * 4)).off + 3, none⟩ = some (.int .i64 ((rd_T206 l0 x5_1).f3)) ∧ w'.cell? (ad450.add ((x5_1).toNat * 4)) = some (.int .i64 ((rd_T206 l1 x5_1).f0)) ∧ w'.cell? ⟨(ad450.add ((x5_1).toNat * 4)).block, (ad450.add ((x5_1).toNat * 4)).off + 1, none⟩ = some (.int .i64 ((rd_T206 l1 x5_1).f1)) ∧ w'.cell? ⟨(ad450.add ((x5_1).toNat * 4)).block, (ad450.add ((x5_1).toNat * 4)).off + 2, none⟩ = some (.int .i64 ((rd_T206 l1 x5_1).f2)) ∧ w'.cell? ⟨(ad450.add ((x5_1).toNat * 4)).block, (ad450.add ((x5_1).toNat * 4)).off + 3, none⟩ = some (.int .i64 ((rd_T206 l1 x5_1).f3))) (ds := []) #[false, false, false, false, false, false, false, false, false, false] (by kernel_rfl) rfl rfl ⟨((HB.out.cell (World.block_lt_of_cell? w _ hw449_0)).trans hw449_0), ((HB.out.cell (World.block_lt_of_cell? w _ hw449_1)).trans hw449_1), ((HB.out.cell (World.block_lt_of_cell? w _ hw449_2)).trans hw449_2), ((HB.out.cell (World.block_lt_of_cell? w _ hw449_3)).trans hw449_3), ((HB.out.cell (World.block_lt_of_cell? w _ hw450_0)).trans hw450_0), ((HB.out.cell (World.block_lt_of_cell? w _ hw450_1)).trans hw450_1), ((HB.out.cell (World.block_lt_of_cell? w _ hw450_2)).trans hw450_2), ((HB.out.cell (World.block_lt_of_cell? w _ hw450_3)).trans hw450_3)⟩ (fun hHeld => ?_); refine with_tabW laws_eqFaultS.tab6 laws_eqFaultS.bits6 (fun HT_ HW_ => ?_)
        generalize wr.drew = w9 at HB hx449_0 hx449_1 hx449_2 hx449_3 hx450_0 hx450_1 hx450_2 hx450_3 hHeld ⊢
        refine pu_ 0 (some 17) #[true, false, false, false, false, false, false, false, false, false] rfl rfl ?_
        refine pu_ 1 (some 18) #[true, true, false, false, false, false, false, false, false, false] rfl rfl ?_
        refine pu_ 2 (some 19) #[true, true, true, false, false, false, false, false, false, false] rfl rfl ?_
        refine pu_ 4 (some 21) #[true, true, true, false, true, false, false, false, false, false] rfl rfl ?_
        refine pu_ 5 (some 22) #[true, true, true, false, true, true, false, false, false, false] rfl rfl ?_
        refine pu_ 6 (some 23) #[true, true, true, false, true, true, true, false, false, false] rfl rfl ?_
        refine tk8_ 3 (some 20) #[true, true, true, true, true, true, true, false, false, false] rfl rfl ?_
        refine tk8_ 7 (some 24) #[true, true, true, true, true, true, true, true, false, false] rfl rfl ?_
        refine one_ (i := 8) (N := some 25) #[true, true, true, true, true, true, true, true, true, false] rfl rfl (one_of HT_.out (by kernel_rfl)) (by decide) (fun K hK => ?_)
        refine goes_ Try.func156 (by kernel_rfl) rfl #[.agg #[.int .i64 ((rd_T206 l0 x5_1).f0), .int .i64 ((rd_T206 l0 x5_1).f1), .int .i64 ((rd_T206 l0 x5_1).f2), .int .i64 ((rd_T206 l0 x5_1).f3)], .agg #[.int .i64 ((rd_T206 l1 x5_1).f0), .int .i64 ((rd_T206 l1 x5_1).f1), .int .i64 ((rd_T206 l1 x5_1).f2), .int .i64 ((rd_T206 l1 x5_1).f3)]] (by rfl) rfl rfl (by (try simp only [List.map_toArray, List.map_cons, List.map_nil]); first | done | rfl | (simp only [List.length_drop, List.length_take]; rfl)) ?_
        with_reducible refine (laws_eqFault.calls ((rd_T206 l0 x5_1).f0) ((rd_T206 l0 x5_1).f1) ((rd_T206 l0 x5_1).f2) ((rd_T206 l0 x5_1).f3) ((rd_T206 l1 x5_1).f0) ((rd_T206 l1 x5_1).f1) ((rd_T206 l1 x5_1).f2) ((rd_T206 l1 x5_1).f3) true _ rfl A7.out).mono ?_
        rintro e w10 ⟨rfl, hb⟩
        refine ⟨_, rfl, ?_⟩
        have n0_ := aM_ (wS_ (bw_) hb); clear HB; have HB := n0_; clear n0_; (try clear hb); (try clear hb2); (try clear hk); (try clear hi)
        refine hK.out _ _ ⟨((HB.out.cell (World.block_lt_of_cell? w _ hw449_0)).trans hw449_0), ((HB.out.cell (World.block_lt_of_cell? w _ hw449_1)).trans hw449_1), ((HB.out.cell (World.block_lt_of_cell? w _ hw449_2)).trans hw449_2), ((HB.out.cell (World.block_lt_of_cell? w _ hw449_3)).trans hw449_3), ((HB.out.cell (World.block_lt_of_cell? w _ hw450_0)).trans hw450_0), ((HB.out.cell (World.block_lt_of_cell? w _ hw450_1)).trans hw450_1), ((HB.out.cell (World.block_lt_of_cell? w _ hw450_2)).trans hw450_2), ((HB.out.cell (World.block_lt_of_cell? w _ hw450_3)).trans hw450_3)⟩ (fun hHeld => ?_)
        clear hK K
        refine norm_ (a' := ?_) ?_ ?_
        rotate_left
        ·show Act.put _ (some 25) _ = _
         simp only [Act.put, List.setIfInBounds_toArray, List.set_cons_zero, List.set_cons_succ, i64_w, i32_w]
         rfl
        refine pu_ 9 (some 26) #[true, true, true, true, true, true, true, true, true, true] rfl rfl ?_
        refine done_ (done_of HT_.out (by kernel_rfl)) ?_
        try go_wp2
        go_roundg k1
        case measure => have := HK1.out; omega
        case rel => exact ⟨(wrap64 (x5_1 + 1)), (by first | rfl | (simp; done) | (simp [*]; done)), H', ⟨by have := HK1.out; omega⟩, ⟨bw_⟩⟩
       ·replace c8 := Bool.eq_false_iff.mpr c8
        subst c8
        have H1 : (some false) = some r := by rw [if_neg (show ¬ (false = true) by decide)] at H; exact H
        clear H; have H := H1; clear H1
        exact absurd ((Option.some.inj H).trans HTRUE.out) (by decide)
      ·rw [if_neg c6] at H
       exact absurd H (by simp)
     ·rw [if_neg c5] at H
      exact absurd H (by simp)
    ·rw [if_neg c4] at H
     have c4b0 : decide (x5_1 < (l0.length : Int)) = false := decide_eq_false c4
     clear c4
     obtain rfl := Option.some.inj H
     go_wp2
     go_ret
     exact ⟨by first | rfl | (simp [errW_none, errW_some] <;> rfl) | (simp [*, errW_none, errW_some] <;> rfl), bw_⟩
 ·rw [if_neg c3] at H
  have c3b0 : ((l0.length : Int) == (l1.length : Int)) = false := beq_eq_false_iff_ne.mpr c3
  have c3b1 : ((l0.length : Int) != (l1.length : Int)) = true := bne_iff_ne.mpr c3
  have c3b2 : (l0.length == l1.length) = false := by first | simpa using c3 | (simp at c3 ⊢; omega)
  exact absurd ((Option.some.inj H).trans HTRUE.out) (by decide)

/-! ### laws_eqSent: function 158 -/
def laws_eqSent.f (a0_0 : Int) (a0_1 : Int) (a0_2 : Int) (a0_3 : Int) (a1_0 : Int) (a1_1 : Int) (a1_2 : Int) (a1_3 : Int) : Option (Bool) := if a0_0 = a1_0 then (if a0_1 = a1_1 then (if a0_2 = a1_2 then (if a0_3 = a1_3 then (some true) else (some false)) else (some false)) else (some false)) else (some false)
set_option maxHeartbeats 8000000 in
set_option maxRecDepth 100000 in
theorem laws_eqSent.calls (a0_0 : Int) (a0_1 : Int) (a0_2 : Int) (a0_3 : Int) (a1_0 : Int) (a1_1 : Int) (a1_2 : Int) (a1_3 : Int) (r : Bool) (w : World) (hr_ : r = true) (h : laws_eqSent.f a0_0 a0_1 a0_2 a0_3 a1_0 a1_1 a1_2 a1_3 = some r) :
    Calls Try.prog 158 #[.agg #[.int .i64 a0_0, .int .i64 a0_1, .int .i64 a0_2, .int .i64 a0_3], .agg #[.int .i64 a1_0, .int .i64 a1_1, .int .i64 a1_2, .int .i64 a1_3]] w fun e w' => e = .returned (.bool r) ∧ Below w.heap.size w w' := by
  have hu212 := Try.underlying212
  have HB := aM_ (Below.refl w.heap.size w)
  have H : (if a0_0 = a1_0 then (if a0_1 = a1_1 then (if a0_2 = a1_2 then (if a0_3 = a1_3 then (some true) else (some false)) else (some false)) else (some false)) else (some false)) = some r := h
  clear h
  have HTRUE := aM_ hr_
  clear hr_
  by_cases c3 : a0_0 = a1_0
  · rw [if_pos c3] at H
    have c3b0 : (a0_0 == a1_0) = true := beq_iff_eq.mpr c3
    have c3b1 : (a0_0 != a1_0) = false := bne_eq_false_iff_eq.mpr c3
    clear c3
    by_cases c4 : a0_1 = a1_1
    · rw [if_pos c4] at H
      have c4b0 : (a0_1 == a1_1) = true := beq_iff_eq.mpr c4
      have c4b1 : (a0_1 != a1_1) = false := bne_eq_false_iff_eq.mpr c4
      clear c4
      by_cases c5 : a0_2 = a1_2
      · rw [if_pos c5] at H
        have c5b0 : (a0_2 == a1_2) = true := beq_iff_eq.mpr c5
        have c5b1 : (a0_2 != a1_2) = false := bne_eq_false_iff_eq.mpr c5
        clear c5
        by_cases c6 : a0_3 = a1_3
        · rw [if_pos c6] at H
          have c6b0 : (a0_3 == a1_3) = true := beq_iff_eq.mpr c6
          have c6b1 : (a0_3 != a1_3) = false := bne_eq_false_iff_eq.mpr c6
          clear c6
          obtain rfl := Option.some.inj H
          go_enter Try.func158, Try.ntmps158
          go_wp2_with (first | ((with_reducible refine gate_dst (N := 2) rfl ?_); refine box_event ?hg (N := 2) ?hd (cs := #[.int .i64 a0_0, .int .i64 a0_1, .int .i64 a0_2, .int .i64 a0_3]) (t := 212) ?hr ?_; (case hd => rfl); (case hg => rfl); (case hr => first | (go_simp; done) | (go_simp; rfl)); intro gb452 hg w7 hbox hb; have n0_ := aM_ (wS_ (bw_) hb); have n1_ := aM_ (hbox); have n2_ := aM_ ((by rw [hg]; exact (sZ_ (bw_)) : w.heap.size ≤ gb452)); have n3_ := aM_ ((by rw [hg]; exact (sZ_ (bw_)) : w.heap.size ≤ gb452)); clear HB; have HB := n0_; have BK452 := n1_; have GW452 := n2_; have GE452 := n3_; clear n0_ n1_ n2_ n3_ hb hbox hg) | ((with_reducible refine gate_dst (N := 3) rfl ?_); refine box_event ?hg (N := 3) ?hd (cs := #[.int .i64 a1_0, .int .i64 a1_1, .int .i64 a1_2, .int .i64 a1_3]) (t := 212) ?hr ?_; (case hd => rfl); (case hg => rfl); (case hr => first | (go_simp; done) | (go_simp; rfl)); intro gb453 hg w8 hbox hb; have n0_ := aM_ (bB_ (kb_ BK452.out) hb); have n1_ := aM_ (wS_ (bw_) hb); have n2_ := aM_ (hbox); have n3_ := aM_ ((by rw [hg]; exact (sZ_ (bw_)) : w.heap.size ≤ gb453)); have n4_ := aM_ ((by rw [hg]; exact (sZ_ (bw_)) : w.heap.size ≤ gb453)); have n5_ := aM_ ((by rw [hg]; exact Nat.ne_of_lt (blk_lt (kb_ BK452.out)) : gb452 ≠ gb453)); have n6_ := aM_ ((by rw [hg]; exact Nat.ne_of_gt (blk_lt (kb_ BK452.out)) : gb453 ≠ gb452)); clear BK452 HB; have BK452 := n0_; have HB := n1_; have BK453 := n2_; have GW453 := n3_; have GE453 := n4_; have NB452_453 := n5_; have NB453_452 := n6_; clear n0_ n1_ n2_ n3_ n4_ n5_ n6_ hb hbox hg; have hnb9 := NB452_453.out; have hnc9 := NB453_452.out; obtain ⟨hcz10_0, hcz10_1, hcz10_2, hcz10_3, hfz10_0, hfz10_1, hfz10_2, hfz10_3⟩ := bk4_ BK452.out; obtain ⟨hcz11_0, hcz11_1, hcz11_2, hcz11_3, hfz11_0, hfz11_1, hfz11_2, hfz11_3⟩ := bk4_ BK453.out))
          go_ret
          exact ⟨by first | rfl | (simp [errW_none, errW_some] <;> rfl) | (simp [*, errW_none, errW_some] <;> rfl), bw_⟩
        · rw [if_neg c6] at H
          have c6b0 : (a0_3 == a1_3) = false := beq_eq_false_iff_ne.mpr c6
          have c6b1 : (a0_3 != a1_3) = true := bne_iff_ne.mpr c6
          exact absurd ((Option.some.inj H).trans HTRUE.out) (by decide)
      · rw [if_neg c5] at H
        have c5b0 : (a0_2 == a1_2) = false := beq_eq_false_iff_ne.mpr c5
        have c5b1 : (a0_2 != a1_2) = true := bne_iff_ne.mpr c5
        exact absurd ((Option.some.inj H).trans HTRUE.out) (by decide)
    · rw [if_neg c4] at H
      have c4b0 : (a0_1 == a1_1) = false := beq_eq_false_iff_ne.mpr c4
      have c4b1 : (a0_1 != a1_1) = true := bne_iff_ne.mpr c4
      exact absurd ((Option.some.inj H).trans HTRUE.out) (by decide)
  · rw [if_neg c3] at H
    have c3b0 : (a0_0 == a1_0) = false := beq_eq_false_iff_ne.mpr c3
    have c3b1 : (a0_0 != a1_0) = true := bne_iff_ne.mpr c3
    exact absurd ((Option.some.inj H).trans HTRUE.out) (by decide)

end Go.Proofs.Ytlogjmgghnifoaa.PFnExactPacketPlaces
