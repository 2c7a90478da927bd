/- The functions that the law reaches, as plain Lean functions, each with the proof that the Go code comes to its answers; conditions: those that each theorem names. (printed by a program of this session) -/
import Derived.Test.YtlogjmgghnifoaaPFnExactHandoversOfx0
import Derived.Test.YtlogjmgghnifoaaPFnExactHandoversOfx1
import Derived.Test.YtlogjmgghnifoaaPFnExactHandoversOfx2
import Derived.Test.YtlogjmgghnifoaaPFnExactHandoversOfx4
import Derived.Test.YtlogjmgghnifoaaPFnExactHandoversOfx5
import Derived.Test.YtlogjmgghnifoaaPFnExactHandoversOfx6
import Derived.Test.YtlogjmgghnifoaaPFnExactHandoversOfx8
import Derived.Test.YtlogjmgghnifoaaPFnExactHandoversOfx9
namespace Go.Proofs.Ytlogjmgghnifoaa.PFnExactHandoversOf
open Go.RowKit Go.Proofs.YtlogjmgghnifoaaW.PrintWords Go.Proofs.YtlogjmgghnifoaaW.PrintLast Go.Proofs.YtlogjmgghnifoaaW.PrintMore
attribute [local go_sem] max2_int min2_int max_two min_two max_three min_three max_four min_four   -- for this text's walks alone
set_option linter.unusedVariables false
set_option linter.unusedSimpArgs false

/-! ### laws_heldHandoverS: function 46 -/
def laws_heldHandoverS.l0 : Nat → List (S87) → Int → Int → Option (Int)
  | 0, _, _, _ => none
  | k + 1, x0, x1, x5 => if x5 < (x0.length : Int) then (if 0 ≤ x5 then (if ((rd_T87 x0 x5).f0) = x1 then ((laws_heldIntS.f k ((rd_T87 x0 x5).f1) (wrap64 (x1 + 1))).bind fun t325 => (if t325 < 0 then (some (-1)) else ((laws_heldIntS.f k ((rd_T87 x0 x5).f2) t325).bind fun t327 => (if t327 < 0 then (some (-1)) else (laws_heldHandoverS.l0 k x0 t327 (wrap64 (x5 + 1))))))) else (some (-1))) else (none)) else (some x1)
def laws_heldHandoverS.f (k : Nat) (l0 : List (S87)) (a1 : Int) : Option (Int) := laws_heldHandoverS.l0 k l0 a1 0
set_option maxHeartbeats 8000000 in
set_option maxRecDepth 100000 in
theorem laws_heldHandoverS.calls (k : Nat) (A0 : Option Addr) (c0 : Nat) (l0 : List (S87)) (a1 : Int) (r : Int) (w : World) (hr0 : Kd.C k87 w A0 l0.length l0) (hc0 : l0.length ≤ c0) (h : laws_heldHandoverS.f k l0 a1 = some r) :
    Calls Try.prog 46 #[.slice A0 l0.length c0, .int .i64 a1] w fun e w' => e = .returned (.int .i64 r) ∧ Drawn0 w w' := by
  have HR0 := Aside0.mk hr0
  have HC0 := Aside0.mk hc0
  clear hr0 hc0
  have H : (laws_heldHandoverS.l0 k l0 a1 0) = some r := h
  clear h
  have H' := Aside0.mk H
  clear H
  go_enter Try.func46, Try.ntmps46
  go_wp2
  go_loopg [1, 5] k (fun kq v1 v5 w' => ∃ (x1_1 : Int) (x5_1 : Int), v1 = .int .i64 x1_1 ∧ v5 = .int .i64 x5_1 ∧ Aside0 (laws_heldHandoverS.l0 kq l0 x1_1 x5_1 = some r) ∧ Aside0 (kq ≤ k) ∧ Drawn0 w w')
  case atStart => exact ⟨(a1), (0), (by first | rfl | (simp; done) | (simp [*]; done)), (by first | rfl | (simp; done) | (simp [*]; done)), H', ⟨Nat.le_refl _⟩, by repeat (first | exact Drawn0.refl _ | apply Drawn0.step)⟩
  case round =>
    clear H'
    try clear p2
    obtain ⟨x1_1, x5_1, rfl, rfl, HA, HK1, ⟨m1, rfl⟩⟩ := hrel
    cases gk with
    | zero => exact absurd HA.out (by simp [laws_heldHandoverS.l0])
    | succ k1 =>
      have H := HA.out
      clear HA
      simp only [laws_heldHandoverS.l0] at H
      by_cases c3 : x5_1 < (l0.length : Int)
      · rw [if_pos c3] at H
        have c3b0 : decide (x5_1 < (l0.length : Int)) = true := decide_eq_true c3
        clear c3
        by_cases c4 : 0 ≤ x5_1
        · rw [if_pos c4] at H
          have c4b0 : decide (0 ≤ x5_1) = true := decide_eq_true c4
          clear c4
          by_cases c5 : ((rd_T87 l0 x5_1).f0) = x1_1
          · rw [if_pos c5] at H
            have c5b0 : (((rd_T87 l0 x5_1).f0) == x1_1) = true := beq_iff_eq.mpr c5
            have c5b1 : (((rd_T87 l0 x5_1).f0) != x1_1) = false := bne_eq_false_iff_eq.mpr c5
            clear c5
            replace H := Option.bind_eq_some_iff.mp H
            obtain ⟨t325, A60, H⟩ := H
            replace H : (if t325 < 0 then (some (-1)) else ((laws_heldIntS.f k1 ((rd_T87 l0 x5_1).f2) t325).bind fun t327 => (if t327 < 0 then (some (-1)) else (laws_heldHandoverS.l0 k1 l0 t327 (wrap64 (x5_1 + 1)))))) = some r := H
            have A6 := Aside0.mk A60
            clear A60
            by_cases c7 : t325 < 0
            · rw [if_pos c7] at H
              have c7b0 : decide (t325 < 0) = true := decide_eq_true c7
              clear c7
              obtain rfl := Option.some.inj H
              have p323 : 0 ≤ (x5_1 : Int) := of_decide_eq_true (by first | (with_reducible assumption) | assumption)
              have q323 : x5_1 < (l0.length : Int) := of_decide_eq_true (by first | (with_reducible assumption) | assumption)
              obtain ⟨ad323, A323_1, c323_1, A323_2, c323_2, e323, hx323_0, hx323_1, hx323_2, hl323_1, hi323_1, hl323_2, hi323_2⟩ := at_T87 HR0.out x5_1 p323 q323
              cases e323
              have HR323_1 := Aside0.mk hi323_1
              have HC323_1 := Aside0.mk hl323_1
              clear hi323_1 hl323_1
              have HR323_2 := Aside0.mk hi323_2
              have HC323_2 := Aside0.mk hl323_2
              clear hi323_2 hl323_2
              replace p323 := eq_true p323
              replace q323 := eq_true q323
              have p324 : 0 ≤ (x5_1 : Int) := of_decide_eq_true (by first | (with_reducible assumption) | assumption)
              have q324 : x5_1 < (l0.length : Int) := of_decide_eq_true (by first | (with_reducible assumption) | assumption)
              obtain ⟨ad324, A324_1, c324_1, A324_2, c324_2, e324, hx324_0, hx324_1, hx324_2, hl324_1, hi324_1, hl324_2, hi324_2⟩ := at_T87 HR0.out x5_1 p324 q324
              obtain rfl : ad323 = ad324 := (by injection e324)
              have HR324_1 := Aside0.mk hi324_1
              have HC324_1 := Aside0.mk hl324_1
              clear hi324_1 hl324_1
              have HR324_2 := Aside0.mk hi324_2
              have HC324_2 := Aside0.mk hl324_2
              clear hi324_2 hl324_2
              replace p324 := eq_true p324
              replace q324 := eq_true q324
              have ea_ := Option.some.inj (hx323_1.symm.trans hx324_1)
              injection ea_ with ea_ en_ ec_
              subst ea_
              subst ec_
              clear en_
              have ea_ := Option.some.inj (hx323_2.symm.trans hx324_2)
              injection ea_ with ea_ en_ ec_
              subst ea_
              subst ec_
              clear en_
              go_wp2_with (first | ((with_reducible refine gate_callee (f := 32) rfl ?_); refine goesL_ (some 27) rfl rfl Try.func32 (by kernel_rfl) rfl #[.slice A323_1 ((rd_T87 l0 x5_1).f1).length c323_1, .int .i64 (wrap64 (x1_1 + 1))] rfl (by (try simp only [List.map_toArray, List.map_cons, List.map_nil]); first | done | rfl | (simp only [List.length_drop, List.length_take]; rfl)) ?_; (with_reducible refine (laws_heldIntS.calls k1 _ _ ((rd_T87 l0 x5_1).f1) (wrap64 (x1_1 + 1)) t325 _ ?side1 ?side2 A6.out).mono ?_); (case side1 => repeat (first | exact HR324_1.out | (with_reducible refine Kd.C_alloc ?_ _) | (with_reducible refine Kd.C_drewN ?_ _) | (with_reducible refine Kd.C_drew ?_))); (case side2 => exact HC324_1.out); rintro e w' ⟨rfl, ⟨nd, rfl⟩⟩; refine ⟨_, rfl, ?_⟩))
              go_ret
              exact ⟨by first | rfl | (simp; done) | (simp [*]; done), by repeat (first | exact Drawn0.refl _ | apply Drawn0.step)⟩
            · rw [if_neg c7] at H
              have c7b0 : decide (t325 < 0) = false := decide_eq_false c7
              clear c7
              replace H := Option.bind_eq_some_iff.mp H
              obtain ⟨t327, A80, H⟩ := H
              replace H : (if t327 < 0 then (some (-1)) else (laws_heldHandoverS.l0 k1 l0 t327 (wrap64 (x5_1 + 1)))) = some r := H
              have A8 := Aside0.mk A80
              clear A80
              by_cases c9 : t327 < 0
              · rw [if_pos c9] at H
                have c9b0 : decide (t327 < 0) = true := decide_eq_true c9
                clear c9
                obtain rfl := Option.some.inj H
                have p323 : 0 ≤ (x5_1 : Int) := of_decide_eq_true (by first | (with_reducible assumption) | assumption)
                have q323 : x5_1 < (l0.length : Int) := of_decide_eq_true (by first | (with_reducible assumption) | assumption)
                obtain ⟨ad323, A323_1, c323_1, A323_2, c323_2, e323, hx323_0, hx323_1, hx323_2, hl323_1, hi323_1, hl323_2, hi323_2⟩ := at_T87 HR0.out x5_1 p323 q323
                cases e323
                have HR323_1 := Aside0.mk hi323_1
                have HC323_1 := Aside0.mk hl323_1
                clear hi323_1 hl323_1
                have HR323_2 := Aside0.mk hi323_2
                have HC323_2 := Aside0.mk hl323_2
                clear hi323_2 hl323_2
                replace p323 := eq_true p323
                replace q323 := eq_true q323
                have p324 : 0 ≤ (x5_1 : Int) := of_decide_eq_true (by first | (with_reducible assumption) | assumption)
                have q324 : x5_1 < (l0.length : Int) := of_decide_eq_true (by first | (with_reducible assumption) | assumption)
                obtain ⟨ad324, A324_1, c324_1, A324_2, c324_2, e324, hx324_0, hx324_1, hx324_2, hl324_1, hi324_1, hl324_2, hi324_2⟩ := at_T87 HR0.out x5_1 p324 q324
                obtain rfl : ad323 = ad324 := (by injection e324)
                have HR324_1 := Aside0.mk hi324_1
                have HC324_1 := Aside0.mk hl324_1
                clear hi324_1 hl324_1
                have HR324_2 := Aside0.mk hi324_2
                have HC324_2 := Aside0.mk hl324_2
                clear hi324_2 hl324_2
                replace p324 := eq_true p324
                replace q324 := eq_true q324
                have ea_ := Option.some.inj (hx323_1.symm.trans hx324_1)
                injection ea_ with ea_ en_ ec_
                subst ea_
                subst ec_
                clear en_
                have ea_ := Option.some.inj (hx323_2.symm.trans hx324_2)
                injection ea_ with ea_ en_ ec_
                subst ea_
                subst ec_
                clear en_
                go_wp2_with (first | ((with_reducible refine gate_callee (f := 32) rfl ?_); refine goesL_ (some 27) rfl rfl Try.func32 (by kernel_rfl) rfl #[.slice A323_1 ((rd_T87 l0 x5_1).f1).length c323_1, .int .i64 (wrap64 (x1_1 + 1))] rfl (by (try simp only [List.map_toArray, List.map_cons, List.map_nil]); first | done | rfl | (simp only [List.length_drop, List.length_take]; rfl)) ?_; (with_reducible refine (laws_heldIntS.calls k1 _ _ ((rd_T87 l0 x5_1).f1) (wrap64 (x1_1 + 1)) t325 _ ?side1 ?side2 A6.out).mono ?_); (case side1 => repeat (first | exact HR324_1.out | (with_reducible refine Kd.C_alloc ?_ _) | (with_reducible refine Kd.C_drewN ?_ _) | (with_reducible refine Kd.C_drew ?_))); (case side2 => exact HC324_1.out); rintro e w' ⟨rfl, ⟨nd, rfl⟩⟩; refine ⟨_, rfl, ?_⟩; have p326 : 0 ≤ (x5_1 : Int) := of_decide_eq_true (by first | (with_reducible assumption) | assumption); have q326 : x5_1 < (l0.length : Int) := of_decide_eq_true (by first | (with_reducible assumption) | assumption); obtain ⟨ad326, A326_1, c326_1, A326_2, c326_2, e326, hx326_0, hx326_1, hx326_2, hl326_1, hi326_1, hl326_2, hi326_2⟩ := at_T87 HR0.out x5_1 p326 q326; obtain rfl : ad323 = ad326 := (by injection e326); have HR326_1 := Aside0.mk hi326_1; have HC326_1 := Aside0.mk hl326_1; clear hi326_1 hl326_1; have HR326_2 := Aside0.mk hi326_2; have HC326_2 := Aside0.mk hl326_2; clear hi326_2 hl326_2; replace p326 := eq_true p326; replace q326 := eq_true q326; have ea_ := Option.some.inj (hx323_1.symm.trans hx326_1); injection ea_ with ea_ en_ ec_; subst ea_; subst ec_; clear en_; have ea_ := Option.some.inj (hx323_2.symm.trans hx326_2); injection ea_ with ea_ en_ ec_; subst ea_; subst ec_; clear en_) | ((with_reducible refine gate_callee (f := 32) rfl ?_); refine goesL_ (some 36) rfl rfl Try.func32 (by kernel_rfl) rfl #[.slice A323_2 ((rd_T87 l0 x5_1).f2).length c323_2, .int .i64 t325] rfl (by (try simp only [List.map_toArray, List.map_cons, List.map_nil]); first | done | rfl | (simp only [List.length_drop, List.length_take]; rfl)) ?_; (with_reducible refine (laws_heldIntS.calls k1 _ _ ((rd_T87 l0 x5_1).f2) t325 t327 _ ?side1 ?side2 A8.out).mono ?_); (case side1 => repeat (first | exact HR326_2.out | (with_reducible refine Kd.C_alloc ?_ _) | (with_reducible refine Kd.C_drewN ?_ _) | (with_reducible refine Kd.C_drew ?_))); (case side2 => exact HC326_2.out); rintro e w' ⟨rfl, ⟨nd, rfl⟩⟩; refine ⟨_, rfl, ?_⟩))
                go_ret
                exact ⟨by first | rfl | (simp; done) | (simp [*]; done), by repeat (first | exact Drawn0.refl _ | apply Drawn0.step)⟩
              · rw [if_neg c9] at H
                have c9b0 : decide (t327 < 0) = false := decide_eq_false c9
                clear c9
                have H' := Aside0.mk H
                clear H
                have p323 : 0 ≤ (x5_1 : Int) := of_decide_eq_true (by first | (with_reducible assumption) | assumption)
                have q323 : x5_1 < (l0.length : Int) := of_decide_eq_true (by first | (with_reducible assumption) | assumption)
                obtain ⟨ad323, A323_1, c323_1, A323_2, c323_2, e323, hx323_0, hx323_1, hx323_2, hl323_1, hi323_1, hl323_2, hi323_2⟩ := at_T87 HR0.out x5_1 p323 q323
                cases e323
                have HR323_1 := Aside0.mk hi323_1
                have HC323_1 := Aside0.mk hl323_1
                clear hi323_1 hl323_1
                have HR323_2 := Aside0.mk hi323_2
                have HC323_2 := Aside0.mk hl323_2
                clear hi323_2 hl323_2
                replace p323 := eq_true p323
                replace q323 := eq_true q323
                have p324 : 0 ≤ (x5_1 : Int) := of_decide_eq_true (by first | (with_reducible assumption) | assumption)
                have q324 : x5_1 < (l0.length : Int) := of_decide_eq_true (by first | (with_reducible assumption) | assumption)
                obtain ⟨ad324, A324_1, c324_1, A324_2, c324_2, e324, hx324_0, hx324_1, hx324_2, hl324_1, hi324_1, hl324_2, hi324_2⟩ := at_T87 HR0.out x5_1 p324 q324
                obtain rfl : ad323 = ad324 := (by injection e324)
                have HR324_1 := Aside0.mk hi324_1
                have HC324_1 := Aside0.mk hl324_1
                clear hi324_1 hl324_1
                have HR324_2 := Aside0.mk hi324_2
                have HC324_2 := Aside0.mk hl324_2
                clear hi324_2 hl324_2
                replace p324 := eq_true p324
                replace q324 := eq_true q324
                have ea_ := Option.some.inj (hx323_1.symm.trans hx324_1)
                injection ea_ with ea_ en_ ec_
                subst ea_
                subst ec_
                clear en_
                have ea_ := Option.some.inj (hx323_2.symm.trans hx324_2)
                injection ea_ with ea_ en_ ec_
                subst ea_
                subst ec_
                clear en_
                go_wp2_with (first | ((with_reducible refine gate_callee (f := 32) rfl ?_); refine goesL_ (some 27) rfl rfl Try.func32 (by kernel_rfl) rfl #[.slice A323_1 ((rd_T87 l0 x5_1).f1).length c323_1, .int .i64 (wrap64 (x1_1 + 1))] rfl (by (try simp only [List.map_toArray, List.map_cons, List.map_nil]); first | done | rfl | (simp only [List.length_drop, List.length_take]; rfl)) ?_; (with_reducible refine (laws_heldIntS.calls k1 _ _ ((rd_T87 l0 x5_1).f1) (wrap64 (x1_1 + 1)) t325 _ ?side1 ?side2 A6.out).mono ?_); (case side1 => repeat (first | exact HR324_1.out | (with_reducible refine Kd.C_alloc ?_ _) | (with_reducible refine Kd.C_drewN ?_ _) | (with_reducible refine Kd.C_drew ?_))); (case side2 => exact HC324_1.out); rintro e w' ⟨rfl, ⟨nd, rfl⟩⟩; refine ⟨_, rfl, ?_⟩; have p326 : 0 ≤ (x5_1 : Int) := of_decide_eq_true (by first | (with_reducible assumption) | assumption); have q326 : x5_1 < (l0.length : Int) := of_decide_eq_true (by first | (with_reducible assumption) | assumption); obtain ⟨ad326, A326_1, c326_1, A326_2, c326_2, e326, hx326_0, hx326_1, hx326_2, hl326_1, hi326_1, hl326_2, hi326_2⟩ := at_T87 HR0.out x5_1 p326 q326; obtain rfl : ad323 = ad326 := (by injection e326); have HR326_1 := Aside0.mk hi326_1; have HC326_1 := Aside0.mk hl326_1; clear hi326_1 hl326_1; have HR326_2 := Aside0.mk hi326_2; have HC326_2 := Aside0.mk hl326_2; clear hi326_2 hl326_2; replace p326 := eq_true p326; replace q326 := eq_true q326; have ea_ := Option.some.inj (hx323_1.symm.trans hx326_1); injection ea_ with ea_ en_ ec_; subst ea_; subst ec_; clear en_; have ea_ := Option.some.inj (hx323_2.symm.trans hx326_2); injection ea_ with ea_ en_ ec_; subst ea_; subst ec_; clear en_) | ((with_reducible refine gate_callee (f := 32) rfl ?_); refine goesL_ (some 36) rfl rfl Try.func32 (by kernel_rfl) rfl #[.slice A323_2 ((rd_T87 l0 x5_1).f2).length c323_2, .int .i64 t325] rfl (by (try simp only [List.map_toArray, List.map_cons, List.map_nil]); first | done | rfl | (simp only [List.length_drop, List.length_take]; rfl)) ?_; (with_reducible refine (laws_heldIntS.calls k1 _ _ ((rd_T87 l0 x5_1).f2) t325 t327 _ ?side1 ?side2 A8.out).mono ?_); (case side1 => repeat (first | exact HR326_2.out | (with_reducible refine Kd.C_alloc ?_ _) | (with_reducible refine Kd.C_drewN ?_ _) | (with_reducible refine Kd.C_drew ?_))); (case side2 => exact HC326_2.out); rintro e w' ⟨rfl, ⟨nd, rfl⟩⟩; refine ⟨_, rfl, ?_⟩))
                go_roundg k1
                case measure => have := HK1.out; omega
                case rel => exact ⟨(t327), (wrap64 (x5_1 + 1)), (by first | rfl | (simp; done) | (simp [*]; done)), (by first | rfl | (simp; done) | (simp [*]; done)), H', ⟨by have := HK1.out; omega⟩, by repeat (first | exact Drawn0.refl _ | apply Drawn0.step)⟩
          · rw [if_neg c5] at H
            have c5b0 : (((rd_T87 l0 x5_1).f0) == x1_1) = false := beq_eq_false_iff_ne.mpr c5
            have c5b1 : (((rd_T87 l0 x5_1).f0) != x1_1) = true := bne_iff_ne.mpr c5
            obtain rfl := Option.some.inj H
            have p323 : 0 ≤ (x5_1 : Int) := of_decide_eq_true (by first | (with_reducible assumption) | assumption)
            have q323 : x5_1 < (l0.length : Int) := of_decide_eq_true (by first | (with_reducible assumption) | assumption)
            obtain ⟨ad323, A323_1, c323_1, A323_2, c323_2, e323, hx323_0, hx323_1, hx323_2, hl323_1, hi323_1, hl323_2, hi323_2⟩ := at_T87 HR0.out x5_1 p323 q323
            cases e323
            have HR323_1 := Aside0.mk hi323_1
            have HC323_1 := Aside0.mk hl323_1
            clear hi323_1 hl323_1
            have HR323_2 := Aside0.mk hi323_2
            have HC323_2 := Aside0.mk hl323_2
            clear hi323_2 hl323_2
            replace p323 := eq_true p323
            replace q323 := eq_true q323
            go_wp2
            go_ret
            exact ⟨by first | rfl | (simp; done) | (simp [*]; done), by repeat (first | exact Drawn0.refl _ | apply Drawn0.step)⟩
        · rw [if_neg c4] at H
          exact absurd H (by simp)
      · rw [if_neg c3] at H
        have c3b0 : decide (x5_1 < (l0.length : Int)) = false := decide_eq_false c3
        clear c3
        obtain rfl := Option.some.inj H
        go_wp2
        go_ret
        exact ⟨by first | rfl | (simp; done) | (simp [*]; done), by repeat (first | exact Drawn0.refl _ | apply Drawn0.step)⟩

/-! ### laws_FnExactHandoversOf: function 9 -/
def laws_FnExactHandoversOf.f (k : Nat) (a0_0 : Int) (a0_1 : Int) (a0_2 : Int) (l0_3 : List (S177)) (a1 : Int) : Option (Bool) := (laws_szProgram.f k a0_0 a0_1 a0_2 l0_3 1048576).bind fun t => (if t < 0 then (some true) else ((laws_toProgram.f k a0_0 a0_1 a0_2 l0_3).bind fun bp => ((spec_HandoversOf.f k bp.1 bp.2.1 bp.2.2.1 bp.2.2.2 a1).bind fun ws => ((laws_toProgram.f k a0_0 a0_1 a0_2 l0_3).bind fun bx => ((impl_HandoversOf.f k bx.1 bx.2.1 bx.2.2.1 bx.2.2.2 a1).bind fun g => ((laws_eqHandoverS.f k g ws).bind fun e1 => (if e1 = true then ((laws_toProgram.f k a0_0 a0_1 a0_2 l0_3).bind fun bq => ((laws_eqProgram.f k bx.1 bx.2.1 bx.2.2.1 bx.2.2.2 bq.1 bq.2.1 bq.2.2.1 bq.2.2.2).bind fun e2 => (if e2 = true then ((laws_markProgram.f bx.1 bx.2.1 bx.2.2.1 bx.2.2.2 1).bind fun m => (if m < 0 then (some false) else ((laws_eqHandoverS.f k g ws).bind fun e3 => (if e3 = true then ((laws_markHandoverS.f k g 1).bind fun bm => ((laws_heldHandoverS.f k bm.2 1).bind fun q => (if q < 0 then (some false) else (if q = bm.1 then ((laws_toProgram.f k a0_0 a0_1 a0_2 l0_3).bind fun by_ => ((impl_HandoversOf.f k by_.1 by_.2.1 by_.2.2.1 by_.2.2.2 a1).bind fun h0 => ((laws_eqHandoverS.f k h0 ws).bind fun e4 => (if e4 = true then ((laws_heldHandoverS.f k bm.2 1).bind fun q2 => (if q2 < 0 then (some false) else (if q2 = bm.1 then (some true) else (some false)))) else (some false))))) else (some false))))) else (some false))))) else (some false)))) else (some false))))))))
set_option maxHeartbeats 8000000 in
set_option maxRecDepth 100000 in
theorem laws_FnExactHandoversOf.calls (k : Nat) (a0_0 : Int) (a0_1 : Int) (a0_2 : Int) (A0_3 : Option Addr) (c0_3 : Nat) (l0_3 : List (S177)) (a1 : Int) (r : Bool) (w : World) (hr0_3 : Kd.C k177 w A0_3 l0_3.length l0_3) (hc0_3 : l0_3.length ≤ c0_3) (hr_ : r = true) (h : laws_FnExactHandoversOf.f k a0_0 a0_1 a0_2 l0_3 a1 = some r) :
    Calls Try.prog 9 #[.agg #[.int .i64 a0_0, .int .i64 a0_1, .int .i64 a0_2, .slice A0_3 l0_3.length c0_3], .int .i64 a1] w fun e w' => e = .returned (.bool r) ∧ Below w.heap.size w w' := by
  have hu24 := Try.underlying24
  have hu30 := Try.underlying30
  have HR0_3 := Aside0.mk hr0_3
  have HC0_3 := Aside0.mk hc0_3
  clear hr0_3 hc0_3
  unfold laws_FnExactHandoversOf.f at h
  obtain ⟨t, h1, h⟩ := Option.bind_eq_some_iff.mp h
  have H1 := Aside0.mk h1
  clear h1
  by_cases ct : t < 0
  · rw [if_pos ct] at h
    obtain rfl := Option.some.inj h
    have ctb : decide (t < 0) = true := decide_eq_true ct
    clear ct h
    go_enter Try.func9, Try.ntmps9
    go_wp2_with (first | ((with_reducible refine gate_dst (N := 2) rfl ?_); refine box_event ?hg (N := 2) ?hd (cs := #[.int .i64 a0_0, .int .i64 a0_1, .int .i64 a0_2, .slice A0_3 l0_3.length c0_3]) (t := 24) ?hr ?_; (case hd => rfl); (case hg => rfl); (case hr => first | (go_simp; done) | (go_simp; rfl)); intro gb hg w1 hbox hb; have HB := Aside0.mk hb; have BK := Aside0.mk (show w1.heap[gb]? = some (.cells #[.int .i64 a0_0, .int .i64 a0_1, .int .i64 a0_2, .slice A0_3 l0_3.length c0_3] 24 (0, 0)) from hbox); clear hb hbox hg; (try clear hca0); have hca0 : w1.cell? ⟨gb, 0, none⟩ = some (.int .i64 a0_0) := (blk_cell BK.out 0).trans rfl; (try clear hca1); have hca1 : w1.cell? ⟨gb, 1, none⟩ = some (.int .i64 a0_1) := (blk_cell BK.out 1).trans rfl; (try clear hca2); have hca2 : w1.cell? ⟨gb, 2, none⟩ = some (.int .i64 a0_2) := (blk_cell BK.out 2).trans rfl; (try clear hca3); have hca3 : w1.cell? ⟨gb, 3, none⟩ = some (.slice A0_3 l0_3.length c0_3) := (blk_cell BK.out 3).trans rfl) | (go_at_call 12; refine Calls.mono (laws_szProgram.calls k a0_0 a0_1 a0_2 _ _ l0_3 1048576 t _ (Kd.C_below HR0_3.out HB.out) HC0_3.out H1.out) ?_; rintro e w2 ⟨rfl, hb⟩; have n_HB := Aside0.mk (below_step HB.out hb); clear HB; have HB := n_HB; clear n_HB; have n_BK := Aside0.mk (blk_below BK.out hb); clear BK; have BK := n_BK; clear n_BK; clear hb; (try clear hca0); have hca0 : w2.cell? ⟨gb, 0, none⟩ = some (.int .i64 a0_0) := (blk_cell BK.out 0).trans rfl; (try clear hca1); have hca1 : w2.cell? ⟨gb, 1, none⟩ = some (.int .i64 a0_1) := (blk_cell BK.out 1).trans rfl; (try clear hca2); have hca2 : w2.cell? ⟨gb, 2, none⟩ = some (.int .i64 a0_2) := (blk_cell BK.out 2).trans rfl; (try clear hca3); have hca3 : w2.cell? ⟨gb, 3, none⟩ = some (.slice A0_3 l0_3.length c0_3) := (blk_cell BK.out 3).trans rfl))
    go_ret
    exact ⟨rfl, HB.out⟩
  · rw [if_neg ct] at h
    have ctb : decide (t < 0) = false := decide_eq_false ct
    clear ct
    obtain ⟨⟨p1, p2, p3, p4⟩, hh, h⟩ := Option.bind_eq_some_iff.mp h
    have H2 := Aside0.mk hh
    clear hh
    obtain ⟨ws, hh, h⟩ := Option.bind_eq_some_iff.mp h
    have H3 := Aside0.mk hh
    clear hh
    obtain ⟨⟨x1, x2, x3, x4⟩, hh, h⟩ := Option.bind_eq_some_iff.mp h
    have H4 := Aside0.mk hh
    clear hh
    obtain ⟨g, hh, h⟩ := Option.bind_eq_some_iff.mp h
    have H5 := Aside0.mk hh
    clear hh
    obtain ⟨e1, hh, h⟩ := Option.bind_eq_some_iff.mp h
    have H6 := Aside0.mk hh
    clear hh
    by_cases c_ : e1 = true
    case neg => (rw [if_neg c_] at h; exact absurd ((Option.some.inj h).trans hr_) (by decide))
    rw [if_pos c_] at h
    subst c_
    obtain ⟨⟨q1, q2, q3, q4⟩, hh, h⟩ := Option.bind_eq_some_iff.mp h
    have H7 := Aside0.mk hh
    clear hh
    obtain ⟨e2, hh, h⟩ := Option.bind_eq_some_iff.mp h
    have H8 := Aside0.mk hh
    clear hh
    by_cases c_ : e2 = true
    case neg => (rw [if_neg c_] at h; exact absurd ((Option.some.inj h).trans hr_) (by decide))
    rw [if_pos c_] at h
    subst c_
    obtain ⟨m, hh, h⟩ := Option.bind_eq_some_iff.mp h
    have H9 := Aside0.mk hh
    clear hh
    by_cases c_ : m < 0
    case pos => (rw [if_pos c_] at h; exact absurd ((Option.some.inj h).trans hr_) (by decide))
    rw [if_neg c_] at h
    have cm : decide (m < 0) = false := decide_eq_false c_
    clear c_
    obtain ⟨e3, hh, h⟩ := Option.bind_eq_some_iff.mp h
    have H10 := Aside0.mk hh
    clear hh
    by_cases c_ : e3 = true
    case neg => (rw [if_neg c_] at h; exact absurd ((Option.some.inj h).trans hr_) (by decide))
    rw [if_pos c_] at h
    subst c_
    obtain ⟨⟨m2, g2⟩, hh, h⟩ := Option.bind_eq_some_iff.mp h
    have H11 := Aside0.mk hh
    clear hh
    obtain ⟨q, hh, h⟩ := Option.bind_eq_some_iff.mp h
    have H12 := Aside0.mk hh
    clear hh
    by_cases c_ : q < 0
    case pos => (rw [if_pos c_] at h; exact absurd ((Option.some.inj h).trans hr_) (by decide))
    rw [if_neg c_] at h
    have cq : decide (q < 0) = false := decide_eq_false c_
    clear c_
    by_cases c_ : q = m2
    case neg => (rw [if_neg c_] at h; exact absurd ((Option.some.inj h).trans hr_) (by decide))
    rw [if_pos c_] at h
    have cqm : (q != m2) = false := bne_eq_false_iff_eq.mpr c_
    have cqm_ : (q == m2) = true := beq_iff_eq.mpr c_
    clear c_
    obtain ⟨⟨y1, y2, y3, y4⟩, hh, h⟩ := Option.bind_eq_some_iff.mp h
    have H13 := Aside0.mk hh
    clear hh
    obtain ⟨h0, hh, h⟩ := Option.bind_eq_some_iff.mp h
    have H14 := Aside0.mk hh
    clear hh
    obtain ⟨e4, hh, h⟩ := Option.bind_eq_some_iff.mp h
    have H15 := Aside0.mk hh
    clear hh
    by_cases c_ : e4 = true
    case neg => (rw [if_neg c_] at h; exact absurd ((Option.some.inj h).trans hr_) (by decide))
    rw [if_pos c_] at h
    subst c_
    obtain ⟨qq, hh, h⟩ := Option.bind_eq_some_iff.mp h
    have H16 := Aside0.mk hh
    clear hh
    by_cases c_ : qq < 0
    case pos => (rw [if_pos c_] at h; exact absurd ((Option.some.inj h).trans hr_) (by decide))
    rw [if_neg c_] at h
    have cqq : decide (qq < 0) = false := decide_eq_false c_
    clear c_
    by_cases c_ : qq = m2
    case neg => (rw [if_neg c_] at h; exact absurd ((Option.some.inj h).trans hr_) (by decide))
    rw [if_pos c_] at h
    have cqqm : (qq != m2) = false := bne_eq_false_iff_eq.mpr c_
    have cqqm_ : (qq == m2) = true := beq_iff_eq.mpr c_
    clear c_
    obtain rfl := Option.some.inj h
    clear h hr_
    go_enter Try.func9, Try.ntmps9
    go_upto_region 7 with (first | ((with_reducible refine gate_dst (N := 2) rfl ?_); refine box_event ?hg (N := 2) ?hd (cs := #[.int .i64 a0_0, .int .i64 a0_1, .int .i64 a0_2, .slice A0_3 l0_3.length c0_3]) (t := 24) ?hr ?_; (case hd => rfl); (case hg => rfl); (case hr => first | (go_simp; done) | (go_simp; rfl)); intro gb hg w1 hbox hb; have HB := Aside0.mk hb; have BK := Aside0.mk (show w1.heap[gb]? = some (.cells #[.int .i64 a0_0, .int .i64 a0_1, .int .i64 a0_2, .slice A0_3 l0_3.length c0_3] 24 (0, 0)) from hbox); clear hb hbox hg; (try clear hca0); have hca0 : w1.cell? ⟨gb, 0, none⟩ = some (.int .i64 a0_0) := (blk_cell BK.out 0).trans rfl; (try clear hca1); have hca1 : w1.cell? ⟨gb, 1, none⟩ = some (.int .i64 a0_1) := (blk_cell BK.out 1).trans rfl; (try clear hca2); have hca2 : w1.cell? ⟨gb, 2, none⟩ = some (.int .i64 a0_2) := (blk_cell BK.out 2).trans rfl; (try clear hca3); have hca3 : w1.cell? ⟨gb, 3, none⟩ = some (.slice A0_3 l0_3.length c0_3) := (blk_cell BK.out 3).trans rfl) | (go_at_call 14; have HS_ := HS; refine Calls.mono (laws_toProgram.calls k a0_0 a0_1 a0_2 _ _ l0_3 x1 x2 x3 x4 _ (Kd.C_below HR0_3.out HB.out) HC0_3.out H4.out) ?_; rintro e w5 ⟨vw5, rfl, ho, hb⟩; have n_HB := Aside0.mk (below_step HB.out hb); clear HB; have HB := n_HB; clear n_HB; have n_BK := Aside0.mk (blk_below BK.out hb); clear BK; have BK := n_BK; clear n_BK; have n_HS := Aside0.mk (Kd.S_below HS.out hb); clear HS; have HS := n_HS; clear n_HS; clear HS_; obtain ⟨A5, c5, rfl⟩ := Kd.R_slice ho; have HX := Aside0.mk (Kd.R_mono (ok' := fun k_ => w4.heap.size ≤ k_ ∧ k_ < w5.heap.size) (Kd.R_bound ho) (fun k_ hk => ⟨hk.2.1, hk.2.2.1⟩)); have HN45 := Aside0.mk hb.size; clear ho hb; (try clear hca0); have hca0 : w5.cell? ⟨gb, 0, none⟩ = some (.int .i64 a0_0) := (blk_cell BK.out 0).trans rfl; (try clear hca1); have hca1 : w5.cell? ⟨gb, 1, none⟩ = some (.int .i64 a0_1) := (blk_cell BK.out 1).trans rfl; (try clear hca2); have hca2 : w5.cell? ⟨gb, 2, none⟩ = some (.int .i64 a0_2) := (blk_cell BK.out 2).trans rfl; (try clear hca3); have hca3 : w5.cell? ⟨gb, 3, none⟩ = some (.slice A0_3 l0_3.length c0_3) := (blk_cell BK.out 3).trans rfl) | (go_at_call 14; refine Calls.mono (laws_toProgram.calls k a0_0 a0_1 a0_2 _ _ l0_3 p1 p2 p3 p4 _ (Kd.C_below HR0_3.out HB.out) HC0_3.out H2.out) ?_; rintro e w3 ⟨vw3, rfl, ho, hb⟩; have n_HB := Aside0.mk (below_step HB.out hb); clear HB; have HB := n_HB; clear n_HB; have n_BK := Aside0.mk (blk_below BK.out hb); clear BK; have BK := n_BK; clear n_BK; clear hb; obtain ⟨A3, c3, rfl⟩ := Kd.R_slice ho; have HO3 := Aside0.mk ho; clear ho; (try clear hca0); have hca0 : w3.cell? ⟨gb, 0, none⟩ = some (.int .i64 a0_0) := (blk_cell BK.out 0).trans rfl; (try clear hca1); have hca1 : w3.cell? ⟨gb, 1, none⟩ = some (.int .i64 a0_1) := (blk_cell BK.out 1).trans rfl; (try clear hca2); have hca2 : w3.cell? ⟨gb, 2, none⟩ = some (.int .i64 a0_2) := (blk_cell BK.out 2).trans rfl; (try clear hca3); have hca3 : w3.cell? ⟨gb, 3, none⟩ = some (.slice A0_3 l0_3.length c0_3) := (blk_cell BK.out 3).trans rfl) | (go_at_call 43; refine Calls.mono (spec_HandoversOf.calls k p1 p2 p3 _ _ p4 a1 ws _ (Kd.R_reads' HO3.out).2.2 (Kd.R_reads' HO3.out).2.1 H3.out) ?_; rintro e w4 ⟨v4, rfl, ho, hb⟩; clear HO3; have n_HB := Aside0.mk (below_step HB.out hb); clear HB; have HB := n_HB; clear n_HB; have n_BK := Aside0.mk (blk_below BK.out hb); clear BK; have BK := n_BK; clear n_BK; have HN4 := Aside0.mk (below_size HB.out); have HGB4 := Aside0.mk (blk_lt BK.out); clear hb; obtain ⟨A4, c4, rfl⟩ := Kd.S_slice ho; have HS := Aside0.mk (Kd.S_mono (ok' := fun k_ => k_ < w4.heap.size) (Kd.S_bound ho) (fun k_ hk => hk.2.2.1)); clear ho; (try clear hca0); have hca0 : w4.cell? ⟨gb, 0, none⟩ = some (.int .i64 a0_0) := (blk_cell BK.out 0).trans rfl; (try clear hca1); have hca1 : w4.cell? ⟨gb, 1, none⟩ = some (.int .i64 a0_1) := (blk_cell BK.out 1).trans rfl; (try clear hca2); have hca2 : w4.cell? ⟨gb, 2, none⟩ = some (.int .i64 a0_2) := (blk_cell BK.out 2).trans rfl; (try clear hca3); have hca3 : w4.cell? ⟨gb, 3, none⟩ = some (.slice A0_3 l0_3.length c0_3) := (blk_cell BK.out 3).trans rfl) | (go_at_call 12; refine Calls.mono (laws_szProgram.calls k a0_0 a0_1 a0_2 _ _ l0_3 1048576 t _ (Kd.C_below HR0_3.out HB.out) HC0_3.out H1.out) ?_; rintro e w2 ⟨rfl, hb⟩; have n_HB := Aside0.mk (below_step HB.out hb); clear HB; have HB := n_HB; clear n_HB; have n_BK := Aside0.mk (blk_below BK.out hb); clear BK; have BK := n_BK; clear n_BK; clear hb; (try clear hca0); have hca0 : w2.cell? ⟨gb, 0, none⟩ = some (.int .i64 a0_0) := (blk_cell BK.out 0).trans rfl; (try clear hca1); have hca1 : w2.cell? ⟨gb, 1, none⟩ = some (.int .i64 a0_1) := (blk_cell BK.out 1).trans rfl; (try clear hca2); have hca2 : w2.cell? ⟨gb, 2, none⟩ = some (.int .i64 a0_2) := (blk_cell BK.out 2).trans rfl; (try clear hca3); have hca3 : w2.cell? ⟨gb, 3, none⟩ = some (.slice A0_3 l0_3.length c0_3) := (blk_cell BK.out 3).trans rfl))
    have n1_ := Aside0.mk (below_alloc HB.out (.cells #[.int .i64 x1, .int .i64 x2, .int .i64 x3, .slice A5 x4.length c5] 30 (0, 0)))
    have n2_ := Aside0.mk (blk_alloc BK.out (.cells #[.int .i64 x1, .int .i64 x2, .int .i64 x3, .slice A5 x4.length c5] 30 (0, 0)))
    have n3_ := Aside0.mk (Kd.S_alloc HS.out (.cells #[.int .i64 x1, .int .i64 x2, .int .i64 x3, .slice A5 x4.length c5] 30 (0, 0)))
    have n4_ := Aside0.mk (Kd.R_alloc HX.out (.cells #[.int .i64 x1, .int .i64 x2, .int .i64 x3, .slice A5 x4.length c5] 30 (0, 0)))
    have n5_ := Aside0.mk (show (w5.alloc (.cells #[.int .i64 x1, .int .i64 x2, .int .i64 x3, .slice A5 x4.length c5] 30 (0, 0))).heap[w5.heap.size]? = some (.cells #[.int .i64 x1, .int .i64 x2, .int .i64 x3, .slice A5 x4.length c5] 30 (0, 0)) from by show (w5.heap.push _)[w5.heap.size]? = _; exact Array.getElem?_push_size)
    have n6_ := Aside0.mk (show w5.heap.size ≤ (w5.alloc (.cells #[.int .i64 x1, .int .i64 x2, .int .i64 x3, .slice A5 x4.length c5] 30 (0, 0))).heap.size from by show _ ≤ (w5.heap.push _).size; rw [Array.size_push]; omega)
    clear HB BK HS HX
    (try clear hca0 hca1 hca2 hca3)
    obtain ⟨gx, hgx⟩ : ∃ gx, gx = w5.heap.size := ⟨_, rfl⟩
    rw [← hgx] at n5_
    rw [← hgx]
    clear hgx
    generalize w5.alloc (.cells #[.int .i64 x1, .int .i64 x2, .int .i64 x3, .slice A5 x4.length c5] 30 (0, 0)) = w6 at n1_ n2_ n3_ n4_ n5_ n6_ ⊢
    have HB := n1_
    have BK := n2_
    have HS := n3_
    have HX := n4_
    have BXX := n5_
    have HN56 := n6_
    have HN6 := Aside0.mk (below_size HB.out)
    clear n1_ n2_ n3_ n4_ n5_ n6_
    have hcx0 : w6.cell? ⟨gx, 0, none⟩ = some (.int .i64 x1) := (blk_cell BXX.out 0).trans rfl
    have hcx1 : w6.cell? ⟨gx, 1, none⟩ = some (.int .i64 x2) := (blk_cell BXX.out 1).trans rfl
    have hcx2 : w6.cell? ⟨gx, 2, none⟩ = some (.int .i64 x3) := (blk_cell BXX.out 2).trans rfl
    have hcx3 : w6.cell? ⟨gx, 3, none⟩ = some (.slice A5 x4.length c5) := (blk_cell BXX.out 3).trans rfl
    go_upto_region 10 with (first | (go_at_call 35; refine Calls.mono (impl_HandoversOf.calls k x1 x2 x3 _ _ x4 a1 g _ (Kd.R_reads' HX.out).2.2 (Kd.R_reads' HX.out).2.1 H5.out) ?_; rintro e w7 ⟨v7, rfl, ho, hb⟩; have n_HB := Aside0.mk (below_step HB.out hb); clear HB; have HB := n_HB; clear n_HB; have n_BK := Aside0.mk (blk_below BK.out hb); clear BK; have BK := n_BK; clear n_BK; have n_HS := Aside0.mk (Kd.S_below HS.out hb); clear HS; have HS := n_HS; clear n_HS; have n_HX := Aside0.mk (Kd.R_below HX.out hb); clear HX; have HX := n_HX; clear n_HX; have n_BXX := Aside0.mk (blk_below BXX.out hb); clear BXX; have BXX := n_BXX; clear n_BXX; obtain ⟨A7, c7, rfl⟩ := Kd.S_slice ho; have HG := Aside0.mk (Kd.S_mono (ok' := fun k_ => w6.heap.size ≤ k_) (Kd.S_bound ho) (fun k_ hk => hk.2.1)); clear ho hb) | (go_at_call 44; refine Calls.mono (laws_eqHandoverS.calls k _ _ g _ _ ws true _ (Kd.S_reads' HG.out).2.2 (Kd.S_reads' HG.out).2.1 (Kd.S_reads' HS.out).2.2 (Kd.S_reads' HS.out).2.1 H6.out) ?_; rintro e w8 ⟨rfl, hb⟩; have n_HB := Aside0.mk (below_step HB.out hb); clear HB; have HB := n_HB; clear n_HB; have n_BK := Aside0.mk (blk_below BK.out hb); clear BK; have BK := n_BK; clear n_BK; have n_HS := Aside0.mk (Kd.S_below HS.out hb); clear HS; have HS := n_HS; clear n_HS; have n_HX := Aside0.mk (Kd.R_below HX.out hb); clear HX; have HX := n_HX; clear n_HX; have n_BXX := Aside0.mk (blk_below BXX.out hb); clear BXX; have BXX := n_BXX; clear n_BXX; have n_HG := Aside0.mk (Kd.S_below HG.out hb); clear HG; have HG := n_HG; clear n_HG; clear hb))
    go_region_held3 (fun w' => w'.cell? ⟨gx, 0, none⟩ = some (.int .i64 x1) ∧ w'.cell? ⟨gx, 1, none⟩ = some (.int .i64 x2) ∧ w'.cell? ⟨gx, 2, none⟩ = some (.int .i64 x3) ∧ w'.cell? ⟨gx, 3, none⟩ = some (.slice A5 x4.length c5) ∧ w'.cell? ⟨gb, 0, none⟩ = some (.int .i64 a0_0) ∧ w'.cell? ⟨gb, 1, none⟩ = some (.int .i64 a0_1) ∧ w'.cell? ⟨gb, 2, none⟩ = some (.int .i64 a0_2) ∧ w'.cell? ⟨gb, 3, none⟩ = some (.slice A0_3 l0_3.length c0_3)) (first | exact ⟨(blk_cell (blk_below BXX.out (below_drew1 (Below.refl w8.heap.size w8))) 0).trans rfl, (blk_cell (blk_below BXX.out (below_drew1 (Below.refl w8.heap.size w8))) 1).trans rfl, (blk_cell (blk_below BXX.out (below_drew1 (Below.refl w8.heap.size w8))) 2).trans rfl, (blk_cell (blk_below BXX.out (below_drew1 (Below.refl w8.heap.size w8))) 3).trans rfl, (blk_cell (blk_below BK.out (below_drew1 (Below.refl w8.heap.size w8))) 0).trans rfl, (blk_cell (blk_below BK.out (below_drew1 (Below.refl w8.heap.size w8))) 1).trans rfl, (blk_cell (blk_below BK.out (below_drew1 (Below.refl w8.heap.size w8))) 2).trans rfl, (blk_cell (blk_below BK.out (below_drew1 (Below.refl w8.heap.size w8))) 3).trans rfl⟩ | exact ⟨(blk_cell (blk_below BXX.out HBQ.out) 0).trans rfl, (blk_cell (blk_below BXX.out HBQ.out) 1).trans rfl, (blk_cell (blk_below BXX.out HBQ.out) 2).trans rfl, (blk_cell (blk_below BXX.out HBQ.out) 3).trans rfl, (blk_cell (blk_below BK.out HBQ.out) 0).trans rfl, (blk_cell (blk_below BK.out HBQ.out) 1).trans rfl, (blk_cell (blk_below BK.out HBQ.out) 2).trans rfl, (blk_cell (blk_below BK.out HBQ.out) 3).trans rfl⟩ | exact ⟨(blk_cell (blk_below BXX.out HBR.out) 0).trans rfl, (blk_cell (blk_below BXX.out HBR.out) 1).trans rfl, (blk_cell (blk_below BXX.out HBR.out) 2).trans rfl, (blk_cell (blk_below BXX.out HBR.out) 3).trans rfl, (blk_cell (blk_below BK.out HBR.out) 0).trans rfl, (blk_cell (blk_below BK.out HBR.out) 1).trans rfl, (blk_cell (blk_below BK.out HBR.out) 2).trans rfl, (blk_cell (blk_below BK.out HBR.out) 3).trans rfl⟩) ((first | (go_at_call 14; refine Calls.mono (laws_toProgram.calls k a0_0 a0_1 a0_2 _ _ l0_3 q1 q2 q3 q4 _ (Kd.C_below HR0_3.out (below_drew1 HB.out)) HC0_3.out H7.out) ?_; rintro e w9 ⟨v9, rfl, ho, hb⟩; have HBQ := Aside0.mk (below_step (below_drew1 (Below.refl w8.heap.size w8)) hb); obtain ⟨A9, c9, rfl⟩ := Kd.R_slice ho; have HO9 := Aside0.mk ho; clear ho hb) | (go_at_call 17; refine Calls.mono (laws_eqProgram.calls k x1 x2 x3 _ _ x4 q1 q2 q3 _ _ q4 true _ (Kd.R_reads' (Kd.R_below HX.out HBQ.out)).2.2 (Kd.R_reads' HX.out).2.1 (Kd.R_reads' HO9.out).2.2 (Kd.R_reads' HO9.out).2.1 H8.out) ?_; rintro e w10 ⟨rfl, hb⟩; have HBR := Aside0.mk (below_step HBQ.out hb); clear hb)))
    have hb := HBR.out
    have n_HB := Aside0.mk (below_step HB.out hb)
    clear HB
    have HB := n_HB
    clear n_HB
    have n_BK := Aside0.mk (blk_below BK.out hb)
    clear BK
    have BK := n_BK
    clear n_BK
    have n_HS := Aside0.mk (Kd.S_below HS.out hb)
    clear HS
    have HS := n_HS
    clear n_HS
    have n_HX := Aside0.mk (Kd.R_below HX.out hb)
    clear HX
    have HX := n_HX
    clear n_HX
    have n_BXX := Aside0.mk (blk_below BXX.out hb)
    clear BXX
    have BXX := n_BXX
    clear n_BXX
    have n_HG := Aside0.mk (Kd.S_below HG.out hb)
    clear HG
    have HG := n_HG
    clear n_HG
    clear hb HBQ HBR HO9
    (try clear hcx0 hcx1 hcx2 hcx3)
    have hcx0 : w10.cell? ⟨gx, 0, none⟩ = some (.int .i64 x1) := (blk_cell BXX.out 0).trans rfl
    have hcx1 : w10.cell? ⟨gx, 1, none⟩ = some (.int .i64 x2) := (blk_cell BXX.out 1).trans rfl
    have hcx2 : w10.cell? ⟨gx, 2, none⟩ = some (.int .i64 x3) := (blk_cell BXX.out 2).trans rfl
    have hcx3 : w10.cell? ⟨gx, 3, none⟩ = some (.slice A5 x4.length c5) := (blk_cell BXX.out 3).trans rfl
    go_upto_region 14 with (first | (go_at_call 18; refine Calls.mono (laws_markProgram.calls x1 x2 x3 (fun k_ => w4.heap.size ≤ k_ ∧ k_ < w5.heap.size) (.slice A5 x4.length c5) x4 1 m w _ HB.out (Kd.R_lower HX.out HN4.out) H9.out) ?_; rintro e w11 ⟨rfl, hb, hkp⟩; clear HB; have HB := Aside0.mk hb; have n_ := Aside0.mk (Kd.S_step HS.out (fun k_ ho_ hl_ => hkp.2 k_ hl_ (fun hp_ => Nat.lt_irrefl _ (Nat.lt_of_lt_of_le ho_ hp_.1)))); clear HS; have HS := n_; clear n_; have n_ := Aside0.mk (Kd.S_step HG.out (fun k_ ho_ hl_ => hkp.2 k_ hl_ (fun hp_ => Nat.lt_irrefl _ (Nat.lt_of_lt_of_le hp_.2 (Nat.le_trans HN56.out ho_))))); clear HG; have HG := n_; clear n_; have n_ := Aside0.mk (blk_kept BK.out hkp (fun hp_ => Nat.lt_irrefl _ (Nat.lt_of_lt_of_le HGB4.out hp_.1))); clear BK; have BK := n_; clear n_; clear hb hkp HX BXX))
    go_upto_region 16 with (first | (go_at_call 44; refine Calls.mono (laws_eqHandoverS.calls k _ _ g _ _ ws true _ (Kd.S_reads' HG.out).2.2 (Kd.S_reads' HG.out).2.1 (Kd.S_reads' HS.out).2.2 (Kd.S_reads' HS.out).2.1 H10.out) ?_; rintro e w12 ⟨rfl, hb⟩; have n_HB := Aside0.mk (below_step HB.out hb); clear HB; have HB := n_HB; clear n_HB; have n_BK := Aside0.mk (blk_below BK.out hb); clear BK; have BK := n_BK; clear n_BK; have n_HS := Aside0.mk (Kd.S_below HS.out hb); clear HS; have HS := n_HS; clear n_HS; have n_HG := Aside0.mk (Kd.S_below HG.out hb); clear HG; have HG := n_HG; clear n_HG; clear hb))
    go_upto_region 18 with (first | (go_at_call 45; refine Calls.mono (laws_markHandoverS.calls k (fun k_ => w6.heap.size ≤ k_) (.slice A7 g.length c7) g 1 m2 g2 w _ HB.out (Kd.S_lower HG.out HN6.out) H11.out) ?_; rintro e w13 ⟨rfl, ho, hb, hkp⟩; have n_ := Aside0.mk (Kd.S_step HS.out (fun k_ ho_ hl_ => hkp.2 k_ hl_ (fun hp_ => Nat.lt_irrefl _ (Nat.lt_of_lt_of_le ho_ (Nat.le_trans HN45.out (Nat.le_trans HN56.out hp_)))))); clear HS; have HS := n_; clear n_; have n_ := Aside0.mk (blk_kept BK.out hkp (fun hp_ => Nat.lt_irrefl _ (Nat.lt_of_lt_of_le HGB4.out (Nat.le_trans HN45.out (Nat.le_trans HN56.out hp_))))); clear BK; have BK := n_; clear n_; clear HB HG; have HB := Aside0.mk hb; have hl_ := (Kd.S_reads' ho).1; rw [hl_] at ho; have HG2 := Aside0.mk ho; have hle_ := (Kd.S_reads' ho).2.1; have HHELD := Aside0.mk (show ∀ W : World, Kd.C k87 W A7 g2.length g2 → Calls Try.prog 46 #[.slice A7 g.length c7, .int .i64 1] W fun e w' => e = .returned (.int .i64 q) ∧ Below W.heap.size W w' from by rw [hl_]; exact fun W hC_ => (laws_heldHandoverS.calls k A7 c7 g2 1 q W hC_ hle_ H12.out).mono (fun e w' h_ => ⟨h_.1, by obtain ⟨_, nd_, hn_⟩ := h_; rw [hn_]; exact pw_below_drewN (Below.refl W.heap.size W) nd_⟩)); clear hl_ hle_; clear ho hb hkp; (try clear hca0); have hca0 : w13.cell? ⟨gb, 0, none⟩ = some (.int .i64 a0_0) := (blk_cell BK.out 0).trans rfl; (try clear hca1); have hca1 : w13.cell? ⟨gb, 1, none⟩ = some (.int .i64 a0_1) := (blk_cell BK.out 1).trans rfl; (try clear hca2); have hca2 : w13.cell? ⟨gb, 2, none⟩ = some (.int .i64 a0_2) := (blk_cell BK.out 2).trans rfl; (try clear hca3); have hca3 : w13.cell? ⟨gb, 3, none⟩ = some (.slice A0_3 l0_3.length c0_3) := (blk_cell BK.out 3).trans rfl))
    go_upto_region 20 with (first | (go_at_call 46; refine Calls.mono (HHELD.out _ (Kd.S_reads' HG2.out).2.2) ?_; rintro e w14 ⟨rfl, hb⟩; have n_HB := Aside0.mk (below_step HB.out hb); clear HB; have HB := n_HB; clear n_HB; have n_BK := Aside0.mk (blk_below BK.out hb); clear BK; have BK := n_BK; clear n_BK; have n_HS := Aside0.mk (Kd.S_below HS.out hb); clear HS; have HS := n_HS; clear n_HS; have n_HG2 := Aside0.mk (Kd.S_below HG2.out hb); clear HG2; have HG2 := n_HG2; clear n_HG2; clear hb; (try clear hca0); have hca0 : w14.cell? ⟨gb, 0, none⟩ = some (.int .i64 a0_0) := (blk_cell BK.out 0).trans rfl; (try clear hca1); have hca1 : w14.cell? ⟨gb, 1, none⟩ = some (.int .i64 a0_1) := (blk_cell BK.out 1).trans rfl; (try clear hca2); have hca2 : w14.cell? ⟨gb, 2, none⟩ = some (.int .i64 a0_2) := (blk_cell BK.out 2).trans rfl; (try clear hca3); have hca3 : w14.cell? ⟨gb, 3, none⟩ = some (.slice A0_3 l0_3.length c0_3) := (blk_cell BK.out 3).trans rfl))
    go_wp2_with (first | (go_at_call 14; refine Calls.mono (laws_toProgram.calls k a0_0 a0_1 a0_2 _ _ l0_3 y1 y2 y3 y4 _ (Kd.C_below HR0_3.out HB.out) HC0_3.out H13.out) ?_; rintro e w15 ⟨vw15, rfl, ho, hb⟩; have n_HB := Aside0.mk (below_step HB.out hb); clear HB; have HB := n_HB; clear n_HB; have n_BK := Aside0.mk (blk_below BK.out hb); clear BK; have BK := n_BK; clear n_BK; have n_HS := Aside0.mk (Kd.S_below HS.out hb); clear HS; have HS := n_HS; clear n_HS; have n_HG2 := Aside0.mk (Kd.S_below HG2.out hb); clear HG2; have HG2 := n_HG2; clear n_HG2; clear hb; obtain ⟨A15, c15, rfl⟩ := Kd.R_slice ho; have HO15 := Aside0.mk ho; clear ho) | (go_at_call 35; refine Calls.mono (impl_HandoversOf.calls k y1 y2 y3 _ _ y4 a1 h0 _ (Kd.R_reads' HO15.out).2.2 (Kd.R_reads' HO15.out).2.1 H14.out) ?_; rintro e w16 ⟨v16, rfl, ho, hb⟩; clear HO15; have n_HB := Aside0.mk (below_step HB.out hb); clear HB; have HB := n_HB; clear n_HB; have n_BK := Aside0.mk (blk_below BK.out hb); clear BK; have BK := n_BK; clear n_BK; have n_HS := Aside0.mk (Kd.S_below HS.out hb); clear HS; have HS := n_HS; clear n_HS; have n_HG2 := Aside0.mk (Kd.S_below HG2.out hb); clear HG2; have HG2 := n_HG2; clear n_HG2; clear hb; obtain ⟨A16, c16, rfl⟩ := Kd.S_slice ho; have HH := Aside0.mk ho; clear ho) | (go_at_call 44; refine Calls.mono (laws_eqHandoverS.calls k _ _ h0 _ _ ws true _ (Kd.S_reads' HH.out).2.2 (Kd.S_reads' HH.out).2.1 (Kd.S_reads' HS.out).2.2 (Kd.S_reads' HS.out).2.1 H15.out) ?_; rintro e w17 ⟨rfl, hb⟩; clear HH; have n_HB := Aside0.mk (below_step HB.out hb); clear HB; have HB := n_HB; clear n_HB; have n_BK := Aside0.mk (blk_below BK.out hb); clear BK; have BK := n_BK; clear n_BK; have n_HS := Aside0.mk (Kd.S_below HS.out hb); clear HS; have HS := n_HS; clear n_HS; have n_HG2 := Aside0.mk (Kd.S_below HG2.out hb); clear HG2; have HG2 := n_HG2; clear n_HG2; clear hb) | (go_at_call 46; refine Calls.mono (HHELD.out _ (Kd.S_reads' HG2.out).2.2) ?_; rintro e w14 ⟨rfl, hb⟩; have n_HB := Aside0.mk (below_step HB.out hb); clear HB; have HB := n_HB; clear n_HB; have n_BK := Aside0.mk (blk_below BK.out hb); clear BK; have BK := n_BK; clear n_BK; have n_HS := Aside0.mk (Kd.S_below HS.out hb); clear HS; have HS := n_HS; clear n_HS; have n_HG2 := Aside0.mk (Kd.S_below HG2.out hb); clear HG2; have HG2 := n_HG2; clear n_HG2; clear hb; (try clear hca0); have hca0 : w14.cell? ⟨gb, 0, none⟩ = some (.int .i64 a0_0) := (blk_cell BK.out 0).trans rfl; (try clear hca1); have hca1 : w14.cell? ⟨gb, 1, none⟩ = some (.int .i64 a0_1) := (blk_cell BK.out 1).trans rfl; (try clear hca2); have hca2 : w14.cell? ⟨gb, 2, none⟩ = some (.int .i64 a0_2) := (blk_cell BK.out 2).trans rfl; (try clear hca3); have hca3 : w14.cell? ⟨gb, 3, none⟩ = some (.slice A0_3 l0_3.length c0_3) := (blk_cell BK.out 3).trans rfl))
    go_ret
    exact ⟨rfl, HB.out⟩

end Go.Proofs.Ytlogjmgghnifoaa.PFnExactHandoversOf
