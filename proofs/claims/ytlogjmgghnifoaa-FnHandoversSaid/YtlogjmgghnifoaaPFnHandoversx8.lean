/- The functions that the law reaches, as plain Lean functions, each with the proof that the Go code comes to its answers; conditions: those that each theorem names. (printed by a program of this session) -/
import Derived.Test.YtlogjmgghnifoaaPFnHandoversx0
import Derived.Test.YtlogjmgghnifoaaPFnHandoversx1
import Derived.Test.YtlogjmgghnifoaaPFnHandoversx4
import Derived.Test.YtlogjmgghnifoaaPFnHandoversx6
import Derived.Test.YtlogjmgghnifoaaPFnHandoversx7
namespace Go.Proofs.Ytlogjmgghnifoaa.PFnHandovers
open Go.RowKit Go.Proofs.YtlogjmgghnifoaaW.PrintWords Go.Proofs.YtlogjmgghnifoaaW.PrintLast Go.Proofs.YtlogjmgghnifoaaW.PrintMore
attribute [local go_sem] max2_int min2_int max_two min_two max_three min_three max_four min_four   -- for this text's walks alone
set_option linter.unusedVariables false
set_option linter.unusedSimpArgs false

attribute [local go_sem high] eqA166
/-! ### spec_Min: function 188 -/
def spec_Min.f (a0 : Int) (a1 : Int) : Option (Int) := if a1 < a0 then (some a1) else (some a0)
set_option maxHeartbeats 8000000 in
set_option maxRecDepth 100000 in
theorem spec_Min.calls (a0 : Int) (a1 : Int) (r : Int) (w : World) (h : spec_Min.f a0 a1 = some r) :
    Calls Try.prog 188 #[.int .i64 a0, .int .i64 a1] w fun e w' => e = .returned (.int .i64 r) ∧ Drawn0 w w' := by
  have H : (if a1 < a0 then (some a1) else (some a0)) = some r := h
  clear h
  by_cases c3 : a1 < a0
  · rw [if_pos c3] at H
    have c3b0 : decide (a1 < a0) = true := decide_eq_true c3
    clear c3
    obtain rfl := Option.some.inj H
    go_enter Try.func188, Try.ntmps188
    go_wp2
    go_ret
    exact ⟨by first | rfl | (simp; done) | (simp [*]; done), by repeat (first | exact Drawn0.refl _ | apply Drawn0.step)⟩
  · rw [if_neg c3] at H
    have c3b0 : decide (a1 < a0) = false := decide_eq_false c3
    clear c3
    obtain rfl := Option.some.inj H
    go_enter Try.func188, Try.ntmps188
    go_wp2
    go_ret
    exact ⟨by first | rfl | (simp; done) | (simp [*]; done), by repeat (first | exact Drawn0.refl _ | apply Drawn0.step)⟩

/-! ### spec_SameLinks: function 215 -/
def spec_SameLinks.l0 : Nat → List (S166) → List (S166) → Int → Option (Bool)
  | 0, _, _, _ => none
  | k + 1, x0, x1, x5 => if x5 < (x0.length : Int) then (if 0 ≤ x5 then (if x5 < (x1.length : Int) then (if (!(((rd_T166 x0 x5).f0) == ((rd_T166 x1 x5).f0)) || (!(((rd_T166 x0 x5).f1) == ((rd_T166 x1 x5).f1)))) = true then (some false) else (spec_SameLinks.l0 k x0 x1 (wrap64 (x5 + 1)))) else (none)) else (none)) else (some true)
def spec_SameLinks.f (k : Nat) (l0 : List (S166)) (l1 : List (S166)) : Option (Bool) := if (l0.length : Int) = (l1.length : Int) then (spec_SameLinks.l0 k l0 l1 0) else (some false)
set_option maxHeartbeats 8000000 in
set_option maxRecDepth 100000 in
theorem spec_SameLinks.calls (k : Nat) (A0 : Option Addr) (c0 : Nat) (l0 : List (S166)) (A1 : Option Addr) (c1 : Nat) (l1 : List (S166)) (r : Bool) (w : World) (hr0 : Kd.C k166 w A0 l0.length l0) (hc0 : l0.length ≤ c0) (hr1 : Kd.C k166 w A1 l1.length l1) (hc1 : l1.length ≤ c1) (h : spec_SameLinks.f k l0 l1 = some r) :
    Calls Try.prog 215 #[.slice A0 l0.length c0, .slice A1 l1.length c1] w fun e w' => e = .returned (.bool r) ∧ Drawn0 w w' := by
  have hu166 := Try.underlying166
  have HR0 := aM_ hr0
  have HC0 := aM_ hc0
  clear hr0 hc0
  have HR1 := aM_ hr1
  have HC1 := aM_ hc1
  clear hr1 hc1
  have H : (if (l0.length : Int) = (l1.length : Int) then (spec_SameLinks.l0 k l0 l1 0) else (some false)) = some r := h
  clear h
  by_cases c3 : (l0.length : Int) = (l1.length : Int)
  · rw [if_pos c3] at H
    have c3b0 : ((l0.length : Int) == (l1.length : Int)) = true := beq_iff_eq.mpr c3
    have c3b1 : ((l0.length : Int) != (l1.length : Int)) = false := bne_eq_false_iff_eq.mpr c3
    have c3b2 : (l0.length == l1.length) = true := by first | simpa using c3 | (simp at c3 ⊢; omega)
    clear c3
    have H' := aM_ H
    clear H
    go_enter Try.func215, Try.ntmps215
    go_wp2
    repeat (go_quiet (fail); try go_wp2)
    go_loopg [5] k (fun kq v5 w' => ∃ (x5_1 : Int), v5 = .int .i64 x5_1 ∧ Aside0 (spec_SameLinks.l0 kq l0 l1 x5_1 = some r) ∧ Aside0 (kq ≤ k) ∧ Drawn0 w w')
    case atStart => exact ⟨(0), (by first | rfl | (simp; done) | (simp [*]; done)), H', ⟨Nat.le_refl _⟩, by repeat (first | exact Drawn0.refl _ | apply Drawn0.step)⟩
    case round =>
      clear H'
      try clear c3b0
      try clear c3b1
      try clear c3b2
      obtain ⟨x5_1, rfl, HA, HK1, ⟨m1, rfl⟩⟩ := hrel
      cases gk with
      | zero => exact absurd HA.out (by simp [spec_SameLinks.l0])
      | succ k1 =>
        have H := HA.out
        clear HA
        simp only [spec_SameLinks.l0] at H
        by_cases c4 : x5_1 < (l0.length : Int)
        · rw [if_pos c4] at H
          have c4b0 : decide (x5_1 < (l0.length : Int)) = true := decide_eq_true c4
          clear c4
          by_cases c5 : 0 ≤ x5_1
          · rw [if_pos c5] at H
            have c5b0 : decide (0 ≤ x5_1) = true := decide_eq_true c5
            clear c5
            by_cases c6 : x5_1 < (l1.length : Int)
            · rw [if_pos c6] at H
              have c6b0 : decide (x5_1 < (l1.length : Int)) = true := decide_eq_true c6
              clear c6
              by_cases c7 : (!(((rd_T166 l0 x5_1).f0) == ((rd_T166 l1 x5_1).f0)) || (!(((rd_T166 l0 x5_1).f1) == ((rd_T166 l1 x5_1).f1)))) = true
              · rw [if_pos c7] at H
                have c7b0 : (!(((rd_T166 l0 x5_1).f0) == ((rd_T166 l1 x5_1).f0)) || (!(((rd_T166 l0 x5_1).f1) == ((rd_T166 l1 x5_1).f1)))) = true := c7
                clear c7
                obtain rfl := Option.some.inj H
                have p182 : 0 ≤ (x5_1 : Int) := dT_
                have q182 : x5_1 < (l0.length : Int) := dT_
                obtain ⟨ad182, e182, hx182_0, hx182_1⟩ := at_T166 HR0.out x5_1 p182 q182
                cases e182
                replace p182 := eq_true p182
                replace q182 := eq_true q182
                have p183 : 0 ≤ (x5_1 : Int) := dT_
                have q183 : x5_1 < (l1.length : Int) := dT_
                obtain ⟨ad183, e183, hx183_0, hx183_1⟩ := at_T166 HR1.out x5_1 p183 q183
                cases e183
                replace p183 := eq_true p183
                replace q183 := eq_true q183
                go_wp2
                repeat (go_quiet (fail); try go_wp2)
                go_ret
                exact ⟨by first | rfl | (simp; done) | (simp [*]; done), by repeat (first | exact Drawn0.refl _ | apply Drawn0.step)⟩
              · rw [if_neg c7] at H
                have c7b0 : (!(((rd_T166 l0 x5_1).f0) == ((rd_T166 l1 x5_1).f0)) || (!(((rd_T166 l0 x5_1).f1) == ((rd_T166 l1 x5_1).f1)))) = false := by simpa using c7
                clear c7
                have H' := aM_ H
                clear H
                have p182 : 0 ≤ (x5_1 : Int) := dT_
                have q182 : x5_1 < (l0.length : Int) := dT_
                obtain ⟨ad182, e182, hx182_0, hx182_1⟩ := at_T166 HR0.out x5_1 p182 q182
                cases e182
                replace p182 := eq_true p182
                replace q182 := eq_true q182
                have p183 : 0 ≤ (x5_1 : Int) := dT_
                have q183 : x5_1 < (l1.length : Int) := dT_
                obtain ⟨ad183, e183, hx183_0, hx183_1⟩ := at_T166 HR1.out x5_1 p183 q183
                cases e183
                replace p183 := eq_true p183
                replace q183 := eq_true q183
                go_wp2
                repeat (go_quiet (fail); try go_wp2)
                go_roundg k1
                case measure => have := HK1.out; omega
                case rel => exact ⟨(wrap64 (x5_1 + 1)), (by first | rfl | (simp; done) | (simp [*]; done)), H', ⟨by have := HK1.out; omega⟩, by repeat (first | exact Drawn0.refl _ | apply Drawn0.step)⟩
            · rw [if_neg c6] at H
              exact absurd H (by simp)
          · rw [if_neg c5] at H
            exact absurd H (by simp)
        · rw [if_neg c4] at H
          have c4b0 : decide (x5_1 < (l0.length : Int)) = false := decide_eq_false c4
          clear c4
          obtain rfl := Option.some.inj H
          go_wp2
          repeat (go_quiet (fail); try go_wp2)
          go_ret
          exact ⟨by first | rfl | (simp; done) | (simp [*]; done), by repeat (first | exact Drawn0.refl _ | apply Drawn0.step)⟩
  · rw [if_neg c3] at H
    have c3b0 : ((l0.length : Int) == (l1.length : Int)) = false := beq_eq_false_iff_ne.mpr c3
    have c3b1 : ((l0.length : Int) != (l1.length : Int)) = true := bne_iff_ne.mpr c3
    have c3b2 : (l0.length == l1.length) = false := by first | simpa using c3 | (simp at c3 ⊢; omega)
    obtain rfl := Option.some.inj H
    go_enter Try.func215, Try.ntmps215
    go_wp2
    repeat (go_quiet (fail); try go_wp2)
    go_ret
    exact ⟨by first | rfl | (simp; done) | (simp [*]; done), by repeat (first | exact Drawn0.refl _ | apply Drawn0.step)⟩

/-! ### spec_ChangesOf: function 207 -/
def spec_ChangesOf.l0 : Nat → List (S271) → List Int → Int → Int → Option (List Int)
  | 0, _, _, _, _ => none
  | k + 1, x0, x7, x9, x10 => if x10 < x9 then ((spec_LinksAt.f k x0 (wrap64 (x10 - 1))).bind fun t190 => ((spec_LinksAt.f k x0 x10).bind fun t193 => ((spec_SameLinks.f k t190 t193).bind fun t196 => (if t196 = true then (spec_ChangesOf.l0 k x0 x7 x9 (wrap64 (x10 + 1))) else (if x7.length < 17592186044416 then (spec_ChangesOf.l0 k x0 (x7 ++ [x10]) x9 (wrap64 (x10 + 1))) else (none)))))) else (some x7)
def spec_ChangesOf.f (k : Nat) (l0 : List (S271)) (a1 : Int) (a2 : Int) : Option (List Int) := (spec_Max.f 0 a1).bind fun t187 => ((spec_Min.f 1000 t187).bind fun t188 => ((spec_Min.f 1000 a2).bind fun t189 => (spec_ChangesOf.l0 k l0 (([] : List Int)) t189 (wrap64 (t188 + 1)))))
set_option maxHeartbeats 8000000 in
set_option maxRecDepth 100000 in
theorem spec_ChangesOf.calls (k : Nat) (A0 : Option Addr) (c0 : Nat) (l0 : List (S271)) (a1 : Int) (a2 : Int) (r : List Int) (w : World) (hr0 : Kd.C k271 w A0 l0.length l0) (hc0 : l0.length ≤ c0) (h : spec_ChangesOf.f k l0 a1 a2 = some r) :
  Calls Try.prog 207 #[.slice A0 l0.length c0, .int .i64 a1, .int .i64 a2] w fun e w' => ∃ v0_ : Value, e = .returned (v0_) ∧ Kd.R (Kd.int .i64) 3 w' w.heap.size (fun _ => True) v0_ r ∧ Below w.heap.size w w' := by
 have HR0 := aM_ hr0; have HC0 := aM_ hc0; clear hr0 hc0; have HB := aM_ (Below.refl w.heap.size w)
 have H : ((spec_Max.f 0 a1).bind fun t187 => ((spec_Min.f 1000 t187).bind fun t188 => ((spec_Min.f 1000 a2).bind fun t189 => (spec_ChangesOf.l0 k l0 (([] : List Int)) t189 (wrap64 (t188 + 1)))))) = some r := h
 clear h
 obtain ⟨y184, hy184⟩ : ∃ y_ : List Int, y_ = (([] : List Int)) := ⟨_, rfl⟩
 replace H : ((spec_Max.f 0 a1).bind fun t187 => ((spec_Min.f 1000 t187).bind fun t188 => ((spec_Min.f 1000 a2).bind fun t189 => (spec_ChangesOf.l0 k l0 y184 t189 (wrap64 (t188 + 1)))))) = some r := by first | (rw [hy184]; with_reducible exact H) | (have H2_ := (Option.bind_some _ _).symm.trans H; rw [hy184]; with_reducible exact H2_) | (have H2_ := (Option.bind_some _ _).symm.trans H; with_reducible exact H2_) | with_reducible exact H | (rw [hy184]; exact H) | exact H
 have Ny184 := aM_ hy184; clear hy184
 replace H := Option.bind_eq_some_iff.mp H
 obtain ⟨t187, A40, H⟩ := H
 (try dsimp only at H)
 have A4 := aM_ A40; clear A40
 replace H := Option.bind_eq_some_iff.mp H
 obtain ⟨t188, A50, H⟩ := H
 (try dsimp only at H)
 have A5 := aM_ A50; clear A50
 replace H := Option.bind_eq_some_iff.mp H
 obtain ⟨t189, A60, H⟩ := H
 (try dsimp only at H)
 have A6 := aM_ A60; clear A60
 have H' := aM_ H
 clear H
 go_enter Try.func207, Try.ntmps207
 go_wp2_with (first | ((with_reducible refine gate_dst (N := 11) rfl ?_); refine Kd.R_lit (Kd.int .i64) _ 3 ?hg (N := 11) ?hd (xs := ([] : List Int)) (inner := []) (ok := fun _ => True) (okp := fun _ => True) ?hr ?hp (fun _ hk => hk) trivial (Below.refl _ _) (Nat.le_refl _) (by simp) ?_; (case hd => rfl); (case hg => rfl); (case hr => first | (go_simp; done) | (go_simp; rfl)); (case hp => exact (Reps.none _ _)); intro v185 w7 ho8 hb hg_ hnew_; clear hg_ hnew_; (first | rw [← Ny184.out] at ho8 | (simp only [Int.reduceToNat] at ho8; rw [← Ny184.out] at ho8)); have n0_ := aM_ (Kd.R_lower ho8 (sZ_ (bw_))); have n1_ := aM_ (wS_ (bw_) hb); clear HB; have HO186 := n0_; have HB := n1_; clear n0_ n1_ hb ho8) | ((with_reducible refine gate_callee (f := 114) rfl ?_); refine goesL_ (some 13) rfl rfl Try.func114 (by kernel_rfl) rfl #[.int .i64 0, .int .i64 a1] rfl (by (try simp only [List.map_toArray, List.map_cons, List.map_nil]); first | done | rfl | (simp only [List.length_drop, List.length_take]; rfl)) ?_; (with_reducible refine (spec_Max.calls 0 a1 t187 _ A4.out).mono ?_); rintro e w' ⟨rfl, ⟨nd, rfl⟩⟩; refine ⟨_, rfl, ?_⟩) | ((with_reducible refine gate_callee (f := 188) rfl ?_); refine goesL_ (some 14) rfl rfl Try.func188 (by kernel_rfl) rfl #[.int .i64 1000, .int .i64 t187] rfl (by (try simp only [List.map_toArray, List.map_cons, List.map_nil]); first | done | rfl | (simp only [List.length_drop, List.length_take]; rfl)) ?_; (with_reducible refine (spec_Min.calls 1000 t187 t188 _ A5.out).mono ?_); rintro e w' ⟨rfl, ⟨nd, rfl⟩⟩; refine ⟨_, rfl, ?_⟩) | ((with_reducible refine gate_callee (f := 188) rfl ?_); refine goesL_ (some 16) rfl rfl Try.func188 (by kernel_rfl) rfl #[.int .i64 1000, .int .i64 a2] rfl (by (try simp only [List.map_toArray, List.map_cons, List.map_nil]); first | done | rfl | (simp only [List.length_drop, List.length_take]; rfl)) ?_; (with_reducible refine (spec_Min.calls 1000 a2 t189 _ A6.out).mono ?_); rintro e w' ⟨rfl, ⟨nd, rfl⟩⟩; refine ⟨_, rfl, ?_⟩))
 go_loopg [7, 10] k (fun kq v7 v10 w' => ∃ (x7_1 : List Int) (x10_1 : Int), v10 = .int .i64 x10_1 ∧ Aside0 (spec_ChangesOf.l0 kq l0 x7_1 t189 x10_1 = some r) ∧ Aside0 (kq ≤ k) ∧ Aside0 (Kd.R (Kd.int .i64) 3 w' w.heap.size (fun _ => True) v7 x7_1) ∧ Aside0 (Below w.heap.size w w'))
 case atStart => exact ⟨(y184), (wrap64 (t188 + 1)), (by first | rfl | (simp; done) | (simp [*]; done)), H', ⟨Nat.le_refl _⟩, ⟨by (with_reducible repeat (first | apply rA_ | apply rN_ | apply rD_)); exact HO186.out⟩, ⟨bw_⟩⟩
 case round =>
  clear H'
  obtain ⟨x7_1, x10_1, rfl, HA, HK1, HO_7, HB⟩ := hrel
  cases gk with
  | zero => exact absurd HA.out (by simp [spec_ChangesOf.l0])
  | succ k1 =>
   have H := HA.out; clear HA
   simp only [spec_ChangesOf.l0] at H
   by_cases c9 : x10_1 < t189
   ·rw [if_pos c9] at H
    have c9b0 : decide (x10_1 < t189) = true := decide_eq_true c9
    clear c9
    replace H := Option.bind_eq_some_iff.mp H
    obtain ⟨t190, A100, H⟩ := H
    (try dsimp only at H)
    have A10 := aM_ A100; clear A100
    replace H := Option.bind_eq_some_iff.mp H
    obtain ⟨t193, A110, H⟩ := H
    (try dsimp only at H)
    have A11 := aM_ A110; clear A110
    replace H := Option.bind_eq_some_iff.mp H
    obtain ⟨t196, A120, H⟩ := H
    (try dsimp only at H)
    have A12 := aM_ A120; clear A120
    by_cases c13 : t196 = true
    ·subst c13
     have H1 : (spec_ChangesOf.l0 k1 l0 x7_1 t189 (wrap64 (x10_1 + 1))) = some r := by rw [if_pos rfl] at H; exact H
     clear H; have H := H1; clear H1
     have H' := aM_ H
     clear H
     go_wp2_with (first | ((with_reducible refine gate_callee (f := 186) rfl ?_); refine goesL_ (some 27) rfl rfl Try.func186 (by kernel_rfl) rfl #[.slice A0 l0.length c0, .int .i64 (wrap64 (x10_1 - 1))] rfl (by (try simp only [List.map_toArray, List.map_cons, List.map_nil]); first | done | rfl | (simp only [List.length_drop, List.length_take]; rfl)) ?_; (with_reducible refine (spec_LinksAt.calls k1 _ _ l0 (wrap64 (x10_1 - 1)) t190 _ ?side1 ?side2 A10.out).mono ?_); (case side1 => repeat (first | exact (Kd.C_below HR0.out HB.out) | (with_reducible refine cA_ ?_ _) | (with_reducible refine cN_ ?_ _) | (with_reducible refine cD_ ?_))); (case side2 => exact HC0.out); rintro e w14 ⟨v191, rfl, ho0, hb⟩; refine ⟨_, rfl, ?_⟩; have n0_ := aM_ (rB_ (rb_ HO_7.out) hb); have n1_ := aM_ (Kd.R_lower ho0 (sZ_ (bw_))); have n2_ := aM_ (wS_ (bw_) hb); clear HO_7 HB; have HO_7 := n0_; have HO192 := n1_; have HB := n2_; clear n0_ n1_ n2_; (try clear hb); (try clear hb2); (try clear hk); (try clear hi); (try clear ho0)) | ((with_reducible refine gate_callee (f := 186) rfl ?_); refine goesL_ (some 30) rfl rfl Try.func186 (by kernel_rfl) rfl #[.slice A0 l0.length c0, .int .i64 x10_1] rfl (by (try simp only [List.map_toArray, List.map_cons, List.map_nil]); first | done | rfl | (simp only [List.length_drop, List.length_take]; rfl)) ?_; (with_reducible refine (spec_LinksAt.calls k1 _ _ l0 x10_1 t193 _ ?side1 ?side2 A11.out).mono ?_); (case side1 => repeat (first | exact (Kd.C_below HR0.out HB.out) | (with_reducible refine cA_ ?_ _) | (with_reducible refine cN_ ?_ _) | (with_reducible refine cD_ ?_))); (case side2 => exact HC0.out); rintro e w15 ⟨v194, rfl, ho0, hb⟩; refine ⟨_, rfl, ?_⟩; have n0_ := aM_ (rB_ (rb_ HO_7.out) hb); have n1_ := aM_ (Kd.R_elder' (rb_ HO192.out) (Kd.R_base ho0) hb); have n2_ := aM_ (Kd.R_lower (Kd.R_new' ho0 (Kd.R_lt (rb_ HO192.out))) (sZ_ (bw_))); have n3_ := aM_ (wS_ (bw_) hb); clear HO_7 HO192 HB; have HO_7 := n0_; have HO192 := n1_; have HO195 := n2_; have HB := n3_; clear n0_ n1_ n2_ n3_; (try clear hb); (try clear hb2); (try clear hk); (try clear hi); (try clear ho0); obtain ⟨Ao16, co16, eo16⟩ := Kd.R_slice HO192.out; subst eo16; obtain ⟨Ao17, co17, eo17⟩ := Kd.R_slice HO195.out; subst eo17) | ((with_reducible refine gate_callee (f := 215) rfl ?_); refine goesL_ (some 31) rfl rfl Try.func215 (by kernel_rfl) rfl #[.slice Ao16 t190.length co16, .slice Ao17 t193.length co17] rfl (by (try simp only [List.map_toArray, List.map_cons, List.map_nil]); first | done | rfl | (simp only [List.length_drop, List.length_take]; rfl)) ?_; (with_reducible refine (spec_SameLinks.calls k1 _ _ t190 _ _ t193 true _ ?side1 ?side2 ?side3 ?side4 A12.out).mono ?_); (case side1 => repeat (first | exact (Kd.R_reads' HO192.out).2.2 | (with_reducible refine cA_ ?_ _) | (with_reducible refine cN_ ?_ _) | (with_reducible refine cD_ ?_))); (case side2 => exact (Kd.R_reads' HO192.out).2.1); (case side3 => repeat (first | exact (Kd.R_reads' HO195.out).2.2 | (with_reducible refine cA_ ?_ _) | (with_reducible refine cN_ ?_ _) | (with_reducible refine cD_ ?_))); (case side4 => exact (Kd.R_reads' HO195.out).2.1); rintro e w' ⟨rfl, ⟨nd, rfl⟩⟩; refine ⟨_, rfl, ?_⟩))
     go_roundg k1
     case measure => have := HK1.out; omega
     case rel => exact ⟨(x7_1), (wrap64 (x10_1 + 1)), (by first | rfl | (simp; done) | (simp [*]; done)), H', ⟨by have := HK1.out; omega⟩, ⟨by (with_reducible repeat (first | apply rA_ | apply rN_ | apply rD_)); exact HO_7.out⟩, ⟨bw_⟩⟩
    ·replace c13 := Bool.eq_false_iff.mpr c13
     subst c13
     have H1 : (if x7_1.length < 17592186044416 then (spec_ChangesOf.l0 k1 l0 (x7_1 ++ [x10_1]) t189 (wrap64 (x10_1 + 1))) else (none)) = some r := by rw [if_neg (show ¬ (false = true) by decide)] at H; exact H
     clear H; have H := H1; clear H1
     by_cases c18 : x7_1.length < 17592186044416
     ·rw [if_pos c18] at H
      have LMc18 := aM_ c18; clear c18
      obtain ⟨y197, hy197⟩ : ∃ y_ : List Int, y_ = (x7_1 ++ [x10_1]) := ⟨_, rfl⟩
      replace H : (spec_ChangesOf.l0 k1 l0 y197 t189 (wrap64 (x10_1 + 1))) = some r := by first | (rw [hy197]; with_reducible exact H) | (have H2_ := (Option.bind_some _ _).symm.trans H; rw [hy197]; with_reducible exact H2_) | (have H2_ := (Option.bind_some _ _).symm.trans H; with_reducible exact H2_) | with_reducible exact H | (rw [hy197]; exact H) | exact H
      have Ny197 := aM_ hy197; clear hy197
      have H' := aM_ H
      clear H
      go_wp2_with (first | ((with_reducible refine gate_callee (f := 186) rfl ?_); refine goesL_ (some 27) rfl rfl Try.func186 (by kernel_rfl) rfl #[.slice A0 l0.length c0, .int .i64 (wrap64 (x10_1 - 1))] rfl (by (try simp only [List.map_toArray, List.map_cons, List.map_nil]); first | done | rfl | (simp only [List.length_drop, List.length_take]; rfl)) ?_; (with_reducible refine (spec_LinksAt.calls k1 _ _ l0 (wrap64 (x10_1 - 1)) t190 _ ?side1 ?side2 A10.out).mono ?_); (case side1 => repeat (first | exact (Kd.C_below HR0.out HB.out) | (with_reducible refine cA_ ?_ _) | (with_reducible refine cN_ ?_ _) | (with_reducible refine cD_ ?_))); (case side2 => exact HC0.out); rintro e w19 ⟨v191, rfl, ho0, hb⟩; refine ⟨_, rfl, ?_⟩; have n0_ := aM_ (rB_ (rb_ HO_7.out) hb); have n1_ := aM_ (Kd.R_lower ho0 (sZ_ (bw_))); have n2_ := aM_ (wS_ (bw_) hb); clear HO_7 HB; have HO_7 := n0_; have HO192 := n1_; have HB := n2_; clear n0_ n1_ n2_; (try clear hb); (try clear hb2); (try clear hk); (try clear hi); (try clear ho0)) | ((with_reducible refine gate_callee (f := 186) rfl ?_); refine goesL_ (some 30) rfl rfl Try.func186 (by kernel_rfl) rfl #[.slice A0 l0.length c0, .int .i64 x10_1] rfl (by (try simp only [List.map_toArray, List.map_cons, List.map_nil]); first | done | rfl | (simp only [List.length_drop, List.length_take]; rfl)) ?_; (with_reducible refine (spec_LinksAt.calls k1 _ _ l0 x10_1 t193 _ ?side1 ?side2 A11.out).mono ?_); (case side1 => repeat (first | exact (Kd.C_below HR0.out HB.out) | (with_reducible refine cA_ ?_ _) | (with_reducible refine cN_ ?_ _) | (with_reducible refine cD_ ?_))); (case side2 => exact HC0.out); rintro e w20 ⟨v194, rfl, ho0, hb⟩; refine ⟨_, rfl, ?_⟩; have n0_ := aM_ (rB_ (rb_ HO_7.out) hb); have n1_ := aM_ (Kd.R_elder' (rb_ HO192.out) (Kd.R_base ho0) hb); have n2_ := aM_ (Kd.R_lower (Kd.R_new' ho0 (Kd.R_lt (rb_ HO192.out))) (sZ_ (bw_))); have n3_ := aM_ (wS_ (bw_) hb); clear HO_7 HO192 HB; have HO_7 := n0_; have HO192 := n1_; have HO195 := n2_; have HB := n3_; clear n0_ n1_ n2_ n3_; (try clear hb); (try clear hb2); (try clear hk); (try clear hi); (try clear ho0); obtain ⟨Ao21, co21, eo21⟩ := Kd.R_slice HO192.out; subst eo21; obtain ⟨Ao22, co22, eo22⟩ := Kd.R_slice HO195.out; subst eo22) | ((with_reducible refine gate_callee (f := 215) rfl ?_); refine goesL_ (some 31) rfl rfl Try.func215 (by kernel_rfl) rfl #[.slice Ao21 t190.length co21, .slice Ao22 t193.length co22] rfl (by (try simp only [List.map_toArray, List.map_cons, List.map_nil]); first | done | rfl | (simp only [List.length_drop, List.length_take]; rfl)) ?_; (with_reducible refine (spec_SameLinks.calls k1 _ _ t190 _ _ t193 false _ ?side1 ?side2 ?side3 ?side4 A12.out).mono ?_); (case side1 => repeat (first | exact (Kd.R_reads' HO192.out).2.2 | (with_reducible refine cA_ ?_ _) | (with_reducible refine cN_ ?_ _) | (with_reducible refine cD_ ?_))); (case side2 => exact (Kd.R_reads' HO192.out).2.1); (case side3 => repeat (first | exact (Kd.R_reads' HO195.out).2.2 | (with_reducible refine cA_ ?_ _) | (with_reducible refine cN_ ?_ _) | (with_reducible refine cD_ ?_))); (case side4 => exact (Kd.R_reads' HO195.out).2.1); rintro e w' ⟨rfl, ⟨nd, rfl⟩⟩; refine ⟨_, rfl, ?_⟩) | ((with_reducible refine gate_builtin (b := .append) (xs := #[.tmp 33, .tmp 35]) rfl ?_); at_builtin; refine Kd.R_append (Kd.int .i64) (w0 := w) w.heap.size rfl (.tmp 33) (.tmp 35) 44 3 (.int .i64 0) 8 rfl Try.underlying44 info3 rfl (by decide) (by omega) u7 x7_1 x10_1 [.int .i64 x10_1] (fun _ => True) (fun _ => False) rfl rfl ?aP (fun _ hk => hk.elim) ?aF ?aO ?aB ?aS ?aL ?_; (case aP => exact rfl); (case aB => exact (bw_)); (case aF => exact (fun _ _ => trivial)); (case aO => exact (rb_ HO_7.out)); (case aS => exact (sZ_ (bw_))); (case aL => have := LMc18.out; omega); intro v198 w23 ho hb hg hat; rw [← Ny197.out] at ho; have n0_ := aM_ (Kd.R_over' (rb_ HO192.out) (Kd.R_typed (rb_ HO_7.out)) (by decide) hg); have n1_ := aM_ (Kd.R_over' (rb_ HO195.out) (Kd.R_typed (rb_ HO_7.out)) (by decide) hg); have n2_ := aM_ (hb); have n3_ := aM_ (ho); clear HO192 HO195 HB HO_7; have HO192 := n0_; have HO195 := n1_; have HB := n2_; have HO199 := n3_; clear n0_ n1_ n2_ n3_ ho hb hg hat))
      go_roundg k1
      case measure => have := HK1.out; omega
      case rel => exact ⟨(y197), (wrap64 (x10_1 + 1)), (by first | rfl | (simp; done) | (simp [*]; done)), H', ⟨by have := HK1.out; omega⟩, ⟨by (with_reducible repeat (first | apply rA_ | apply rN_ | apply rD_)); exact HO199.out⟩, ⟨bw_⟩⟩
     ·rw [if_neg c18] at H
      exact absurd H (by simp)
   ·rw [if_neg c9] at H
    have c9b0 : decide (x10_1 < t189) = false := decide_eq_false c9
    clear c9
    obtain rfl := Option.some.inj H
    go_wp2
    go_ret
    exact ⟨_, by first | rfl | (simp [errW_none, errW_some] <;> rfl) | (simp [*, errW_none, errW_some] <;> rfl), by (with_reducible repeat (first | apply rA_ | apply rN_ | apply rD_)); exact HO_7.out, bw_⟩

/-! ### spec_PiecesOf: function 185 -/
def spec_PiecesOf.l0 : Nat → List (S109) → Int → List Int → Int → Option ((List (S109)))
  | 0, _, _, _, _ => none
  | k + 1, x7, x8, x9, x10 => if x10 < (x9.length : Int) then (if 0 ≤ x10 then (if x7.length < 8796093022208 then (spec_PiecesOf.l0 k (x7 ++ [(⟨x8, rd x9 x10⟩ : S109)]) (rd x9 x10) x9 (wrap64 (x10 + 1))) else (none)) else (none)) else (some x7)
def spec_PiecesOf.f (k : Nat) (l0 : List (S271)) (a1 : Int) (a2 : Int) : Option ((List (S109))) := (some (([] : List (S109)) : List (S109))).bind fun y200 => ((spec_IsSpan.f a1 a2).bind fun t203 => (if t203 = true then ((spec_ChangesOf.f k l0 a1 a2).bind fun t204 => (if t204.length < 17592186044416 then (spec_PiecesOf.l0 k y200 a1 (t204 ++ [a2]) 0) else (none))) else (some y200)))
set_option maxHeartbeats 8000000 in
set_option maxRecDepth 100000 in
theorem spec_PiecesOf.calls (k : Nat) (A0 : Option Addr) (c0 : Nat) (l0 : List (S271)) (a1 : Int) (a2 : Int) (r : List (S109)) (w : World) (hr0 : Kd.C k271 w A0 l0.length l0) (hc0 : l0.length ≤ c0) (h : spec_PiecesOf.f k l0 a1 a2 = some r) :
  Calls Try.prog 185 #[.slice A0 l0.length c0, .int .i64 a1, .int .i64 a2] w fun e w' => ∃ v0_ : Value, e = .returned (v0_) ∧ Kd.R k109 109 w' w.heap.size (fun _ => True) v0_ r ∧ Below w.heap.size w w' := by
 have hu109 := Try.underlying109; have HR0 := aM_ hr0; have HC0 := aM_ hc0; clear hr0 hc0; have HB := aM_ (Below.refl w.heap.size w)
 have H : ((some (([] : List (S109)) : List (S109))).bind fun y200 => ((spec_IsSpan.f a1 a2).bind fun t203 => (if t203 = true then ((spec_ChangesOf.f k l0 a1 a2).bind fun t204 => (if t204.length < 17592186044416 then (spec_PiecesOf.l0 k y200 a1 (t204 ++ [a2]) 0) else (none))) else (some y200)))) = some r := h
 clear h
 obtain ⟨y200, hy200⟩ : ∃ y_ : List (S109), y_ = (([] : List (S109))) := ⟨_, rfl⟩
 replace H : ((spec_IsSpan.f a1 a2).bind fun t203 => (if t203 = true then ((spec_ChangesOf.f k l0 a1 a2).bind fun t204 => (if t204.length < 17592186044416 then (spec_PiecesOf.l0 k y200 a1 (t204 ++ [a2]) 0) else (none))) else (some y200))) = some r := by first | (rw [hy200]; with_reducible exact H) | (have H2_ := (Option.bind_some _ _).symm.trans H; rw [hy200]; with_reducible exact H2_) | (have H2_ := (Option.bind_some _ _).symm.trans H; with_reducible exact H2_) | with_reducible exact H | (rw [hy200]; exact H) | exact H
 have Ny200 := aM_ hy200; clear hy200
 replace H := Option.bind_eq_some_iff.mp H
 obtain ⟨t203, A40, H⟩ := H
 (try dsimp only at H)
 have A4 := aM_ A40; clear A40
 by_cases c5 : t203 = true
 ·subst c5
  have H1 : ((spec_ChangesOf.f k l0 a1 a2).bind fun t204 => (if t204.length < 17592186044416 then (spec_PiecesOf.l0 k y200 a1 (t204 ++ [a2]) 0) else (none))) = some r := by rw [if_pos rfl] at H; exact H
  clear H; have H := H1; clear H1
  replace H := Option.bind_eq_some_iff.mp H
  obtain ⟨t204, A60, H⟩ := H
  (try dsimp only at H)
  have A6 := aM_ A60; clear A60
  by_cases c7 : t204.length < 17592186044416
  ·rw [if_pos c7] at H
   have LMc7 := aM_ c7; clear c7
   obtain ⟨y207, hy207⟩ : ∃ y_ : List Int, y_ = (t204 ++ [a2]) := ⟨_, rfl⟩
   replace H : (spec_PiecesOf.l0 k y200 a1 y207 0) = some r := by first | (rw [hy207]; with_reducible exact H) | (have H2_ := (Option.bind_some _ _).symm.trans H; rw [hy207]; with_reducible exact H2_) | (have H2_ := (Option.bind_some _ _).symm.trans H; with_reducible exact H2_) | with_reducible exact H | (rw [hy207]; exact H) | exact H
   have Ny207 := aM_ hy207; clear hy207
   have H' := aM_ H
   clear H
   go_enter Try.func185, Try.ntmps185
   go_wp2_with (first | ((with_reducible refine gate_dst (N := 11) rfl ?_); refine Kd.R_lit k109 _ 109 ?hg (N := 11) ?hd (xs := ([] : List (S109))) (inner := []) (ok := fun _ => True) (okp := fun _ => True) ?hr ?hp (fun _ hk => hk) trivial (Below.refl _ _) (Nat.le_refl _) (by simp) ?_; (case hd => rfl); (case hg => rfl); (case hr => first | (go_simp; done) | (go_simp; rfl)); (case hp => exact (Reps.none _ _)); intro v201 w8 ho9 hb hg_ hnew_; clear hg_ hnew_; (first | rw [← Ny200.out] at ho9 | (simp only [Int.reduceToNat] at ho9; rw [← Ny200.out] at ho9)); have n0_ := aM_ (Kd.R_lower ho9 (sZ_ (bw_))); have n1_ := aM_ (wS_ (bw_) hb); clear HB; have HO202 := n0_; have HB := n1_; clear n0_ n1_ hb ho9) | ((with_reducible refine gate_callee (f := 172) rfl ?_); refine goesL_ (some 15) rfl rfl Try.func172 (by kernel_rfl) rfl #[.agg #[.int .i64 a1, .int .i64 a2]] rfl (by (try simp only [List.map_toArray, List.map_cons, List.map_nil]); first | done | rfl | (simp only [List.length_drop, List.length_take]; rfl)) ?_; (with_reducible refine (spec_IsSpan.calls a1 a2 true _ A4.out).mono ?_); rintro e w10 ⟨rfl, hb⟩; refine ⟨_, rfl, ?_⟩; have n0_ := aM_ (rB_ (rb_ HO202.out) hb); have n1_ := aM_ (wS_ (bw_) hb); clear HO202 HB; have HO202 := n0_; have HB := n1_; clear n0_ n1_; (try clear hb); (try clear hb2); (try clear hk); (try clear hi)) | ((with_reducible refine gate_callee (f := 207) rfl ?_); refine goesL_ (some 22) rfl rfl Try.func207 (by kernel_rfl) rfl #[.slice A0 l0.length c0, .int .i64 a1, .int .i64 a2] rfl (by (try simp only [List.map_toArray, List.map_cons, List.map_nil]); first | done | rfl | (simp only [List.length_drop, List.length_take]; rfl)) ?_; (with_reducible refine (spec_ChangesOf.calls k _ _ l0 a1 a2 t204 _ ?side1 ?side2 A6.out).mono ?_); (case side1 => repeat (first | exact (Kd.C_below HR0.out HB.out) | (with_reducible refine cA_ ?_ _) | (with_reducible refine cN_ ?_ _) | (with_reducible refine cD_ ?_))); (case side2 => exact HC0.out); rintro e w11 ⟨v205, rfl, ho0, hb⟩; refine ⟨_, rfl, ?_⟩; have n0_ := aM_ (rB_ (rb_ HO202.out) hb); have n1_ := aM_ (Kd.R_lower ho0 (sZ_ (bw_))); have n2_ := aM_ (wS_ (bw_) hb); clear HO202 HB; have HO202 := n0_; have HO206 := n1_; have HB := n2_; clear n0_ n1_ n2_; (try clear hb); (try clear hb2); (try clear hk); (try clear hi); (try clear ho0)) | ((with_reducible refine gate_builtin (b := .append) (xs := #[.tmp 22, .tmp 24]) rfl ?_); at_builtin; refine Kd.R_append (Kd.int .i64) (w0 := w) w.heap.size rfl (.tmp 22) (.tmp 24) 44 3 (.int .i64 0) 8 rfl Try.underlying44 info3 rfl (by decide) (by omega) v205 t204 a2 [.int .i64 a2] (fun _ => True) (fun _ => False) rfl rfl ?aP (fun _ hk => hk.elim) ?aF ?aO ?aB ?aS ?aL ?_; (case aP => exact rfl); (case aB => exact (bw_)); (case aF => exact (fun _ _ => trivial)); (case aO => exact (rb_ HO206.out)); (case aS => exact (sZ_ (bw_))); (case aL => have := LMc7.out; omega); intro v208 w12 ho hb hg hat; rw [← Ny207.out] at ho; have n0_ := aM_ (Kd.R_over' (rb_ HO202.out) (Kd.R_typed (rb_ HO206.out)) (by decide) hg); have n1_ := aM_ (hb); have n2_ := aM_ (ho); clear HO202 HB HO206; have HO202 := n0_; have HB := n1_; have HO209 := n2_; clear n0_ n1_ n2_ ho hb hg hat))
   go_loopg [7, 8, 10] k (fun kq v7 v8 v10 w' => ∃ (x7_1 : List (S109)) (x8_1 : Int) (x10_1 : Int), v8 = .int .i64 x8_1 ∧ v10 = .int .i64 x10_1 ∧ Aside0 (spec_PiecesOf.l0 kq x7_1 x8_1 y207 x10_1 = some r) ∧ Aside0 (kq ≤ k) ∧ Aside0 (Kd.R k109 109 w' w.heap.size (fun _ => True) v7 x7_1) ∧ Aside0 (Kd.R (Kd.int .i64) 3 w' w.heap.size (fun _ => True) v208 y207) ∧ Aside0 (Below w.heap.size w w'))
   case atStart => exact ⟨(y200), (a1), (0), (by first | rfl | (simp; done) | (simp [*]; done)), (by first | rfl | (simp; done) | (simp [*]; done)), H', ⟨Nat.le_refl _⟩, ⟨by (with_reducible repeat (first | apply rA_ | apply rN_ | apply rD_)); exact HO202.out⟩, ⟨by (with_reducible repeat (first | apply rA_ | apply rN_ | apply rD_)); exact HO209.out⟩, ⟨bw_⟩⟩
   case round =>
    clear H'
    obtain ⟨x7_1, x8_1, x10_1, rfl, rfl, HA, HK1, HO_7, HO_9, HB⟩ := hrel
    cases gk with
    | zero => exact absurd HA.out (by simp [spec_PiecesOf.l0])
    | succ k1 =>
     have H := HA.out; clear HA
     simp only [spec_PiecesOf.l0] at H
     by_cases c13 : x10_1 < (y207.length : Int)
     ·rw [if_pos c13] at H
      have c13b0 : decide (x10_1 < (y207.length : Int)) = true := decide_eq_true c13
      clear c13
      by_cases c14 : 0 ≤ x10_1
      ·rw [if_pos c14] at H
       have c14b0 : decide (0 ≤ x10_1) = true := decide_eq_true c14
       clear c14
       by_cases c15 : x7_1.length < 8796093022208
       ·rw [if_pos c15] at H
        have LMc15 := aM_ c15; clear c15
        obtain ⟨y211, hy211⟩ : ∃ y_ : List (S109), y_ = (x7_1 ++ [(⟨x8_1, rd y207 x10_1⟩ : S109)]) := ⟨_, rfl⟩
        replace H : (spec_PiecesOf.l0 k1 y211 (rd y207 x10_1) y207 (wrap64 (x10_1 + 1))) = some r := by first | (rw [hy211]; with_reducible exact H) | (have H2_ := (Option.bind_some _ _).symm.trans H; rw [hy211]; with_reducible exact H2_) | (have H2_ := (Option.bind_some _ _).symm.trans H; with_reducible exact H2_) | with_reducible exact H | (rw [hy211]; exact H) | exact H
        have Ny211 := aM_ hy211; clear hy211
        have H' := aM_ H
        clear H
        obtain ⟨Ao16, co16, eo16⟩ := Kd.R_slice HO_9.out
        subst eo16
        have p210 : 0 ≤ (x10_1 : Int) := dT_
        have q210 : x10_1 < (y207.length : Int) := dT_
        obtain ⟨ad210, e210, hx210_0⟩ := Kd.at_int (Kd.R_reads' HO_9.out).2.2 x10_1 p210 q210
        cases e210
        replace p210 := eq_true p210; replace q210 := eq_true q210
        go_wp2_with (first | ((with_reducible refine gate_builtin (b := .append) (xs := #[.tmp 32, .tmp 39]) rfl ?_); at_builtin; refine Kd.R_append k109 (w0 := w) w.heap.size rfl (.tmp 32) (.tmp 39) 26 109 (.agg #[(.int .i64 0), (.int .i64 0)]) 16 rfl Try.underlying26 info109 rfl (by decide) (by omega) u7 x7_1 (⟨x8_1, rd y207 x10_1⟩ : S109) [.int .i64 x8_1, .int .i64 (rd y207 x10_1)] (fun _ => True) (fun _ => False) rfl rfl ?aP (fun _ hk => hk.elim) ?aF ?aO ?aB ?aS ?aL ?_; (case aP => exact k109_mkM _ _ _ (⟨x8_1, rd y207 x10_1⟩ : S109)); (case aB => exact (bw_)); (case aF => exact (fun _ _ => trivial)); (case aO => exact (rb_ HO_7.out)); (case aS => exact (sZ_ (bw_))); (case aL => have := LMc15.out; omega); intro v212 w17 ho hb hg hat; rw [← Ny211.out] at ho; have n0_ := aM_ (Kd.R_over' (rb_ HO_9.out) (Kd.R_typed (rb_ HO_7.out)) (by decide) hg); have n1_ := aM_ (hb); have n2_ := aM_ (ho); clear HO_9 HB HO_7; have HO_9 := n0_; have HB := n1_; have HO213 := n2_; clear n0_ n1_ n2_ ho hb hg hat; have p214 : 0 ≤ (x10_1 : Int) := dT_; have q214 : x10_1 < (y207.length : Int) := dT_; obtain ⟨ad214, e214, hx214_0⟩ := Kd.at_int (Kd.R_reads' HO_9.out).2.2 x10_1 p214 q214; obtain rfl : ad210 = ad214 := (by injection e214); replace p214 := eq_true p214; replace q214 := eq_true q214))
        go_roundg k1
        case measure => have := HK1.out; omega
        case rel => exact ⟨(y211), (rd y207 x10_1), (wrap64 (x10_1 + 1)), (by first | rfl | (simp; done) | (simp [*]; done)), (by first | rfl | (simp; done) | (simp [*]; done)), H', ⟨by have := HK1.out; omega⟩, ⟨by (with_reducible repeat (first | apply rA_ | apply rN_ | apply rD_)); exact HO213.out⟩, ⟨by (with_reducible repeat (first | apply rA_ | apply rN_ | apply rD_)); exact HO_9.out⟩, ⟨bw_⟩⟩
       ·rw [if_neg c15] at H
        exact absurd H (by simp)
      ·rw [if_neg c14] at H
       exact absurd H (by simp)
     ·rw [if_neg c13] at H
      have c13b0 : decide (x10_1 < (y207.length : Int)) = false := decide_eq_false c13
      clear c13
      obtain rfl := Option.some.inj H
      obtain ⟨Ao18, co18, eo18⟩ := Kd.R_slice HO_9.out
      subst eo18
      go_wp2
      go_ret
      exact ⟨_, by first | rfl | (simp [errW_none, errW_some] <;> rfl) | (simp [*, errW_none, errW_some] <;> rfl), by (with_reducible repeat (first | apply rA_ | apply rN_ | apply rD_)); exact HO_7.out, bw_⟩
  ·rw [if_neg c7] at H
   exact absurd H (by simp)
 ·replace c5 := Bool.eq_false_iff.mpr c5
  subst c5
  have H1 : (some y200) = some r := by rw [if_neg (show ¬ (false = true) by decide)] at H; exact H
  clear H; have H := H1; clear H1
  obtain rfl := Option.some.inj H
  go_enter Try.func185, Try.ntmps185
  go_wp2_with (first | ((with_reducible refine gate_dst (N := 11) rfl ?_); refine Kd.R_lit k109 _ 109 ?hg (N := 11) ?hd (xs := ([] : List (S109))) (inner := []) (ok := fun _ => True) (okp := fun _ => True) ?hr ?hp (fun _ hk => hk) trivial (Below.refl _ _) (Nat.le_refl _) (by simp) ?_; (case hd => rfl); (case hg => rfl); (case hr => first | (go_simp; done) | (go_simp; rfl)); (case hp => exact (Reps.none _ _)); intro v201 w19 ho20 hb hg_ hnew_; clear hg_ hnew_; (first | rw [← Ny200.out] at ho20 | (simp only [Int.reduceToNat] at ho20; rw [← Ny200.out] at ho20)); have n0_ := aM_ (Kd.R_lower ho20 (sZ_ (bw_))); have n1_ := aM_ (wS_ (bw_) hb); clear HB; have HO202 := n0_; have HB := n1_; clear n0_ n1_ hb ho20) | ((with_reducible refine gate_callee (f := 172) rfl ?_); refine goesL_ (some 15) rfl rfl Try.func172 (by kernel_rfl) rfl #[.agg #[.int .i64 a1, .int .i64 a2]] rfl (by (try simp only [List.map_toArray, List.map_cons, List.map_nil]); first | done | rfl | (simp only [List.length_drop, List.length_take]; rfl)) ?_; (with_reducible refine (spec_IsSpan.calls a1 a2 false _ A4.out).mono ?_); rintro e w21 ⟨rfl, hb⟩; refine ⟨_, rfl, ?_⟩; have n0_ := aM_ (rB_ (rb_ HO202.out) hb); have n1_ := aM_ (wS_ (bw_) hb); clear HO202 HB; have HO202 := n0_; have HB := n1_; clear n0_ n1_; (try clear hb); (try clear hb2); (try clear hk); (try clear hi)))
  go_ret
  exact ⟨_, by first | rfl | (simp [errW_none, errW_some] <;> rfl) | (simp [*, errW_none, errW_some] <;> rfl), by (with_reducible repeat (first | apply rA_ | apply rN_ | apply rD_)); exact HO202.out, bw_⟩

end Go.Proofs.Ytlogjmgghnifoaa.PFnHandovers
