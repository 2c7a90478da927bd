/- The functions that the law reaches, as plain Lean functions, each with the proof that the Go code comes to its answers; conditions: those that each theorem names. (printed by a program of this session) -/
import Derived.Test.YtdodogkgmpaioaaPFnReachx0
import Derived.Test.YtdodogkgmpaioaaPFnReachx1
import Derived.Test.YtdodogkgmpaioaaPFnReachx4
import Derived.Test.YtdodogkgmpaioaaPFnReachx8
import Derived.Test.YtdodogkgmpaioaaPFnReachx9
namespace Go.Proofs.Ytdodogkgmpaioaa.PFnReach
open Go.RowKit Go.Proofs.YtdodogkgmpaioaaW.PrintWords Go.Proofs.YtdodogkgmpaioaaW.PrintLast Go.Proofs.YtdodogkgmpaioaaW.PrintMore
attribute [local go_sem] max2_int min2_int max_two min_two max_three min_three max_four min_four   -- for this text's walks alone
set_option linter.unusedVariables false
set_option linter.unusedSimpArgs false

attribute [local go_sem high] eqA123
/-! ### spec_Min: function 117 -/
def spec_Min.f (a0 : Int) (a1 : Int) : Option (Int) := if a1 < a0 then (some a1) else (some a0)
set_option maxHeartbeats 8000000 in
set_option maxRecDepth 100000 in
theorem spec_Min.calls (a0 : Int) (a1 : Int) (r : Int) (w : World) (h : spec_Min.f a0 a1 = some r) :
    Calls Try.prog 117 #[.int .i64 a0, .int .i64 a1] w fun e w' => e = .returned (.int .i64 r) ∧ Drawn0 w w' := by
  have H : (if a1 < a0 then (some a1) else (some a0)) = some r := h
  clear h
  by_cases c3 : a1 < a0
  · rw [if_pos c3] at H
    have c3b0 : decide (a1 < a0) = true := decide_eq_true c3
    clear c3
    obtain rfl := Option.some.inj H
    go_enter Try.func117, Try.ntmps117
    go_wp2
    go_ret
    exact ⟨by first | rfl | (simp; done) | (simp [*]; done), by repeat (first | exact Drawn0.refl _ | apply Drawn0.step)⟩
  · rw [if_neg c3] at H
    have c3b0 : decide (a1 < a0) = false := decide_eq_false c3
    clear c3
    obtain rfl := Option.some.inj H
    go_enter Try.func117, Try.ntmps117
    go_wp2
    go_ret
    exact ⟨by first | rfl | (simp; done) | (simp [*]; done), by repeat (first | exact Drawn0.refl _ | apply Drawn0.step)⟩

/-! ### spec_SameLinks: function 134 -/
def spec_SameLinks.l0 : Nat → List (S123) → List (S123) → Int → Option (Bool)
  | 0, _, _, _ => none
  | k + 1, x0, x1, x5 => if x5 < (x0.length : Int) then (if 0 ≤ x5 then (if x5 < (x1.length : Int) then (if (!(((rd_T123 x0 x5).f0) == ((rd_T123 x1 x5).f0)) || (!(((rd_T123 x0 x5).f1) == ((rd_T123 x1 x5).f1)))) = true then (some false) else (spec_SameLinks.l0 k x0 x1 (wrap64 (x5 + 1)))) else (none)) else (none)) else (some true)
def spec_SameLinks.f (k : Nat) (l0 : List (S123)) (l1 : List (S123)) : Option (Bool) := if (l0.length : Int) = (l1.length : Int) then (spec_SameLinks.l0 k l0 l1 0) else (some false)
set_option maxHeartbeats 8000000 in
set_option maxRecDepth 100000 in
theorem spec_SameLinks.calls (k : Nat) (A0 : Option Addr) (c0 : Nat) (l0 : List (S123)) (A1 : Option Addr) (c1 : Nat) (l1 : List (S123)) (r : Bool) (w : World) (hr0 : Kd.C k123 w A0 l0.length l0) (hc0 : l0.length ≤ c0) (hr1 : Kd.C k123 w A1 l1.length l1) (hc1 : l1.length ≤ c1) (h : spec_SameLinks.f k l0 l1 = some r) :
    Calls Try.prog 134 #[.slice A0 l0.length c0, .slice A1 l1.length c1] w fun e w' => e = .returned (.bool r) ∧ Drawn0 w w' := by
  have hu123 := Try.underlying123
  have HR0 := aM_ hr0
  have HC0 := aM_ hc0
  clear hr0 hc0
  have HR1 := aM_ hr1
  have HC1 := aM_ hc1
  clear hr1 hc1
  have H : (if (l0.length : Int) = (l1.length : Int) then (spec_SameLinks.l0 k l0 l1 0) else (some false)) = some r := h
  clear h
  by_cases c3 : (l0.length : Int) = (l1.length : Int)
  · rw [if_pos c3] at H
    have c3b0 : ((l0.length : Int) == (l1.length : Int)) = true := beq_iff_eq.mpr c3
    have c3b1 : ((l0.length : Int) != (l1.length : Int)) = false := bne_eq_false_iff_eq.mpr c3
    have c3b2 : (l0.length == l1.length) = true := by first | simpa using c3 | (simp at c3 ⊢; omega)
    clear c3
    have H' := aM_ H
    clear H
    go_enter Try.func134, Try.ntmps134
    go_wp2
    repeat (go_quiet (fail); try go_wp2)
    go_loopg [5] k (fun kq v5 w' => ∃ (x5_1 : Int), v5 = .int .i64 x5_1 ∧ Aside0 (spec_SameLinks.l0 kq l0 l1 x5_1 = some r) ∧ Aside0 (kq ≤ k) ∧ Drawn0 w w')
    case atStart => exact ⟨(0), (by first | rfl | (simp; done) | (simp [*]; done)), H', ⟨Nat.le_refl _⟩, by repeat (first | exact Drawn0.refl _ | apply Drawn0.step)⟩
    case round =>
      clear H'
      try clear c3b0
      try clear c3b1
      try clear c3b2
      obtain ⟨x5_1, rfl, HA, HK1, ⟨m1, rfl⟩⟩ := hrel
      cases gk with
      | zero => exact absurd HA.out (by simp [spec_SameLinks.l0])
      | succ k1 =>
        have H := HA.out
        clear HA
        simp only [spec_SameLinks.l0] at H
        by_cases c4 : x5_1 < (l0.length : Int)
        · rw [if_pos c4] at H
          have c4b0 : decide (x5_1 < (l0.length : Int)) = true := decide_eq_true c4
          clear c4
          by_cases c5 : 0 ≤ x5_1
          · rw [if_pos c5] at H
            have c5b0 : decide (0 ≤ x5_1) = true := decide_eq_true c5
            clear c5
            by_cases c6 : x5_1 < (l1.length : Int)
            · rw [if_pos c6] at H
              have c6b0 : decide (x5_1 < (l1.length : Int)) = true := decide_eq_true c6
              clear c6
              by_cases c7 : (!(((rd_T123 l0 x5_1).f0) == ((rd_T123 l1 x5_1).f0)) || (!(((rd_T123 l0 x5_1).f1) == ((rd_T123 l1 x5_1).f1)))) = true
              · rw [if_pos c7] at H
                have c7b0 : (!(((rd_T123 l0 x5_1).f0) == ((rd_T123 l1 x5_1).f0)) || (!(((rd_T123 l0 x5_1).f1) == ((rd_T123 l1 x5_1).f1)))) = true := c7
                clear c7
                obtain rfl := Option.some.inj H
                have p215 : 0 ≤ (x5_1 : Int) := dT_
                have q215 : x5_1 < (l0.length : Int) := dT_
                obtain ⟨ad215, e215, hx215_0, hx215_1⟩ := at_T123 HR0.out x5_1 p215 q215
                cases e215
                replace p215 := eq_true p215
                replace q215 := eq_true q215
                have p216 : 0 ≤ (x5_1 : Int) := dT_
                have q216 : x5_1 < (l1.length : Int) := dT_
                obtain ⟨ad216, e216, hx216_0, hx216_1⟩ := at_T123 HR1.out x5_1 p216 q216
                cases e216
                replace p216 := eq_true p216
                replace q216 := eq_true q216
                go_wp2
                repeat (go_quiet (fail); try go_wp2)
                go_ret
                exact ⟨by first | rfl | (simp; done) | (simp [*]; done), by repeat (first | exact Drawn0.refl _ | apply Drawn0.step)⟩
              · rw [if_neg c7] at H
                have c7b0 : (!(((rd_T123 l0 x5_1).f0) == ((rd_T123 l1 x5_1).f0)) || (!(((rd_T123 l0 x5_1).f1) == ((rd_T123 l1 x5_1).f1)))) = false := by simpa using c7
                clear c7
                have H' := aM_ H
                clear H
                have p215 : 0 ≤ (x5_1 : Int) := dT_
                have q215 : x5_1 < (l0.length : Int) := dT_
                obtain ⟨ad215, e215, hx215_0, hx215_1⟩ := at_T123 HR0.out x5_1 p215 q215
                cases e215
                replace p215 := eq_true p215
                replace q215 := eq_true q215
                have p216 : 0 ≤ (x5_1 : Int) := dT_
                have q216 : x5_1 < (l1.length : Int) := dT_
                obtain ⟨ad216, e216, hx216_0, hx216_1⟩ := at_T123 HR1.out x5_1 p216 q216
                cases e216
                replace p216 := eq_true p216
                replace q216 := eq_true q216
                go_wp2
                repeat (go_quiet (fail); try go_wp2)
                go_roundg k1
                case measure => have := HK1.out; omega
                case rel => exact ⟨(wrap64 (x5_1 + 1)), (by first | rfl | (simp; done) | (simp [*]; done)), H', ⟨by have := HK1.out; omega⟩, by repeat (first | exact Drawn0.refl _ | apply Drawn0.step)⟩
            · rw [if_neg c6] at H
              exact absurd H (by simp)
          · rw [if_neg c5] at H
            exact absurd H (by simp)
        · rw [if_neg c4] at H
          have c4b0 : decide (x5_1 < (l0.length : Int)) = false := decide_eq_false c4
          clear c4
          obtain rfl := Option.some.inj H
          go_wp2
          repeat (go_quiet (fail); try go_wp2)
          go_ret
          exact ⟨by first | rfl | (simp; done) | (simp [*]; done), by repeat (first | exact Drawn0.refl _ | apply Drawn0.step)⟩
  · rw [if_neg c3] at H
    have c3b0 : ((l0.length : Int) == (l1.length : Int)) = false := beq_eq_false_iff_ne.mpr c3
    have c3b1 : ((l0.length : Int) != (l1.length : Int)) = true := bne_iff_ne.mpr c3
    have c3b2 : (l0.length == l1.length) = false := by first | simpa using c3 | (simp at c3 ⊢; omega)
    obtain rfl := Option.some.inj H
    go_enter Try.func134, Try.ntmps134
    go_wp2
    repeat (go_quiet (fail); try go_wp2)
    go_ret
    exact ⟨by first | rfl | (simp; done) | (simp [*]; done), by repeat (first | exact Drawn0.refl _ | apply Drawn0.step)⟩

/-! ### spec_ChangesOf: function 130 -/
def spec_ChangesOf.l0 : Nat → List (S144) → List Int → Int → Int → Option (List Int)
  | 0, _, _, _, _ => none
  | k + 1, x0, x7, x9, x10 => if x10 < x9 then ((spec_LinksAt.f k x0 (wrap64 (x10 - 1))).bind fun t223 => ((spec_LinksAt.f k x0 x10).bind fun t226 => ((spec_SameLinks.f k t223 t226).bind fun t229 => (if t229 = true then (spec_ChangesOf.l0 k x0 x7 x9 (wrap64 (x10 + 1))) else (if x7.length < 17592186044416 then (spec_ChangesOf.l0 k x0 (x7 ++ [x10]) x9 (wrap64 (x10 + 1))) else (none)))))) else (some x7)
def spec_ChangesOf.f (k : Nat) (l0 : List (S144)) (a1 : Int) (a2 : Int) : Option (List Int) := (spec_Max.f 0 a1).bind fun t220 => ((spec_Min.f 1000 t220).bind fun t221 => ((spec_Min.f 1000 a2).bind fun t222 => (spec_ChangesOf.l0 k l0 (([] : List Int)) t222 (wrap64 (t221 + 1)))))
set_option maxHeartbeats 8000000 in
set_option maxRecDepth 100000 in
theorem spec_ChangesOf.calls (k : Nat) (A0 : Option Addr) (c0 : Nat) (l0 : List (S144)) (a1 : Int) (a2 : Int) (r : List Int) (w : World) (hr0 : Kd.C k144 w A0 l0.length l0) (hc0 : l0.length ≤ c0) (h : spec_ChangesOf.f k l0 a1 a2 = some r) :
  Calls Try.prog 130 #[.slice A0 l0.length c0, .int .i64 a1, .int .i64 a2] w fun e w' => ∃ v0_ : Value, e = .returned (v0_) ∧ Kd.R (Kd.int .i64) 3 w' w.heap.size (fun _ => True) v0_ r ∧ Below w.heap.size w w' := by
 have HR0 := aM_ hr0; have HC0 := aM_ hc0; clear hr0 hc0; have HB := aM_ (Below.refl w.heap.size w)
 have H : ((spec_Max.f 0 a1).bind fun t220 => ((spec_Min.f 1000 t220).bind fun t221 => ((spec_Min.f 1000 a2).bind fun t222 => (spec_ChangesOf.l0 k l0 (([] : List Int)) t222 (wrap64 (t221 + 1)))))) = some r := h
 clear h
 obtain ⟨y217, hy217⟩ : ∃ y_ : List Int, y_ = (([] : List Int)) := ⟨_, rfl⟩
 replace H : ((spec_Max.f 0 a1).bind fun t220 => ((spec_Min.f 1000 t220).bind fun t221 => ((spec_Min.f 1000 a2).bind fun t222 => (spec_ChangesOf.l0 k l0 y217 t222 (wrap64 (t221 + 1)))))) = some r := by first | (rw [hy217]; with_reducible exact H) | (have H2_ := (Option.bind_some _ _).symm.trans H; rw [hy217]; with_reducible exact H2_) | (have H2_ := (Option.bind_some _ _).symm.trans H; with_reducible exact H2_) | with_reducible exact H | (rw [hy217]; exact H) | exact H
 have Ny217 := aM_ hy217; clear hy217
 replace H := Option.bind_eq_some_iff.mp H
 obtain ⟨t220, A40, H⟩ := H
 (try dsimp only at H)
 have A4 := aM_ A40; clear A40
 replace H := Option.bind_eq_some_iff.mp H
 obtain ⟨t221, A50, H⟩ := H
 (try dsimp only at H)
 have A5 := aM_ A50; clear A50
 replace H := Option.bind_eq_some_iff.mp H
 obtain ⟨t222, A60, H⟩ := H
 (try dsimp only at H)
 have A6 := aM_ A60; clear A60
 have H' := aM_ H
 clear H
 go_enter Try.func130, Try.ntmps130
 go_wp2_with (first | ((with_reducible refine gate_dst (N := 11) rfl ?_); refine Kd.R_lit (Kd.int .i64) _ 3 ?hg (N := 11) ?hd (xs := ([] : List Int)) (inner := []) (ok := fun _ => True) (okp := fun _ => True) ?hr ?hp (fun _ hk => hk) trivial (Below.refl _ _) (Nat.le_refl _) (by simp) ?_; (case hd => rfl); (case hg => rfl); (case hr => first | (go_simp; done) | (go_simp; rfl)); (case hp => exact (Reps.none _ _)); intro v218 w7 ho8 hb hg_ hnew_; clear hg_ hnew_; (first | rw [← Ny217.out] at ho8 | (simp only [Int.reduceToNat] at ho8; rw [← Ny217.out] at ho8)); have n0_ := aM_ (Kd.R_lower ho8 (sZ_ (bw_))); have n1_ := aM_ (wS_ (bw_) hb); clear HB; have HO219 := n0_; have HB := n1_; clear n0_ n1_ hb ho8) | ((with_reducible refine gate_callee (f := 44) rfl ?_); refine goesL_ (some 13) rfl rfl Try.func44 (by kernel_rfl) rfl #[.int .i64 0, .int .i64 a1] rfl (by (try simp only [List.map_toArray, List.map_cons, List.map_nil]); first | done | rfl | (simp only [List.length_drop, List.length_take]; rfl)) ?_; (with_reducible refine (spec_Max.calls 0 a1 t220 _ A4.out).mono ?_); rintro e w' ⟨rfl, ⟨nd, rfl⟩⟩; refine ⟨_, rfl, ?_⟩) | ((with_reducible refine gate_callee (f := 117) rfl ?_); refine goesL_ (some 14) rfl rfl Try.func117 (by kernel_rfl) rfl #[.int .i64 1000, .int .i64 t220] rfl (by (try simp only [List.map_toArray, List.map_cons, List.map_nil]); first | done | rfl | (simp only [List.length_drop, List.length_take]; rfl)) ?_; (with_reducible refine (spec_Min.calls 1000 t220 t221 _ A5.out).mono ?_); rintro e w' ⟨rfl, ⟨nd, rfl⟩⟩; refine ⟨_, rfl, ?_⟩) | ((with_reducible refine gate_callee (f := 117) rfl ?_); refine goesL_ (some 16) rfl rfl Try.func117 (by kernel_rfl) rfl #[.int .i64 1000, .int .i64 a2] rfl (by (try simp only [List.map_toArray, List.map_cons, List.map_nil]); first | done | rfl | (simp only [List.length_drop, List.length_take]; rfl)) ?_; (with_reducible refine (spec_Min.calls 1000 a2 t222 _ A6.out).mono ?_); rintro e w' ⟨rfl, ⟨nd, rfl⟩⟩; refine ⟨_, rfl, ?_⟩))
 go_loopg [7, 10] k (fun kq v7 v10 w' => ∃ (x7_1 : List Int) (x10_1 : Int), v10 = .int .i64 x10_1 ∧ Aside0 (spec_ChangesOf.l0 kq l0 x7_1 t222 x10_1 = some r) ∧ Aside0 (kq ≤ k) ∧ Aside0 (Kd.R (Kd.int .i64) 3 w' w.heap.size (fun _ => True) v7 x7_1) ∧ Aside0 (Below w.heap.size w w'))
 case atStart => exact ⟨(y217), (wrap64 (t221 + 1)), (by first | rfl | (simp; done) | (simp [*]; done)), H', ⟨Nat.le_refl _⟩, ⟨by (with_reducible repeat (first | apply rA_ | apply rN_ | apply rD_)); exact HO219.out⟩, ⟨bw_⟩⟩
 case round =>
  clear H'
  obtain ⟨x7_1, x10_1, rfl, HA, HK1, HO_7, HB⟩ := hrel
  cases gk with
  | zero => exact absurd HA.out (by simp [spec_ChangesOf.l0])
  | succ k1 =>
   have H := HA.out; clear HA
   simp only [spec_ChangesOf.l0] at H
   by_cases c9 : x10_1 < t222
   ·rw [if_pos c9] at H
    have c9b0 : decide (x10_1 < t222) = true := decide_eq_true c9
    clear c9
    replace H := Option.bind_eq_some_iff.mp H
    obtain ⟨t223, A100, H⟩ := H
    (try dsimp only at H)
    have A10 := aM_ A100; clear A100
    replace H := Option.bind_eq_some_iff.mp H
    obtain ⟨t226, A110, H⟩ := H
    (try dsimp only at H)
    have A11 := aM_ A110; clear A110
    replace H := Option.bind_eq_some_iff.mp H
    obtain ⟨t229, A120, H⟩ := H
    (try dsimp only at H)
    have A12 := aM_ A120; clear A120
    by_cases c13 : t229 = true
    ·subst c13
     have H1 : (spec_ChangesOf.l0 k1 l0 x7_1 t222 (wrap64 (x10_1 + 1))) = some r := by rw [if_pos rfl] at H; exact H
     clear H; have H := H1; clear H1
     have H' := aM_ H
     clear H
     go_wp2_with (first | ((with_reducible refine gate_callee (f := 115) rfl ?_); refine goesL_ (some 27) rfl rfl Try.func115 (by kernel_rfl) rfl #[.slice A0 l0.length c0, .int .i64 (wrap64 (x10_1 - 1))] rfl (by (try simp only [List.map_toArray, List.map_cons, List.map_nil]); first | done | rfl | (simp only [List.length_drop, List.length_take]; rfl)) ?_; (with_reducible refine (spec_LinksAt.calls k1 _ _ l0 (wrap64 (x10_1 - 1)) t223 _ ?side1 ?side2 A10.out).mono ?_); (case side1 => repeat (first | exact (Kd.C_below HR0.out HB.out) | (with_reducible refine cA_ ?_ _) | (with_reducible refine cN_ ?_ _) | (with_reducible refine cD_ ?_))); (case side2 => exact HC0.out); rintro e w14 ⟨v224, rfl, ho0, hb⟩; refine ⟨_, rfl, ?_⟩; have n0_ := aM_ (rB_ (rb_ HO_7.out) hb); have n1_ := aM_ (Kd.R_lower ho0 (sZ_ (bw_))); have n2_ := aM_ (wS_ (bw_) hb); clear HO_7 HB; have HO_7 := n0_; have HO225 := n1_; have HB := n2_; clear n0_ n1_ n2_; (try clear hb); (try clear hb2); (try clear hk); (try clear hi); (try clear ho0)) | ((with_reducible refine gate_callee (f := 115) rfl ?_); refine goesL_ (some 30) rfl rfl Try.func115 (by kernel_rfl) rfl #[.slice A0 l0.length c0, .int .i64 x10_1] rfl (by (try simp only [List.map_toArray, List.map_cons, List.map_nil]); first | done | rfl | (simp only [List.length_drop, List.length_take]; rfl)) ?_; (with_reducible refine (spec_LinksAt.calls k1 _ _ l0 x10_1 t226 _ ?side1 ?side2 A11.out).mono ?_); (case side1 => repeat (first | exact (Kd.C_below HR0.out HB.out) | (with_reducible refine cA_ ?_ _) | (with_reducible refine cN_ ?_ _) | (with_reducible refine cD_ ?_))); (case side2 => exact HC0.out); rintro e w15 ⟨v227, rfl, ho0, hb⟩; refine ⟨_, rfl, ?_⟩; have n0_ := aM_ (rB_ (rb_ HO_7.out) hb); have n1_ := aM_ (Kd.R_elder' (rb_ HO225.out) (Kd.R_base ho0) hb); have n2_ := aM_ (Kd.R_lower (Kd.R_new' ho0 (Kd.R_lt (rb_ HO225.out))) (sZ_ (bw_))); have n3_ := aM_ (wS_ (bw_) hb); clear HO_7 HO225 HB; have HO_7 := n0_; have HO225 := n1_; have HO228 := n2_; have HB := n3_; clear n0_ n1_ n2_ n3_; (try clear hb); (try clear hb2); (try clear hk); (try clear hi); (try clear ho0); obtain ⟨Ao16, co16, eo16⟩ := Kd.R_slice HO225.out; subst eo16; obtain ⟨Ao17, co17, eo17⟩ := Kd.R_slice HO228.out; subst eo17) | ((with_reducible refine gate_callee (f := 134) rfl ?_); refine goesL_ (some 31) rfl rfl Try.func134 (by kernel_rfl) rfl #[.slice Ao16 t223.length co16, .slice Ao17 t226.length co17] rfl (by (try simp only [List.map_toArray, List.map_cons, List.map_nil]); first | done | rfl | (simp only [List.length_drop, List.length_take]; rfl)) ?_; (with_reducible refine (spec_SameLinks.calls k1 _ _ t223 _ _ t226 true _ ?side1 ?side2 ?side3 ?side4 A12.out).mono ?_); (case side1 => repeat (first | exact (Kd.R_reads' HO225.out).2.2 | (with_reducible refine cA_ ?_ _) | (with_reducible refine cN_ ?_ _) | (with_reducible refine cD_ ?_))); (case side2 => exact (Kd.R_reads' HO225.out).2.1); (case side3 => repeat (first | exact (Kd.R_reads' HO228.out).2.2 | (with_reducible refine cA_ ?_ _) | (with_reducible refine cN_ ?_ _) | (with_reducible refine cD_ ?_))); (case side4 => exact (Kd.R_reads' HO228.out).2.1); rintro e w' ⟨rfl, ⟨nd, rfl⟩⟩; refine ⟨_, rfl, ?_⟩))
     go_roundg k1
     case measure => have := HK1.out; omega
     case rel => exact ⟨(x7_1), (wrap64 (x10_1 + 1)), (by first | rfl | (simp; done) | (simp [*]; done)), H', ⟨by have := HK1.out; omega⟩, ⟨by (with_reducible repeat (first | apply rA_ | apply rN_ | apply rD_)); exact HO_7.out⟩, ⟨bw_⟩⟩
    ·replace c13 := Bool.eq_false_iff.mpr c13
     subst c13
     have H1 : (if x7_1.length < 17592186044416 then (spec_ChangesOf.l0 k1 l0 (x7_1 ++ [x10_1]) t222 (wrap64 (x10_1 + 1))) else (none)) = some r := by rw [if_neg (show ¬ (false = true) by decide)] at H; exact H
     clear H; have H := H1; clear H1
     by_cases c18 : x7_1.length < 17592186044416
     ·rw [if_pos c18] at H
      have LMc18 := aM_ c18; clear c18
      obtain ⟨y230, hy230⟩ : ∃ y_ : List Int, y_ = (x7_1 ++ [x10_1]) := ⟨_, rfl⟩
      replace H : (spec_ChangesOf.l0 k1 l0 y230 t222 (wrap64 (x10_1 + 1))) = some r := by first | (rw [hy230]; with_reducible exact H) | (have H2_ := (Option.bind_some _ _).symm.trans H; rw [hy230]; with_reducible exact H2_) | (have H2_ := (Option.bind_some _ _).symm.trans H; with_reducible exact H2_) | with_reducible exact H | (rw [hy230]; exact H) | exact H
      have Ny230 := aM_ hy230; clear hy230
      have H' := aM_ H
      clear H
      go_wp2_with (first | ((with_reducible refine gate_callee (f := 115) rfl ?_); refine goesL_ (some 27) rfl rfl Try.func115 (by kernel_rfl) rfl #[.slice A0 l0.length c0, .int .i64 (wrap64 (x10_1 - 1))] rfl (by (try simp only [List.map_toArray, List.map_cons, List.map_nil]); first | done | rfl | (simp only [List.length_drop, List.length_take]; rfl)) ?_; (with_reducible refine (spec_LinksAt.calls k1 _ _ l0 (wrap64 (x10_1 - 1)) t223 _ ?side1 ?side2 A10.out).mono ?_); (case side1 => repeat (first | exact (Kd.C_below HR0.out HB.out) | (with_reducible refine cA_ ?_ _) | (with_reducible refine cN_ ?_ _) | (with_reducible refine cD_ ?_))); (case side2 => exact HC0.out); rintro e w19 ⟨v224, rfl, ho0, hb⟩; refine ⟨_, rfl, ?_⟩; have n0_ := aM_ (rB_ (rb_ HO_7.out) hb); have n1_ := aM_ (Kd.R_lower ho0 (sZ_ (bw_))); have n2_ := aM_ (wS_ (bw_) hb); clear HO_7 HB; have HO_7 := n0_; have HO225 := n1_; have HB := n2_; clear n0_ n1_ n2_; (try clear hb); (try clear hb2); (try clear hk); (try clear hi); (try clear ho0)) | ((with_reducible refine gate_callee (f := 115) rfl ?_); refine goesL_ (some 30) rfl rfl Try.func115 (by kernel_rfl) rfl #[.slice A0 l0.length c0, .int .i64 x10_1] rfl (by (try simp only [List.map_toArray, List.map_cons, List.map_nil]); first | done | rfl | (simp only [List.length_drop, List.length_take]; rfl)) ?_; (with_reducible refine (spec_LinksAt.calls k1 _ _ l0 x10_1 t226 _ ?side1 ?side2 A11.out).mono ?_); (case side1 => repeat (first | exact (Kd.C_below HR0.out HB.out) | (with_reducible refine cA_ ?_ _) | (with_reducible refine cN_ ?_ _) | (with_reducible refine cD_ ?_))); (case side2 => exact HC0.out); rintro e w20 ⟨v227, rfl, ho0, hb⟩; refine ⟨_, rfl, ?_⟩; have n0_ := aM_ (rB_ (rb_ HO_7.out) hb); have n1_ := aM_ (Kd.R_elder' (rb_ HO225.out) (Kd.R_base ho0) hb); have n2_ := aM_ (Kd.R_lower (Kd.R_new' ho0 (Kd.R_lt (rb_ HO225.out))) (sZ_ (bw_))); have n3_ := aM_ (wS_ (bw_) hb); clear HO_7 HO225 HB; have HO_7 := n0_; have HO225 := n1_; have HO228 := n2_; have HB := n3_; clear n0_ n1_ n2_ n3_; (try clear hb); (try clear hb2); (try clear hk); (try clear hi); (try clear ho0); obtain ⟨Ao21, co21, eo21⟩ := Kd.R_slice HO225.out; subst eo21; obtain ⟨Ao22, co22, eo22⟩ := Kd.R_slice HO228.out; subst eo22) | ((with_reducible refine gate_callee (f := 134) rfl ?_); refine goesL_ (some 31) rfl rfl Try.func134 (by kernel_rfl) rfl #[.slice Ao21 t223.length co21, .slice Ao22 t226.length co22] rfl (by (try simp only [List.map_toArray, List.map_cons, List.map_nil]); first | done | rfl | (simp only [List.length_drop, List.length_take]; rfl)) ?_; (with_reducible refine (spec_SameLinks.calls k1 _ _ t223 _ _ t226 false _ ?side1 ?side2 ?side3 ?side4 A12.out).mono ?_); (case side1 => repeat (first | exact (Kd.R_reads' HO225.out).2.2 | (with_reducible refine cA_ ?_ _) | (with_reducible refine cN_ ?_ _) | (with_reducible refine cD_ ?_))); (case side2 => exact (Kd.R_reads' HO225.out).2.1); (case side3 => repeat (first | exact (Kd.R_reads' HO228.out).2.2 | (with_reducible refine cA_ ?_ _) | (with_reducible refine cN_ ?_ _) | (with_reducible refine cD_ ?_))); (case side4 => exact (Kd.R_reads' HO228.out).2.1); rintro e w' ⟨rfl, ⟨nd, rfl⟩⟩; refine ⟨_, rfl, ?_⟩) | ((with_reducible refine gate_builtin (b := .append) (xs := #[.tmp 33, .tmp 35]) rfl ?_); at_builtin; refine Kd.R_append (Kd.int .i64) (w0 := w) w.heap.size rfl (.tmp 33) (.tmp 35) 51 3 (.int .i64 0) 8 rfl Try.underlying51 info3 rfl (by decide) (by omega) u7 x7_1 x10_1 [.int .i64 x10_1] (fun _ => True) (fun _ => False) rfl rfl ?aP (fun _ hk => hk.elim) ?aF ?aO ?aB ?aS ?aL ?_; (case aP => exact rfl); (case aB => exact (bw_)); (case aF => exact (fun _ _ => trivial)); (case aO => exact (rb_ HO_7.out)); (case aS => exact (sZ_ (bw_))); (case aL => have := LMc18.out; omega); intro v231 w23 ho hb hg hat; rw [← Ny230.out] at ho; have n0_ := aM_ (Kd.R_over' (rb_ HO225.out) (Kd.R_typed (rb_ HO_7.out)) (by decide) hg); have n1_ := aM_ (Kd.R_over' (rb_ HO228.out) (Kd.R_typed (rb_ HO_7.out)) (by decide) hg); have n2_ := aM_ (hb); have n3_ := aM_ (ho); clear HO225 HO228 HB HO_7; have HO225 := n0_; have HO228 := n1_; have HB := n2_; have HO232 := n3_; clear n0_ n1_ n2_ n3_ ho hb hg hat))
      go_roundg k1
      case measure => have := HK1.out; omega
      case rel => exact ⟨(y230), (wrap64 (x10_1 + 1)), (by first | rfl | (simp; done) | (simp [*]; done)), H', ⟨by have := HK1.out; omega⟩, ⟨by (with_reducible repeat (first | apply rA_ | apply rN_ | apply rD_)); exact HO232.out⟩, ⟨bw_⟩⟩
     ·rw [if_neg c18] at H
      exact absurd H (by simp)
   ·rw [if_neg c9] at H
    have c9b0 : decide (x10_1 < t222) = false := decide_eq_false c9
    clear c9
    obtain rfl := Option.some.inj H
    go_wp2
    go_ret
    exact ⟨_, by first | rfl | (simp [errW_none, errW_some] <;> rfl) | (simp [*, errW_none, errW_some] <;> rfl), by (with_reducible repeat (first | apply rA_ | apply rN_ | apply rD_)); exact HO_7.out, bw_⟩

/-! ### spec_PiecesOf: function 114 -/
def spec_PiecesOf.l0 : Nat → List (S99) → Int → List Int → Int → Option ((List (S99)))
  | 0, _, _, _, _ => none
  | k + 1, x7, x8, x9, x10 => if x10 < (x9.length : Int) then (if 0 ≤ x10 then (if x7.length < 8796093022208 then (spec_PiecesOf.l0 k (x7 ++ [(⟨x8, rd x9 x10⟩ : S99)]) (rd x9 x10) x9 (wrap64 (x10 + 1))) else (none)) else (none)) else (some x7)
def spec_PiecesOf.f (k : Nat) (l0 : List (S144)) (a1 : Int) (a2 : Int) : Option ((List (S99))) := (some (([] : List (S99)) : List (S99))).bind fun y233 => ((spec_IsSpan.f a1 a2).bind fun t236 => (if t236 = true then ((spec_ChangesOf.f k l0 a1 a2).bind fun t237 => (if t237.length < 17592186044416 then (spec_PiecesOf.l0 k y233 a1 (t237 ++ [a2]) 0) else (none))) else (some y233)))
set_option maxHeartbeats 8000000 in
set_option maxRecDepth 100000 in
theorem spec_PiecesOf.calls (k : Nat) (A0 : Option Addr) (c0 : Nat) (l0 : List (S144)) (a1 : Int) (a2 : Int) (r : List (S99)) (w : World) (hr0 : Kd.C k144 w A0 l0.length l0) (hc0 : l0.length ≤ c0) (h : spec_PiecesOf.f k l0 a1 a2 = some r) :
  Calls Try.prog 114 #[.slice A0 l0.length c0, .int .i64 a1, .int .i64 a2] w fun e w' => ∃ v0_ : Value, e = .returned (v0_) ∧ Kd.R k99 99 w' w.heap.size (fun _ => True) v0_ r ∧ Below w.heap.size w w' := by
 have hu99 := Try.underlying99; have HR0 := aM_ hr0; have HC0 := aM_ hc0; clear hr0 hc0; have HB := aM_ (Below.refl w.heap.size w)
 have H : ((some (([] : List (S99)) : List (S99))).bind fun y233 => ((spec_IsSpan.f a1 a2).bind fun t236 => (if t236 = true then ((spec_ChangesOf.f k l0 a1 a2).bind fun t237 => (if t237.length < 17592186044416 then (spec_PiecesOf.l0 k y233 a1 (t237 ++ [a2]) 0) else (none))) else (some y233)))) = some r := h
 clear h
 obtain ⟨y233, hy233⟩ : ∃ y_ : List (S99), y_ = (([] : List (S99))) := ⟨_, rfl⟩
 replace H : ((spec_IsSpan.f a1 a2).bind fun t236 => (if t236 = true then ((spec_ChangesOf.f k l0 a1 a2).bind fun t237 => (if t237.length < 17592186044416 then (spec_PiecesOf.l0 k y233 a1 (t237 ++ [a2]) 0) else (none))) else (some y233))) = some r := by first | (rw [hy233]; with_reducible exact H) | (have H2_ := (Option.bind_some _ _).symm.trans H; rw [hy233]; with_reducible exact H2_) | (have H2_ := (Option.bind_some _ _).symm.trans H; with_reducible exact H2_) | with_reducible exact H | (rw [hy233]; exact H) | exact H
 have Ny233 := aM_ hy233; clear hy233
 replace H := Option.bind_eq_some_iff.mp H
 obtain ⟨t236, A40, H⟩ := H
 (try dsimp only at H)
 have A4 := aM_ A40; clear A40
 by_cases c5 : t236 = true
 ·subst c5
  have H1 : ((spec_ChangesOf.f k l0 a1 a2).bind fun t237 => (if t237.length < 17592186044416 then (spec_PiecesOf.l0 k y233 a1 (t237 ++ [a2]) 0) else (none))) = some r := by rw [if_pos rfl] at H; exact H
  clear H; have H := H1; clear H1
  replace H := Option.bind_eq_some_iff.mp H
  obtain ⟨t237, A60, H⟩ := H
  (try dsimp only at H)
  have A6 := aM_ A60; clear A60
  by_cases c7 : t237.length < 17592186044416
  ·rw [if_pos c7] at H
   have LMc7 := aM_ c7; clear c7
   obtain ⟨y240, hy240⟩ : ∃ y_ : List Int, y_ = (t237 ++ [a2]) := ⟨_, rfl⟩
   replace H : (spec_PiecesOf.l0 k y233 a1 y240 0) = some r := by first | (rw [hy240]; with_reducible exact H) | (have H2_ := (Option.bind_some _ _).symm.trans H; rw [hy240]; with_reducible exact H2_) | (have H2_ := (Option.bind_some _ _).symm.trans H; with_reducible exact H2_) | with_reducible exact H | (rw [hy240]; exact H) | exact H
   have Ny240 := aM_ hy240; clear hy240
   have H' := aM_ H
   clear H
   go_enter Try.func114, Try.ntmps114
   go_wp2_with (first | ((with_reducible refine gate_dst (N := 11) rfl ?_); refine Kd.R_lit k99 _ 99 ?hg (N := 11) ?hd (xs := ([] : List (S99))) (inner := []) (ok := fun _ => True) (okp := fun _ => True) ?hr ?hp (fun _ hk => hk) trivial (Below.refl _ _) (Nat.le_refl _) (by simp) ?_; (case hd => rfl); (case hg => rfl); (case hr => first | (go_simp; done) | (go_simp; rfl)); (case hp => exact (Reps.none _ _)); intro v234 w8 ho9 hb hg_ hnew_; clear hg_ hnew_; (first | rw [← Ny233.out] at ho9 | (simp only [Int.reduceToNat] at ho9; rw [← Ny233.out] at ho9)); have n0_ := aM_ (Kd.R_lower ho9 (sZ_ (bw_))); have n1_ := aM_ (wS_ (bw_) hb); clear HB; have HO235 := n0_; have HB := n1_; clear n0_ n1_ hb ho9) | ((with_reducible refine gate_callee (f := 127) rfl ?_); refine goesL_ (some 15) rfl rfl Try.func127 (by kernel_rfl) rfl #[.agg #[.int .i64 a1, .int .i64 a2]] rfl (by (try simp only [List.map_toArray, List.map_cons, List.map_nil]); first | done | rfl | (simp only [List.length_drop, List.length_take]; rfl)) ?_; (with_reducible refine (spec_IsSpan.calls a1 a2 true _ A4.out).mono ?_); rintro e w10 ⟨rfl, hb⟩; refine ⟨_, rfl, ?_⟩; have n0_ := aM_ (rB_ (rb_ HO235.out) hb); have n1_ := aM_ (wS_ (bw_) hb); clear HO235 HB; have HO235 := n0_; have HB := n1_; clear n0_ n1_; (try clear hb); (try clear hb2); (try clear hk); (try clear hi)) | ((with_reducible refine gate_callee (f := 130) rfl ?_); refine goesL_ (some 22) rfl rfl Try.func130 (by kernel_rfl) rfl #[.slice A0 l0.length c0, .int .i64 a1, .int .i64 a2] rfl (by (try simp only [List.map_toArray, List.map_cons, List.map_nil]); first | done | rfl | (simp only [List.length_drop, List.length_take]; rfl)) ?_; (with_reducible refine (spec_ChangesOf.calls k _ _ l0 a1 a2 t237 _ ?side1 ?side2 A6.out).mono ?_); (case side1 => repeat (first | exact (Kd.C_below HR0.out HB.out) | (with_reducible refine cA_ ?_ _) | (with_reducible refine cN_ ?_ _) | (with_reducible refine cD_ ?_))); (case side2 => exact HC0.out); rintro e w11 ⟨v238, rfl, ho0, hb⟩; refine ⟨_, rfl, ?_⟩; have n0_ := aM_ (rB_ (rb_ HO235.out) hb); have n1_ := aM_ (Kd.R_lower ho0 (sZ_ (bw_))); have n2_ := aM_ (wS_ (bw_) hb); clear HO235 HB; have HO235 := n0_; have HO239 := n1_; have HB := n2_; clear n0_ n1_ n2_; (try clear hb); (try clear hb2); (try clear hk); (try clear hi); (try clear ho0)) | ((with_reducible refine gate_builtin (b := .append) (xs := #[.tmp 22, .tmp 24]) rfl ?_); at_builtin; refine Kd.R_append (Kd.int .i64) (w0 := w) w.heap.size rfl (.tmp 22) (.tmp 24) 51 3 (.int .i64 0) 8 rfl Try.underlying51 info3 rfl (by decide) (by omega) v238 t237 a2 [.int .i64 a2] (fun _ => True) (fun _ => False) rfl rfl ?aP (fun _ hk => hk.elim) ?aF ?aO ?aB ?aS ?aL ?_; (case aP => exact rfl); (case aB => exact (bw_)); (case aF => exact (fun _ _ => trivial)); (case aO => exact (rb_ HO239.out)); (case aS => exact (sZ_ (bw_))); (case aL => have := LMc7.out; omega); intro v241 w12 ho hb hg hat; rw [← Ny240.out] at ho; have n0_ := aM_ (Kd.R_over' (rb_ HO235.out) (Kd.R_typed (rb_ HO239.out)) (by decide) hg); have n1_ := aM_ (hb); have n2_ := aM_ (ho); clear HO235 HB HO239; have HO235 := n0_; have HB := n1_; have HO242 := n2_; clear n0_ n1_ n2_ ho hb hg hat))
   go_loopg [7, 8, 10] k (fun kq v7 v8 v10 w' => ∃ (x7_1 : List (S99)) (x8_1 : Int) (x10_1 : Int), v8 = .int .i64 x8_1 ∧ v10 = .int .i64 x10_1 ∧ Aside0 (spec_PiecesOf.l0 kq x7_1 x8_1 y240 x10_1 = some r) ∧ Aside0 (kq ≤ k) ∧ Aside0 (Kd.R k99 99 w' w.heap.size (fun _ => True) v7 x7_1) ∧ Aside0 (Kd.R (Kd.int .i64) 3 w' w.heap.size (fun _ => True) v241 y240) ∧ Aside0 (Below w.heap.size w w'))
   case atStart => exact ⟨(y233), (a1), (0), (by first | rfl | (simp; done) | (simp [*]; done)), (by first | rfl | (simp; done) | (simp [*]; done)), H', ⟨Nat.le_refl _⟩, ⟨by (with_reducible repeat (first | apply rA_ | apply rN_ | apply rD_)); exact HO235.out⟩, ⟨by (with_reducible repeat (first | apply rA_ | apply rN_ | apply rD_)); exact HO242.out⟩, ⟨bw_⟩⟩
   case round =>
    clear H'
    obtain ⟨x7_1, x8_1, x10_1, rfl, rfl, HA, HK1, HO_7, HO_9, HB⟩ := hrel
    cases gk with
    | zero => exact absurd HA.out (by simp [spec_PiecesOf.l0])
    | succ k1 =>
     have H := HA.out; clear HA
     simp only [spec_PiecesOf.l0] at H
     by_cases c13 : x10_1 < (y240.length : Int)
     ·rw [if_pos c13] at H
      have c13b0 : decide (x10_1 < (y240.length : Int)) = true := decide_eq_true c13
      clear c13
      by_cases c14 : 0 ≤ x10_1
      ·rw [if_pos c14] at H
       have c14b0 : decide (0 ≤ x10_1) = true := decide_eq_true c14
       clear c14
       by_cases c15 : x7_1.length < 8796093022208
       ·rw [if_pos c15] at H
        have LMc15 := aM_ c15; clear c15
        obtain ⟨y244, hy244⟩ : ∃ y_ : List (S99), y_ = (x7_1 ++ [(⟨x8_1, rd y240 x10_1⟩ : S99)]) := ⟨_, rfl⟩
        replace H : (spec_PiecesOf.l0 k1 y244 (rd y240 x10_1) y240 (wrap64 (x10_1 + 1))) = some r := by first | (rw [hy244]; with_reducible exact H) | (have H2_ := (Option.bind_some _ _).symm.trans H; rw [hy244]; with_reducible exact H2_) | (have H2_ := (Option.bind_some _ _).symm.trans H; with_reducible exact H2_) | with_reducible exact H | (rw [hy244]; exact H) | exact H
        have Ny244 := aM_ hy244; clear hy244
        have H' := aM_ H
        clear H
        obtain ⟨Ao16, co16, eo16⟩ := Kd.R_slice HO_9.out
        subst eo16
        have p243 : 0 ≤ (x10_1 : Int) := dT_
        have q243 : x10_1 < (y240.length : Int) := dT_
        obtain ⟨ad243, e243, hx243_0⟩ := Kd.at_int (Kd.R_reads' HO_9.out).2.2 x10_1 p243 q243
        cases e243
        replace p243 := eq_true p243; replace q243 := eq_true q243
        go_wp2_with (first | ((with_reducible refine gate_builtin (b := .append) (xs := #[.tmp 32, .tmp 39]) rfl ?_); at_builtin; refine Kd.R_append k99 (w0 := w) w.heap.size rfl (.tmp 32) (.tmp 39) 139 99 (.agg #[(.int .i64 0), (.int .i64 0)]) 16 rfl Try.underlying139 info99 rfl (by decide) (by omega) u7 x7_1 (⟨x8_1, rd y240 x10_1⟩ : S99) [.int .i64 x8_1, .int .i64 (rd y240 x10_1)] (fun _ => True) (fun _ => False) rfl rfl ?aP (fun _ hk => hk.elim) ?aF ?aO ?aB ?aS ?aL ?_; (case aP => exact k99_mkM _ _ _ (⟨x8_1, rd y240 x10_1⟩ : S99)); (case aB => exact (bw_)); (case aF => exact (fun _ _ => trivial)); (case aO => exact (rb_ HO_7.out)); (case aS => exact (sZ_ (bw_))); (case aL => have := LMc15.out; omega); intro v245 w17 ho hb hg hat; rw [← Ny244.out] at ho; have n0_ := aM_ (Kd.R_over' (rb_ HO_9.out) (Kd.R_typed (rb_ HO_7.out)) (by decide) hg); have n1_ := aM_ (hb); have n2_ := aM_ (ho); clear HO_9 HB HO_7; have HO_9 := n0_; have HB := n1_; have HO246 := n2_; clear n0_ n1_ n2_ ho hb hg hat; have p247 : 0 ≤ (x10_1 : Int) := dT_; have q247 : x10_1 < (y240.length : Int) := dT_; obtain ⟨ad247, e247, hx247_0⟩ := Kd.at_int (Kd.R_reads' HO_9.out).2.2 x10_1 p247 q247; obtain rfl : ad243 = ad247 := (by injection e247); replace p247 := eq_true p247; replace q247 := eq_true q247))
        go_roundg k1
        case measure => have := HK1.out; omega
        case rel => exact ⟨(y244), (rd y240 x10_1), (wrap64 (x10_1 + 1)), (by first | rfl | (simp; done) | (simp [*]; done)), (by first | rfl | (simp; done) | (simp [*]; done)), H', ⟨by have := HK1.out; omega⟩, ⟨by (with_reducible repeat (first | apply rA_ | apply rN_ | apply rD_)); exact HO246.out⟩, ⟨by (with_reducible repeat (first | apply rA_ | apply rN_ | apply rD_)); exact HO_9.out⟩, ⟨bw_⟩⟩
       ·rw [if_neg c15] at H
        exact absurd H (by simp)
      ·rw [if_neg c14] at H
       exact absurd H (by simp)
     ·rw [if_neg c13] at H
      have c13b0 : decide (x10_1 < (y240.length : Int)) = false := decide_eq_false c13
      clear c13
      obtain rfl := Option.some.inj H
      obtain ⟨Ao18, co18, eo18⟩ := Kd.R_slice HO_9.out
      subst eo18
      go_wp2
      go_ret
      exact ⟨_, by first | rfl | (simp [errW_none, errW_some] <;> rfl) | (simp [*, errW_none, errW_some] <;> rfl), by (with_reducible repeat (first | apply rA_ | apply rN_ | apply rD_)); exact HO_7.out, bw_⟩
  ·rw [if_neg c7] at H
   exact absurd H (by simp)
 ·replace c5 := Bool.eq_false_iff.mpr c5
  subst c5
  have H1 : (some y233) = some r := by rw [if_neg (show ¬ (false = true) by decide)] at H; exact H
  clear H; have H := H1; clear H1
  obtain rfl := Option.some.inj H
  go_enter Try.func114, Try.ntmps114
  go_wp2_with (first | ((with_reducible refine gate_dst (N := 11) rfl ?_); refine Kd.R_lit k99 _ 99 ?hg (N := 11) ?hd (xs := ([] : List (S99))) (inner := []) (ok := fun _ => True) (okp := fun _ => True) ?hr ?hp (fun _ hk => hk) trivial (Below.refl _ _) (Nat.le_refl _) (by simp) ?_; (case hd => rfl); (case hg => rfl); (case hr => first | (go_simp; done) | (go_simp; rfl)); (case hp => exact (Reps.none _ _)); intro v234 w19 ho20 hb hg_ hnew_; clear hg_ hnew_; (first | rw [← Ny233.out] at ho20 | (simp only [Int.reduceToNat] at ho20; rw [← Ny233.out] at ho20)); have n0_ := aM_ (Kd.R_lower ho20 (sZ_ (bw_))); have n1_ := aM_ (wS_ (bw_) hb); clear HB; have HO235 := n0_; have HB := n1_; clear n0_ n1_ hb ho20) | ((with_reducible refine gate_callee (f := 127) rfl ?_); refine goesL_ (some 15) rfl rfl Try.func127 (by kernel_rfl) rfl #[.agg #[.int .i64 a1, .int .i64 a2]] rfl (by (try simp only [List.map_toArray, List.map_cons, List.map_nil]); first | done | rfl | (simp only [List.length_drop, List.length_take]; rfl)) ?_; (with_reducible refine (spec_IsSpan.calls a1 a2 false _ A4.out).mono ?_); rintro e w21 ⟨rfl, hb⟩; refine ⟨_, rfl, ?_⟩; have n0_ := aM_ (rB_ (rb_ HO235.out) hb); have n1_ := aM_ (wS_ (bw_) hb); clear HO235 HB; have HO235 := n0_; have HB := n1_; clear n0_ n1_; (try clear hb); (try clear hb2); (try clear hk); (try clear hi)))
  go_ret
  exact ⟨_, by first | rfl | (simp [errW_none, errW_some] <;> rfl) | (simp [*, errW_none, errW_some] <;> rfl), by (with_reducible repeat (first | apply rA_ | apply rN_ | apply rD_)); exact HO235.out, bw_⟩

/-! ### spec_l14Ok: function 137 -/
def spec_l14Ok.f (a0 : Int) (a1 : Int) : Option (Bool) := (spec_l1In.f a0 1 12).bind fun t248 => (if t248 = true then ((spec_l1In.f a1 0 (wrap64 (a0 - 1))).bind fun t249 => (some t249)) else (some false))
set_option maxHeartbeats 8000000 in
set_option maxRecDepth 100000 in
theorem spec_l14Ok.calls (a0 : Int) (a1 : Int) (r : Bool) (w : World) (h : spec_l14Ok.f a0 a1 = some r) :
    Calls Try.prog 137 #[.int .i64 a0, .int .i64 a1] w fun e w' => e = .returned (.bool r) ∧ Drawn0 w w' := by
  have H : ((spec_l1In.f a0 1 12).bind fun t248 => (if t248 = true then ((spec_l1In.f a1 0 (wrap64 (a0 - 1))).bind fun t249 => (some t249)) else (some false))) = some r := h
  clear h
  replace H := Option.bind_eq_some_iff.mp H
  obtain ⟨t248, A30, H⟩ := H
  replace H : (if t248 = true then ((spec_l1In.f a1 0 (wrap64 (a0 - 1))).bind fun t249 => (some t249)) else (some false)) = some r := H
  have A3 := aM_ A30
  clear A30
  by_cases c4 : t248 = true
  · subst c4
    have H1 : ((spec_l1In.f a1 0 (wrap64 (a0 - 1))).bind fun t249 => (some t249)) = some r := by rw [if_pos rfl] at H; exact H
    clear H
    have H := H1
    clear H1
    replace H := Option.bind_eq_some_iff.mp H
    obtain ⟨t249, A50, H⟩ := H
    replace H : (some t249) = some r := H
    have A5 := aM_ A50
    clear A50
    obtain rfl := Option.some.inj H
    go_enter Try.func137, Try.ntmps137
    go_wp2_with (first | ((with_reducible refine gate_callee (f := 43) rfl ?_); refine goesL_ (some 6) rfl rfl Try.func43 (by kernel_rfl) rfl #[.int .i64 a0, .int .i64 1, .int .i64 12] rfl (by (try simp only [List.map_toArray, List.map_cons, List.map_nil]); first | done | rfl | (simp only [List.length_drop, List.length_take]; rfl)) ?_; (with_reducible refine (spec_l1In.calls a0 1 12 true _ A3.out).mono ?_); rintro e w' ⟨rfl, ⟨nd, rfl⟩⟩; refine ⟨_, rfl, ?_⟩) | (go_at_call 43; (first | (with_reducible refine (spec_l1In.calls a1 0 (wrap64 (a0 - 1)) t249 _ A5.out).mono ?_) | (with_reducible refine (spec_l1In.calls a1 0 (IntKind.i64.wrap (a0 - 1)) t249 _ (by rw [i64_w]; exact A5.out)).mono ?_)); rintro e w' ⟨rfl, ⟨nd, rfl⟩⟩))
    go_ret
    exact ⟨by first | rfl | (simp; done) | (simp [*]; done), by repeat (first | exact Drawn0.refl _ | apply Drawn0.step)⟩
  · replace c4 := Bool.eq_false_iff.mpr c4
    subst c4
    have H1 : (some false) = some r := by rw [if_neg (show ¬ (false = true) by decide)] at H; exact H
    clear H
    have H := H1
    clear H1
    obtain rfl := Option.some.inj H
    go_enter Try.func137, Try.ntmps137
    go_wp2_with (first | ((with_reducible refine gate_callee (f := 43) rfl ?_); refine goesL_ (some 6) rfl rfl Try.func43 (by kernel_rfl) rfl #[.int .i64 a0, .int .i64 1, .int .i64 12] rfl (by (try simp only [List.map_toArray, List.map_cons, List.map_nil]); first | done | rfl | (simp only [List.length_drop, List.length_take]; rfl)) ?_; (with_reducible refine (spec_l1In.calls a0 1 12 false _ A3.out).mono ?_); rintro e w' ⟨rfl, ⟨nd, rfl⟩⟩; refine ⟨_, rfl, ?_⟩))
    go_ret
    exact ⟨by first | rfl | (simp; done) | (simp [*]; done), by repeat (first | exact Drawn0.refl _ | apply Drawn0.step)⟩

end Go.Proofs.Ytdodogkgmpaioaa.PFnReach
