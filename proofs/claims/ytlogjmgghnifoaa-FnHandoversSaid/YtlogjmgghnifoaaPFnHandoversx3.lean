/- The functions that the law reaches, as plain Lean functions, each with the proof that the Go code comes to its answers; conditions: those that each theorem names. (printed by a program of this session) -/
import Derived.Test.YtlogjmgghnifoaaPFnHandoversx0
import Derived.Test.YtlogjmgghnifoaaPFnHandoversx2
namespace Go.Proofs.Ytlogjmgghnifoaa.PFnHandovers
open Go.RowKit Go.Proofs.YtlogjmgghnifoaaW.PrintWords Go.Proofs.YtlogjmgghnifoaaW.PrintLast Go.Proofs.YtlogjmgghnifoaaW.PrintMore
attribute [local go_sem] max2_int min2_int max_two min_two max_three min_three max_four min_four   -- for this text's walks alone
set_option linter.unusedVariables false
set_option linter.unusedSimpArgs false

/-! ### impl_spansWhere: function 165 -/
def impl_spansWhere.l0 : Nat → Int → (Int → Option Bool) → List (S109) → Int → Option ((List (S109)))
  | 0, _, _, _, _ => none
  | k + 1, x1, x2, x7, x8 => if x8 < (mn x1 1000) then ((x2 x8).bind fun t273 => (if t273 = true then (if (wrap64 ((x7.length : Int) - 1)) ≥ 0 then (if 0 ≤ (wrap64 ((x7.length : Int) - 1)) then (if (wrap64 ((x7.length : Int) - 1)) < (x7.length : Int) then (if ((rd_T109 x7 (wrap64 ((x7.length : Int) - 1))).f1) = x8 then (impl_spansWhere.l0 k x1 x2 (x7.set ((wrap64 ((x7.length : Int) - 1)) : Int).toNat (⟨(rd_T109 x7 (wrap64 ((x7.length : Int) - 1))).f0, wrap64 (((rd_T109 x7 (wrap64 ((x7.length : Int) - 1))).f1) + 1)⟩ : S109)) (wrap64 (x8 + 1))) else (if x7.length < 8796093022208 then (impl_spansWhere.l0 k x1 x2 (x7 ++ [(⟨x8, wrap64 (x8 + 1)⟩ : S109)]) (wrap64 (x8 + 1))) else (none))) else (none)) else (none)) else (if x7.length < 8796093022208 then (impl_spansWhere.l0 k x1 x2 (x7 ++ [(⟨x8, wrap64 (x8 + 1)⟩ : S109)]) (wrap64 (x8 + 1))) else (none))) else (impl_spansWhere.l0 k x1 x2 x7 (wrap64 (x8 + 1))))) else (some x7)
def impl_spansWhere.f (k : Nat) (a0 : Int) (a1 : Int) (a2 : Int → Option Bool) : Option ((List (S109))) := impl_spansWhere.l0 k a1 a2 (([] : List (S109))) (mx a0 0)
set_option maxHeartbeats 8000000 in
set_option maxRecDepth 100000 in
theorem impl_spansWhere.walk (k : Nat) (a0 : Int) (a1 : Int) (a2 : Int → Option Bool) (g : Nat) (lb : Array Value) (eg : ∀ args w, (callFunc g args).run Try.prog w = .ok (.enter g args) w) (r : List (S109)) (w : World) (hp : ∀ (W : World) (t : Int) (b : Bool), Below w.heap.size w W → a2 t = some b → Calls Try.prog g (#[.int .i64 t] ++ lb) W fun e w' => e = .returned (.bool b) ∧ Drawn0 W w') (h : impl_spansWhere.f k a0 a1 a2 = some r) :
  Calls Try.prog 165 #[.int .i64 a0, .int .i64 a1, .func (.func g) #[] lb] w fun e w' => ∃ v0_ : Value, e = .returned (v0_) ∧ Kd.R k109 109 w' w.heap.size (fun _ => True) v0_ r ∧ Below w.heap.size w w' := by
 have hu109 := Try.underlying109; have HP := aM_ hp; clear hp; have HB := aM_ (Below.refl w.heap.size w)
 have H : (impl_spansWhere.l0 k a1 a2 (([] : List (S109))) (mx a0 0)) = some r := h
 clear h
 obtain ⟨y270, hy270⟩ : ∃ y_ : List (S109), y_ = (([] : List (S109))) := ⟨_, rfl⟩
 replace H : (impl_spansWhere.l0 k a1 a2 y270 (mx a0 0)) = some r := by first | (rw [hy270]; with_reducible exact H) | (have H2_ := (Option.bind_some _ _).symm.trans H; rw [hy270]; with_reducible exact H2_) | (have H2_ := (Option.bind_some _ _).symm.trans H; with_reducible exact H2_) | with_reducible exact H | (rw [hy270]; exact H) | exact H
 have Ny270 := aM_ hy270; clear hy270
 obtain ⟨ji4, hji4⟩ : ∃ j_ : Int, (mx a0 0) = j_ := ⟨_, rfl⟩
 replace H : (impl_spansWhere.l0 k a1 a2 y270 ji4) = some r := by first | (rw [hji4] at H; exact H) | (simp only [hji4] at H ⊢; exact H)
 (try (have hji4l : 0 ≤ ji4 := by (rw [← hji4]; unfold mx; (repeat' split) <;> omega)))
 (try (have hji4m : 0 ≤ ji4 := by omega))
 have hji4_ : (if a0 < 0 then 0 else a0) = ji4 := hji4
 have H' := aM_ H
 clear H
 go_enter Try.func165, Try.ntmps165
 go_wp2_with (first | ((with_reducible refine gate_dst (N := 10) rfl ?_); refine Kd.R_lit k109 _ 109 ?hg (N := 10) ?hd (xs := ([] : List (S109))) (inner := []) (ok := fun _ => True) (okp := fun _ => True) ?hr ?hp (fun _ hk => hk) trivial (Below.refl _ _) (Nat.le_refl _) (by simp) ?_; (case hd => rfl); (case hg => rfl); (case hr => first | (go_simp; done) | (go_simp; rfl)); (case hp => exact (Reps.none _ _)); intro v271 w5 ho6 hb hg_ hnew_; clear hg_ hnew_; (first | rw [← Ny270.out] at ho6 | (simp only [Int.reduceToNat] at ho6; rw [← Ny270.out] at ho6)); have n0_ := aM_ (Kd.R_lower ho6 (sZ_ (bw_))); have n1_ := aM_ (wS_ (bw_) hb); clear HB; have HO272 := n0_; have HB := n1_; clear n0_ n1_ hb ho6))
 go_loopg [7, 8] k (fun kq v7 v8 w' => ∃ (x7_1 : List (S109)) (x8_1 : Int), v8 = .int .i64 x8_1 ∧ Aside0 (impl_spansWhere.l0 kq a1 a2 x7_1 x8_1 = some r) ∧ Aside0 (kq ≤ k) ∧ Aside0 (Kd.R k109 109 w' w.heap.size (fun _ => True) v7 x7_1) ∧ Aside0 (Below w.heap.size w w'))
 case atStart => exact ⟨(y270), (ji4), (by first | rfl | (simp; done) | (simp only [← hji4] <;> (first | rfl | simp)) | (simp [*]; done)), H', ⟨Nat.le_refl _⟩, ⟨by (with_reducible repeat (first | apply rA_ | apply rN_ | apply rD_)); exact HO272.out⟩, ⟨bw_⟩⟩
 case round =>
  clear H'
  obtain ⟨x7_1, x8_1, rfl, HA, HK1, HO_7, HB⟩ := hrel
  cases gk with
  | zero => exact absurd HA.out (by simp [impl_spansWhere.l0])
  | succ k1 =>
   have H := HA.out; clear HA
   simp only [impl_spansWhere.l0] at H
   obtain ⟨ji7, hji7⟩ : ∃ j_ : Int, (mn a1 1000) = j_ := ⟨_, rfl⟩
   replace H : (if x8_1 < (ji7) then ((a2 x8_1).bind fun t273 => (if t273 = true then (if (wrap64 ((x7_1.length : Int) - 1)) ≥ 0 then (if 0 ≤ (wrap64 ((x7_1.length : Int) - 1)) then (if (wrap64 ((x7_1.length : Int) - 1)) < (x7_1.length : Int) then (if ((rd_T109 x7_1 (wrap64 ((x7_1.length : Int) - 1))).f1) = x8_1 then (impl_spansWhere.l0 k1 a1 a2 (x7_1.set ((wrap64 ((x7_1.length : Int) - 1)) : Int).toNat (⟨(rd_T109 x7_1 (wrap64 ((x7_1.length : Int) - 1))).f0, wrap64 (((rd_T109 x7_1 (wrap64 ((x7_1.length : Int) - 1))).f1) + 1)⟩ : S109)) (wrap64 (x8_1 + 1))) else (if x7_1.length < 8796093022208 then (impl_spansWhere.l0 k1 a1 a2 (x7_1 ++ [(⟨x8_1, wrap64 (x8_1 + 1)⟩ : S109)]) (wrap64 (x8_1 + 1))) else (none))) else (none)) else (none)) else (if x7_1.length < 8796093022208 then (impl_spansWhere.l0 k1 a1 a2 (x7_1 ++ [(⟨x8_1, wrap64 (x8_1 + 1)⟩ : S109)]) (wrap64 (x8_1 + 1))) else (none))) else (impl_spansWhere.l0 k1 a1 a2 x7_1 (wrap64 (x8_1 + 1))))) else (some x7_1)) = some r := by first | (rw [hji7] at H; exact H) | (simp only [hji7] at H ⊢; exact H)
   have hji7_ : (if 1000 < a1 then 1000 else a1) = ji7 := hji7
   by_cases c8 : x8_1 < (ji7)
   ·rw [if_pos c8] at H
    have c8b0 : decide (x8_1 < (ji7)) = true := decide_eq_true c8
    clear c8
    replace H := Option.bind_eq_some_iff.mp H
    obtain ⟨t273, A90, H⟩ := H
    (try dsimp only at H)
    have A9 := aM_ A90; clear A90
    by_cases c10 : t273 = true
    ·subst c10
     have H1 : (if (wrap64 ((x7_1.length : Int) - 1)) ≥ 0 then (if 0 ≤ (wrap64 ((x7_1.length : Int) - 1)) then (if (wrap64 ((x7_1.length : Int) - 1)) < (x7_1.length : Int) then (if ((rd_T109 x7_1 (wrap64 ((x7_1.length : Int) - 1))).f1) = x8_1 then (impl_spansWhere.l0 k1 a1 a2 (x7_1.set ((wrap64 ((x7_1.length : Int) - 1)) : Int).toNat (⟨(rd_T109 x7_1 (wrap64 ((x7_1.length : Int) - 1))).f0, wrap64 (((rd_T109 x7_1 (wrap64 ((x7_1.length : Int) - 1))).f1) + 1)⟩ : S109)) (wrap64 (x8_1 + 1))) else (if x7_1.length < 8796093022208 then (impl_spansWhere.l0 k1 a1 a2 (x7_1 ++ [(⟨x8_1, wrap64 (x8_1 + 1)⟩ : S109)]) (wrap64 (x8_1 + 1))) else (none))) else (none)) else (none)) else (if x7_1.length < 8796093022208 then (impl_spansWhere.l0 k1 a1 a2 (x7_1 ++ [(⟨x8_1, wrap64 (x8_1 + 1)⟩ : S109)]) (wrap64 (x8_1 + 1))) else (none))) = some r := by rw [if_pos rfl] at H; exact H
     clear H; have H := H1; clear H1
     by_cases c11 : (wrap64 ((x7_1.length : Int) - 1)) ≥ 0
     ·rw [if_pos c11] at H
      have c11b0 : decide (0 ≤ (wrap64 ((x7_1.length : Int) - 1))) = true := decide_eq_true c11
      clear c11
      obtain ⟨ji12, hji12⟩ : ∃ j_ : Int, (wrap64 ((x7_1.length : Int) - 1)) = j_ := ⟨_, rfl⟩
      replace H : (if 0 ≤ (ji12) then (if (ji12) < (x7_1.length : Int) then (if ((rd_T109 x7_1 (ji12)).f1) = x8_1 then (impl_spansWhere.l0 k1 a1 a2 (x7_1.set ((ji12) : Int).toNat (⟨(rd_T109 x7_1 (ji12)).f0, wrap64 (((rd_T109 x7_1 (ji12)).f1) + 1)⟩ : S109)) (wrap64 (x8_1 + 1))) else (if x7_1.length < 8796093022208 then (impl_spansWhere.l0 k1 a1 a2 (x7_1 ++ [(⟨x8_1, wrap64 (x8_1 + 1)⟩ : S109)]) (wrap64 (x8_1 + 1))) else (none))) else (none)) else (none)) = some r := by first | (rw [hji12] at H; exact H) | (simp only [hji12] at H ⊢; exact H)
      (try rw [hji12] at c11b0)
      (try rw [hji12] at A9)
      have hji12w : (IntKind.i64.wrap ((x7_1.length : Int) - 1)) = ji12 := (i64_w _).trans hji12
      by_cases c13 : 0 ≤ (ji12)
      ·rw [if_pos c13] at H
       have c13b0 : decide (0 ≤ (ji12)) = true := decide_eq_true c13
       clear c13
       by_cases c14 : (ji12) < (x7_1.length : Int)
       ·rw [if_pos c14] at H
        have c14b0 : decide ((ji12) < (x7_1.length : Int)) = true := decide_eq_true c14
        clear c14
        by_cases c15 : ((rd_T109 x7_1 (ji12)).f1) = x8_1
        ·rw [if_pos c15] at H
         have c15b0 : (((rd_T109 x7_1 (ji12)).f1) == x8_1) = true := beq_iff_eq.mpr c15
         have c15b1 : (((rd_T109 x7_1 (ji12)).f1) != x8_1) = false := bne_eq_false_iff_eq.mpr c15
         clear c15
         obtain ⟨y276, hy276⟩ : ∃ y_ : List (S109), y_ = (x7_1.set ((ji12) : Int).toNat (⟨(rd_T109 x7_1 (ji12)).f0, wrap64 (((rd_T109 x7_1 (ji12)).f1) + 1)⟩ : S109)) := ⟨_, rfl⟩
         replace H : (impl_spansWhere.l0 k1 a1 a2 y276 (wrap64 (x8_1 + 1))) = some r := by first | (rw [hy276]; with_reducible exact H) | (have H2_ := (Option.bind_some _ _).symm.trans H; rw [hy276]; with_reducible exact H2_) | (have H2_ := (Option.bind_some _ _).symm.trans H; with_reducible exact H2_) | with_reducible exact H | (rw [hy276]; exact H) | exact H
         have Ny276 := aM_ hy276; clear hy276
         have H' := aM_ H
         clear H; have HC := aM_ (HP.out wr x8_1 true HB.out A9.out)
         go_wp2_with (first | (go_at_fn g; refine HC.out.mono ?_; rintro e w' ⟨rfl, ⟨nd, rfl⟩⟩; (try (rw [drewN_self wr]; generalize hq_ : World.drewN wr _ = wr; have n0_ : Aside0 (Kd.R k109 109 wr w.heap.size (fun k_ => True) u7 x7_1) := ⟨by rw [← hq_]; exact (rb_ HO_7.out)⟩; have n1_ : Aside0 (Below w.heap.size w wr) := ⟨by rw [← hq_]; exact (bw_)⟩; clear HO_7 HB hq_; have HO_7 := n0_; have HB := n1_; clear n0_ n1_)); obtain ⟨Ao17, co17, eo17⟩ := Kd.R_slice HO_7.out; subst eo17; have p274 : 0 ≤ ((ji12) : Int) := dT_; have q274 : (ji12) < (x7_1.length : Int) := dT_; obtain ⟨ad274, e274, hx274_0, hx274_1⟩ := at_T109 (Kd.R_reads' HO_7.out).2.2 (ji12) p274 q274; cases e274; replace p274 := eq_true p274; replace q274 := eq_true q274; have p275 : 0 ≤ ((ji12) : Int) := dT_; have q275 : (ji12) < (x7_1.length : Int) := dT_; obtain ⟨ad275, e275, hx275_0, hx275_1⟩ := at_T109 (Kd.R_reads' HO_7.out).2.2 (ji12) p275 q275; obtain rfl : ad274 = ad275 := (by injection e275); replace p275 := eq_true p275; replace q275 := eq_true q275; have p16 : 0 ≤ ((ji12) : Int) := dT_; have q16 : ((ji12) : Int) < ((x7_1.length : Int) : Int) := dT_; obtain ⟨go16, co16, eo16, gb16, gl16, cl16, HG16⟩ := Kd.R_form HO_7.out (by omega); (first | cases eo16 | (injection eo16 with ea_ en_ ec_; (first | subst ea_ | (injection ea_ with ea_; subst ea_)); subst ec_; clear en_)); have GB16 := aM_ gb16; have GG16 := aM_ HG16; clear gb16 gl16 HG16; (first | simp only [add_plain] at hx274_0 | skip); (first | simp only [add_plain] at hx274_1 | skip); (first | simp only [add_plain] at hx275_0 | skip); (first | simp only [add_plain] at hx275_1 | skip); obtain ⟨ce16, hcl16, hM16, hcc16, hfr16⟩ := Kd.R_elem HO_7.out z109 ((ji12) : Int) p16 q16; obtain rfl := k109_openM hM16; have hx16_0 : wr.cell? ⟨go16, ((ji12) : Int).toNat * 2, none⟩ = some (.int .i64 ((rd_T109 x7_1 (ji12)).f0)) := hcc16 0 _ rfl; have hx16_1 : wr.cell? ⟨go16, ((ji12) : Int).toNat * 2 + 1, none⟩ = some (.int .i64 ((rd_T109 x7_1 (ji12)).f1)) := hcc16 1 _ rfl; have hf16_0 : wr.frozen? ⟨go16, ((ji12) : Int).toNat * 2, none⟩ = false := hfr16 0; have hf16_1 : wr.frozen? ⟨go16, ((ji12) : Int).toNat * 2 + 1, none⟩ = false := hfr16 1; clear hcl16 hcc16 hfr16 hM16; replace p16 := eq_true p16; replace q16 := eq_true q16; have HX18 := aM_ (show Kd.R k109 109 wr w.heap.size (fun _ => True) (.slice (some ⟨go16, 0, none⟩) x7_1.length co17) x7_1 from (rb_ HO_7.out)); obtain ⟨ce18, hcl18, hM18, hcc18, hfr18⟩ := Kd.R_elem HX18.out z109 ((ji12) : Int) (dT_) (by have h_ : ((ji12) : Int) < ((x7_1.length : Int) : Int) := dT_; first | exact h_ | (have e_ := (Kd.R_reads' HO_7.out).1; omega) | simpa using h_); obtain rfl := k109_openM hM18; have HP18 := Kd.R_seg HX18.out ((ji12) : Int) (dT_) (by have h_ : ((ji12) : Int) < ((x7_1.length : Int) : Int) := dT_; first | exact h_ | (have e_ := (Kd.R_reads' HO_7.out).1; omega) | simpa using h_) (seg := [.int .i64 (wrap64 (((rd_T109 x7_1 (ji12)).f1) + 1))]) (j := 1) hcl18 hcc18 (show 2 ≤ 2 from by decide) (x' := (⟨(rd_T109 x7_1 (ji12)).f0, wrap64 (((rd_T109 x7_1 (ji12)).f1) + 1)⟩ : S109)) (k109_mkM _ _ _ (⟨(rd_T109 x7_1 (ji12)).f0, wrap64 (((rd_T109 x7_1 (ji12)).f1) + 1)⟩ : S109) ) (fun _ hk => hk); have hx18_1 := hcc18 1 _ rfl; (try simp only [show (k109).sz = 2 from rfl, Nat.mul_one, Nat.add_zero] at hx18_1); have hf18_1 := hfr18 1; (try simp only [show (k109).sz = 2 from rfl, Nat.mul_one, Nat.add_zero] at hf18_1); clear hcl18 hcc18 hfr18 hM18) | ((with_reducible refine gate_store (t := 3) (p := 44) rfl ?_); refine store_event (t := 3) (p := 44) (v := ?vo_w19) (w1 := (wr.setCell ⟨go16, ((ji12) : Int).toNat * 2 + 1, none⟩ (.int .i64 (wrap64 (((rd_T109 x7_1 (ji12)).f1) + 1))))) ?hg ?ho ?hn ?hr ?_; (case ho => rfl); (case hg => rfl); (case hn => rfl); (case hr => first | (go_simp; done) | (go_simp; rfl)); intro w19 hw; have hg : wr.grownBy w19 (some go16) := (by rw [hw]; exact HP18.2); have hp_ : Kd.R k109 109 w19 w.heap.size (fun _ => True) (.slice (some ⟨go16, 0, none⟩) x7_1.length co17) y276 := (by rw [hw, Ny276.out]; exact HP18.1); clear HP18; have n0_ := aM_ (hp_); have n1_ := aM_ ((by rw [hw]; exact wE_ (HB.out) GB16.out : Below w.heap.size w w19)); clear HO_7 HB; have HO_7 := n0_; have HB := n1_; clear n0_ n1_ hg hw hp_))
         go_roundg k1
         case measure => have := HK1.out; omega
         case rel => exact ⟨(y276), (wrap64 (x8_1 + 1)), (by first | rfl | (simp; done) | (simp [*]; done)), H', ⟨by have := HK1.out; omega⟩, ⟨by (with_reducible repeat (first | apply rA_ | apply rN_ | apply rD_)); exact HO_7.out⟩, ⟨bw_⟩⟩
        ·rw [if_neg c15] at H
         have c15b0 : (((rd_T109 x7_1 (ji12)).f1) == x8_1) = false := beq_eq_false_iff_ne.mpr c15
         have c15b1 : (((rd_T109 x7_1 (ji12)).f1) != x8_1) = true := bne_iff_ne.mpr c15
         by_cases c20 : x7_1.length < 8796093022208
         ·rw [if_pos c20] at H
          have LMc20 := aM_ c20; clear c20
          obtain ⟨y277, hy277⟩ : ∃ y_ : List (S109), y_ = (x7_1 ++ [(⟨x8_1, wrap64 (x8_1 + 1)⟩ : S109)]) := ⟨_, rfl⟩
          replace H : (impl_spansWhere.l0 k1 a1 a2 y277 (wrap64 (x8_1 + 1))) = some r := by first | (rw [hy277]; with_reducible exact H) | (have H2_ := (Option.bind_some _ _).symm.trans H; rw [hy277]; with_reducible exact H2_) | (have H2_ := (Option.bind_some _ _).symm.trans H; with_reducible exact H2_) | with_reducible exact H | (rw [hy277]; exact H) | exact H
          have Ny277 := aM_ hy277; clear hy277
          have H' := aM_ H
          clear H; have HC := aM_ (HP.out wr x8_1 true HB.out A9.out)
          go_wp2_with (first | (go_at_fn g; refine HC.out.mono ?_; rintro e w' ⟨rfl, ⟨nd, rfl⟩⟩; obtain ⟨Ao21, co21, eo21⟩ := Kd.R_slice HO_7.out; subst eo21; have p274 : 0 ≤ ((ji12) : Int) := dT_; have q274 : (ji12) < (x7_1.length : Int) := dT_; obtain ⟨ad274, e274, hx274_0, hx274_1⟩ := at_T109 (Kd.R_reads' HO_7.out).2.2 (ji12) p274 q274; cases e274; replace p274 := eq_true p274; replace q274 := eq_true q274) | ((with_reducible refine gate_builtin (b := .append) (xs := #[.tmp 45, .tmp 50]) rfl ?_); at_builtin; refine Kd.R_append k109 (w0 := w) w.heap.size rfl (.tmp 45) (.tmp 50) 26 109 (.agg #[(.int .i64 0), (.int .i64 0)]) 16 rfl Try.underlying26 info109 rfl (by decide) (by omega) (.slice (some ad274) x7_1.length co21) x7_1 (⟨x8_1, wrap64 (x8_1 + 1)⟩ : S109) [.int .i64 x8_1, .int .i64 (wrap64 (x8_1 + 1))] (fun _ => True) (fun _ => False) rfl rfl ?aP (fun _ hk => hk.elim) ?aF ?aO ?aB ?aS ?aL ?_; (case aP => exact k109_mkM _ _ _ (⟨x8_1, wrap64 (x8_1 + 1)⟩ : S109)); (case aB => exact (bw_)); (case aF => exact (fun _ _ => trivial)); (case aO => exact (rb_ HO_7.out)); (case aS => exact (sZ_ (bw_))); (case aL => have := LMc20.out; omega); intro v278 w22 ho hb hg hat; rw [← Ny277.out] at ho; have n0_ := aM_ (hb); have n1_ := aM_ (ho); clear HB HO_7; have HB := n0_; have HO279 := n1_; clear n0_ n1_ ho hb hg hat))
          go_roundg k1
          case measure => have := HK1.out; omega
          case rel => exact ⟨(y277), (wrap64 (x8_1 + 1)), (by first | rfl | (simp; done) | (simp [*]; done)), H', ⟨by have := HK1.out; omega⟩, ⟨by (with_reducible repeat (first | apply rA_ | apply rN_ | apply rD_)); exact HO279.out⟩, ⟨bw_⟩⟩
         ·rw [if_neg c20] at H
          exact absurd H (by simp)
       ·rw [if_neg c14] at H
        exact absurd H (by simp)
      ·rw [if_neg c13] at H
       exact absurd H (by simp)
     ·rw [if_neg c11] at H
      have c11b0 : decide (0 ≤ (wrap64 ((x7_1.length : Int) - 1))) = false := decide_eq_false c11
      clear c11
      by_cases c23 : x7_1.length < 8796093022208
      ·rw [if_pos c23] at H
       have LMc23 := aM_ c23; clear c23
       obtain ⟨y280, hy280⟩ : ∃ y_ : List (S109), y_ = (x7_1 ++ [(⟨x8_1, wrap64 (x8_1 + 1)⟩ : S109)]) := ⟨_, rfl⟩
       replace H : (impl_spansWhere.l0 k1 a1 a2 y280 (wrap64 (x8_1 + 1))) = some r := by first | (rw [hy280]; with_reducible exact H) | (have H2_ := (Option.bind_some _ _).symm.trans H; rw [hy280]; with_reducible exact H2_) | (have H2_ := (Option.bind_some _ _).symm.trans H; with_reducible exact H2_) | with_reducible exact H | (rw [hy280]; exact H) | exact H
       have Ny280 := aM_ hy280; clear hy280
       have H' := aM_ H
       clear H; have HC := aM_ (HP.out wr x8_1 true HB.out A9.out)
       go_wp2_with (first | (go_at_fn g; refine HC.out.mono ?_; rintro e w' ⟨rfl, ⟨nd, rfl⟩⟩; obtain ⟨Ao24, co24, eo24⟩ := Kd.R_slice HO_7.out; subst eo24) | ((with_reducible refine gate_builtin (b := .append) (xs := #[.tmp 45, .tmp 50]) rfl ?_); at_builtin; refine Kd.R_append k109 (w0 := w) w.heap.size rfl (.tmp 45) (.tmp 50) 26 109 (.agg #[(.int .i64 0), (.int .i64 0)]) 16 rfl Try.underlying26 info109 rfl (by decide) (by omega) (.slice Ao24 x7_1.length co24) x7_1 (⟨x8_1, wrap64 (x8_1 + 1)⟩ : S109) [.int .i64 x8_1, .int .i64 (wrap64 (x8_1 + 1))] (fun _ => True) (fun _ => False) rfl rfl ?aP (fun _ hk => hk.elim) ?aF ?aO ?aB ?aS ?aL ?_; (case aP => exact k109_mkM _ _ _ (⟨x8_1, wrap64 (x8_1 + 1)⟩ : S109)); (case aB => exact (bw_)); (case aF => exact (fun _ _ => trivial)); (case aO => exact (rb_ HO_7.out)); (case aS => exact (sZ_ (bw_))); (case aL => have := LMc23.out; omega); intro v281 w25 ho hb hg hat; rw [← Ny280.out] at ho; have n0_ := aM_ (hb); have n1_ := aM_ (ho); clear HB HO_7; have HB := n0_; have HO282 := n1_; clear n0_ n1_ ho hb hg hat))
       go_roundg k1
       case measure => have := HK1.out; omega
       case rel => exact ⟨(y280), (wrap64 (x8_1 + 1)), (by first | rfl | (simp; done) | (simp [*]; done)), H', ⟨by have := HK1.out; omega⟩, ⟨by (with_reducible repeat (first | apply rA_ | apply rN_ | apply rD_)); exact HO282.out⟩, ⟨bw_⟩⟩
      ·rw [if_neg c23] at H
       exact absurd H (by simp)
    ·replace c10 := Bool.eq_false_iff.mpr c10
     subst c10
     have H1 : (impl_spansWhere.l0 k1 a1 a2 x7_1 (wrap64 (x8_1 + 1))) = some r := by rw [if_neg (show ¬ (false = true) by decide)] at H; exact H
     clear H; have H := H1; clear H1
     have H' := aM_ H
     clear H; have HC := aM_ (HP.out wr x8_1 false HB.out A9.out)
     go_wp2_with (first | (go_at_fn g; refine HC.out.mono ?_; rintro e w' ⟨rfl, ⟨nd, rfl⟩⟩))
     go_roundg k1
     case measure => have := HK1.out; omega
     case rel => exact ⟨(x7_1), (wrap64 (x8_1 + 1)), (by first | rfl | (simp; done) | (simp [*]; done)), H', ⟨by have := HK1.out; omega⟩, ⟨by (with_reducible repeat (first | apply rA_ | apply rN_ | apply rD_)); exact HO_7.out⟩, ⟨bw_⟩⟩
   ·rw [if_neg c8] at H
    have c8b0 : decide (x8_1 < (ji7)) = false := decide_eq_false c8
    clear c8
    obtain rfl := Option.some.inj H
    go_wp2
    go_ret
    exact ⟨_, by first | rfl | (simp [errW_none, errW_some] <;> rfl) | (simp only [← hji4, ← hji7]; first | rfl | (simp [errW_none, errW_some] <;> rfl)) | (simp [*, errW_none, errW_some] <;> rfl), by (with_reducible repeat (first | apply rA_ | apply rN_ | apply rD_)); exact HO_7.out, bw_⟩


/-! ### impl_JoinSpans: function 113 -/
set_option maxHeartbeats 2000000 in
set_option maxRecDepth 100000 in
theorem impl_JoinSpans.closure (A : Option Addr) (c : Nat) (l : List Bool) (t : Int) (g : Nat) (W : World) (hc : W.cell? ⟨g, 0, none⟩ = some (.slice A l.length c)) (hr : Kd.C Kd.bool W A l.length l) (h0 : 0 ≤ t) (h1 : t < (l.length : Int)) :
    Calls Try.prog 166 #[.int .i64 t, .pointer (some ⟨g, 0, none⟩)] W fun e w' => e = .returned (.bool (rdOf false l t)) ∧ Drawn0 W w' := by
  obtain ⟨ad, e0, hx⟩ := Kd.at_bool hr t h0 h1
  subst e0
  have p0 : (0 ≤ t) = True := eq_true h0
  have q0 := eq_true h1
  clear hr h0 h1
  go_enter Try.func166, Try.ntmps166
  go_wp2
  go_ret
  exact ⟨by first | rfl | (simp; done) | (simp [*]; done), by repeat (first | exact Drawn0.refl _ | apply Drawn0.step)⟩
def impl_JoinSpans.p (b : List Bool) (t : Int) : Option Bool := if 0 ≤ t ∧ t < (b.length : Int) then some (rdOf false b t) else none
theorem impl_JoinSpans.hp (Av : Option Addr) (cv : Nat) (b : List Bool) (g : Nat) (W2 W : World) (t : Int) (b' : Bool) (hC : Kd.C Kd.bool W2 Av b.length b) (hcell : W2.cell? ⟨g, 0, none⟩ = some (.slice Av b.length cv)) (hbel : Below W2.heap.size W2 W) (hp : impl_JoinSpans.p b t = some b') :
    Calls Try.prog 166 (#[.int .i64 t] ++ #[.pointer (some ⟨g, 0, none⟩)]) W fun e w' => e = .returned (.bool b') ∧ Drawn0 W w' := by
  unfold impl_JoinSpans.p at hp
  split at hp
  · rename_i h
    obtain rfl := Option.some.inj hp
    exact impl_JoinSpans.closure Av cv b t g W ((hbel.cell (World.block_lt_of_cell? W2 _ hcell)).trans hcell) (Kd.C_below hC hbel) h.1 h.2
  · cases hp
def impl_JoinSpans.f (k : Nat) (l0 : List (S109)) : Option (List (S109)) := (impl_ticks.f k l0).bind fun b => impl_spansWhere.f k 0 1000 (impl_JoinSpans.p b)
set_option maxHeartbeats 2000000 in
set_option maxRecDepth 100000 in
theorem impl_JoinSpans.calls (k : Nat) (A0 : Option Addr) (c0 : Nat) (l0 : List (S109)) (r : List (S109)) (w : World) (hr0 : Kd.C k109 w A0 l0.length l0) (hc0 : l0.length ≤ c0) (h : impl_JoinSpans.f k l0 = some r) :
    Calls Try.prog 113 #[.slice A0 l0.length c0] w fun e w' => ∃ v0_ : Value, e = .returned (v0_) ∧ Kd.R k109 109 w' w.heap.size (fun _ => True) v0_ r ∧ Below w.heap.size w w' := by
  obtain ⟨b, hb, h⟩ := Option.bind_eq_some_iff.mp h
  have HR := aM_ hr0
  have HC := aM_ hc0
  have HT := aM_ hb
  have HS := aM_ h
  clear hr0 hc0 hb h
  go_enter Try.func113, Try.ntmps113
  go_wp2_with (first
    | (go_at_call 164; refine (impl_ticks.calls k A0 c0 l0 b w HR.out HC.out HT.out).mono ?_; rintro e w1 ⟨v, rfl, hv, hb1⟩; obtain ⟨Av, cv, rfl⟩ := Kd.R_slice hv; have HV := aM_ hv; have HB1 := aM_ hb1; clear hv hb1)
    | (go_at_call 165; refine (impl_spansWhere.walk k 0 1000 (impl_JoinSpans.p b) 166 #[.pointer (some ⟨w1.heap.size, 0, none⟩)] (enters_of Try.func166 (by kernel_rfl) rfl) r _ ?hp HS.out).mono ?_; (case hp => exact fun W t b' hbel hp' => impl_JoinSpans.hp Av cv b w1.heap.size _ W t b' (cA_ (Kd.R_reads' HV.out).2.2 _) (by simp) hbel hp'); rintro e w' ⟨v0, rfl, hv0, hb0⟩))
  go_ret
  exact ⟨v0, rfl, Kd.R_lower hv0 (sZ_ (wA_ HB1.out _)), wS_ (wA_ HB1.out _) hb0⟩


/-! ### impl_spansOf: function 63 -/
def impl_spansOf.l0 : Nat → (Int → Option Bool) → List (S109) → List (S112) → Int → Int → Option ((List (S109)))
  | 0, _, _, _, _, _ => none
  | k + 1, x1, x5, x10, x11, x12 => if x12 < x11 then (if 0 ≤ x12 then (if x12 < (x10.length : Int) then ((x1 x12).bind fun t276 => (if t276 = true then (if x5.length < 8796093022208 then (impl_spansOf.l0 k x1 (x5 ++ [(⟨(rd_T112 x10 x12).f0.f0, (rd_T112 x10 x12).f0.f1⟩ : S109)]) x10 x11 (wrap64 (x12 + 1))) else (none)) else (impl_spansOf.l0 k x1 x5 x10 x11 (wrap64 (x12 + 1))))) else (none)) else (none)) else ((impl_JoinSpans.f k x5).bind fun t280 => (some t280))
def impl_spansOf.f (k : Nat) (a0_0 : Int) (a0_1 : Int) (a0_2 : Int) (l0_3 : List (S112)) (a1 : Int → Option Bool) : Option ((List (S109))) := impl_spansOf.l0 k a1 (([] : List (S109))) l0_3 (l0_3.length : Int) 0
set_option maxHeartbeats 8000000 in
set_option maxRecDepth 100000 in
theorem impl_spansOf.walk (k : Nat) (a0_0 : Int) (a0_1 : Int) (a0_2 : Int) (A0_3 : Option Addr) (c0_3 : Nat) (l0_3 : List (S112)) (a1 : Int → Option Bool) (g : Nat) (lb : Array Value) (eg : ∀ args w, (callFunc g args).run Try.prog w = .ok (.enter g args) w) (r : List (S109)) (w : World) (hp : ∀ (W : World) (t : Int) (b : Bool), Below w.heap.size w W → a1 t = some b → Calls Try.prog g (#[.int .i64 t] ++ lb) W fun e w' => e = .returned (.bool b) ∧ Below W.heap.size W w') (hr0_3 : Kd.C k112 w A0_3 l0_3.length l0_3) (hc0_3 : l0_3.length ≤ c0_3) (h : impl_spansOf.f k a0_0 a0_1 a0_2 l0_3 a1 = some r) :
  Calls Try.prog 63 #[.agg #[.int .i64 a0_0, .int .i64 a0_1, .int .i64 a0_2, .slice A0_3 l0_3.length c0_3], .func (.func g) #[] lb] w fun e w' => ∃ v0_ : Value, e = .returned (v0_) ∧ Kd.R k109 109 w' w.heap.size (fun _ => True) v0_ r ∧ Below w.heap.size w w' := by
 have hu30 := Try.underlying30; have HP := aM_ hp; clear hp; have hu112 := Try.underlying112; have hu109 := Try.underlying109; have HR0_3 := aM_ hr0_3; have HC0_3 := aM_ hc0_3; clear hr0_3 hc0_3; have HB := aM_ (Below.refl w.heap.size w)
 have H : (impl_spansOf.l0 k a1 (([] : List (S109))) l0_3 (l0_3.length : Int) 0) = some r := h
 clear h
 obtain ⟨y271, hy271⟩ : ∃ y_ : List (S109), y_ = (([] : List (S109))) := ⟨_, rfl⟩
 replace H : (impl_spansOf.l0 k a1 y271 l0_3 (l0_3.length : Int) 0) = some r := by first | (rw [hy271]; with_reducible exact H) | (have H2_ := (Option.bind_some _ _).symm.trans H; rw [hy271]; with_reducible exact H2_) | (have H2_ := (Option.bind_some _ _).symm.trans H; with_reducible exact H2_) | with_reducible exact H | (rw [hy271]; exact H) | exact H
 have Ny271 := aM_ hy271; clear hy271
 have H' := aM_ H
 clear H
 go_enter Try.func63, Try.ntmps63
 go_wp2_with (first | ((with_reducible refine gate_dst (N := 2) rfl ?_); refine box_event ?hg (N := 2) ?hd (cs := #[.int .i64 a0_0, .int .i64 a0_1, .int .i64 a0_2, .slice A0_3 l0_3.length c0_3]) (t := 30) ?hr ?_; (case hd => rfl); (case hg => rfl); (case hr => first | (go_simp; done) | (go_simp; rfl)); intro gb270 hg w3 hbox hb; have n0_ := aM_ (wS_ (bw_) hb); have n1_ := aM_ (hbox); have n2_ := aM_ ((by rw [hg]; exact (sZ_ (bw_)) : w.heap.size ≤ gb270)); have n3_ := aM_ ((by rw [hg]; exact (sZ_ (bw_)) : w.heap.size ≤ gb270)); clear HB; have HB := n0_; have BK270 := n1_; have GW270 := n2_; have GE270 := n3_; clear n0_ n1_ n2_ n3_ hb hbox hg) | ((with_reducible refine gate_dst (N := 8) rfl ?_); refine Kd.R_lit k109 _ 109 ?hg (N := 8) ?hd (xs := ([] : List (S109))) (inner := []) (ok := fun _ => True) (okp := fun _ => True) ?hr ?hp (fun _ hk => hk) trivial (Below.refl _ _) (Nat.le_refl _) (by simp) ?_; (case hd => rfl); (case hg => rfl); (case hr => first | (go_simp; done) | (go_simp; rfl)); (case hp => exact (Reps.none _ _)); intro v272 w4 ho5 hb hg_ hnew_; clear hg_ hnew_; (first | rw [← Ny271.out] at ho5 | (simp only [Int.reduceToNat] at ho5; rw [← Ny271.out] at ho5)); have n0_ := aM_ (Kd.R_lower ho5 (sZ_ (bw_))); have n1_ := aM_ (bB_ (kb_ BK270.out) hb); have n2_ := aM_ (wS_ (bw_) hb); clear BK270 HB; have HO273 := n0_; have BK270 := n1_; have HB := n2_; clear n0_ n1_ n2_ hb ho5; obtain ⟨hcz6_0, hcz6_1, hcz6_2, hcz6_3, hfz6_0, hfz6_1, hfz6_2, hfz6_3⟩ := bk4_ BK270.out))
 go_loopg [5, 12] k (fun kq v5 v12 w' => ∃ (x5_1 : List (S109)) (x12_1 : Int), v12 = .int .i64 x12_1 ∧ Aside0 (impl_spansOf.l0 kq a1 x5_1 l0_3 (l0_3.length : Int) x12_1 = some r) ∧ Aside0 (kq ≤ k) ∧ Aside0 (Kd.R k109 109 w' w.heap.size (fun _ => True) v5 x5_1) ∧ Aside0 (w'.heap[gb270]? = some (.cells #[.int .i64 a0_0, .int .i64 a0_1, .int .i64 a0_2, (.slice A0_3 l0_3.length c0_3)] 30 (0, 0))) ∧ Aside0 (Below w.heap.size w w'))
 case atStart => exact ⟨(y271), (0), (by first | rfl | (simp; done) | (simp [*]; done)), H', ⟨Nat.le_refl _⟩, ⟨by (with_reducible repeat (first | apply rA_ | apply rN_ | apply rD_)); exact HO273.out⟩, ⟨by (with_reducible repeat (first | refine bN_ ?_ _ | refine bD_ ?_ | refine bA_ ?_ _)); exact BK270.out⟩, ⟨bw_⟩⟩
 case round =>
  clear H'
  try clear hcz6_0
  try clear hcz6_1
  try clear hcz6_2
  try clear hcz6_3
  try clear hfz6_0
  try clear hfz6_1
  try clear hfz6_2
  try clear hfz6_3
  obtain ⟨x5_1, x12_1, rfl, HA, HK1, HO_5, BK270, HB⟩ := hrel
  cases gk with
  | zero => exact absurd HA.out (by simp [impl_spansOf.l0])
  | succ k1 =>
   have H := HA.out; clear HA
   simp only [impl_spansOf.l0] at H
   by_cases c7 : x12_1 < (l0_3.length : Int)
   ·rw [if_pos c7] at H
    have c7b0 : decide (x12_1 < (l0_3.length : Int)) = true := decide_eq_true c7
    clear c7
    by_cases c8 : 0 ≤ x12_1
    ·rw [if_pos c8] at H
     have c8b0 : decide (0 ≤ x12_1) = true := decide_eq_true c8
     clear c8
     by_cases c9 : x12_1 < (l0_3.length : Int)
     ·rw [if_pos c9] at H
      have c9b0 : decide (x12_1 < (l0_3.length : Int)) = true := decide_eq_true c9
      clear c9
      replace H := Option.bind_eq_some_iff.mp H
      obtain ⟨t276, A100, H⟩ := H
      (try dsimp only at H)
      have A10 := aM_ A100; clear A100
      by_cases c11 : t276 = true
      ·subst c11
       have H1 : (if x5_1.length < 8796093022208 then (impl_spansOf.l0 k1 a1 (x5_1 ++ [(⟨(rd_T112 l0_3 x12_1).f0.f0, (rd_T112 l0_3 x12_1).f0.f1⟩ : S109)]) l0_3 (l0_3.length : Int) (wrap64 (x12_1 + 1))) else (none)) = some r := by rw [if_pos rfl] at H; exact H
       clear H; have H := H1; clear H1
       by_cases c12 : x5_1.length < 8796093022208
       ·rw [if_pos c12] at H
        have LMc12 := aM_ c12; clear c12
        obtain ⟨y277, hy277⟩ : ∃ y_ : List (S109), y_ = (x5_1 ++ [(⟨(rd_T112 l0_3 x12_1).f0.f0, (rd_T112 l0_3 x12_1).f0.f1⟩ : S109)]) := ⟨_, rfl⟩
        replace H : (impl_spansOf.l0 k1 a1 y277 l0_3 (l0_3.length : Int) (wrap64 (x12_1 + 1))) = some r := by first | (rw [hy277]; with_reducible exact H) | (have H2_ := (Option.bind_some _ _).symm.trans H; rw [hy277]; with_reducible exact H2_) | (have H2_ := (Option.bind_some _ _).symm.trans H; with_reducible exact H2_) | with_reducible exact H | (rw [hy277]; exact H) | exact H
        have Ny277 := aM_ hy277; clear hy277
        have H' := aM_ H
        clear H
        have p274 : 0 ≤ (x12_1 : Int) := dT_
        have q274 : x12_1 < (l0_3.length : Int) := dT_
        obtain ⟨ad274, A274_2, c274_2, A274_3, c274_3, e274, hx274_0, hx274_1, hx274_2, hx274_3, hl274_2, hi274_2, hl274_3, hi274_3⟩ := at_T112 HR0_3.out x12_1 p274 q274
        cases e274
        replace hx274_0 := (HB.out.cell (World.block_lt_of_cell? w _ hx274_0)).trans hx274_0
        replace hx274_1 := (HB.out.cell (World.block_lt_of_cell? w _ hx274_1)).trans hx274_1
        replace hx274_2 := (HB.out.cell (World.block_lt_of_cell? w _ hx274_2)).trans hx274_2
        replace hx274_3 := (HB.out.cell (World.block_lt_of_cell? w _ hx274_3)).trans hx274_3
        have HR274_2 := aM_ hi274_2; have HC274_2 := aM_ hl274_2; clear hi274_2 hl274_2; have HR274_3 := aM_ hi274_3; have HC274_3 := aM_ hl274_3; clear hi274_3 hl274_3; replace p274 := eq_true p274; replace q274 := eq_true q274
        go_wp2_with (first | ((with_reducible refine gate_dst (N := 7) rfl ?_); refine box_event ?hg (N := 7) ?hd (cs := #[.int .i64 0, .int .i64 0, .slice none 0 0, .slice none 0 0]) (t := 112) ?hr ?_; (case hd => rfl); (case hg => rfl); (case hr => first | (go_simp; done) | (go_simp; rfl)); intro gb275 hg w13 hbox hb; have n0_ := aM_ (rB_ (rb_ HO_5.out) hb); have n1_ := aM_ (bB_ (kb_ BK270.out) hb); have n2_ := aM_ (wS_ (bw_) hb); have n3_ := aM_ (hbox); have n4_ := aM_ ((by rw [hg]; exact (sZ_ (bw_)) : w.heap.size ≤ gb275)); have n5_ := aM_ ((by rw [hg]; exact (sZ_ (bw_)) : w.heap.size ≤ gb275)); have n6_ := aM_ ((by rw [hg]; exact Nat.ne_of_lt (blk_lt (kb_ BK270.out)) : gb270 ≠ gb275)); have n7_ := aM_ ((by rw [hg]; exact Nat.ne_of_gt (blk_lt (kb_ BK270.out)) : gb275 ≠ gb270)); clear HO_5 BK270 HB; have HO_5 := n0_; have BK270 := n1_; have HB := n2_; have BK275 := n3_; have GW275 := n4_; have GE275 := n5_; have NB270_275 := n6_; have NB275_270 := n7_; clear n0_ n1_ n2_ n3_ n4_ n5_ n6_ n7_ hb hbox hg; have hnb14 := NB275_270.out; have hnc14 := NB270_275.out; obtain ⟨hcz15_0, hcz15_1, hcz15_2, hcz15_3, hfz15_0, hfz15_1, hfz15_2, hfz15_3⟩ := bk4_ BK275.out) | (go_at_fn g; refine Calls.mono (HP.out _ x12_1 true ?side1 A10.out) ?_; (case side1 => repeat (first | (with_reducible first | exact HB.out | apply wA_ | apply wN_ | apply wD_ | refine wE_ ?_ GE270.out | refine wE_ ?_ GE275.out) | exact HB.out)); rintro e w16 ⟨rfl, hb⟩; have n0_ := aM_ (rB_ (by (with_reducible repeat (first | apply rA_ | apply rN_ | apply rD_)); exact (Kd.R_mono (Kd.R_far (p := ⟨gb275, 3, none⟩) (Kd.R_far (p := ⟨gb275, 2, none⟩) (Kd.R_far (p := ⟨gb275, 1, none⟩) (Kd.R_far (p := ⟨gb275, 0, none⟩) (Kd.R_types HO_5.out BK275.out (by decide)) (fun _ hk => hk.2) (.int .i64 ((rd_T112 l0_3 x12_1).f0.f0))) (fun _ hk => hk.2) (.int .i64 ((rd_T112 l0_3 x12_1).f0.f1))) (fun _ hk => hk.2) (.slice A274_2 ((rd_T112 l0_3 x12_1).f1).length c274_2)) (fun _ hk => hk.2) (.slice A274_3 ((rd_T112 l0_3 x12_1).f2).length c274_3)) (fun _ h_ => h_.1))) hb); have n1_ := aM_ (bB_ (g := gb270) (o := .cells #[.int .i64 a0_0, .int .i64 a0_1, .int .i64 a0_2, .slice (some ad274) l0_3.length c0_3] 30 (0, 0)) (by (with_reducible repeat (first | refine bN_ ?_ _ | refine bD_ ?_ | refine bA_ ?_ _)); refine blk_far ?_ NB270_275.out _; (with_reducible repeat (first | refine bN_ ?_ _ | refine bD_ ?_ | refine bA_ ?_ _)); refine blk_far ?_ NB270_275.out _; (with_reducible repeat (first | refine bN_ ?_ _ | refine bD_ ?_ | refine bA_ ?_ _)); refine blk_far ?_ NB270_275.out _; (with_reducible repeat (first | refine bN_ ?_ _ | refine bD_ ?_ | refine bA_ ?_ _)); refine blk_far ?_ NB270_275.out _; (with_reducible repeat (first | refine bN_ ?_ _ | refine bD_ ?_ | refine bA_ ?_ _)); exact BK270.out) hb); have n2_ := aM_ (bB_ (g := gb275) (o := .cells #[.int .i64 ((rd_T112 l0_3 x12_1).f0.f0), .int .i64 ((rd_T112 l0_3 x12_1).f0.f1), .slice A274_2 ((rd_T112 l0_3 x12_1).f1).length c274_2, .slice A274_3 ((rd_T112 l0_3 x12_1).f2).length c274_3] 112 (0, 0)) (by (with_reducible repeat (first | refine bN_ ?_ _ | refine bD_ ?_ | refine bA_ ?_ _)); refine blk_put (cs := #[.int .i64 ((rd_T112 l0_3 x12_1).f0.f0), .int .i64 ((rd_T112 l0_3 x12_1).f0.f1), .slice A274_2 ((rd_T112 l0_3 x12_1).f1).length c274_2, .slice none 0 0]) ?_ 3 _ rfl; (with_reducible repeat (first | refine bN_ ?_ _ | refine bD_ ?_ | refine bA_ ?_ _)); refine blk_put (cs := #[.int .i64 ((rd_T112 l0_3 x12_1).f0.f0), .int .i64 ((rd_T112 l0_3 x12_1).f0.f1), .slice none 0 0, .slice none 0 0]) ?_ 2 _ rfl; (with_reducible repeat (first | refine bN_ ?_ _ | refine bD_ ?_ | refine bA_ ?_ _)); refine blk_put (cs := #[.int .i64 ((rd_T112 l0_3 x12_1).f0.f0), .int .i64 0, .slice none 0 0, .slice none 0 0]) ?_ 1 _ rfl; (with_reducible repeat (first | refine bN_ ?_ _ | refine bD_ ?_ | refine bA_ ?_ _)); refine blk_put (cs := #[.int .i64 0, .int .i64 0, .slice none 0 0, .slice none 0 0]) ?_ 0 _ rfl; (with_reducible repeat (first | refine bN_ ?_ _ | refine bD_ ?_ | refine bA_ ?_ _)); exact BK275.out) hb); have n3_ := aM_ (wS_ (bw_) hb); clear HO_5 BK270 BK275 HB; have HO_5 := n0_; have BK270 := n1_; have BK275 := n2_; have HB := n3_; clear n0_ n1_ n2_ n3_; (try clear hb); (try clear hb2); (try clear hk); (try clear hi); obtain ⟨hcz17_0, hcz17_1, hcz17_2, hcz17_3, hfz17_0, hfz17_1, hfz17_2, hfz17_3⟩ := bk4_ BK275.out) | ((with_reducible refine gate_builtin (b := .append) (xs := #[.tmp 20, .tmp 23]) rfl ?_); at_builtin; refine Kd.R_append k109 (w0 := w) w.heap.size rfl (.tmp 20) (.tmp 23) 26 109 (.agg #[(.int .i64 0), (.int .i64 0)]) 16 rfl Try.underlying26 info109 rfl (by decide) (by omega) u5 x5_1 (⟨(rd_T112 l0_3 x12_1).f0.f0, (rd_T112 l0_3 x12_1).f0.f1⟩ : S109) [.int .i64 ((rd_T112 l0_3 x12_1).f0.f0), .int .i64 ((rd_T112 l0_3 x12_1).f0.f1)] (fun _ => True) (fun _ => False) rfl rfl ?aP (fun _ hk => hk.elim) ?aF ?aO ?aB ?aS ?aL ?_; (case aP => exact k109_mkM _ _ _ (⟨(rd_T112 l0_3 x12_1).f0.f0, (rd_T112 l0_3 x12_1).f0.f1⟩ : S109)); (case aB => exact (bw_)); (case aF => exact (fun _ _ => trivial)); (case aO => exact (rb_ HO_5.out)); (case aS => exact (sZ_ (bw_))); (case aL => have := LMc12.out; omega); intro v278 w18 ho hb hg hat; rw [← Ny277.out] at ho; have n0_ := aM_ (blk_grown (kb_ BK270.out) hg (Kd.R_ne HO_5.out BK270.out (by decide))); have n1_ := aM_ (blk_grown (kb_ BK275.out) hg (Kd.R_ne HO_5.out BK275.out (by decide))); have n2_ := aM_ (hb); have n3_ := aM_ (ho); clear BK270 BK275 HB HO_5; have BK270 := n0_; have BK275 := n1_; have HB := n2_; have HO279 := n3_; clear n0_ n1_ n2_ n3_ ho hb hg hat))
        go_roundg k1
        case measure => have := HK1.out; omega
        case rel => exact ⟨(y277), (wrap64 (x12_1 + 1)), (by first | rfl | (simp; done) | (simp [*]; done)), H', ⟨by have := HK1.out; omega⟩, ⟨by (with_reducible repeat (first | apply rA_ | apply rN_ | apply rD_)); exact HO279.out⟩, ⟨by (with_reducible repeat (first | refine bN_ ?_ _ | refine bD_ ?_ | refine bA_ ?_ _)); exact BK270.out⟩, ⟨bw_⟩⟩
       ·rw [if_neg c12] at H
        exact absurd H (by simp)
      ·replace c11 := Bool.eq_false_iff.mpr c11
       subst c11
       have H1 : (impl_spansOf.l0 k1 a1 x5_1 l0_3 (l0_3.length : Int) (wrap64 (x12_1 + 1))) = some r := by rw [if_neg (show ¬ (false = true) by decide)] at H; exact H
       clear H; have H := H1; clear H1
       have H' := aM_ H
       clear H
       have p274 : 0 ≤ (x12_1 : Int) := dT_
       have q274 : x12_1 < (l0_3.length : Int) := dT_
       obtain ⟨ad274, A274_2, c274_2, A274_3, c274_3, e274, hx274_0, hx274_1, hx274_2, hx274_3, hl274_2, hi274_2, hl274_3, hi274_3⟩ := at_T112 HR0_3.out x12_1 p274 q274
       cases e274
       replace hx274_0 := (HB.out.cell (World.block_lt_of_cell? w _ hx274_0)).trans hx274_0
       replace hx274_1 := (HB.out.cell (World.block_lt_of_cell? w _ hx274_1)).trans hx274_1
       replace hx274_2 := (HB.out.cell (World.block_lt_of_cell? w _ hx274_2)).trans hx274_2
       replace hx274_3 := (HB.out.cell (World.block_lt_of_cell? w _ hx274_3)).trans hx274_3
       have HR274_2 := aM_ hi274_2; have HC274_2 := aM_ hl274_2; clear hi274_2 hl274_2; have HR274_3 := aM_ hi274_3; have HC274_3 := aM_ hl274_3; clear hi274_3 hl274_3; replace p274 := eq_true p274; replace q274 := eq_true q274
       go_wp2_with (first | ((with_reducible refine gate_dst (N := 7) rfl ?_); refine box_event ?hg (N := 7) ?hd (cs := #[.int .i64 0, .int .i64 0, .slice none 0 0, .slice none 0 0]) (t := 112) ?hr ?_; (case hd => rfl); (case hg => rfl); (case hr => first | (go_simp; done) | (go_simp; rfl)); intro gb275 hg w19 hbox hb; have n0_ := aM_ (rB_ (rb_ HO_5.out) hb); have n1_ := aM_ (bB_ (kb_ BK270.out) hb); have n2_ := aM_ (wS_ (bw_) hb); have n3_ := aM_ (hbox); have n4_ := aM_ ((by rw [hg]; exact (sZ_ (bw_)) : w.heap.size ≤ gb275)); have n5_ := aM_ ((by rw [hg]; exact (sZ_ (bw_)) : w.heap.size ≤ gb275)); have n6_ := aM_ ((by rw [hg]; exact Nat.ne_of_lt (blk_lt (kb_ BK270.out)) : gb270 ≠ gb275)); have n7_ := aM_ ((by rw [hg]; exact Nat.ne_of_gt (blk_lt (kb_ BK270.out)) : gb275 ≠ gb270)); clear HO_5 BK270 HB; have HO_5 := n0_; have BK270 := n1_; have HB := n2_; have BK275 := n3_; have GW275 := n4_; have GE275 := n5_; have NB270_275 := n6_; have NB275_270 := n7_; clear n0_ n1_ n2_ n3_ n4_ n5_ n6_ n7_ hb hbox hg; have hnb20 := NB275_270.out; have hnc20 := NB270_275.out; obtain ⟨hcz21_0, hcz21_1, hcz21_2, hcz21_3, hfz21_0, hfz21_1, hfz21_2, hfz21_3⟩ := bk4_ BK275.out) | (go_at_fn g; refine Calls.mono (HP.out _ x12_1 false ?side1 A10.out) ?_; (case side1 => repeat (first | (with_reducible first | exact HB.out | apply wA_ | apply wN_ | apply wD_ | refine wE_ ?_ GE270.out | refine wE_ ?_ GE275.out) | exact HB.out)); rintro e w22 ⟨rfl, hb⟩; have n0_ := aM_ (rB_ (by (with_reducible repeat (first | apply rA_ | apply rN_ | apply rD_)); exact (Kd.R_mono (Kd.R_far (p := ⟨gb275, 3, none⟩) (Kd.R_far (p := ⟨gb275, 2, none⟩) (Kd.R_far (p := ⟨gb275, 1, none⟩) (Kd.R_far (p := ⟨gb275, 0, none⟩) (Kd.R_types HO_5.out BK275.out (by decide)) (fun _ hk => hk.2) (.int .i64 ((rd_T112 l0_3 x12_1).f0.f0))) (fun _ hk => hk.2) (.int .i64 ((rd_T112 l0_3 x12_1).f0.f1))) (fun _ hk => hk.2) (.slice A274_2 ((rd_T112 l0_3 x12_1).f1).length c274_2)) (fun _ hk => hk.2) (.slice A274_3 ((rd_T112 l0_3 x12_1).f2).length c274_3)) (fun _ h_ => h_.1))) hb); have n1_ := aM_ (bB_ (g := gb270) (o := .cells #[.int .i64 a0_0, .int .i64 a0_1, .int .i64 a0_2, .slice (some ad274) l0_3.length c0_3] 30 (0, 0)) (by (with_reducible repeat (first | refine bN_ ?_ _ | refine bD_ ?_ | refine bA_ ?_ _)); refine blk_far ?_ NB270_275.out _; (with_reducible repeat (first | refine bN_ ?_ _ | refine bD_ ?_ | refine bA_ ?_ _)); refine blk_far ?_ NB270_275.out _; (with_reducible repeat (first | refine bN_ ?_ _ | refine bD_ ?_ | refine bA_ ?_ _)); refine blk_far ?_ NB270_275.out _; (with_reducible repeat (first | refine bN_ ?_ _ | refine bD_ ?_ | refine bA_ ?_ _)); refine blk_far ?_ NB270_275.out _; (with_reducible repeat (first | refine bN_ ?_ _ | refine bD_ ?_ | refine bA_ ?_ _)); exact BK270.out) hb); have n2_ := aM_ (bB_ (g := gb275) (o := .cells #[.int .i64 ((rd_T112 l0_3 x12_1).f0.f0), .int .i64 ((rd_T112 l0_3 x12_1).f0.f1), .slice A274_2 ((rd_T112 l0_3 x12_1).f1).length c274_2, .slice A274_3 ((rd_T112 l0_3 x12_1).f2).length c274_3] 112 (0, 0)) (by (with_reducible repeat (first | refine bN_ ?_ _ | refine bD_ ?_ | refine bA_ ?_ _)); refine blk_put (cs := #[.int .i64 ((rd_T112 l0_3 x12_1).f0.f0), .int .i64 ((rd_T112 l0_3 x12_1).f0.f1), .slice A274_2 ((rd_T112 l0_3 x12_1).f1).length c274_2, .slice none 0 0]) ?_ 3 _ rfl; (with_reducible repeat (first | refine bN_ ?_ _ | refine bD_ ?_ | refine bA_ ?_ _)); refine blk_put (cs := #[.int .i64 ((rd_T112 l0_3 x12_1).f0.f0), .int .i64 ((rd_T112 l0_3 x12_1).f0.f1), .slice none 0 0, .slice none 0 0]) ?_ 2 _ rfl; (with_reducible repeat (first | refine bN_ ?_ _ | refine bD_ ?_ | refine bA_ ?_ _)); refine blk_put (cs := #[.int .i64 ((rd_T112 l0_3 x12_1).f0.f0), .int .i64 0, .slice none 0 0, .slice none 0 0]) ?_ 1 _ rfl; (with_reducible repeat (first | refine bN_ ?_ _ | refine bD_ ?_ | refine bA_ ?_ _)); refine blk_put (cs := #[.int .i64 0, .int .i64 0, .slice none 0 0, .slice none 0 0]) ?_ 0 _ rfl; (with_reducible repeat (first | refine bN_ ?_ _ | refine bD_ ?_ | refine bA_ ?_ _)); exact BK275.out) hb); have n3_ := aM_ (wS_ (bw_) hb); clear HO_5 BK270 BK275 HB; have HO_5 := n0_; have BK270 := n1_; have BK275 := n2_; have HB := n3_; clear n0_ n1_ n2_ n3_; (try clear hb); (try clear hb2); (try clear hk); (try clear hi)))
       go_roundg k1
       case measure => have := HK1.out; omega
       case rel => exact ⟨(x5_1), (wrap64 (x12_1 + 1)), (by first | rfl | (simp; done) | (simp [*]; done)), H', ⟨by have := HK1.out; omega⟩, ⟨by (with_reducible repeat (first | apply rA_ | apply rN_ | apply rD_)); exact HO_5.out⟩, ⟨by (with_reducible repeat (first | refine bN_ ?_ _ | refine bD_ ?_ | refine bA_ ?_ _)); exact BK270.out⟩, ⟨bw_⟩⟩
     ·rw [if_neg c9] at H
      exact absurd H (by simp)
    ·rw [if_neg c8] at H
     exact absurd H (by simp)
   ·rw [if_neg c7] at H
    have c7b0 : decide (x12_1 < (l0_3.length : Int)) = false := decide_eq_false c7
    clear c7
    replace H := Option.bind_eq_some_iff.mp H
    obtain ⟨t280, A230, H⟩ := H
    (try dsimp only at H)
    have A23 := aM_ A230; clear A230
    obtain rfl := Option.some.inj H
    obtain ⟨Ao24, co24, eo24⟩ := Kd.R_slice HO_5.out
    subst eo24
    go_wp2_with (first | ((with_reducible refine gate_callee (f := 113) rfl ?_); refine goesL_ (some 27) rfl rfl Try.func113 (by kernel_rfl) rfl #[.slice Ao24 x5_1.length co24] rfl (by (try simp only [List.map_toArray, List.map_cons, List.map_nil]); first | done | rfl | (simp only [List.length_drop, List.length_take]; rfl)) ?_; (with_reducible refine (impl_JoinSpans.calls k1 _ _ x5_1 t280 _ ?side1 ?side2 A23.out).mono ?_); (case side1 => repeat (first | exact (Kd.R_reads' HO_5.out).2.2 | (with_reducible refine cA_ ?_ _) | (with_reducible refine cN_ ?_ _) | (with_reducible refine cD_ ?_))); (case side2 => exact (Kd.R_reads' HO_5.out).2.1); rintro e w25 ⟨v281, rfl, ho0, hb⟩; refine ⟨_, rfl, ?_⟩; have n0_ := aM_ (Kd.R_elder' (rb_ HO_5.out) (Kd.R_base ho0) hb); have n1_ := aM_ (Kd.R_lower (Kd.R_new' ho0 (Kd.R_lt (rb_ HO_5.out))) (sZ_ (bw_))); have n2_ := aM_ (bB_ (kb_ BK270.out) hb); have n3_ := aM_ (wS_ (bw_) hb); clear HO_5 BK270 HB; have HO_5 := n0_; have HO282 := n1_; have BK270 := n2_; have HB := n3_; clear n0_ n1_ n2_ n3_; (try clear hb); (try clear hb2); (try clear hk); (try clear hi); (try clear ho0)))
    go_ret
    exact ⟨_, by first | rfl | (simp [errW_none, errW_some] <;> rfl) | (simp [*, errW_none, errW_some] <;> rfl), by (with_reducible repeat (first | apply rA_ | apply rN_ | apply rD_)); exact Kd.R_mono HO282.out (fun _ hk => trivial), bw_⟩


/-! ### impl_GapsOf: function 15 -/
set_option maxHeartbeats 2000000 in
set_option maxRecDepth 100000 in
theorem impl_GapsOf.closure (k : Nat) (a b c : Int) (A : Option Addr) (cc : Nat) (l : List (S112)) (site t : Int) (g2 g3 : Nat) (W : World) (h2 : W.heap[g2]? = some (.cells #[.int .i64 a, .int .i64 b, .int .i64 c, .slice A l.length cc] 30 (0, 0))) (h3 : W.cell? ⟨g3, 0, none⟩ = some (.int .i64 site)) (hr : Kd.C k112 W A l.length l) (hcc : l.length ≤ cc) (xs : List Int) (hx : impl_ServersIn.f k a b c l t site = some xs) :
    Calls Try.prog 64 #[.int .i64 t, .pointer (some ⟨g2, 0, none⟩), .pointer (some ⟨g3, 0, none⟩)] W fun e w' => e = .returned (.bool (decide ((xs.length : Int) = 0))) ∧ Below W.heap.size W w' := by
  have hcz0 : W.cell? ⟨g2, 0, none⟩ = some (.int .i64 a) := (blk_cell h2 0).trans rfl
  have hcz1 : W.cell? ⟨g2, 1, none⟩ = some (.int .i64 b) := (blk_cell h2 1).trans rfl
  have hcz2 : W.cell? ⟨g2, 2, none⟩ = some (.int .i64 c) := (blk_cell h2 2).trans rfl
  have hcz3 : W.cell? ⟨g2, 3, none⟩ = some (.slice A l.length cc) := (blk_cell h2 3).trans rfl
  have hu30 := Try.underlying30
  have HR := aM_ hr
  have HC := aM_ hcc
  have HX := aM_ hx
  clear h2 hr hcc hx
  go_enter Try.func64, Try.ntmps64
  go_wp2_with (go_at_call 29; refine Calls.mono (impl_ServersIn.calls k a b c A cc l t site xs _ HR.out HC.out HX.out) ?_; rintro e w' ⟨v, rfl, hv, hb⟩; obtain ⟨Av, cv, rfl⟩ := Kd.R_slice hv)
  go_ret
  exact ⟨by first | rfl | (congr 2; rw [Bool.eq_iff_iff]; simp; done) | (simp; done), hb⟩
theorem impl_GapsOf.heap2 (w : World) (o o' : Obj) : ((w.alloc o).alloc o').heap[w.heap.size]? = some o :=
  bA_ (show (w.alloc o).heap[w.heap.size]? = some o from by show (w.heap.push o)[w.heap.size]? = some o; exact Array.getElem?_push_size) o'
def impl_GapsOf.p (k : Nat) (a b c : Int) (l : List (S112)) (site t : Int) : Option Bool := (impl_ServersIn.f k a b c l t site).bind fun xs => some (decide ((xs.length : Int) = 0))
theorem impl_GapsOf.hp (k : Nat) (a b c : Int) (A : Option Addr) (cc : Nat) (l : List (S112)) (site t : Int) (g2 g3 : Nat) (W2 W : World) (b' : Bool) (h2 : W2.heap[g2]? = some (.cells #[.int .i64 a, .int .i64 b, .int .i64 c, .slice A l.length cc] 30 (0, 0))) (h3 : W2.cell? ⟨g3, 0, none⟩ = some (.int .i64 site)) (hr : Kd.C k112 W2 A l.length l) (hcc : l.length ≤ cc) (hbel : Below W2.heap.size W2 W) (hp : impl_GapsOf.p k a b c l site t = some b') :
    Calls Try.prog 64 (#[.int .i64 t] ++ #[.pointer (some ⟨g2, 0, none⟩), .pointer (some ⟨g3, 0, none⟩)]) W fun e w' => e = .returned (.bool b') ∧ Below W.heap.size W w' := by
  obtain ⟨xs, hx, h⟩ := Option.bind_eq_some_iff.mp hp
  obtain rfl := Option.some.inj h
  exact impl_GapsOf.closure k a b c A cc l site t g2 g3 W ((hbel.block g2 (blk_lt h2)).trans h2) ((hbel.cell (World.block_lt_of_cell? W2 _ h3)).trans h3) (Kd.C_below hr hbel) hcc xs hx
def impl_GapsOf.f (k : Nat) (a0_0 : Int) (a0_1 : Int) (a0_2 : Int) (l0_3 : List (S112)) (a1 : Int) : Option (List (S109)) := impl_spansOf.f k a0_0 a0_1 a0_2 l0_3 (impl_GapsOf.p k a0_0 a0_1 a0_2 l0_3 a1)
set_option maxHeartbeats 2000000 in
set_option maxRecDepth 100000 in
theorem impl_GapsOf.calls (k : Nat) (a0_0 : Int) (a0_1 : Int) (a0_2 : Int) (A0_3 : Option Addr) (c0_3 : Nat) (l0_3 : List (S112)) (a1 : Int) (r : List (S109)) (w : World) (hr0_3 : Kd.C k112 w A0_3 l0_3.length l0_3) (hc0_3 : l0_3.length ≤ c0_3) (h : impl_GapsOf.f k a0_0 a0_1 a0_2 l0_3 a1 = some r) :
    Calls Try.prog 15 #[.agg #[.int .i64 a0_0, .int .i64 a0_1, .int .i64 a0_2, .slice A0_3 l0_3.length c0_3], .int .i64 a1] w fun e w' => ∃ v0_ : Value, e = .returned (v0_) ∧ Kd.R k109 109 w' w.heap.size (fun _ => True) v0_ r ∧ Below w.heap.size w w' := by
  have HS := aM_ (show impl_spansOf.f k a0_0 a0_1 a0_2 l0_3 (impl_GapsOf.p k a0_0 a0_1 a0_2 l0_3 a1) = some r from h)
  have HR := aM_ hr0_3
  have HC := aM_ hc0_3
  have hu30 := Try.underlying30
  clear hr0_3 hc0_3 h
  go_enter Try.func15, Try.ntmps15
  go_wp2_with (go_at_call 63; refine Calls.mono (impl_spansOf.walk k a0_0 a0_1 a0_2 A0_3 c0_3 l0_3 (impl_GapsOf.p k a0_0 a0_1 a0_2 l0_3 a1) 64 #[.pointer (some ⟨w.heap.size, 0, none⟩), .pointer (some ⟨w.heap.size + 1, 0, none⟩)] (enters_of Try.func64 (by kernel_rfl) rfl) r _ ?hp ?hR HC.out HS.out) ?_; (case hR => exact cA_ (cA_ HR.out _) _); (case hp => exact fun W t b' hbel hp' => impl_GapsOf.hp k a0_0 a0_1 a0_2 A0_3 c0_3 l0_3 a1 t w.heap.size (w.heap.size + 1) _ W b' (impl_GapsOf.heap2 w _ _) (by simp) (cA_ (cA_ HR.out _) _) HC.out hbel hp'); rintro e w' ⟨v0, rfl, hv0, hb0⟩)
  go_ret
  exact ⟨v0, rfl, Kd.R_lower hv0 (sZ_ (wA_ (wA_ (Below.refl _ _) _) _)), wS_ (wA_ (wA_ (Below.refl _ _) _) _) hb0⟩


/-! ### slices_Index_int_int: function 132 -/
def slices_Index_int_int.l0 : Nat → List Int → Int → Int → Int → Option (Int)
  | 0, _, _, _, _ => none
  | k + 1, x0, x1, x7, x8 => if x8 < x7 then (if 0 ≤ x8 then (if x8 < (x0.length : Int) then (if x1 = (rd x0 x8) then (some x8) else (slices_Index_int_int.l0 k x0 x1 x7 (wrap64 (x8 + 1)))) else (none)) else (none)) else (some (-1))
def slices_Index_int_int.f (k : Nat) (l0 : List Int) (a1 : Int) : Option (Int) := slices_Index_int_int.l0 k l0 a1 (l0.length : Int) 0
set_option maxHeartbeats 8000000 in
set_option maxRecDepth 100000 in
theorem slices_Index_int_int.calls (k : Nat) (A0 : Option Addr) (c0 : Nat) (l0 : List Int) (a1 : Int) (r : Int) (w : World) (hr0 : Kd.C (Kd.int .i64) w A0 l0.length l0) (hc0 : l0.length ≤ c0) (h : slices_Index_int_int.f k l0 a1 = some r) :
    Calls Try.prog 132 #[.slice A0 l0.length c0, .int .i64 a1] w fun e w' => e = .returned (.int .i64 r) ∧ Drawn0 w w' := by
  have HR0 := aM_ hr0
  have HC0 := aM_ hc0
  clear hr0 hc0
  have H : (slices_Index_int_int.l0 k l0 a1 (l0.length : Int) 0) = some r := h
  clear h
  have H' := aM_ H
  clear H
  go_enter Try.func132, Try.ntmps132
  go_wp2
  go_loopg [8] k (fun kq v8 w' => ∃ (x8_1 : Int), v8 = .int .i64 x8_1 ∧ Aside0 (slices_Index_int_int.l0 kq l0 a1 (l0.length : Int) x8_1 = some r) ∧ Aside0 (kq ≤ k) ∧ Drawn0 w w')
  case atStart => exact ⟨(0), (by first | rfl | (simp; done) | (simp [*]; done)), H', ⟨Nat.le_refl _⟩, by repeat (first | exact Drawn0.refl _ | apply Drawn0.step)⟩
  case round =>
    clear H'
    obtain ⟨x8_1, rfl, HA, HK1, ⟨m1, rfl⟩⟩ := hrel
    cases gk with
    | zero => exact absurd HA.out (by simp [slices_Index_int_int.l0])
    | succ k1 =>
      have H := HA.out
      clear HA
      simp only [slices_Index_int_int.l0] at H
      by_cases c3 : x8_1 < (l0.length : Int)
      · rw [if_pos c3] at H
        have c3b0 : decide (x8_1 < (l0.length : Int)) = true := decide_eq_true c3
        clear c3
        by_cases c4 : 0 ≤ x8_1
        · rw [if_pos c4] at H
          have c4b0 : decide (0 ≤ x8_1) = true := decide_eq_true c4
          clear c4
          by_cases c5 : x8_1 < (l0.length : Int)
          · rw [if_pos c5] at H
            have c5b0 : decide (x8_1 < (l0.length : Int)) = true := decide_eq_true c5
            clear c5
            by_cases c6 : a1 = (rd l0 x8_1)
            · rw [if_pos c6] at H
              have c6b0 : (a1 == (rd l0 x8_1)) = true := beq_iff_eq.mpr c6
              have c6b1 : (a1 != (rd l0 x8_1)) = false := bne_eq_false_iff_eq.mpr c6
              clear c6
              obtain rfl := Option.some.inj H
              have p136 : 0 ≤ (x8_1 : Int) := dT_
              have q136 : x8_1 < (l0.length : Int) := dT_
              obtain ⟨ad136, e136, hx136_0⟩ := Kd.at_int HR0.out x8_1 p136 q136
              cases e136
              replace p136 := eq_true p136
              replace q136 := eq_true q136
              go_wp2
              go_ret
              exact ⟨by first | rfl | (simp; done) | (simp [*]; done), by repeat (first | exact Drawn0.refl _ | apply Drawn0.step)⟩
            · rw [if_neg c6] at H
              have c6b0 : (a1 == (rd l0 x8_1)) = false := beq_eq_false_iff_ne.mpr c6
              have c6b1 : (a1 != (rd l0 x8_1)) = true := bne_iff_ne.mpr c6
              have H' := aM_ H
              clear H
              have p136 : 0 ≤ (x8_1 : Int) := dT_
              have q136 : x8_1 < (l0.length : Int) := dT_
              obtain ⟨ad136, e136, hx136_0⟩ := Kd.at_int HR0.out x8_1 p136 q136
              cases e136
              replace p136 := eq_true p136
              replace q136 := eq_true q136
              go_wp2
              go_roundg k1
              case measure => have := HK1.out; omega
              case rel => exact ⟨(wrap64 (x8_1 + 1)), (by first | rfl | (simp; done) | (simp [*]; done)), H', ⟨by have := HK1.out; omega⟩, by repeat (first | exact Drawn0.refl _ | apply Drawn0.step)⟩
          · rw [if_neg c5] at H
            exact absurd H (by simp)
        · rw [if_neg c4] at H
          exact absurd H (by simp)
      · rw [if_neg c3] at H
        have c3b0 : decide (x8_1 < (l0.length : Int)) = false := decide_eq_false c3
        clear c3
        obtain rfl := Option.some.inj H
        go_wp2
        go_ret
        exact ⟨by first | rfl | (simp; done) | (simp [*]; done), by repeat (first | exact Drawn0.refl _ | apply Drawn0.step)⟩

/-! ### slices_Contains_int_int: function 70 -/
def slices_Contains_int_int.f (k : Nat) (l0 : List Int) (a1 : Int) : Option (Bool) := (slices_Index_int_int.f k l0 a1).bind fun t137 => (some (decide (t137 ≥ 0)))
set_option maxHeartbeats 8000000 in
set_option maxRecDepth 100000 in
theorem slices_Contains_int_int.calls (k : Nat) (A0 : Option Addr) (c0 : Nat) (l0 : List Int) (a1 : Int) (r : Bool) (w : World) (hr0 : Kd.C (Kd.int .i64) w A0 l0.length l0) (hc0 : l0.length ≤ c0) (h : slices_Contains_int_int.f k l0 a1 = some r) :
    Calls Try.prog 70 #[.slice A0 l0.length c0, .int .i64 a1] w fun e w' => e = .returned (.bool r) ∧ Drawn0 w w' := by
  have HR0 := aM_ hr0
  have HC0 := aM_ hc0
  clear hr0 hc0
  have H : ((slices_Index_int_int.f k l0 a1).bind fun t137 => (some (decide (t137 ≥ 0)))) = some r := h
  clear h
  replace H := Option.bind_eq_some_iff.mp H
  obtain ⟨t137, A30, H⟩ := H
  replace H : (some (decide (t137 ≥ 0))) = some r := H
  have A3 := aM_ A30
  clear A30
  obtain rfl := Option.some.inj H
  go_enter Try.func70, Try.ntmps70
  go_wp2_with (first | ((with_reducible refine gate_callee (f := 132) rfl ?_); refine goesL_ (some 7) rfl rfl Try.func132 (by kernel_rfl) rfl #[.slice A0 l0.length c0, .int .i64 a1] rfl (by (try simp only [List.map_toArray, List.map_cons, List.map_nil]); first | done | rfl | (simp only [List.length_drop, List.length_take]; rfl)) ?_; (with_reducible refine (slices_Index_int_int.calls k _ _ l0 a1 t137 _ ?side1 ?side2 A3.out).mono ?_); (case side1 => repeat (first | exact HR0.out | (with_reducible refine cA_ ?_ _) | (with_reducible refine cN_ ?_ _) | (with_reducible refine cD_ ?_))); (case side2 => exact HC0.out); rintro e w' ⟨rfl, ⟨nd, rfl⟩⟩; refine ⟨_, rfl, ?_⟩))
  go_ret
  exact ⟨by first | rfl | (simp; done) | (simp [*]; done), by repeat (first | exact Drawn0.refl _ | apply Drawn0.step)⟩

/-! ### impl_ServiceOf: function 22 -/
theorem impl_ServiceOf.keep {a b c site server : Int} {A : Option Addr} {n cc g2 g3 g4 : Nat} {W W' : World} (hb : Below W.heap.size W W') (h : (W.cell? ⟨g2, 0, none⟩ = some (.int .i64 a) ∧ W.cell? ⟨g2, 1, none⟩ = some (.int .i64 b) ∧ W.cell? ⟨g2, 2, none⟩ = some (.int .i64 c) ∧ W.cell? ⟨g2, 3, none⟩ = some (.slice A n cc) ∧ W.cell? ⟨g3, 0, none⟩ = some (.int .i64 site) ∧ W.cell? ⟨g4, 0, none⟩ = some (.int .i64 server))) : (W'.cell? ⟨g2, 0, none⟩ = some (.int .i64 a) ∧ W'.cell? ⟨g2, 1, none⟩ = some (.int .i64 b) ∧ W'.cell? ⟨g2, 2, none⟩ = some (.int .i64 c) ∧ W'.cell? ⟨g2, 3, none⟩ = some (.slice A n cc) ∧ W'.cell? ⟨g3, 0, none⟩ = some (.int .i64 site) ∧ W'.cell? ⟨g4, 0, none⟩ = some (.int .i64 server)) := by
  obtain ⟨h0, h1, h2, h3, h4, h5⟩ := h
  exact ⟨(hb.cell (World.block_lt_of_cell? W _ h0)).trans h0, (hb.cell (World.block_lt_of_cell? W _ h1)).trans h1, (hb.cell (World.block_lt_of_cell? W _ h2)).trans h2, (hb.cell (World.block_lt_of_cell? W _ h3)).trans h3, (hb.cell (World.block_lt_of_cell? W _ h4)).trans h4, (hb.cell (World.block_lt_of_cell? W _ h5)).trans h5⟩
set_option maxHeartbeats 2000000 in
set_option maxRecDepth 100000 in
theorem impl_ServiceOf.closure (k : Nat) (a b c : Int) (A : Option Addr) (cc : Nat) (l : List (S112)) (site server t : Int) (g2 g3 g4 : Nat) (W : World) (h2 : W.heap[g2]? = some (.cells #[.int .i64 a, .int .i64 b, .int .i64 c, .slice A l.length cc] 30 (0, 0))) (h3 : W.cell? ⟨g3, 0, none⟩ = some (.int .i64 site)) (h4 : W.cell? ⟨g4, 0, none⟩ = some (.int .i64 server)) (hr : Kd.C k112 W A l.length l) (hcc : l.length ≤ cc) (xs : List Int) (hx : impl_ServersIn.f k a b c l t site = some xs) (r : Bool) (hy : slices_Contains_int_int.f k xs server = some r) :
    Calls Try.prog 69 #[.int .i64 t, .pointer (some ⟨g2, 0, none⟩), .pointer (some ⟨g3, 0, none⟩), .pointer (some ⟨g4, 0, none⟩)] W fun e w' => e = .returned (.bool r) ∧ Below W.heap.size W w' := by
  have hcz0 : W.cell? ⟨g2, 0, none⟩ = some (.int .i64 a) := (blk_cell h2 0).trans rfl
  have hcz1 : W.cell? ⟨g2, 1, none⟩ = some (.int .i64 b) := (blk_cell h2 1).trans rfl
  have hcz2 : W.cell? ⟨g2, 2, none⟩ = some (.int .i64 c) := (blk_cell h2 2).trans rfl
  have hcz3 : W.cell? ⟨g2, 3, none⟩ = some (.slice A l.length cc) := (blk_cell h2 3).trans rfl
  have hu30 := Try.underlying30
  have HR := aM_ hr
  have HC := aM_ hcc
  have HX := aM_ hx
  have HY := aM_ hy
  have HS := aM_ (show (W.cell? ⟨g2, 0, none⟩ = some (.int .i64 a) ∧ W.cell? ⟨g2, 1, none⟩ = some (.int .i64 b) ∧ W.cell? ⟨g2, 2, none⟩ = some (.int .i64 c) ∧ W.cell? ⟨g2, 3, none⟩ = some (.slice A l.length cc) ∧ W.cell? ⟨g3, 0, none⟩ = some (.int .i64 site) ∧ W.cell? ⟨g4, 0, none⟩ = some (.int .i64 server)) from ⟨hcz0, hcz1, hcz2, hcz3, h3, h4⟩)
  clear h2 hr hcc hx hy
  go_enter Try.func69, Try.ntmps69
  go_wp2
  go_region_held3 (fun W' => (W'.cell? ⟨g2, 0, none⟩ = some (.int .i64 a) ∧ W'.cell? ⟨g2, 1, none⟩ = some (.int .i64 b) ∧ W'.cell? ⟨g2, 2, none⟩ = some (.int .i64 c) ∧ W'.cell? ⟨g2, 3, none⟩ = some (.slice A l.length cc) ∧ W'.cell? ⟨g3, 0, none⟩ = some (.int .i64 site) ∧ W'.cell? ⟨g4, 0, none⟩ = some (.int .i64 server))) (first | exact HS.out | exact impl_ServiceOf.keep (wD_ (Below.refl _ _)) HS.out | exact impl_ServiceOf.keep HB1.out HS.out | exact impl_ServiceOf.keep (wN_ HB1.out _) HS.out)
    ((first
    | (go_at_call 29; refine Calls.mono (impl_ServersIn.calls k a b c A cc l t site xs _ (by first | exact HR.out | exact cD_ HR.out | exact cN_ HR.out _) HC.out HX.out) ?_; rintro e w' ⟨v, rfl, hv, hb⟩; obtain ⟨Av, cv, rfl⟩ := Kd.R_slice hv; have HV := aM_ hv; have HB1 := aM_ (wS_ (wD_ (Below.refl _ _)) hb); clear hv hb)
    | (go_at_call 70; refine Calls.mono (slices_Contains_int_int.calls k Av cv xs server r _ (Kd.R_reads' HV.out).2.2 (Kd.R_reads' HV.out).2.1 HY.out) ?_; rintro e w2 ⟨rfl, ⟨nd, rfl⟩⟩)))
  all_goals
    go_wp2
    go_ret
    exact ⟨rfl, by repeat (first | exact HB1.out | apply wN_ | apply wD_)⟩
theorem impl_ServiceOf.size1 (w : World) (o : Obj) : (w.alloc o).heap.size = w.heap.size + 1 := by
  show (w.heap.push o).size = _
  exact Array.size_push ..
theorem impl_ServiceOf.heap1 (w : World) (o : Obj) : (w.alloc o).heap[w.heap.size]? = some o := by
  show (w.heap.push o)[w.heap.size]? = some o
  exact Array.getElem?_push_size
theorem impl_ServiceOf.heap2 (w : World) (o o' o'' : Obj) : (((w.alloc o).alloc o').alloc o'').heap[w.heap.size]? = some o := bA_ (bA_ (impl_ServiceOf.heap1 w o) o') o''
theorem impl_ServiceOf.heap3 (w : World) (o o' o'' : Obj) : (((w.alloc o).alloc o').alloc o'').heap[w.heap.size + 1]? = some o' := bA_ (by have := impl_ServiceOf.heap1 (w.alloc o) o'; rw [impl_ServiceOf.size1] at this; exact this) o''
theorem impl_ServiceOf.heap4 (w : World) (o o' o'' : Obj) : (((w.alloc o).alloc o').alloc o'').heap[w.heap.size + 2]? = some o'' := by
  have := impl_ServiceOf.heap1 ((w.alloc o).alloc o') o''
  rw [impl_ServiceOf.size1, impl_ServiceOf.size1] at this
  exact this
def impl_ServiceOf.p (k : Nat) (a b c : Int) (l : List (S112)) (site server t : Int) : Option Bool := (impl_ServersIn.f k a b c l t site).bind fun xs => slices_Contains_int_int.f k xs server
theorem impl_ServiceOf.hp (k : Nat) (a b c : Int) (A : Option Addr) (cc : Nat) (l : List (S112)) (site server t : Int) (g2 g3 g4 : Nat) (W2 W : World) (b' : Bool) (h2 : W2.heap[g2]? = some (.cells #[.int .i64 a, .int .i64 b, .int .i64 c, .slice A l.length cc] 30 (0, 0))) (h3 : W2.cell? ⟨g3, 0, none⟩ = some (.int .i64 site)) (h4 : W2.cell? ⟨g4, 0, none⟩ = some (.int .i64 server)) (hr : Kd.C k112 W2 A l.length l) (hcc : l.length ≤ cc) (hbel : Below W2.heap.size W2 W) (hp : impl_ServiceOf.p k a b c l site server t = some b') :
    Calls Try.prog 69 (#[.int .i64 t] ++ #[.pointer (some ⟨g2, 0, none⟩), .pointer (some ⟨g3, 0, none⟩), .pointer (some ⟨g4, 0, none⟩)]) W fun e w' => e = .returned (.bool b') ∧ Below W.heap.size W w' := by
  obtain ⟨xs, hx, h⟩ := Option.bind_eq_some_iff.mp hp
  exact impl_ServiceOf.closure k a b c A cc l site server t g2 g3 g4 W ((hbel.block g2 (blk_lt h2)).trans h2) ((hbel.cell (World.block_lt_of_cell? W2 _ h3)).trans h3) ((hbel.cell (World.block_lt_of_cell? W2 _ h4)).trans h4) (Kd.C_below hr hbel) hcc xs hx b' h
def impl_ServiceOf.f (k : Nat) (a0_0 : Int) (a0_1 : Int) (a0_2 : Int) (l0_3 : List (S112)) (a1 : Int) (a2 : Int) : Option (List (S109)) := impl_spansOf.f k a0_0 a0_1 a0_2 l0_3 (impl_ServiceOf.p k a0_0 a0_1 a0_2 l0_3 a1 a2)
set_option maxHeartbeats 2000000 in
set_option maxRecDepth 100000 in
theorem impl_ServiceOf.calls (k : Nat) (a0_0 : Int) (a0_1 : Int) (a0_2 : Int) (A0_3 : Option Addr) (c0_3 : Nat) (l0_3 : List (S112)) (a1 : Int) (a2 : Int) (r : List (S109)) (w : World) (hr0_3 : Kd.C k112 w A0_3 l0_3.length l0_3) (hc0_3 : l0_3.length ≤ c0_3) (h : impl_ServiceOf.f k a0_0 a0_1 a0_2 l0_3 a1 a2 = some r) :
    Calls Try.prog 22 #[.agg #[.int .i64 a0_0, .int .i64 a0_1, .int .i64 a0_2, .slice A0_3 l0_3.length c0_3], .int .i64 a1, .int .i64 a2] w fun e w' => ∃ v0_ : Value, e = .returned (v0_) ∧ Kd.R k109 109 w' w.heap.size (fun _ => True) v0_ r ∧ Below w.heap.size w w' := by
  have HS := aM_ (show impl_spansOf.f k a0_0 a0_1 a0_2 l0_3 (impl_ServiceOf.p k a0_0 a0_1 a0_2 l0_3 a1 a2) = some r from h)
  have HR := aM_ hr0_3
  have HC := aM_ hc0_3
  have hu30 := Try.underlying30
  clear hr0_3 hc0_3 h
  go_enter Try.func22, Try.ntmps22
  go_wp2_with (go_at_call 63; refine Calls.mono (impl_spansOf.walk k a0_0 a0_1 a0_2 A0_3 c0_3 l0_3 (impl_ServiceOf.p k a0_0 a0_1 a0_2 l0_3 a1 a2) 69 #[.pointer (some ⟨w.heap.size, 0, none⟩), .pointer (some ⟨w.heap.size + 1, 0, none⟩), .pointer (some ⟨w.heap.size + 2, 0, none⟩)] (enters_of Try.func69 (by kernel_rfl) rfl) r _ ?hp ?hR HC.out HS.out) ?_; (case hR => exact cA_ (cA_ (cA_ HR.out _) _) _); (case hp => exact fun W t b' hbel hp' => impl_ServiceOf.hp k a0_0 a0_1 a0_2 A0_3 c0_3 l0_3 a1 a2 t w.heap.size (w.heap.size + 1) (w.heap.size + 2) _ W b' (impl_ServiceOf.heap2 w _ _ _) ((blk_cell (impl_ServiceOf.heap3 w _ _ _) 0).trans rfl) ((blk_cell (impl_ServiceOf.heap4 w _ _ _) 0).trans rfl) (cA_ (cA_ (cA_ HR.out _) _) _) HC.out hbel hp'); rintro e w' ⟨v0, rfl, hv0, hb0⟩)
  go_ret
  exact ⟨v0, rfl, Kd.R_lower hv0 (sZ_ (wA_ (wA_ (wA_ (Below.refl _ _) _) _) _)), wS_ (wA_ (wA_ (wA_ (Below.refl _ _) _) _) _) hb0⟩


/-! ### laws_big: function 33 -/
def laws_big.f (l0 : List Int) : Option (Bool) := some (decide ((l0.length : Int) > 1048576))
set_option maxHeartbeats 8000000 in
set_option maxRecDepth 100000 in
theorem laws_big.calls (A0 : Option Addr) (c0 : Nat) (l0 : List Int) (r : Bool) (w : World) (hr0 : Kd.C (Kd.int .u8) w A0 l0.length l0) (hc0 : l0.length ≤ c0) (h : laws_big.f l0 = some r) :
    Calls Try.prog 33 #[.slice A0 l0.length c0] w fun e w' => e = .returned (.bool r) ∧ Drawn0 w w' := by
  have HR0 := aM_ hr0
  have HC0 := aM_ hc0
  clear hr0 hc0
  have H : (some (decide ((l0.length : Int) > 1048576))) = some r := h
  clear h
  obtain rfl := Option.some.inj H
  go_enter Try.func33, Try.ntmps33
  go_wp2
  go_ret
  exact ⟨by first | rfl | (simp; done) | (simp [*]; done), by repeat (first | exact Drawn0.refl _ | apply Drawn0.step)⟩

/-- A state of type 227 at block g of W; what its slices lead to came in by w0. -/
def IsS227 (w0 W : World) (g : Nat) (f0 : List Int) (f1 : Int) (f2 : Int) : Prop := ∃ A0 c0, W.heap[g]? = some (.cells #[.slice A0 f0.length c0, .int .i64 f1, .int .i64 f2] 227 (0, 0)) ∧ w0.heap.size ≤ g ∧ Kd.C (Kd.int .u8) w0 A0 f0.length f0
theorem IsS227.grown {w0 W : World} {g : Nat} {f0 : List Int} {f1 : Int} {f2 : Int} {W1 : World} {row : Option Nat} (h : IsS227 w0 W g f0 f1 f2) (hw : W.grownBy W1 row) (hne : some g ≠ row) : IsS227 w0 W1 g f0 f1 f2 := by
  obtain ⟨A0, c0, hb, hg, hr0⟩ := h
  exact ⟨A0, c0, blk_grown hb hw hne, hg, hr0⟩
theorem IsS227.own_neN {w0 W : World} {g : Nat} {f0 : List Int} {f1 : Int} {f2 : Int} {α : Type} {d : Kd α} {e : Nat} {base : Nat} {ok : Nat → Prop} {v : Value} {xs : List α} (h : IsS227 w0 W g f0 f1 f2) (ho : Kd.N d e W base ok v xs) (ht : e ≠ 227) : some g ≠ v.ownBlock := by
  obtain ⟨A0, c0, hb, hg, hr0⟩ := h
  exact Kd.N_ne ho hb ht
theorem IsS227.fresh {w0 W : World} {g : Nat} {f0 : List Int} {f1 : Int} {f2 : Int} (h : IsS227 w0 W g f0 f1 f2) : ∀ k, W.heap.size ≤ k → k ≠ g := by
  obtain ⟨A0, c0, hb, hg, hr0⟩ := h
  exact Kd.freshB hb
theorem IsS227.kept {w0 W : World} {g : Nat} {f0 : List Int} {f1 : Int} {f2 : Int} {W1 : World} {S : Nat → Prop} (h : IsS227 w0 W g f0 f1 f2) (hk : Kept W W1 S) (hne : ¬ S g) : IsS227 w0 W1 g f0 f1 f2 := by
  obtain ⟨A0, c0, hb, hg, hr0⟩ := h
  exact ⟨A0, c0, blk_kept hb hk hne, hg, hr0⟩
theorem IsS227.below {w0 W : World} {g : Nat} {f0 : List Int} {f1 : Int} {f2 : Int} {W1 : World} (h : IsS227 w0 W g f0 f1 f2) (hw : Below W.heap.size W W1) : IsS227 w0 W1 g f0 f1 f2 := h.grown (grown_of_below hw none) (by simp)
theorem IsS227.alloc {w0 W : World} {g : Nat} {f0 : List Int} {f1 : Int} {f2 : Int} (h : IsS227 w0 W g f0 f1 f2) (o : Obj) : IsS227 w0 (W.alloc o) g f0 f1 f2 := h.below (wA_ (Below.refl _ _) o)
theorem IsS227.drewN {w0 W : World} {g : Nat} {f0 : List Int} {f1 : Int} {f2 : Int} (h : IsS227 w0 W g f0 f1 f2) (m : Nat) : IsS227 w0 (W.drewN m) g f0 f1 f2 := h
theorem IsS227.drew {w0 W : World} {g : Nat} {f0 : List Int} {f1 : Int} {f2 : Int} (h : IsS227 w0 W g f0 f1 f2) : IsS227 w0 W.drew g f0 f1 f2 := h
theorem IsS227.at_ {w0 W : World} {g : Nat} {f0 : List Int} {f1 : Int} {f2 : Int} {w' : World} {m : Nat} (hq : W.drewN m = w') (h : IsS227 w0 W g f0 f1 f2) : IsS227 w0 w' g f0 f1 f2 := by subst hq; exact IsS227.drewN h m
theorem IsS227.apart {w0 W : World} {g : Nat} {f0 : List Int} {f1 : Int} {f2 : Int} {α : Type} {d : Kd α} {e : Nat} {base : Nat} {ok : Nat → Prop} {v : Value} {xs : List α} (h : IsS227 w0 W g f0 f1 f2) (ho : d.R e W base ok v xs) (ht : ∀ q, q ∈ e :: d.E → q ≠ 227) : d.R e W base (fun k => ok k ∧ k ≠ g) v xs := by
  obtain ⟨A0, c0, hb, hg, hr0⟩ := h
  exact Kd.R_types ho hb ht
theorem IsS227.own_ne {w0 W : World} {g : Nat} {f0 : List Int} {f1 : Int} {f2 : Int} {α : Type} {d : Kd α} {e : Nat} {base : Nat} {ok : Nat → Prop} {v : Value} {xs : List α} (h : IsS227 w0 W g f0 f1 f2) (ho : d.R e W base ok v xs) (ht : e ≠ 227) : some g ≠ v.ownBlock := by
  obtain ⟨A0, c0, hb, hg, hr0⟩ := h
  exact Kd.R_ne ho hb ht
theorem IsS227.apartQ {w0 W : World} {g : Nat} {f0 : List Int} {f1 : Int} {f2 : Int} {α : Type} {d : Kd α} {e : Nat} {base : Nat} {ok : Nat → Prop} {v : Value} {xs : List α} (h : IsS227 w0 W g f0 f1 f2) (ho : d.Q e W base ok v xs) (ht : ∀ q, q ∈ e :: d.E → q ≠ 227) : d.Q e W base (fun k => ok k ∧ k ≠ g) v xs := by
  obtain ⟨A0, c0, hb, hg, hr0⟩ := h
  exact Kd.Q_types ho hb ht
theorem IsS227.own_neQ {w0 W : World} {g : Nat} {f0 : List Int} {f1 : Int} {f2 : Int} {α : Type} {d : Kd α} {e : Nat} {base : Nat} {ok : Nat → Prop} {v : Value} {xs : List α} (h : IsS227 w0 W g f0 f1 f2) (ho : d.Q e W base ok v xs) (ht : e ≠ 227) : some g ≠ v.ownBlock := by
  obtain ⟨A0, c0, hb, hg, hr0⟩ := h
  exact Kd.Q_ne ho hb ht
theorem IsS227.apartS {w0 W : World} {g : Nat} {f0 : List Int} {f1 : Int} {f2 : Int} {α : Type} {d : Kd α} {e : Nat} {base : Nat} {ok : Nat → Prop} {v : Value} {xs : List α} (h : IsS227 w0 W g f0 f1 f2) (ho : d.S e W base ok v xs) (ht : ∀ q, q ∈ e :: d.E → q ≠ 227) : d.S e W base (fun k => ok k ∧ k ≠ g) v xs := by
  obtain ⟨A0, c0, hb, hg, hr0⟩ := h
  exact Kd.S_types ho hb ht
theorem IsS227.own_neS {w0 W : World} {g : Nat} {f0 : List Int} {f1 : Int} {f2 : Int} {α : Type} {d : Kd α} {e : Nat} {base : Nat} {ok : Nat → Prop} {v : Value} {xs : List α} (h : IsS227 w0 W g f0 f1 f2) (ho : d.S e W base ok v xs) (ht : e ≠ 227) : some g ≠ v.ownBlock := by
  obtain ⟨A0, c0, hb, hg, hr0⟩ := h
  exact Kd.S_ne ho hb ht
theorem IsS227.lt {w0 W : World} {g : Nat} {f0 : List Int} {f1 : Int} {f2 : Int} (h : IsS227 w0 W g f0 f1 f2) : g < W.heap.size := by
  obtain ⟨A0, c0, hb, hg, hr0⟩ := h
  exact blk_lt hb
theorem IsS227.ge {w0 W : World} {g : Nat} {f0 : List Int} {f1 : Int} {f2 : Int} (h : IsS227 w0 W g f0 f1 f2) : w0.heap.size ≤ g := by
  obtain ⟨A0, c0, hb, hg, hr0⟩ := h
  exact hg
theorem IsS227.ne_blk {w0 W : World} {g : Nat} {f0 : List Int} {f1 : Int} {f2 : Int} {a : Nat} {cs : Array Value} {t : TypeId} {fr : Nat × Nat} (h : IsS227 w0 W g f0 f1 f2) (hb2 : W.heap[a]? = some (.cells cs t fr)) (ht : t ≠ 227) : g ≠ a := by
  obtain ⟨A0, c0, hb, hg, hr0⟩ := h
  rintro rfl
  rw [hb] at hb2
  injection hb2 with hb2
  injection hb2 with _ ht2
  exact ht ht2.symm
theorem IsS227.far {w0 W : World} {g : Nat} {f0 : List Int} {f1 : Int} {f2 : Int} {p : Addr} (h : IsS227 w0 W g f0 f1 f2) (hne : g ≠ p.block) (u : Value) : IsS227 w0 (W.setCell p u) g f0 f1 f2 := by
  obtain ⟨A0, c0, hb, hg, hr0⟩ := h
  exact ⟨A0, c0, blk_far hb hne u, hg, hr0⟩
theorem cellS227_0 {W : World} {g : Nat} {A0 : Option Addr} {c0 : Nat} {f0 : List Int} {f1 : Int} {f2 : Int} (h : W.heap[g]? = some (.cells #[.slice A0 f0.length c0, .int .i64 f1, .int .i64 f2] 227 (0, 0))) : W.cell? ⟨g, 0, none⟩ = some (.slice A0 f0.length c0) := (blk_cell h 0).trans rfl
theorem cellS227_1 {W : World} {g : Nat} {A0 : Option Addr} {c0 : Nat} {f0 : List Int} {f1 : Int} {f2 : Int} (h : W.heap[g]? = some (.cells #[.slice A0 f0.length c0, .int .i64 f1, .int .i64 f2] 227 (0, 0))) : W.cell? ⟨g, 1, none⟩ = some (.int .i64 f1) := (blk_cell h 1).trans rfl
theorem IsS227.set_1 {w0 W : World} {g : Nat} {f0 : List Int} {f1 : Int} {f2 : Int} (h : IsS227 w0 W g f0 f1 f2) (x : Int) : IsS227 w0 (W.setCell ⟨g, 1, none⟩ (.int .i64 x)) g f0 x f2 := by
  obtain ⟨A0, c0, hb, hg, hr0⟩ := h
  exact ⟨A0, c0, by simpa using blk_set hb 1 (.int .i64 x), hg, hr0⟩
theorem cellS227_2 {W : World} {g : Nat} {A0 : Option Addr} {c0 : Nat} {f0 : List Int} {f1 : Int} {f2 : Int} (h : W.heap[g]? = some (.cells #[.slice A0 f0.length c0, .int .i64 f1, .int .i64 f2] 227 (0, 0))) : W.cell? ⟨g, 2, none⟩ = some (.int .i64 f2) := (blk_cell h 2).trans rfl
theorem IsS227.set_2 {w0 W : World} {g : Nat} {f0 : List Int} {f1 : Int} {f2 : Int} (h : IsS227 w0 W g f0 f1 f2) (x : Int) : IsS227 w0 (W.setCell ⟨g, 2, none⟩ (.int .i64 x)) g f0 f1 x := by
  obtain ⟨A0, c0, hb, hg, hr0⟩ := h
  exact ⟨A0, c0, by simpa using blk_set hb 2 (.int .i64 x), hg, hr0⟩
theorem IsS227.new (w0 W : World) (A0 : Option Addr) (c0 : Nat) (f0 : List Int) (f1 : Int) (f2 : Int) (hB : Below w0.heap.size w0 W) (hr0 : Kd.C (Kd.int .u8) w0 A0 f0.length f0) : IsS227 w0 (W.alloc (.cells #[.slice A0 f0.length c0, .int .i64 f1, .int .i64 f2] 227)) W.heap.size f0 f1 f2 := ⟨A0, c0, by simpa using heap_alloc_new W _, hB.size, hr0⟩

theorem i227_0 {w0 W : World} {g : Nat} {f0 : List Int} {f1 : Int} {f2 : Int} (h : IsS227 w0 W g f0 f1 f2 := by repeat (first | (with_reducible first | exact HI0.out | apply IsS227.alloc | apply IsS227.drewN | apply IsS227.drew | apply IsS227.set_1 | apply IsS227.set_2 | refine IsS227.far ?_ (Aside0.out (by assumption)) _) | exact HI0.out)) : IsS227 w0 W g f0 f1 f2 := h
theorem i227_375 {w0 W : World} {g : Nat} {f0 : List Int} {f1 : Int} {f2 : Int} (h : IsS227 w0 W g f0 f1 f2 := by repeat (first | (with_reducible first | exact HI375.out | apply IsS227.alloc | apply IsS227.drewN | apply IsS227.drew | apply IsS227.set_1 | apply IsS227.set_2 | refine IsS227.far ?_ (Aside0.out (by assumption)) _) | exact HI375.out)) : IsS227 w0 W g f0 f1 f2 := h
/-! ### spec_l1New: function 104 -/
def spec_l1New.l0 : Nat → List Int → Int → Int → Option (List Int × Int × Int)
  | 0, _, _, _ => none
  | k + 1, x0, x3, x4 => if x4 < (x0.length : Int) then (if x4 < 4000 then (if 0 ≤ x4 then (spec_l1New.l0 k x0 (Go.bits .and .i64 (wrap64 ((wrap64 ((wrap64 (x3 * 137)) + (wrap64 (rd x0 x4)))) + 11)) 1073741823) (wrap64 (x4 + 1))) else (none)) else (some (x0, 0, x3))) else (some (x0, 0, x3))
def spec_l1New.f (k : Nat) (l0 : List Int) : Option (List Int × Int × Int) := spec_l1New.l0 k l0 (wrap64 (193017 + (l0.length : Int))) 0
set_option maxHeartbeats 8000000 in
set_option maxRecDepth 100000 in
theorem spec_l1New.calls (k : Nat) (A0 : Option Addr) (c0 : Nat) (l0 : List Int) (r1 : List Int) (r2 : Int) (r3 : Int) (w0 w : World) (hB : Below w0.heap.size w0 w) (hr0 : Kd.C (Kd.int .u8) w0 A0 l0.length l0) (hc0 : l0.length ≤ c0) (h : spec_l1New.f k l0 = some (r1, r2, r3)) :
    Calls Try.prog 104 #[.slice A0 l0.length c0] w fun e w' => ∃ g_ : Nat, e = .returned (.pointer (some ⟨g_, 0, none⟩)) ∧ IsS227 w0 w' g_ r1 r2 r3 ∧ Below w0.heap.size w0 w' ∧ Below w.heap.size w w' := by
  have hu227 := Try.underlying227
  have HR0 := aM_ hr0
  have HC0 := aM_ hc0
  clear hr0 hc0
  have HBW := aM_ (Below.refl w.heap.size w)
  have HW0 := aM_ hB.size
  have HB := aM_ hB
  clear hB
  have H : (spec_l1New.l0 k l0 (wrap64 (193017 + (l0.length : Int))) 0) = some (r1, r2, r3) := h
  clear h
  have H' := aM_ H
  clear H
  go_enter Try.func104, Try.ntmps104
  go_wp2
  go_loopg [3, 4] k (fun kq v3 v4 w' => ∃ (x3_1 : Int) (x4_1 : Int), v3 = .int .i64 x3_1 ∧ v4 = .int .i64 x4_1 ∧ Aside0 (spec_l1New.l0 kq l0 x3_1 x4_1 = some (r1, r2, r3)) ∧ Aside0 (kq ≤ k) ∧ Aside0 (Below w0.heap.size w0 w') ∧ Aside0 (Below w.heap.size w w'))
  case atStart => exact ⟨(wrap64 (193017 + (l0.length : Int))), (0), (by first | rfl | (simp; done) | (simp [*]; done)), (by first | rfl | (simp; done) | (simp [*]; done)), H', ⟨Nat.le_refl _⟩, ⟨bw_⟩, ⟨by repeat (first | (with_reducible first | exact HBW.out | apply wA_ | apply wN_ | apply wD_) | exact HBW.out)⟩⟩
  case round =>
    clear H'
    obtain ⟨x3_1, x4_1, rfl, rfl, HA, HK1, HB, HBW⟩ := hrel
    cases gk with
    | zero => exact absurd HA.out (by simp [spec_l1New.l0])
    | succ k1 =>
      have H := HA.out
      clear HA
      simp only [spec_l1New.l0] at H
      by_cases c2 : x4_1 < (l0.length : Int)
      · rw [if_pos c2] at H
        have c2b0 : decide (x4_1 < (l0.length : Int)) = true := decide_eq_true c2
        clear c2
        by_cases c3 : x4_1 < 4000
        · rw [if_pos c3] at H
          have c3b0 : decide (x4_1 < 4000) = true := decide_eq_true c3
          clear c3
          by_cases c4 : 0 ≤ x4_1
          · rw [if_pos c4] at H
            have c4b0 : decide (0 ≤ x4_1) = true := decide_eq_true c4
            clear c4
            have H' := aM_ H
            clear H
            have p138 : 0 ≤ (x4_1 : Int) := dT_
            have q138 : x4_1 < (l0.length : Int) := dT_
            obtain ⟨ad138, e138, hx138_0⟩ := Kd.at_int HR0.out x4_1 p138 q138
            cases e138
            replace hx138_0 := pw_cell_below HB.out hx138_0
            replace p138 := eq_true p138
            replace q138 := eq_true q138
            go_wp2
            go_roundg k1
            case measure => have := HK1.out; omega
            case rel => exact ⟨(Go.bits .and .i64 (wrap64 ((wrap64 ((wrap64 (x3_1 * 137)) + (wrap64 (rd l0 x4_1)))) + 11)) 1073741823), (wrap64 (x4_1 + 1)), (by first | rfl | (simp; done) | (simp [*]; done)), (by first | rfl | (simp; done) | (simp [*]; done)), H', ⟨by have := HK1.out; omega⟩, ⟨bw_⟩, ⟨by repeat (first | (with_reducible first | exact HBW.out | apply wA_ | apply wN_ | apply wD_) | exact HBW.out)⟩⟩
          · rw [if_neg c4] at H
            exact absurd H (by simp)
        · rw [if_neg c3] at H
          have c3b0 : decide (x4_1 < 4000) = false := decide_eq_false c3
          clear c3
          simp only [Option.some.injEq, Prod.mk.injEq] at H
          obtain ⟨rfl, rfl, rfl⟩ := H
          go_wp2_with (first | ((with_reducible refine gate_dst (N := 31) rfl ?_); refine box_event ?hg (N := 31) ?hd (cs := #[.slice A0 l0.length c0, .int .i64 0, .int .i64 x3_1]) (t := 227) ?hr ?_; (case hd => rfl); (case hg => rfl); (case hr => first | (go_simp; done) | (go_simp; rfl)); intro gb139 hg w5 hbox hb; have n0_ := aM_ (wS_ HBW.out hb); have n1_ := aM_ (wS_ (bw_) hb); have n2_ := aM_ (hbox); have n3_ := aM_ ((by rw [hg]; exact (sZ_ (by repeat (first | (with_reducible first | exact HBW.out | apply wA_ | apply wN_ | apply wD_) | exact HBW.out))) : w.heap.size ≤ gb139)); have n4_ := aM_ ((Nat.le_trans HW0.out (by rw [hg]; exact (sZ_ (by repeat (first | (with_reducible first | exact HBW.out | apply wA_ | apply wN_ | apply wD_) | exact HBW.out))) : w.heap.size ≤ gb139) : w0.heap.size ≤ gb139)); clear HBW HB; have HBW := n0_; have HB := n1_; have BK139 := n2_; have GW139 := n3_; have GE139 := n4_; clear n0_ n1_ n2_ n3_ n4_ hb hbox hg))
          go_ret
          exact ⟨_, rfl, (show IsS227 w0 _ gb139 l0 0 x3_1 from ⟨_, _, by (with_reducible repeat (first | refine bN_ ?_ _ | refine bD_ ?_ | refine bA_ ?_ _)); exact BK139.out, GE139.out, HR0.out⟩), bw_, by repeat (first | (with_reducible first | exact HBW.out | apply wA_ | apply wN_ | apply wD_ | refine wE_ ?_ GW139.out) | exact HBW.out)⟩
      · rw [if_neg c2] at H
        have c2b0 : decide (x4_1 < (l0.length : Int)) = false := decide_eq_false c2
        clear c2
        simp only [Option.some.injEq, Prod.mk.injEq] at H
        obtain ⟨rfl, rfl, rfl⟩ := H
        go_wp2_with (first | ((with_reducible refine gate_dst (N := 31) rfl ?_); refine box_event ?hg (N := 31) ?hd (cs := #[.slice A0 l0.length c0, .int .i64 0, .int .i64 x3_1]) (t := 227) ?hr ?_; (case hd => rfl); (case hg => rfl); (case hr => first | (go_simp; done) | (go_simp; rfl)); intro gb140 hg w6 hbox hb; have n0_ := aM_ (wS_ HBW.out hb); have n1_ := aM_ (wS_ (bw_) hb); have n2_ := aM_ (hbox); have n3_ := aM_ ((by rw [hg]; exact (sZ_ (by repeat (first | (with_reducible first | exact HBW.out | apply wA_ | apply wN_ | apply wD_) | exact HBW.out))) : w.heap.size ≤ gb140)); have n4_ := aM_ ((Nat.le_trans HW0.out (by rw [hg]; exact (sZ_ (by repeat (first | (with_reducible first | exact HBW.out | apply wA_ | apply wN_ | apply wD_) | exact HBW.out))) : w.heap.size ≤ gb140) : w0.heap.size ≤ gb140)); clear HBW HB; have HBW := n0_; have HB := n1_; have BK140 := n2_; have GW140 := n3_; have GE140 := n4_; clear n0_ n1_ n2_ n3_ n4_ hb hbox hg))
        go_ret
        exact ⟨_, rfl, (show IsS227 w0 _ gb140 l0 0 x3_1 from ⟨_, _, by (with_reducible repeat (first | refine bN_ ?_ _ | refine bD_ ?_ | refine bA_ ?_ _)); exact BK140.out, GE140.out, HR0.out⟩), bw_, by repeat (first | (with_reducible first | exact HBW.out | apply wA_ | apply wN_ | apply wD_ | refine wE_ ?_ GW140.out) | exact HBW.out)⟩

/-! ### spec_l1Byte: function 161 -/
def spec_l1Byte.f (s0_0 : List Int) (s0_1 : Int) (s0_2 : Int) : Option (Int × Int × Int) := if s0_1 < (s0_0.length : Int) then (if 0 ≤ s0_1 then (some (Go.bits .and .i64 (wrap64 ((Go.bits .and .i64 (Go.bits .xor .i64 ((wrap64 ((wrap64 (s0_2 * 6364136223846793005)) + 1442695040888963407)) / 8589934592) ((wrap64 ((wrap64 (s0_2 * 6364136223846793005)) + 1442695040888963407)) / 140737488355328)) 255) + (wrap64 (rd s0_0 s0_1)))) 255, wrap64 (s0_1 + 1), wrap64 ((wrap64 (s0_2 * 6364136223846793005)) + 1442695040888963407))) else (none)) else (some (Go.bits .and .i64 (Go.bits .xor .i64 ((wrap64 ((wrap64 (s0_2 * 6364136223846793005)) + 1442695040888963407)) / 8589934592) ((wrap64 ((wrap64 (s0_2 * 6364136223846793005)) + 1442695040888963407)) / 140737488355328)) 255, s0_1, wrap64 ((wrap64 (s0_2 * 6364136223846793005)) + 1442695040888963407)))
set_option maxHeartbeats 8000000 in
set_option maxRecDepth 100000 in
theorem spec_l1Byte.calls (g : Nat) (s0_0 : List Int) (s0_1 : Int) (s0_2 : Int) (r1 : Int) (r2 : Int) (r3 : Int) (w0 w : World) (hI : IsS227 w0 w g s0_0 s0_1 s0_2) (hB : Below w0.heap.size w0 w) (h : spec_l1Byte.f s0_0 s0_1 s0_2 = some (r1, r2, r3)) :
    Calls Try.prog 161 #[.pointer (some ⟨g, 0, none⟩)] w fun e w' => e = .returned (.int .i64 r1) ∧ IsS227 w0 w' g s0_0 r2 r3 ∧ Below w0.heap.size w0 w' ∧ KeepBut w w' g none := by
  have HI0 := aM_ hI
  have HK := aM_ (KeepBut.refl w g none)
  have HL := aM_ hB.size
  clear hI
  have HW0 := aM_ hB.size
  have HB := aM_ hB
  clear hB
  have H : (if s0_1 < (s0_0.length : Int) then (if 0 ≤ s0_1 then (some (Go.bits .and .i64 (wrap64 ((Go.bits .and .i64 (Go.bits .xor .i64 ((wrap64 ((wrap64 (s0_2 * 6364136223846793005)) + 1442695040888963407)) / 8589934592) ((wrap64 ((wrap64 (s0_2 * 6364136223846793005)) + 1442695040888963407)) / 140737488355328)) 255) + (wrap64 (rd s0_0 s0_1)))) 255, wrap64 (s0_1 + 1), wrap64 ((wrap64 (s0_2 * 6364136223846793005)) + 1442695040888963407))) else (none)) else (some (Go.bits .and .i64 (Go.bits .xor .i64 ((wrap64 ((wrap64 (s0_2 * 6364136223846793005)) + 1442695040888963407)) / 8589934592) ((wrap64 ((wrap64 (s0_2 * 6364136223846793005)) + 1442695040888963407)) / 140737488355328)) 255, s0_1, wrap64 ((wrap64 (s0_2 * 6364136223846793005)) + 1442695040888963407)))) = some (r1, r2, r3) := h
  clear h
  by_cases c2 : s0_1 < (s0_0.length : Int)
  · rw [if_pos c2] at H
    have c2b0 : decide (s0_1 < (s0_0.length : Int)) = true := decide_eq_true c2
    clear c2
    by_cases c3 : 0 ≤ s0_1
    · rw [if_pos c3] at H
      have c3b0 : decide (0 ≤ s0_1) = true := decide_eq_true c3
      clear c3
      simp only [Option.some.injEq, Prod.mk.injEq] at H
      obtain ⟨rfl, rfl, rfl⟩ := H
      obtain ⟨ASz4_0, cSz4_0, HGz4, hgz4, HSz4_0⟩ := HI0.out
      have hcz4_0 := cellS227_0 HGz4
      have hcz4_1 := cellS227_1 HGz4
      have hcz4_2 := cellS227_2 HGz4
      have hfz4_1 := blk_frozen HGz4 1
      have hfz4_2 := blk_frozen HGz4 2
      clear HGz4 hgz4
      have p141 : 0 ≤ (s0_1 : Int) := dT_
      have q141 : s0_1 < (s0_0.length : Int) := dT_
      obtain ⟨ad141, e141, hx141_0⟩ := Kd.at_int HSz4_0 s0_1 p141 q141
      cases e141
      have hn141_0 : ad141.block ≠ g := Nat.ne_of_lt (Nat.lt_of_lt_of_le (by have := World.block_lt_of_cell? _ _ hx141_0; first | rwa [add_block] at this | exact this) (IsS227.ge HI0.out))
      replace hx141_0 := pw_cell_below HB.out hx141_0
      replace hx141_0 := (cell_far (p := ⟨g, 2, none⟩) (by first | (rw [add_block]; exact hn141_0) | (show (Addr.add _ _).block ≠ _; rw [add_block]; exact hn141_0) | exact hn141_0) (.int .i64 (wrap64 ((wrap64 (s0_2 * 6364136223846793005)) + 1442695040888963407)))).trans hx141_0
      (try have hy141_0 := fun (n_ : Nat) => (show (((w.drewN n_).setCell ⟨g, 2, none⟩ (.int .i64 (wrap64 ((wrap64 (s0_2 * 6364136223846793005)) + 1442695040888963407))))).cell? _ = some _ from hx141_0))
      clear hn141_0
      replace p141 := eq_true p141
      replace q141 := eq_true q141
      go_enter Try.func161, Try.ntmps161
      go_wp2
      repeat (go_quiet (fail); try go_wp2)
      go_ret
      exact ⟨by first | rfl | (simp [errW_none, errW_some] <;> rfl) | (simp [*, errW_none, errW_some] <;> rfl), by repeat (first | (with_reducible first | exact HI0.out | apply IsS227.alloc | apply IsS227.drewN | apply IsS227.drew | apply IsS227.set_1 | apply IsS227.set_2) | exact HI0.out), by repeat (first | (with_reducible first | exact HB.out | apply wA_ | apply wN_ | apply wD_ | refine wE_ ?_ (IsS227.ge HI0.out)) | exact HB.out), by repeat (first | (with_reducible first | exact HK.out | apply KeepBut.set_ | apply keep_drewN | apply keep_drew | apply keep_alloc) | exact HK.out)⟩
    · rw [if_neg c3] at H
      exact absurd H (by simp)
  · rw [if_neg c2] at H
    have c2b0 : decide (s0_1 < (s0_0.length : Int)) = false := decide_eq_false c2
    clear c2
    simp only [Option.some.injEq, Prod.mk.injEq] at H
    obtain ⟨rfl, rfl, rfl⟩ := H
    obtain ⟨ASz5_0, cSz5_0, HGz5, hgz5, HSz5_0⟩ := HI0.out
    have hcz5_0 := cellS227_0 HGz5
    have hcz5_1 := cellS227_1 HGz5
    have hcz5_2 := cellS227_2 HGz5
    have hfz5_1 := blk_frozen HGz5 1
    have hfz5_2 := blk_frozen HGz5 2
    clear HGz5 hgz5
    go_enter Try.func161, Try.ntmps161
    go_wp2
    repeat (go_quiet (fail); try go_wp2)
    go_ret
    exact ⟨by first | rfl | (simp [errW_none, errW_some] <;> rfl) | (simp [*, errW_none, errW_some] <;> rfl), by repeat (first | (with_reducible first | exact HI0.out | apply IsS227.alloc | apply IsS227.drewN | apply IsS227.drew | apply IsS227.set_1 | apply IsS227.set_2) | exact HI0.out), by repeat (first | (with_reducible first | exact HB.out | apply wA_ | apply wN_ | apply wD_ | refine wE_ ?_ (IsS227.ge HI0.out)) | exact HB.out), by repeat (first | (with_reducible first | exact HK.out | apply KeepBut.set_ | apply keep_drewN | apply keep_drew | apply keep_alloc) | exact HK.out)⟩

end Go.Proofs.Ytlogjmgghnifoaa.PFnHandovers
