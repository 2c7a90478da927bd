/- The functions that the law reaches, as plain Lean functions, each with the proof that the Go code comes to its answers; conditions: those that each theorem names. (printed by a program of this session) -/
import Derived.Test.YtlogjmgghnifoaaPFnHandoversx0
namespace Go.Proofs.Ytlogjmgghnifoaa.PFnHandovers
open Go.RowKit Go.Proofs.YtlogjmgghnifoaaW.PrintWords Go.Proofs.YtlogjmgghnifoaaW.PrintLast Go.Proofs.YtlogjmgghnifoaaW.PrintMore
attribute [local go_sem] max2_int min2_int max_two min_two max_three min_three max_four min_four   -- for this text's walks alone
set_option linter.unusedVariables false
set_option linter.unusedSimpArgs false

/-! ### spec_NeighborsIn: function 102 -/
mutual
def spec_NeighborsIn.l0 : Nat → List (S166) → Int → List Int → Int → Option (List Int)
  | 0, _, _, _, _ => none
  | k + 1, x0, x1, x5, x6 => if x6 < (x0.length : Int) then (if 0 ≤ x6 then (if ((rd_T166 x0 x6).f0) = x1 then (spec_NeighborsIn.j1 k x0 x1 x5 x6 ((rd_T166 x0 x6).f1)) else (if ((rd_T166 x0 x6).f1) = x1 then (spec_NeighborsIn.j1 k x0 x1 x5 x6 ((rd_T166 x0 x6).f0)) else (spec_NeighborsIn.l0 k x0 x1 x5 (wrap64 (x6 + 1))))) else (none)) else (some x5)
def spec_NeighborsIn.j1 : Nat → List (S166) → Int → List Int → Int → Int → Option (List Int)
  | 0, _, _, _, _, _ => none
  | k + 1, x0, x1, x5, x6, x7 => spec_NeighborsIn.l1 k x0 x1 x5 x6 x7 0
def spec_NeighborsIn.l1 : Nat → List (S166) → Int → List Int → Int → Int → Int → Option (List Int)
  | 0, _, _, _, _, _, _ => none
  | k + 1, x0, x1, x5, x6, x7, x8 => if x8 < (x5.length : Int) then (if 0 ≤ x8 then (spec_NeighborsIn.j3 k x0 x1 x5 x6 x7 x8 (decide ((rd x5 x8) < x7))) else (none)) else (spec_NeighborsIn.j3 k x0 x1 x5 x6 x7 x8 false)
def spec_NeighborsIn.j3 : Nat → List (S166) → Int → List Int → Int → Int → Int → Bool → Option (List Int)
  | 0, _, _, _, _, _, _, _ => none
  | k + 1, x0, x1, x5, x6, x7, x8, x51 => if x51 = true then (spec_NeighborsIn.l1 k x0 x1 x5 x6 x7 (wrap64 (x8 + 1))) else (if x8 = (x5.length : Int) then (spec_NeighborsIn.j4 k x0 x1 x5 x6 x7 x8 true) else (if 0 ≤ x8 then (if x8 < (x5.length : Int) then (spec_NeighborsIn.j4 k x0 x1 x5 x6 x7 x8 ((rd x5 x8) != x7)) else (none)) else (none)))
def spec_NeighborsIn.j4 : Nat → List (S166) → Int → List Int → Int → Int → Int → Bool → Option (List Int)
  | 0, _, _, _, _, _, _, _ => none
  | k + 1, x0, x1, x5, x6, x7, x8, x65 => if x65 = true then ((some (([] : List Int) : List Int)).bind fun y224 => (if 0 ≤ x8 then (if x8 ≤ (x5.length : Int) then ((some (x5.take (x8 : Int).toNat : List Int)).bind fun y227 => (if y224.length + y227.length < 17592186044416 then ((some (y224 ++ y227 : List Int)).bind fun y231 => ((some (([x7] : List Int) : List Int)).bind fun y234 => (if y231.length + y234.length < 17592186044416 then ((some (y231 ++ y234 : List Int)).bind fun y237 => ((some (x5.drop (x8 : Int).toNat : List Int)).bind fun y240 => (if y237.length + y240.length < 17592186044416 then (spec_NeighborsIn.l0 k x0 x1 (y237 ++ y240) (wrap64 (x6 + 1))) else (none)))) else (none)))) else (none))) else (none)) else (none))) else (spec_NeighborsIn.l0 k x0 x1 x5 (wrap64 (x6 + 1)))
end
def spec_NeighborsIn.f (k : Nat) (l0 : List (S166)) (a1 : Int) : Option (List Int) := spec_NeighborsIn.l0 k l0 a1 (([] : List Int)) 0
def spec_NeighborsIn.T14 : Bool × List (List Nat × List Nat) := (true, [([], []), ([], []), ([], []), ([1, 2], [1, 2]), ([0, 3], [0, 3]), ([], []), ([5], [5]), ([4, 6, 4], [4, 6]), ([], []), ([], []), ([8, 9], [8, 9]), ([7, 10, 7], [7, 10]), ([11, 11, 0, 1, 2, 3, 4, 5, 6, 7, 8, 9, 10, 11], [1, 8, 11])])
def spec_NeighborsIn.B14 : List Nat := [0, 0, 0, 6, 15, 0, 32, 127, 0, 0, 768, 2047, 4095]
theorem spec_NeighborsIn.tab14 : rtab .any (opsOf Try.f102 14) = spec_NeighborsIn.T14 := by kernel_rfl
theorem spec_NeighborsIn.bits14 : waitsOk spec_NeighborsIn.T14.2 spec_NeighborsIn.B14 = true := by kernel_rfl
set_option maxHeartbeats 8000000 in
set_option maxRecDepth 100000 in
theorem spec_NeighborsIn.calls (k : Nat) (A0 : Option Addr) (c0 : Nat) (l0 : List (S166)) (a1 : Int) (r : List Int) (w : World) (hr0 : Kd.C k166 w A0 l0.length l0) (hc0 : l0.length ≤ c0) (h : spec_NeighborsIn.f k l0 a1 = some r) :
  Calls Try.prog 102 #[.slice A0 l0.length c0, .int .i64 a1] w fun e w' => ∃ v0_ : Value, e = .returned (v0_) ∧ Kd.R (Kd.int .i64) 3 w' w.heap.size (fun _ => True) v0_ r ∧ Below w.heap.size w w' := by
 have HR0 := aM_ hr0; have HC0 := aM_ hc0; clear hr0 hc0; have HB := aM_ (Below.refl w.heap.size w)
 have H : (spec_NeighborsIn.l0 k l0 a1 (([] : List Int)) 0) = some r := h
 clear h
 obtain ⟨y215, hy215⟩ : ∃ y_ : List Int, y_ = (([] : List Int)) := ⟨_, rfl⟩
 replace H : (spec_NeighborsIn.l0 k l0 a1 y215 0) = some r := by first | (rw [hy215]; with_reducible exact H) | (have H2_ := (Option.bind_some _ _).symm.trans H; rw [hy215]; with_reducible exact H2_) | (have H2_ := (Option.bind_some _ _).symm.trans H; with_reducible exact H2_) | with_reducible exact H | (rw [hy215]; exact H) | exact H
 have Ny215 := aM_ hy215; clear hy215
 have H' := aM_ H
 clear H
 go_enter Try.func102, Try.ntmps102
 go_wp2_with (first | ((with_reducible refine gate_dst (N := 9) rfl ?_); refine Kd.R_lit (Kd.int .i64) _ 3 ?hg (N := 9) ?hd (xs := ([] : List Int)) (inner := []) (ok := fun _ => True) (okp := fun _ => True) ?hr ?hp (fun _ hk => hk) trivial (Below.refl _ _) (Nat.le_refl _) (by simp) ?_; (case hd => rfl); (case hg => rfl); (case hr => first | (go_simp; done) | (go_simp; rfl)); (case hp => exact (Reps.none _ _)); intro v216 w3 ho4 hb hg_ hnew_; clear hg_ hnew_; (first | rw [← Ny215.out] at ho4 | (simp only [Int.reduceToNat] at ho4; rw [← Ny215.out] at ho4)); have n0_ := aM_ (Kd.R_lower ho4 (sZ_ (bw_))); have n1_ := aM_ (wS_ (bw_) hb); clear HB; have HO217 := n0_; have HB := n1_; clear n0_ n1_ hb ho4))
 go_loopg [5, 6] k (fun kq v5 v6 w' => ∃ (x5_1 : List Int) (x6_1 : Int), v6 = .int .i64 x6_1 ∧ Aside0 (spec_NeighborsIn.l0 kq l0 a1 x5_1 x6_1 = some r) ∧ Aside0 (kq ≤ k) ∧ Aside0 (Kd.R (Kd.int .i64) 3 w' w.heap.size (fun _ => True) v5 x5_1) ∧ Aside0 (Below w.heap.size w w'))
 case atStart => exact ⟨(y215), (0), (by first | rfl | (simp; done) | (simp [*]; done)), H', ⟨Nat.le_refl _⟩, ⟨by (with_reducible repeat (first | apply rA_ | apply rN_ | apply rD_)); exact HO217.out⟩, ⟨bw_⟩⟩
 case round =>
  clear H'
  obtain ⟨x5_1, x6_1, rfl, HA, HK1, HO_5, HB⟩ := hrel
  cases gk with
  | zero => exact absurd HA.out (by simp [spec_NeighborsIn.l0])
  | succ k1 =>
   have H := HA.out; clear HA
   simp only [spec_NeighborsIn.l0] at H
   by_cases c5 : x6_1 < (l0.length : Int)
   ·rw [if_pos c5] at H
    have c5b0 : decide (x6_1 < (l0.length : Int)) = true := decide_eq_true c5
    clear c5
    by_cases c6 : 0 ≤ x6_1
    ·rw [if_pos c6] at H
     have c6b0 : decide (0 ≤ x6_1) = true := decide_eq_true c6
     clear c6; have HC7 := aM_ H; clear H
     have p218 : 0 ≤ (x6_1 : Int) := dT_
     have q218 : x6_1 < (l0.length : Int) := dT_
     obtain ⟨ad218, e218, hx218_0, hx218_1⟩ := at_T166 HR0.out x6_1 p218 q218
     cases e218
     replace hx218_0 := (HB.out.cell (World.block_lt_of_cell? w _ hx218_0)).trans hx218_0
     replace hx218_1 := (HB.out.cell (World.block_lt_of_cell? w _ hx218_1)).trans hx218_1
     replace p218 := eq_true p218; replace q218 := eq_true q218
     go_upto_if 22 with (fail)
     go_cut [7] (fun v7 wc => ∃ (kq : Nat) (x7_6 : Int), v7 = .int .i64 x7_6 ∧ Aside0 (spec_NeighborsIn.j1 kq l0 a1 x5_1 x6_1 x7_6 = some r) ∧ Aside0 (kq ≤ k1) ∧ Aside0 (Kd.R (Kd.int .i64) 3 wc w.heap.size (fun _ => True) u5 x5_1) ∧ Aside0 (Below w.heap.size w wc))
     case first =>
      have H := HC7.out; clear HC7
      by_cases c8 : ((rd_T166 l0 x6_1).f0) = a1
      ·rw [if_pos c8] at H
       have c8b0 : (((rd_T166 l0 x6_1).f0) == a1) = true := beq_iff_eq.mpr c8
       have c8b1 : (((rd_T166 l0 x6_1).f0) != a1) = false := bne_eq_false_iff_eq.mpr c8
       clear c8
       (first | rw [c8b0] | (simp only [i64_w, i32_w]; rw [c8b0]) | skip)
       have H' := aM_ H
       clear H
       have p219 : 0 ≤ (x6_1 : Int) := dT_
       have q219 : x6_1 < (l0.length : Int) := dT_
       obtain ⟨ad219, e219, hx219_0, hx219_1⟩ := at_T166 HR0.out x6_1 p219 q219
       obtain rfl : ad218 = ad219 := (by injection e219)
       replace hx219_0 := (HB.out.cell (World.block_lt_of_cell? w _ hx219_0)).trans hx219_0
       replace hx219_1 := (HB.out.cell (World.block_lt_of_cell? w _ hx219_1)).trans hx219_1
       replace p219 := eq_true p219; replace q219 := eq_true q219
       go_wp2
       go_meet
       case rel => exact ⟨_, ((rd_T166 l0 x6_1).f1), (by first | rfl | (simp; done) | (simp [*]; done)), H', ⟨by have := HK1.out; first | omega | exact Nat.le_refl _⟩, ⟨by (with_reducible repeat (first | apply rA_ | apply rN_ | apply rD_)); exact HO_5.out⟩, ⟨bw_⟩⟩
      ·rw [if_neg c8] at H
       have c8b0 : (((rd_T166 l0 x6_1).f0) == a1) = false := beq_eq_false_iff_ne.mpr c8
       have c8b1 : (((rd_T166 l0 x6_1).f0) != a1) = true := bne_iff_ne.mpr c8
       (first | rw [c8b0] | (simp only [i64_w, i32_w]; rw [c8b0]) | skip)
       by_cases c9 : ((rd_T166 l0 x6_1).f1) = a1
       ·rw [if_pos c9] at H
        have c9b0 : (((rd_T166 l0 x6_1).f1) == a1) = true := beq_iff_eq.mpr c9
        have c9b1 : (((rd_T166 l0 x6_1).f1) != a1) = false := bne_eq_false_iff_eq.mpr c9
        clear c9
        have H' := aM_ H
        clear H
        have p220 : 0 ≤ (x6_1 : Int) := dT_
        have q220 : x6_1 < (l0.length : Int) := dT_
        obtain ⟨ad220, e220, hx220_0, hx220_1⟩ := at_T166 HR0.out x6_1 p220 q220
        obtain rfl : ad218 = ad220 := (by injection e220)
        replace hx220_0 := (HB.out.cell (World.block_lt_of_cell? w _ hx220_0)).trans hx220_0
        replace hx220_1 := (HB.out.cell (World.block_lt_of_cell? w _ hx220_1)).trans hx220_1
        replace p220 := eq_true p220; replace q220 := eq_true q220
        have p221 : 0 ≤ (x6_1 : Int) := dT_
        have q221 : x6_1 < (l0.length : Int) := dT_
        obtain ⟨ad221, e221, hx221_0, hx221_1⟩ := at_T166 HR0.out x6_1 p221 q221
        obtain rfl : ad218 = ad221 := (by injection e221)
        replace hx221_0 := (HB.out.cell (World.block_lt_of_cell? w _ hx221_0)).trans hx221_0
        replace hx221_1 := (HB.out.cell (World.block_lt_of_cell? w _ hx221_1)).trans hx221_1
        replace p221 := eq_true p221; replace q221 := eq_true q221
        go_wp2
        go_meet
        case rel => exact ⟨_, ((rd_T166 l0 x6_1).f0), (by first | rfl | (simp; done) | (simp [*]; done)), H', ⟨by have := HK1.out; first | omega | exact Nat.le_refl _⟩, ⟨by (with_reducible repeat (first | apply rA_ | apply rN_ | apply rD_)); exact HO_5.out⟩, ⟨bw_⟩⟩
       ·rw [if_neg c9] at H
        have c9b0 : (((rd_T166 l0 x6_1).f1) == a1) = false := beq_eq_false_iff_ne.mpr c9
        have c9b1 : (((rd_T166 l0 x6_1).f1) != a1) = true := bne_iff_ne.mpr c9
        have H' := aM_ H
        clear H
        have p220 : 0 ≤ (x6_1 : Int) := dT_
        have q220 : x6_1 < (l0.length : Int) := dT_
        obtain ⟨ad220, e220, hx220_0, hx220_1⟩ := at_T166 HR0.out x6_1 p220 q220
        obtain rfl : ad218 = ad220 := (by injection e220)
        replace hx220_0 := (HB.out.cell (World.block_lt_of_cell? w _ hx220_0)).trans hx220_0
        replace hx220_1 := (HB.out.cell (World.block_lt_of_cell? w _ hx220_1)).trans hx220_1
        replace p220 := eq_true p220; replace q220 := eq_true q220
        go_wp2
        go_roundg k1
        case measure => have := HK1.out; omega
        case rel => exact ⟨(x5_1), (wrap64 (x6_1 + 1)), (by first | rfl | (simp; done) | (simp [*]; done)), H', ⟨by have := HK1.out; omega⟩, ⟨by (with_reducible repeat (first | apply rA_ | apply rN_ | apply rD_)); exact HO_5.out⟩, ⟨bw_⟩⟩
     case rest =>
      clear HC7
      try clear hx2
      try clear c5b0
      try clear c6b0
      try clear c8b0
      try clear c8b1
      try clear c9b0
      try clear c9b1
      try clear hx218_0
      try clear hx218_1
      try clear hx219_0
      try clear hx219_1
      try clear hx220_0
      try clear hx220_1
      try clear hx221_0
      try clear hx221_1
      obtain ⟨kq, x7_6, rfl, HA, HJ6, HO_5, HB⟩ := hcut
      cases kq with
      | zero => exact absurd HA.out (by simp [spec_NeighborsIn.j1])
      | succ kj6 =>
       have H := HA.out; clear HA
       simp only [spec_NeighborsIn.j1] at H
       have H' := aM_ H
       clear H
       go_wp2
       go_loopg [8] kj6 (fun kq v8 w' => ∃ (x8_3 : Int), v8 = .int .i64 x8_3 ∧ Aside0 (spec_NeighborsIn.l1 kq l0 a1 x5_1 x6_1 x7_6 x8_3 = some r) ∧ Aside0 (kq ≤ kj6) ∧ Aside0 (Kd.R (Kd.int .i64) 3 w' w.heap.size (fun _ => True) u5 x5_1) ∧ Aside0 (Below w.heap.size w w'))
       case atStart => exact ⟨(0), (by first | rfl | (simp; done) | (simp [*]; done)), H', ⟨Nat.le_refl _⟩, ⟨by (with_reducible repeat (first | apply rA_ | apply rN_ | apply rD_)); exact HO_5.out⟩, ⟨bw_⟩⟩
       case round =>
        clear H'
        try clear hx2
        try clear c5b0
        try clear c6b0
        try clear c8b0
        try clear c8b1
        try clear c9b0
        try clear c9b1
        try clear hx218_0
        try clear hx218_1
        try clear hx219_0
        try clear hx219_1
        try clear hx220_0
        try clear hx220_1
        try clear hx221_0
        try clear hx221_1
        obtain ⟨x8_3, rfl, HA, HK3, HO_5, HB⟩ := hrel
        cases gk with
        | zero => exact absurd HA.out (by simp [spec_NeighborsIn.l1])
        | succ k3 =>
         have H := HA.out; clear HA
         simp only [spec_NeighborsIn.l1] at H
         have HC10 := aM_ H; clear H
         go_upto_region 11 with (fail)
         go_cut [51] (fun v51 wc => ∃ (kq : Nat) (x51_9 : Bool), v51 = .bool x51_9 ∧ Aside0 (spec_NeighborsIn.j3 kq l0 a1 x5_1 x6_1 x7_6 x8_3 x51_9 = some r) ∧ Aside0 (kq ≤ k3) ∧ Aside0 (Kd.R (Kd.int .i64) 3 wc w.heap.size (fun _ => True) u5 x5_1) ∧ Aside0 (Below w.heap.size w wc))
         case first =>
          have H := HC10.out; clear HC10
          by_cases c11 : x8_3 < (x5_1.length : Int)
          ·rw [if_pos c11] at H
           have c11b0 : decide (x8_3 < (x5_1.length : Int)) = true := decide_eq_true c11
           clear c11
           (first | rw [c11b0] | (simp only [i64_w, i32_w]; rw [c11b0]) | skip)
           by_cases c12 : 0 ≤ x8_3
           ·rw [if_pos c12] at H
            have c12b0 : decide (0 ≤ x8_3) = true := decide_eq_true c12
            clear c12
            have H' := aM_ H
            clear H
            obtain ⟨Ao13, co13, eo13⟩ := Kd.R_slice HO_5.out
            subst eo13
            have p222 : 0 ≤ (x8_3 : Int) := dT_
            have q222 : x8_3 < (x5_1.length : Int) := dT_
            obtain ⟨ad222, e222, hx222_0⟩ := Kd.at_int (Kd.R_reads' HO_5.out).2.2 x8_3 p222 q222
            cases e222
            replace p222 := eq_true p222; replace q222 := eq_true q222
            go_wp2
            go_meet
            case rel => exact ⟨_, (decide ((rd x5_1 x8_3) < x7_6)), (by first | rfl | (simp; done) | (simp [*]; done)), H', ⟨by have := HK1.out; have := HJ6.out; have := HK3.out; first | omega | exact Nat.le_refl _⟩, ⟨by (with_reducible repeat (first | apply rA_ | apply rN_ | apply rD_)); exact HO_5.out⟩, ⟨bw_⟩⟩
           ·rw [if_neg c12] at H
            exact absurd H (by simp)
          ·rw [if_neg c11] at H
           have c11b0 : decide (x8_3 < (x5_1.length : Int)) = false := decide_eq_false c11
           clear c11
           (first | rw [c11b0] | (simp only [i64_w, i32_w]; rw [c11b0]) | skip)
           have H' := aM_ H
           clear H
           obtain ⟨Ao14, co14, eo14⟩ := Kd.R_slice HO_5.out
           subst eo14
           go_wp2
           go_meet
           case rel => exact ⟨_, (false), (by first | rfl | (simp; done) | (simp [*]; done)), H', ⟨by have := HK1.out; have := HJ6.out; have := HK3.out; first | omega | exact Nat.le_refl _⟩, ⟨by (with_reducible repeat (first | apply rA_ | apply rN_ | apply rD_)); exact HO_5.out⟩, ⟨bw_⟩⟩
         case rest =>
          clear HC10
          try clear hx2
          try clear c5b0
          try clear c6b0
          try clear c8b0
          try clear c8b1
          try clear c9b0
          try clear c9b1
          try clear c11b0
          try clear c12b0
          try clear hx218_0
          try clear hx218_1
          try clear hx219_0
          try clear hx219_1
          try clear hx220_0
          try clear hx220_1
          try clear hx221_0
          try clear hx221_1
          try clear hx222_0
          obtain ⟨kq, x51_9, rfl, HA, HJ9, HO_5, HB⟩ := hcut
          cases kq with
          | zero => exact absurd HA.out (by simp [spec_NeighborsIn.j3])
          | succ kj9 =>
           have H := HA.out; clear HA
           simp only [spec_NeighborsIn.j3] at H
           by_cases c15 : x51_9 = true
           ·subst c15
            have H1 : (spec_NeighborsIn.l1 kj9 l0 a1 x5_1 x6_1 x7_6 (wrap64 (x8_3 + 1))) = some r := by rw [if_pos rfl] at H; exact H
            clear H; have H := H1; clear H1
            have H' := aM_ H
            clear H
            go_wp2
            go_roundg kj9
            case measure => have := HK1.out; have := HJ6.out; have := HK3.out; have := HJ9.out; omega
            case rel => exact ⟨(wrap64 (x8_3 + 1)), (by first | rfl | (simp; done) | (simp [*]; done)), H', ⟨by have := HK1.out; have := HJ6.out; have := HK3.out; have := HJ9.out; omega⟩, ⟨by (with_reducible repeat (first | apply rA_ | apply rN_ | apply rD_)); exact HO_5.out⟩, ⟨bw_⟩⟩
           ·replace c15 := Bool.eq_false_iff.mpr c15
            subst c15
            have H1 : (if x8_3 = (x5_1.length : Int) then (spec_NeighborsIn.j4 kj9 l0 a1 x5_1 x6_1 x7_6 x8_3 true) else (if 0 ≤ x8_3 then (if x8_3 < (x5_1.length : Int) then (spec_NeighborsIn.j4 kj9 l0 a1 x5_1 x6_1 x7_6 x8_3 ((rd x5_1 x8_3) != x7_6)) else (none)) else (none))) = some r := by rw [if_neg (show ¬ (false = true) by decide)] at H; exact H
            clear H; have H := H1; clear H1; have HC16 := aM_ H; clear H
            go_upto_region 13 with (fail)
            go_cut [65] (fun v65 wc => ∃ (kq : Nat) (x65_15 : Bool), v65 = .bool x65_15 ∧ Aside0 (spec_NeighborsIn.j4 kq l0 a1 x5_1 x6_1 x7_6 x8_3 x65_15 = some r) ∧ Aside0 (kq ≤ kj9) ∧ Aside0 (Kd.R (Kd.int .i64) 3 wc w.heap.size (fun _ => True) u5 x5_1) ∧ Aside0 (Below w.heap.size w wc))
            case first =>
             have H := HC16.out; clear HC16
             by_cases c17 : x8_3 = (x5_1.length : Int)
             ·rw [if_pos c17] at H
              have c17b0 : (x8_3 == (x5_1.length : Int)) = true := beq_iff_eq.mpr c17
              have c17b1 : (x8_3 != (x5_1.length : Int)) = false := bne_eq_false_iff_eq.mpr c17
              clear c17
              (first | rw [c17b0] | (simp only [i64_w, i32_w]; rw [c17b0]) | skip)
              have H' := aM_ H
              clear H
              obtain ⟨Ao18, co18, eo18⟩ := Kd.R_slice HO_5.out
              subst eo18
              go_wp2
              go_meet
              case rel => exact ⟨_, (true), (by first | rfl | (simp; done) | (simp [*]; done)), H', ⟨by have := HK1.out; have := HJ6.out; have := HK3.out; have := HJ9.out; first | omega | exact Nat.le_refl _⟩, ⟨by (with_reducible repeat (first | apply rA_ | apply rN_ | apply rD_)); exact HO_5.out⟩, ⟨bw_⟩⟩
             ·rw [if_neg c17] at H
              have c17b0 : (x8_3 == (x5_1.length : Int)) = false := beq_eq_false_iff_ne.mpr c17
              have c17b1 : (x8_3 != (x5_1.length : Int)) = true := bne_iff_ne.mpr c17
              (first | rw [c17b0] | (simp only [i64_w, i32_w]; rw [c17b0]) | skip)
              by_cases c19 : 0 ≤ x8_3
              ·rw [if_pos c19] at H
               have c19b0 : decide (0 ≤ x8_3) = true := decide_eq_true c19
               clear c19
               by_cases c20 : x8_3 < (x5_1.length : Int)
               ·rw [if_pos c20] at H
                have c20b0 : decide (x8_3 < (x5_1.length : Int)) = true := decide_eq_true c20
                clear c20
                have H' := aM_ H
                clear H
                obtain ⟨Ao21, co21, eo21⟩ := Kd.R_slice HO_5.out
                subst eo21
                have p223 : 0 ≤ (x8_3 : Int) := dT_
                have q223 : x8_3 < (x5_1.length : Int) := dT_
                obtain ⟨ad223, e223, hx223_0⟩ := Kd.at_int (Kd.R_reads' HO_5.out).2.2 x8_3 p223 q223
                cases e223
                replace p223 := eq_true p223; replace q223 := eq_true q223
                go_wp2
                go_meet
                case rel => exact ⟨_, (((rd x5_1 x8_3) != x7_6)), (by first | rfl | (simp; done) | (simp [*]; done)), H', ⟨by have := HK1.out; have := HJ6.out; have := HK3.out; have := HJ9.out; first | omega | exact Nat.le_refl _⟩, ⟨by (with_reducible repeat (first | apply rA_ | apply rN_ | apply rD_)); exact HO_5.out⟩, ⟨bw_⟩⟩
               ·rw [if_neg c20] at H
                exact absurd H (by simp)
              ·rw [if_neg c19] at H
               exact absurd H (by simp)
            case rest =>
             clear HC16
             try clear hx2
             try clear c5b0
             try clear c6b0
             try clear c8b0
             try clear c8b1
             try clear c9b0
             try clear c9b1
             try clear c11b0
             try clear c12b0
             try clear c17b0
             try clear c17b1
             try clear c19b0
             try clear c20b0
             try clear hx21
             try clear hx218_0
             try clear hx218_1
             try clear hx219_0
             try clear hx219_1
             try clear hx220_0
             try clear hx220_1
             try clear hx221_0
             try clear hx221_1
             try clear hx222_0
             try clear hx223_0
             obtain ⟨kq, x65_15, rfl, HA, HJ15, HO_5, HB⟩ := hcut
             cases kq with
             | zero => exact absurd HA.out (by simp [spec_NeighborsIn.j4])
             | succ kj15 =>
              have H := HA.out; clear HA
              simp only [spec_NeighborsIn.j4] at H
              by_cases c22 : x65_15 = true
              ·subst c22
               have H1 : ((some (([] : List Int) : List Int)).bind fun y224 => (if 0 ≤ x8_3 then (if x8_3 ≤ (x5_1.length : Int) then ((some (x5_1.take (x8_3 : Int).toNat : List Int)).bind fun y227 => (if y224.length + y227.length < 17592186044416 then ((some (y224 ++ y227 : List Int)).bind fun y231 => ((some (([x7_6] : List Int) : List Int)).bind fun y234 => (if y231.length + y234.length < 17592186044416 then ((some (y231 ++ y234 : List Int)).bind fun y237 => ((some (x5_1.drop (x8_3 : Int).toNat : List Int)).bind fun y240 => (if y237.length + y240.length < 17592186044416 then (spec_NeighborsIn.l0 kj15 l0 a1 (y237 ++ y240) (wrap64 (x6_1 + 1))) else (none)))) else (none)))) else (none))) else (none)) else (none))) = some r := by rw [if_pos rfl] at H; exact H
               clear H; have H := H1; clear H1
               obtain ⟨y224, hy224⟩ : ∃ y_ : List Int, y_ = (([] : List Int)) := ⟨_, rfl⟩
               replace H : (if 0 ≤ x8_3 then (if x8_3 ≤ (x5_1.length : Int) then ((some (x5_1.take (x8_3 : Int).toNat : List Int)).bind fun y227 => (if y224.length + y227.length < 17592186044416 then ((some (y224 ++ y227 : List Int)).bind fun y231 => ((some (([x7_6] : List Int) : List Int)).bind fun y234 => (if y231.length + y234.length < 17592186044416 then ((some (y231 ++ y234 : List Int)).bind fun y237 => ((some (x5_1.drop (x8_3 : Int).toNat : List Int)).bind fun y240 => (if y237.length + y240.length < 17592186044416 then (spec_NeighborsIn.l0 kj15 l0 a1 (y237 ++ y240) (wrap64 (x6_1 + 1))) else (none)))) else (none)))) else (none))) else (none)) else (none)) = some r := by first | (rw [hy224]; with_reducible exact H) | (have H2_ := (Option.bind_some _ _).symm.trans H; rw [hy224]; with_reducible exact H2_) | (have H2_ := (Option.bind_some _ _).symm.trans H; with_reducible exact H2_) | with_reducible exact H | (rw [hy224]; exact H) | exact H
               have Ny224 := aM_ hy224; clear hy224
               by_cases c23 : 0 ≤ x8_3
               ·rw [if_pos c23] at H
                have c23b0 := eq_true c23
                have c23b1 : decide (0 ≤ x8_3) = true := decide_eq_true c23
                clear c23
                by_cases c24 : x8_3 ≤ (x5_1.length : Int)
                ·rw [if_pos c24] at H
                 have c24b0 := eq_true c24
                 have c24b1 : decide (x8_3 ≤ (x5_1.length : Int)) = true := decide_eq_true c24
                 clear c24
                 obtain ⟨y227, hy227⟩ : ∃ y_ : List Int, y_ = (x5_1.take (x8_3 : Int).toNat) := ⟨_, rfl⟩
                 replace H : (if y224.length + y227.length < 17592186044416 then ((some (y224 ++ y227 : List Int)).bind fun y231 => ((some (([x7_6] : List Int) : List Int)).bind fun y234 => (if y231.length + y234.length < 17592186044416 then ((some (y231 ++ y234 : List Int)).bind fun y237 => ((some (x5_1.drop (x8_3 : Int).toNat : List Int)).bind fun y240 => (if y237.length + y240.length < 17592186044416 then (spec_NeighborsIn.l0 kj15 l0 a1 (y237 ++ y240) (wrap64 (x6_1 + 1))) else (none)))) else (none)))) else (none)) = some r := by first | (rw [hy227]; with_reducible exact H) | (have H2_ := (Option.bind_some _ _).symm.trans H; rw [hy227]; with_reducible exact H2_) | (have H2_ := (Option.bind_some _ _).symm.trans H; with_reducible exact H2_) | with_reducible exact H | (rw [hy227]; exact H) | exact H
                 have Ny227 := aM_ hy227; clear hy227
                 by_cases c25 : y224.length + y227.length < 17592186044416
                 ·rw [if_pos c25] at H
                  have LMc25 := aM_ c25; clear c25
                  obtain ⟨y231, hy231⟩ : ∃ y_ : List Int, y_ = (y224 ++ y227) := ⟨_, rfl⟩
                  replace H : ((some (([x7_6] : List Int) : List Int)).bind fun y234 => (if y231.length + y234.length < 17592186044416 then ((some (y231 ++ y234 : List Int)).bind fun y237 => ((some (x5_1.drop (x8_3 : Int).toNat : List Int)).bind fun y240 => (if y237.length + y240.length < 17592186044416 then (spec_NeighborsIn.l0 kj15 l0 a1 (y237 ++ y240) (wrap64 (x6_1 + 1))) else (none)))) else (none))) = some r := by first | (rw [hy231]; with_reducible exact H) | (have H2_ := (Option.bind_some _ _).symm.trans H; rw [hy231]; with_reducible exact H2_) | (have H2_ := (Option.bind_some _ _).symm.trans H; with_reducible exact H2_) | with_reducible exact H | (rw [hy231]; exact H) | exact H
                  have Ny231 := aM_ hy231; clear hy231
                  obtain ⟨y234, hy234⟩ : ∃ y_ : List Int, y_ = (([x7_6] : List Int)) := ⟨_, rfl⟩
                  replace H : (if y231.length + y234.length < 17592186044416 then ((some (y231 ++ y234 : List Int)).bind fun y237 => ((some (x5_1.drop (x8_3 : Int).toNat : List Int)).bind fun y240 => (if y237.length + y240.length < 17592186044416 then (spec_NeighborsIn.l0 kj15 l0 a1 (y237 ++ y240) (wrap64 (x6_1 + 1))) else (none)))) else (none)) = some r := by first | (rw [hy234]; with_reducible exact H) | (have H2_ := (Option.bind_some _ _).symm.trans H; rw [hy234]; with_reducible exact H2_) | (have H2_ := (Option.bind_some _ _).symm.trans H; with_reducible exact H2_) | with_reducible exact H | (rw [hy234]; exact H) | exact H
                  have Ny234 := aM_ hy234; clear hy234
                  by_cases c26 : y231.length + y234.length < 17592186044416
                  ·rw [if_pos c26] at H
                   have LMc26 := aM_ c26; clear c26
                   obtain ⟨y237, hy237⟩ : ∃ y_ : List Int, y_ = (y231 ++ y234) := ⟨_, rfl⟩
                   replace H : ((some (x5_1.drop (x8_3 : Int).toNat : List Int)).bind fun y240 => (if y237.length + y240.length < 17592186044416 then (spec_NeighborsIn.l0 kj15 l0 a1 (y237 ++ y240) (wrap64 (x6_1 + 1))) else (none))) = some r := by first | (rw [hy237]; with_reducible exact H) | (have H2_ := (Option.bind_some _ _).symm.trans H; rw [hy237]; with_reducible exact H2_) | (have H2_ := (Option.bind_some _ _).symm.trans H; with_reducible exact H2_) | with_reducible exact H | (rw [hy237]; exact H) | exact H
                   have Ny237 := aM_ hy237; clear hy237; have c27b0 := eq_true (dT_ : 0 ≤ x8_3); have c28b0 := eq_true (dT_ : x8_3 ≤ (x5_1.length : Int))
                   obtain ⟨y240, hy240⟩ : ∃ y_ : List Int, y_ = (x5_1.drop (x8_3 : Int).toNat) := ⟨_, rfl⟩
                   replace H : (if y237.length + y240.length < 17592186044416 then (spec_NeighborsIn.l0 kj15 l0 a1 (y237 ++ y240) (wrap64 (x6_1 + 1))) else (none)) = some r := by first | (rw [hy240]; with_reducible exact H) | (have H2_ := (Option.bind_some _ _).symm.trans H; rw [hy240]; with_reducible exact H2_) | (have H2_ := (Option.bind_some _ _).symm.trans H; with_reducible exact H2_) | with_reducible exact H | (rw [hy240]; exact H) | exact H
                   have Ny240 := aM_ hy240; clear hy240
                   by_cases c29 : y237.length + y240.length < 17592186044416
                   ·rw [if_pos c29] at H
                    have LMc29 := aM_ c29; clear c29
                    obtain ⟨y244, hy244⟩ : ∃ y_ : List Int, y_ = (y237 ++ y240) := ⟨_, rfl⟩
                    replace H : (spec_NeighborsIn.l0 kj15 l0 a1 y244 (wrap64 (x6_1 + 1))) = some r := by first | (rw [hy244]; with_reducible exact H) | (have H2_ := (Option.bind_some _ _).symm.trans H; rw [hy244]; with_reducible exact H2_) | (have H2_ := (Option.bind_some _ _).symm.trans H; with_reducible exact H2_) | with_reducible exact H | (rw [hy244]; exact H) | exact H
                    have Ny244 := aM_ hy244; clear hy244
                    have H' := aM_ H
                    clear H
                    try go_wp2
                    have n0_ := aM_ (rD_ HO_5.out); have n1_ := aM_ (wD_ HB.out); clear HO_5 HB; have HO_5 := n0_; have HB := n1_; clear n0_ n1_
                    obtain ⟨Ao32, co32, eo32⟩ := Kd.R_slice HO_5.out
                    (first | subst eo32 | (injection eo32 with f1_ f2_ f3_; have f4_ := f1_.symm; have f5_ := f3_.symm; clear f1_ f2_ f3_; subst f4_; subst f5_))
                    have q31 : (x8_3 : Int) ≤ ((x5_1.length : Int) : Int) := dT_
                    obtain ⟨i031, hi031, _, hsz31, _⟩ := info_parts info3
                    have hroom31 : x5_1.length ≤ co32 := (Kd.R_reads' HO_5.out).2.1
                    have hC31 : Kd.C (Kd.int .i64) _ Ao32 x5_1.length x5_1 := (Kd.R_reads' HO_5.out).2.2
                    have hcut31 := cut_to (P := Try.prog) 44 3 .i64 Try.underlying44 hi031 Ao32 x5_1.length co32 x8_3 (dT_) q31 hroom31; have hr31 := Kd.C_take (m := (x8_3 : Int).toNat) hC31 (by omega)
                    have hy31 : y227.length = (x8_3 : Int).toNat := (by rw [Ny227.out, List.length_take]; omega)
                    rw [← Ny227.out] at hr31
                    rw [← hy31] at hcut31
                    have HR230 := aM_ hr31; have HC230 := aM_ (show y227.length ≤ co32 from by omega); clear hr31 hC31 hroom31 hi031 hsz31; have KY31 := aM_ hy31; clear hy31; have KL31 := aM_ (show (x8_3 : Int).toNat ≤ x5_1.length from by omega); replace q31 := eq_true q31
                    have q33 : (x8_3 : Int) ≤ ((x5_1.length : Int) : Int) := dT_
                    obtain ⟨i033, hi033, _, hsz33, _⟩ := info_parts info3
                    have hroom33 : x5_1.length ≤ co32 := (Kd.R_reads' HO_5.out).2.1
                    have hC33 : Kd.C (Kd.int .i64) _ Ao32 x5_1.length x5_1 := (Kd.R_reads' HO_5.out).2.2
                    have q033 : (0 : Int) ≤ (x8_3 : Int) := dT_
                    have hcut33 := cut_from (P := Try.prog) 44 3 .i64 Try.underlying44 hi033 1 hsz33 Ao32 x5_1.length co32 x8_3 q033 q33; have hr33 := Kd.C_drop (m := (x8_3 : Int).toNat) (c := co32) hC33 (by omega) hroom33
                    obtain ⟨A33, hA33⟩ : ∃ A1, A1 = (if co32 = (x8_3 : Int).toNat then Ao32 else (Ao32 : Option Addr).map (·.add ((x8_3 : Int).toNat * 1))) := ⟨_, rfl⟩
                    obtain ⟨c33, hc33⟩ : ∃ c1, c1 = co32 - (x8_3 : Int).toNat := ⟨_, rfl⟩
                    have hy33 : y240.length = x5_1.length - (x8_3 : Int).toNat := (by rw [Ny240.out, List.length_drop] <;> omega)
                    rw [show (x5_1).drop (x8_3 : Int).toNat = y240 from Ny240.out.symm] at hr33
                    replace hr33 : Kd.C (Kd.int .i64) _ A33 y240.length y240 := (by rw [hA33]; exact hr33)
                    rw [← hy33, ← hA33, ← hc33] at hcut33
                    have HR243 := aM_ hr33; have HC243 := aM_ (show y240.length ≤ c33 from by rw [hy33, hc33]; exact Nat.sub_le_sub_right hroom33 _); clear hr33 hC33 hroom33 hi033 hsz33 hc33; have KY33 := aM_ hy33; have KA33 := aM_ hA33; clear hy33 hA33; have KL33 := aM_ (show (x8_3 : Int).toNat ≤ x5_1.length from by omega); replace q33 := eq_true q33
                    refine start_ (n := 13) (S := fun w' => True) (ds := []) #[false, false, false, false, false, false, false, false, false, false, false, false, false] (by kernel_rfl) rfl rfl trivial (fun hHeld => ?_); refine with_tabW spec_NeighborsIn.tab14 spec_NeighborsIn.bits14 (fun HT_ HW_ => ?_)
                    generalize wc.drew = w30 at HO_5 HB HR230 HR243 hHeld ⊢
                    refine pu_ 1 (some 67) #[false, true, false, false, false, false, false, false, false, false, false, false, false] rfl rfl ?_
                    refine pu_ 2 (some 68) #[false, true, true, false, false, false, false, false, false, false, false, false, false] rfl rfl ?_
                    refine pu_ 3 (some 69) #[false, true, true, true, false, false, false, false, false, false, false, false, false] rfl rfl ?_
                    refine pu_ 5 (some 71) #[false, true, true, true, false, true, false, false, false, false, false, false, false] rfl rfl ?_
                    refine pu_ 8 (some 74) #[false, true, true, true, false, true, false, false, true, false, false, false, false] rfl rfl ?_
                    refine pu_ 9 (some 75) #[false, true, true, true, false, true, false, false, true, true, false, false, false] rfl rfl ?_
                    refine pu_ 10 (some 76) #[false, true, true, true, false, true, false, false, true, true, true, false, false] rfl rfl ?_
                    refine join_ (σ := Value × Value × Value) 3 #[true, true, true, true, true, true, true, false, true, true, true, false, false] (fun s_ => [(66, s_.1), (70, s_.2.1), (72, s_.2.2)]) (fun s_ w' => (Kd.R (Kd.int .i64) 3 w' w.heap.size (fun k_ => some k_ ≠ (s_.2.2 : Value).ownBlock ∧ some k_ ≠ (.slice Ao32 x5_1.length co32 : Value).ownBlock) s_.2.1 y231) ∧ (Kd.R (Kd.int .i64) 3 w' w.heap.size (fun k_ => some k_ ≠ (s_.2.1 : Value).ownBlock ∧ some k_ ≠ (.slice Ao32 x5_1.length co32 : Value).ownBlock) s_.2.2 y234) ∧ (Kd.R (Kd.int .i64) 3 w' w.heap.size (fun k_ => some k_ ≠ (s_.2.1 : Value).ownBlock ∧ some k_ ≠ (s_.2.2 : Value).ownBlock) (.slice Ao32 x5_1.length co32) x5_1) ∧ (Below w.heap.size w w')) ?_ ?_
                    rotate_left
                    ·intro hCont
                     refine two_ (i := 0) (j := 6) (Ni := some 66) (Nj := some 72) #[true, true, true, true, false, true, false, false, true, true, true, false, false] #[false, true, true, true, false, true, true, false, true, true, true, false, false] rfl rfl rfl rfl (two_of HT_.out (by kernel_rfl)) (by decide) (by decide) (fun K hK => ?_) (fun K hK => ?_)
                     ·skip
                      refine Kd.R_lit_step (Kd.int .i64) _ 3 ?hg (N := 66) ?hd (xs := ([] : List Int)) (inner := []) (ok := fun _ => True) (okp := fun _ => True) ?hr ?hp (fun _ hk => hk) trivial (Below.refl _ _) (Nat.le_refl _) (by simp) ?_; (case hd => rfl); (case hg => rfl); (case hr => first | (go_simp; done) | (go_simp; rfl)); (case hp => exact (Reps.none _ _))
                      intro v225 w34 ho35 hb hg_ hnew_
                      clear hg_ hnew_
                      (first | rw [← Ny224.out] at ho35 | (simp only [Int.reduceToNat] at ho35; rw [← Ny224.out] at ho35))
                      have n0_ := aM_ (Kd.R_elder' (rb_ HO_5.out) (Kd.R_base ho35) hb); have n1_ := aM_ (Kd.R_lower (Kd.R_new' ho35 (Kd.R_lt (rb_ HO_5.out))) (sZ_ (bw_)))
                      have n2_ := aM_ (Kd.C_below (by repeat (first | (with_reducible exact HR230.out) | (with_reducible refine cA_ ?_ _) | (with_reducible refine cN_ ?_ _) | (with_reducible refine cD_ ?_) | exact HR230.out)) hb)
                      have n3_ := aM_ (Kd.C_below (by repeat (first | (with_reducible exact HR243.out) | (with_reducible refine cA_ ?_ _) | (with_reducible refine cN_ ?_ _) | (with_reducible refine cD_ ?_) | exact HR243.out)) hb)
                      have n4_ := aM_ (wS_ (bw_) hb); clear HO_5 HR230 HR243 HB; have HO_5 := n0_; have HO226 := n1_; have HR230 := n2_; have HR243 := n3_; have HB := n4_; clear n0_ n1_ n2_ n3_ n4_ hb ho35
                      refine hK.out _ _ trivial (fun hHeld => ?_)
                      clear hK K
                      refine norm_ (a' := ?_) ?_ ?_
                      rotate_left
                      ·show Act.put _ (some 66) _ = _
                       simp only [Act.put, List.setIfInBounds_toArray, List.set_cons_zero, List.set_cons_succ, i64_w, i32_w]
                       rfl
                      refine two_ (i := 4) (j := 6) (Ni := some 70) (Nj := some 72) #[true, true, true, true, true, true, false, false, true, true, true, false, false] #[true, true, true, true, false, true, true, false, true, true, true, false, false] rfl rfl rfl rfl (two_of HT_.out (by kernel_rfl)) (by decide) (by decide) (fun K hK => ?_) (fun K hK => ?_)
                      ·skip
                       refine Kd.R_append_rows_step (Kd.int .i64) (w0 := w) w.heap.size (by rfl) (.tmp 66) (.tmp 69) 44 3 (.int .i64 0) 8 rfl Try.underlying44 info3 rfl (by decide) (by omega) v225 y224 y227 _ _ _ (fun k_ => some k_ ≠ (.slice Ao32 x5_1.length co32 : Value).ownBlock) (fun _ => False) rfl rfl ?aO ?aR (fun _ _ h => h) (fun _ h => h.elim) ?aF ?aB ?aS ?aL ?_
                       (case aR => repeat (first | exact (by repeat (first | (with_reducible exact HR230.out) | (with_reducible refine cA_ ?_ _) | (with_reducible refine cN_ ?_ _) | (with_reducible refine cD_ ?_) | exact HR230.out)) | (with_reducible refine cA_ ?_ _) | (with_reducible refine cN_ ?_ _) | (with_reducible refine cD_ ?_)))
                       (case aB => exact (bw_))
                       (case aF => exact (fun k_ hk => Kd.fresh' (Kd.R_lt (rb_ HO_5.out)) k_ hk))
                       (case aO => exact (by (with_reducible repeat (first | apply rA_ | apply rN_ | apply rD_)); exact Kd.R_mono HO226.out (fun _ hk => hk.2)))
                       (case aS => exact (sZ_ (bw_)))
                       (case aL => have := LMc25.out; omega)
                       intro v232 w36 ho hb hg hat
                       rw [← Ny231.out] at ho
                       have n0_ := aM_ (Kd.R_after (ok := (fun _ => True)) (rb_ HO_5.out) hg hat); have n1_ := aM_ (hb); have n2_ := aM_ ((show Kd.C (Kd.int .i64) w36 Ao32 y227.length y227 from by rw [Ny227.out]; exact Kd.C_take (m := (x8_3 : Int).toNat) ((Kd.R_reads' (Kd.R_after (ok := (fun _ => True)) (rb_ HO_5.out) hg hat)).2.2) KL31.out)); have n3_ := aM_ ((show Kd.C (Kd.int .i64) w36 A33 y240.length y240 from by rw [Ny240.out, KA33.out]; exact Kd.C_drop (m := (x8_3 : Int).toNat) (c := co32) ((Kd.R_reads' (Kd.R_after (ok := (fun _ => True)) (rb_ HO_5.out) hg hat)).2.2) KL33.out ((Kd.R_reads' (Kd.R_after (ok := (fun _ => True)) (rb_ HO_5.out) hg hat)).2.1))); have n4_ := aM_ (ho); clear HO_5 HB HR230 HR243 HO226; have HO_5 := n0_; have HB := n1_; have HR230 := n2_; have HR243 := n3_; have HO233 := n4_; clear n0_ n1_ n2_ n3_ n4_ ho hb hg hat
                       refine hK.out _ _ trivial (fun hHeld => ?_)
                       clear hK K
                       refine norm_ (a' := ?_) ?_ ?_
                       rotate_left
                       ·show Act.put _ (some 70) _ = _
                        simp only [Act.put, List.setIfInBounds_toArray, List.set_cons_zero, List.set_cons_succ, i64_w, i32_w]
                        rfl
                       refine one_ (i := 6) (N := some 72) #[true, true, true, true, true, true, true, false, true, true, true, false, false] rfl rfl (one_of HT_.out (by kernel_rfl)) (by decide) (fun K hK => ?_)
                       refine Kd.R_lit_step (Kd.int .i64) _ 3 ?hg (N := 72) ?hd (xs := ([x7_6] : List Int)) (inner := [.int .i64 x7_6]) (ok := fun _ => True) (okp := fun _ => True) ?hr ?hp (fun _ hk => hk) trivial (Below.refl _ _) (Nat.le_refl _) (by simp) ?_; (case hd => rfl); (case hg => rfl); (case hr => first | (go_simp; done) | (go_simp; rfl)); (case hp => exact (Reps.one (show Kd.M (Kd.int .i64) _ _ _ x7_6 [.int .i64 x7_6] from rfl) (Reps.none _ _)))
                       intro v235 w37 ho38 hb hg_ hnew_
                       clear hg_ hnew_
                       (first | rw [← Ny234.out] at ho38 | (simp only [Int.reduceToNat] at ho38; rw [← Ny234.out] at ho38))
                       have n0_ := aM_ (Kd.R_elder' (rb_ HO_5.out) (Kd.R_base ho38) hb); have n1_ := aM_ (Kd.R_elder' (rb_ HO233.out) (Kd.R_base ho38) hb); have n2_ := aM_ (Kd.R_lower (Kd.R_new' (Kd.R_new' ho38 (Kd.R_lt (rb_ HO_5.out))) (Kd.R_lt (rb_ HO233.out))) (sZ_ (bw_)))
                       have n3_ := aM_ (Kd.C_below (by repeat (first | (with_reducible exact HR230.out) | (with_reducible refine cA_ ?_ _) | (with_reducible refine cN_ ?_ _) | (with_reducible refine cD_ ?_) | exact HR230.out)) hb)
                       have n4_ := aM_ (Kd.C_below (by repeat (first | (with_reducible exact HR243.out) | (with_reducible refine cA_ ?_ _) | (with_reducible refine cN_ ?_ _) | (with_reducible refine cD_ ?_) | exact HR243.out)) hb)
                       have n5_ := aM_ (wS_ (bw_) hb); clear HO_5 HO233 HR230 HR243 HB; have HO_5 := n0_; have HO233 := n1_; have HO236 := n2_; have HR230 := n3_; have HR243 := n4_; have HB := n5_; clear n0_ n1_ n2_ n3_ n4_ n5_ hb ho38
                       refine hK.out _ _ trivial (fun hHeld => ?_)
                       clear hK K
                       refine norm_ (a' := ?_) ?_ ?_
                       rotate_left
                       ·show Act.put _ (some 72) _ = _
                        simp only [Act.put, List.setIfInBounds_toArray, List.set_cons_zero, List.set_cons_succ, i64_w, i32_w]
                        rfl
                       exact norm_ (by simp only [putAll, Act.put, List.setIfInBounds_toArray, List.set_cons_zero, List.set_cons_succ]) (hCont (v225, v232, v235) _ ⟨(by (with_reducible repeat (first | apply rA_ | apply rN_ | apply rD_)); exact Kd.R_mono HO233.out (fun _ hk => ⟨hk.2, hk.1⟩)), (by (with_reducible repeat (first | apply rA_ | apply rN_ | apply rD_)); exact Kd.R_mono HO236.out (fun _ hk => ⟨hk.2, hk.1.2⟩)), (by (with_reducible repeat (first | apply rA_ | apply rN_ | apply rD_)); exact Kd.R_mono HO_5.out (fun _ hk => ⟨hk.1.2, hk.2⟩)), (bw_)⟩)
                      ·skip
                       refine Kd.R_lit_step (Kd.int .i64) _ 3 ?hg (N := 72) ?hd (xs := ([x7_6] : List Int)) (inner := [.int .i64 x7_6]) (ok := fun _ => True) (okp := fun _ => True) ?hr ?hp (fun _ hk => hk) trivial (Below.refl _ _) (Nat.le_refl _) (by simp) ?_; (case hd => rfl); (case hg => rfl); (case hr => first | (go_simp; done) | (go_simp; rfl)); (case hp => exact (Reps.one (show Kd.M (Kd.int .i64) _ _ _ x7_6 [.int .i64 x7_6] from rfl) (Reps.none _ _)))
                       intro v235 w36 ho37 hb hg_ hnew_
                       clear hg_ hnew_
                       (first | rw [← Ny234.out] at ho37 | (simp only [Int.reduceToNat] at ho37; rw [← Ny234.out] at ho37))
                       have n0_ := aM_ (Kd.R_elder' (rb_ HO_5.out) (Kd.R_base ho37) hb); have n1_ := aM_ (Kd.R_elder' (rb_ HO226.out) (Kd.R_base ho37) hb); have n2_ := aM_ (Kd.R_lower (Kd.R_new' (Kd.R_new' ho37 (Kd.R_lt (rb_ HO_5.out))) (Kd.R_lt (rb_ HO226.out))) (sZ_ (bw_)))
                       have n3_ := aM_ (Kd.C_below (by repeat (first | (with_reducible exact HR230.out) | (with_reducible refine cA_ ?_ _) | (with_reducible refine cN_ ?_ _) | (with_reducible refine cD_ ?_) | exact HR230.out)) hb)
                       have n4_ := aM_ (Kd.C_below (by repeat (first | (with_reducible exact HR243.out) | (with_reducible refine cA_ ?_ _) | (with_reducible refine cN_ ?_ _) | (with_reducible refine cD_ ?_) | exact HR243.out)) hb)
                       have n5_ := aM_ (wS_ (bw_) hb); clear HO_5 HO226 HR230 HR243 HB; have HO_5 := n0_; have HO226 := n1_; have HO236 := n2_; have HR230 := n3_; have HR243 := n4_; have HB := n5_; clear n0_ n1_ n2_ n3_ n4_ n5_ hb ho37
                       refine hK.out _ _ trivial (fun hHeld => ?_)
                       clear hK K
                       refine norm_ (a' := ?_) ?_ ?_
                       rotate_left
                       ·show Act.put _ (some 72) _ = _
                        simp only [Act.put, List.setIfInBounds_toArray, List.set_cons_zero, List.set_cons_succ, i64_w, i32_w]
                        rfl
                       refine one_ (i := 4) (N := some 70) #[true, true, true, true, true, true, true, false, true, true, true, false, false] rfl rfl (one_of HT_.out (by kernel_rfl)) (by decide) (fun K hK => ?_)
                       refine Kd.R_append_rows_step (Kd.int .i64) (w0 := w) w.heap.size (by rfl) (.tmp 66) (.tmp 69) 44 3 (.int .i64 0) 8 rfl Try.underlying44 info3 rfl (by decide) (by omega) v225 y224 y227 _ _ _ (fun k_ => some k_ ≠ (.slice Ao32 x5_1.length co32 : Value).ownBlock ∧ some k_ ≠ (v235 : Value).ownBlock) (fun _ => False) rfl rfl ?aO ?aR (fun _ _ h => h) (fun _ h => h.elim) ?aF ?aB ?aS ?aL ?_
                       (case aR => repeat (first | exact (by repeat (first | (with_reducible exact HR230.out) | (with_reducible refine cA_ ?_ _) | (with_reducible refine cN_ ?_ _) | (with_reducible refine cD_ ?_) | exact HR230.out)) | (with_reducible refine cA_ ?_ _) | (with_reducible refine cN_ ?_ _) | (with_reducible refine cD_ ?_)))
                       (case aB => exact (bw_))
                       (case aF => exact (fun k_ hk => ⟨Kd.fresh' (Kd.R_lt (rb_ HO_5.out)) k_ hk, Kd.fresh' (Kd.R_lt (rb_ HO236.out)) k_ hk⟩))
                       (case aO => exact (by (with_reducible repeat (first | apply rA_ | apply rN_ | apply rD_)); exact Kd.R_mono HO226.out (fun _ hk => ⟨hk.1.2, hk.2⟩)))
                       (case aS => exact (sZ_ (bw_)))
                       (case aL => have := LMc25.out; omega)
                       intro v232 w38 ho hb hg hat
                       rw [← Ny231.out] at ho
                       have n0_ := aM_ (Kd.R_after (ok := (fun k_ => some k_ ≠ (v235 : Value).ownBlock)) (by (with_reducible repeat (first | apply rA_ | apply rN_ | apply rD_)); exact Kd.R_mono HO_5.out (fun _ hk => ⟨hk.2, hk.1.2⟩)) hg hat); have n1_ := aM_ (Kd.R_after (ok := (fun k_ => some k_ ≠ (.slice Ao32 x5_1.length co32 : Value).ownBlock)) (by (with_reducible repeat (first | apply rA_ | apply rN_ | apply rD_)); exact Kd.R_mono HO236.out (fun _ hk => ⟨hk.1.2, hk.2⟩)) hg hat); have n2_ := aM_ (hb); have n3_ := aM_ ((show Kd.C (Kd.int .i64) w38 Ao32 y227.length y227 from by rw [Ny227.out]; exact Kd.C_take (m := (x8_3 : Int).toNat) ((Kd.R_reads' (Kd.R_after (ok := (fun k_ => some k_ ≠ (v235 : Value).ownBlock)) (by (with_reducible repeat (first | apply rA_ | apply rN_ | apply rD_)); exact Kd.R_mono HO_5.out (fun _ hk => ⟨hk.2, hk.1.2⟩)) hg hat)).2.2) KL31.out)); have n4_ := aM_ ((show Kd.C (Kd.int .i64) w38 A33 y240.length y240 from by rw [Ny240.out, KA33.out]; exact Kd.C_drop (m := (x8_3 : Int).toNat) (c := co32) ((Kd.R_reads' (Kd.R_after (ok := (fun k_ => some k_ ≠ (v235 : Value).ownBlock)) (by (with_reducible repeat (first | apply rA_ | apply rN_ | apply rD_)); exact Kd.R_mono HO_5.out (fun _ hk => ⟨hk.2, hk.1.2⟩)) hg hat)).2.2) KL33.out ((Kd.R_reads' (Kd.R_after (ok := (fun k_ => some k_ ≠ (v235 : Value).ownBlock)) (by (with_reducible repeat (first | apply rA_ | apply rN_ | apply rD_)); exact Kd.R_mono HO_5.out (fun _ hk => ⟨hk.2, hk.1.2⟩)) hg hat)).2.1))); have n5_ := aM_ (ho); clear HO_5 HO236 HB HR230 HR243 HO226; have HO_5 := n0_; have HO236 := n1_; have HB := n2_; have HR230 := n3_; have HR243 := n4_; have HO233 := n5_; clear n0_ n1_ n2_ n3_ n4_ n5_ ho hb hg hat
                       refine hK.out _ _ trivial (fun hHeld => ?_)
                       clear hK K
                       refine norm_ (a' := ?_) ?_ ?_
                       rotate_left
                       ·show Act.put _ (some 70) _ = _
                        simp only [Act.put, List.setIfInBounds_toArray, List.set_cons_zero, List.set_cons_succ, i64_w, i32_w]
                        rfl
                       exact norm_ (by simp only [putAll, Act.put, List.setIfInBounds_toArray, List.set_cons_zero, List.set_cons_succ]) (hCont (v225, v232, v235) _ ⟨(by (with_reducible repeat (first | apply rA_ | apply rN_ | apply rD_)); exact Kd.R_mono HO233.out (fun _ hk => ⟨hk.2, hk.1⟩)), (by (with_reducible repeat (first | apply rA_ | apply rN_ | apply rD_)); exact Kd.R_mono HO236.out (fun _ hk => ⟨hk.2, hk.1⟩)), (by (with_reducible repeat (first | apply rA_ | apply rN_ | apply rD_)); exact Kd.R_mono HO_5.out (fun _ hk => ⟨hk.2, hk.1⟩)), (bw_)⟩)
                     ·skip
                      refine Kd.R_lit_step (Kd.int .i64) _ 3 ?hg (N := 72) ?hd (xs := ([x7_6] : List Int)) (inner := [.int .i64 x7_6]) (ok := fun _ => True) (okp := fun _ => True) ?hr ?hp (fun _ hk => hk) trivial (Below.refl _ _) (Nat.le_refl _) (by simp) ?_; (case hd => rfl); (case hg => rfl); (case hr => first | (go_simp; done) | (go_simp; rfl)); (case hp => exact (Reps.one (show Kd.M (Kd.int .i64) _ _ _ x7_6 [.int .i64 x7_6] from rfl) (Reps.none _ _)))
                      intro v235 w34 ho35 hb hg_ hnew_
                      clear hg_ hnew_
                      (first | rw [← Ny234.out] at ho35 | (simp only [Int.reduceToNat] at ho35; rw [← Ny234.out] at ho35))
                      have n0_ := aM_ (Kd.R_elder' (rb_ HO_5.out) (Kd.R_base ho35) hb); have n1_ := aM_ (Kd.R_lower (Kd.R_new' ho35 (Kd.R_lt (rb_ HO_5.out))) (sZ_ (bw_)))
                      have n2_ := aM_ (Kd.C_below (by repeat (first | (with_reducible exact HR230.out) | (with_reducible refine cA_ ?_ _) | (with_reducible refine cN_ ?_ _) | (with_reducible refine cD_ ?_) | exact HR230.out)) hb)
                      have n3_ := aM_ (Kd.C_below (by repeat (first | (with_reducible exact HR243.out) | (with_reducible refine cA_ ?_ _) | (with_reducible refine cN_ ?_ _) | (with_reducible refine cD_ ?_) | exact HR243.out)) hb)
                      have n4_ := aM_ (wS_ (bw_) hb); clear HO_5 HR230 HR243 HB; have HO_5 := n0_; have HO236 := n1_; have HR230 := n2_; have HR243 := n3_; have HB := n4_; clear n0_ n1_ n2_ n3_ n4_ hb ho35
                      refine hK.out _ _ trivial (fun hHeld => ?_)
                      clear hK K
                      refine norm_ (a' := ?_) ?_ ?_
                      rotate_left
                      ·show Act.put _ (some 72) _ = _
                       simp only [Act.put, List.setIfInBounds_toArray, List.set_cons_zero, List.set_cons_succ, i64_w, i32_w]
                       rfl
                      refine one_ (i := 0) (N := some 66) #[true, true, true, true, false, true, true, false, true, true, true, false, false] rfl rfl (one_of HT_.out (by kernel_rfl)) (by decide) (fun K hK => ?_)
                      refine Kd.R_lit_step (Kd.int .i64) _ 3 ?hg (N := 66) ?hd (xs := ([] : List Int)) (inner := []) (ok := fun _ => True) (okp := fun _ => True) ?hr ?hp (fun _ hk => hk) trivial (Below.refl _ _) (Nat.le_refl _) (by simp) ?_; (case hd => rfl); (case hg => rfl); (case hr => first | (go_simp; done) | (go_simp; rfl)); (case hp => exact (Reps.none _ _))
                      intro v225 w36 ho37 hb hg_ hnew_
                      clear hg_ hnew_
                      (first | rw [← Ny224.out] at ho37 | (simp only [Int.reduceToNat] at ho37; rw [← Ny224.out] at ho37))
                      have n0_ := aM_ (Kd.R_elder' (rb_ HO_5.out) (Kd.R_base ho37) hb); have n1_ := aM_ (Kd.R_elder' (rb_ HO236.out) (Kd.R_base ho37) hb); have n2_ := aM_ (Kd.R_lower (Kd.R_new' (Kd.R_new' ho37 (Kd.R_lt (rb_ HO_5.out))) (Kd.R_lt (rb_ HO236.out))) (sZ_ (bw_)))
                      have n3_ := aM_ (Kd.C_below (by repeat (first | (with_reducible exact HR230.out) | (with_reducible refine cA_ ?_ _) | (with_reducible refine cN_ ?_ _) | (with_reducible refine cD_ ?_) | exact HR230.out)) hb)
                      have n4_ := aM_ (Kd.C_below (by repeat (first | (with_reducible exact HR243.out) | (with_reducible refine cA_ ?_ _) | (with_reducible refine cN_ ?_ _) | (with_reducible refine cD_ ?_) | exact HR243.out)) hb)
                      have n5_ := aM_ (wS_ (bw_) hb); clear HO_5 HO236 HR230 HR243 HB; have HO_5 := n0_; have HO236 := n1_; have HO226 := n2_; have HR230 := n3_; have HR243 := n4_; have HB := n5_; clear n0_ n1_ n2_ n3_ n4_ n5_ hb ho37
                      refine hK.out _ _ trivial (fun hHeld => ?_)
                      clear hK K
                      refine norm_ (a' := ?_) ?_ ?_
                      rotate_left
                      ·show Act.put _ (some 66) _ = _
                       simp only [Act.put, List.setIfInBounds_toArray, List.set_cons_zero, List.set_cons_succ, i64_w, i32_w]
                       rfl
                      refine one_ (i := 4) (N := some 70) #[true, true, true, true, true, true, true, false, true, true, true, false, false] rfl rfl (one_of HT_.out (by kernel_rfl)) (by decide) (fun K hK => ?_)
                      refine Kd.R_append_rows_step (Kd.int .i64) (w0 := w) w.heap.size (by rfl) (.tmp 66) (.tmp 69) 44 3 (.int .i64 0) 8 rfl Try.underlying44 info3 rfl (by decide) (by omega) v225 y224 y227 _ _ _ (fun k_ => some k_ ≠ (.slice Ao32 x5_1.length co32 : Value).ownBlock ∧ some k_ ≠ (v235 : Value).ownBlock) (fun _ => False) rfl rfl ?aO ?aR (fun _ _ h => h) (fun _ h => h.elim) ?aF ?aB ?aS ?aL ?_
                      (case aR => repeat (first | exact (by repeat (first | (with_reducible exact HR230.out) | (with_reducible refine cA_ ?_ _) | (with_reducible refine cN_ ?_ _) | (with_reducible refine cD_ ?_) | exact HR230.out)) | (with_reducible refine cA_ ?_ _) | (with_reducible refine cN_ ?_ _) | (with_reducible refine cD_ ?_)))
                      (case aB => exact (bw_))
                      (case aF => exact (fun k_ hk => ⟨Kd.fresh' (Kd.R_lt (rb_ HO_5.out)) k_ hk, Kd.fresh' (Kd.R_lt (rb_ HO236.out)) k_ hk⟩))
                      (case aO => exact (by (with_reducible repeat (first | apply rA_ | apply rN_ | apply rD_)); exact Kd.R_mono HO226.out (fun _ hk => ⟨hk.1.2, hk.2⟩)))
                      (case aS => exact (sZ_ (bw_)))
                      (case aL => have := LMc25.out; omega)
                      intro v232 w38 ho hb hg hat
                      rw [← Ny231.out] at ho
                      have n0_ := aM_ (Kd.R_after (ok := (fun k_ => some k_ ≠ (v235 : Value).ownBlock)) (by (with_reducible repeat (first | apply rA_ | apply rN_ | apply rD_)); exact Kd.R_mono HO_5.out (fun _ hk => ⟨hk.1.2, hk.2⟩)) hg hat); have n1_ := aM_ (Kd.R_after (ok := (fun k_ => some k_ ≠ (.slice Ao32 x5_1.length co32 : Value).ownBlock)) (by (with_reducible repeat (first | apply rA_ | apply rN_ | apply rD_)); exact Kd.R_mono HO236.out (fun _ hk => ⟨hk.1.2, hk.2⟩)) hg hat); have n2_ := aM_ (hb); have n3_ := aM_ ((show Kd.C (Kd.int .i64) w38 Ao32 y227.length y227 from by rw [Ny227.out]; exact Kd.C_take (m := (x8_3 : Int).toNat) ((Kd.R_reads' (Kd.R_after (ok := (fun k_ => some k_ ≠ (v235 : Value).ownBlock)) (by (with_reducible repeat (first | apply rA_ | apply rN_ | apply rD_)); exact Kd.R_mono HO_5.out (fun _ hk => ⟨hk.1.2, hk.2⟩)) hg hat)).2.2) KL31.out)); have n4_ := aM_ ((show Kd.C (Kd.int .i64) w38 A33 y240.length y240 from by rw [Ny240.out, KA33.out]; exact Kd.C_drop (m := (x8_3 : Int).toNat) (c := co32) ((Kd.R_reads' (Kd.R_after (ok := (fun k_ => some k_ ≠ (v235 : Value).ownBlock)) (by (with_reducible repeat (first | apply rA_ | apply rN_ | apply rD_)); exact Kd.R_mono HO_5.out (fun _ hk => ⟨hk.1.2, hk.2⟩)) hg hat)).2.2) KL33.out ((Kd.R_reads' (Kd.R_after (ok := (fun k_ => some k_ ≠ (v235 : Value).ownBlock)) (by (with_reducible repeat (first | apply rA_ | apply rN_ | apply rD_)); exact Kd.R_mono HO_5.out (fun _ hk => ⟨hk.1.2, hk.2⟩)) hg hat)).2.1))); have n5_ := aM_ (ho); clear HO_5 HO236 HB HR230 HR243 HO226; have HO_5 := n0_; have HO236 := n1_; have HB := n2_; have HR230 := n3_; have HR243 := n4_; have HO233 := n5_; clear n0_ n1_ n2_ n3_ n4_ n5_ ho hb hg hat
                      refine hK.out _ _ trivial (fun hHeld => ?_)
                      clear hK K
                      refine norm_ (a' := ?_) ?_ ?_
                      rotate_left
                      ·show Act.put _ (some 70) _ = _
                       simp only [Act.put, List.setIfInBounds_toArray, List.set_cons_zero, List.set_cons_succ, i64_w, i32_w]
                       rfl
                      exact norm_ (by simp only [putAll, Act.put, List.setIfInBounds_toArray, List.set_cons_zero, List.set_cons_succ]) (hCont (v225, v232, v235) _ ⟨(by (with_reducible repeat (first | apply rA_ | apply rN_ | apply rD_)); exact Kd.R_mono HO233.out (fun _ hk => ⟨hk.2, hk.1⟩)), (by (with_reducible repeat (first | apply rA_ | apply rN_ | apply rD_)); exact Kd.R_mono HO236.out (fun _ hk => ⟨hk.2, hk.1⟩)), (by (with_reducible repeat (first | apply rA_ | apply rN_ | apply rD_)); exact Kd.R_mono HO_5.out (fun _ hk => ⟨hk.2, hk.1⟩)), (bw_)⟩)
                    rintro ⟨v225, v232, v235⟩ w39 ⟨h0_, h1_, h2_, h3_⟩
                    have n0_ : Aside0 (Kd.R (Kd.int .i64) 3 w39 w.heap.size (fun k_ => some k_ ≠ (v235 : Value).ownBlock ∧ some k_ ≠ (.slice Ao32 x5_1.length co32 : Value).ownBlock) v232 y231) := ⟨h0_⟩
                    have n1_ : Aside0 (Kd.R (Kd.int .i64) 3 w39 w.heap.size (fun k_ => some k_ ≠ (v232 : Value).ownBlock ∧ some k_ ≠ (.slice Ao32 x5_1.length co32 : Value).ownBlock) v235 y234) := ⟨h1_⟩
                    have n2_ : Aside0 (Kd.R (Kd.int .i64) 3 w39 w.heap.size (fun k_ => some k_ ≠ (v232 : Value).ownBlock ∧ some k_ ≠ (v235 : Value).ownBlock) (.slice Ao32 x5_1.length co32) x5_1) := ⟨h2_⟩
                    have n3_ : Aside0 (Below w.heap.size w w39) := ⟨h3_⟩
                    clear HO_5 HB h0_ h1_ h2_ h3_; have HO233 := n0_; have HO236 := n1_; have HO_5 := n2_; have HB := n3_; clear n0_ n1_ n2_ n3_; have hHeld := trivial
                    obtain ⟨Ao41, co41, eo41⟩ := Kd.R_slice HO236.out
                    (first | subst eo41 | (injection eo41 with f1_ f2_ f3_; have f4_ := f1_.symm; have f5_ := f3_.symm; clear f1_ f2_ f3_; subst f4_; subst f5_))
                    refine norm_ (a' := ?_) ?_ ?_
                    rotate_left
                    ·simp only [putAll, Act.put, List.setIfInBounds_toArray, List.set_cons_zero, List.set_cons_succ]
                     rfl
                    refine one_ (i := 7) (N := some 73) #[true, true, true, true, true, true, true, true, true, true, true, false, false] rfl rfl (one_of HT_.out (by kernel_rfl)) (by decide) (fun K hK => ?_)
                    refine Kd.R_append_rows_step (Kd.int .i64) (w0 := w) w.heap.size (by rfl) (.tmp 70) (.tmp 72) 44 3 (.int .i64 0) 8 rfl Try.underlying44 info3 rfl (by decide) (by omega) v232 y231 y234 _ _ _ (fun k_ => some k_ ≠ (.slice Ao32 x5_1.length co32 : Value).ownBlock ∧ some k_ ≠ (.slice Ao41 y234.length co41 : Value).ownBlock) (fun _ => False) rfl rfl ?aO ?aR (fun _ _ h => h) (fun _ h => h.elim) ?aF ?aB ?aS ?aL ?_
                    (case aR => repeat (first | exact (Kd.R_reads' HO236.out).2.2 | (with_reducible refine cA_ ?_ _) | (with_reducible refine cN_ ?_ _) | (with_reducible refine cD_ ?_)))
                    (case aB => exact (bw_))
                    (case aF => exact (fun k_ hk => ⟨Kd.fresh' (Kd.R_lt (rb_ HO_5.out)) k_ hk, Kd.fresh' (Kd.R_lt (rb_ HO236.out)) k_ hk⟩))
                    (case aO => exact (by (with_reducible repeat (first | apply rA_ | apply rN_ | apply rD_)); exact Kd.R_mono HO233.out (fun _ hk => ⟨hk.2, hk.1⟩)))
                    (case aS => exact (sZ_ (bw_)))
                    (case aL => have := LMc26.out; omega)
                    intro v238 w40 ho hb hg hat
                    rw [← Ny237.out] at ho
                    have n0_ := aM_ (Kd.R_after (ok := (fun k_ => some k_ ≠ (.slice Ao41 y234.length co41 : Value).ownBlock)) (by (with_reducible repeat (first | apply rA_ | apply rN_ | apply rD_)); exact Kd.R_mono HO_5.out (fun _ hk => ⟨hk.2, hk.1⟩)) hg hat); have n1_ := aM_ (Kd.R_after (ok := (fun k_ => some k_ ≠ (.slice Ao32 x5_1.length co32 : Value).ownBlock)) (by (with_reducible repeat (first | apply rA_ | apply rN_ | apply rD_)); exact Kd.R_mono HO236.out (fun _ hk => ⟨hk.2, hk.1⟩)) hg hat); have n2_ := aM_ (hb); have n3_ := aM_ (ho); clear HO_5 HO236 HB HO233; have HO_5 := n0_; have HO236 := n1_; have HB := n2_; have HO239 := n3_; clear n0_ n1_ n2_ n3_ ho hb hg hat
                    refine hK.out _ _ trivial (fun hHeld => ?_)
                    clear hK K
                    refine norm_ (a' := ?_) ?_ ?_
                    rotate_left
                    ·show Act.put _ (some 73) _ = _
                     simp only [Act.put, List.setIfInBounds_toArray, List.set_cons_zero, List.set_cons_succ, i64_w, i32_w]
                     rfl
                    refine one_ (i := 11) (N := some 77) #[true, true, true, true, true, true, true, true, true, true, true, true, false] rfl rfl (one_of HT_.out (by kernel_rfl)) (by decide) (fun K hK => ?_)
                    refine Kd.R_append_rows_step (Kd.int .i64) (w0 := w) w.heap.size (by rfl) (.tmp 73) (.tmp 76) 44 3 (.int .i64 0) 8 rfl Try.underlying44 info3 rfl (by decide) (by omega) v238 y237 y240 _ _ _ (fun k_ => some k_ ≠ (.slice Ao32 x5_1.length co32 : Value).ownBlock ∧ some k_ ≠ (.slice Ao41 y234.length co41 : Value).ownBlock) (fun _ => False) rfl rfl ?aO ?aR (fun _ _ h => h) (fun _ h => h.elim) ?aF ?aB ?aS ?aL ?_
                    (case aR => exact (show Kd.C (Kd.int .i64) w40 A33 y240.length y240 from by rw [Ny240.out, KA33.out]; exact Kd.C_drop (m := (x8_3 : Int).toNat) (c := co32) ((Kd.R_reads' (show Kd.R (Kd.int .i64) 3 w40 _ _ (.slice Ao32 x5_1.length co32) x5_1 from by (with_reducible repeat (first | apply rA_ | apply rN_ | apply rD_)); exact HO_5.out)).2.2) KL33.out ((Kd.R_reads' (show Kd.R (Kd.int .i64) 3 w40 _ _ (.slice Ao32 x5_1.length co32) x5_1 from by (with_reducible repeat (first | apply rA_ | apply rN_ | apply rD_)); exact HO_5.out)).2.1)))
                    (case aB => exact (bw_))
                    (case aF => exact (fun k_ hk => ⟨Kd.fresh' (Kd.R_lt (rb_ HO_5.out)) k_ hk, Kd.fresh' (Kd.R_lt (rb_ HO236.out)) k_ hk⟩))
                    (case aO => exact (rb_ HO239.out))
                    (case aS => exact (sZ_ (bw_)))
                    (case aL => have := LMc29.out; omega)
                    intro v245 w42 ho hb hg hat
                    rw [← Ny244.out] at ho
                    have n0_ := aM_ (Kd.R_after (ok := (fun k_ => some k_ ≠ (.slice Ao41 y234.length co41 : Value).ownBlock)) (rb_ HO_5.out) hg hat); have n1_ := aM_ (Kd.R_after (ok := (fun k_ => some k_ ≠ (.slice Ao32 x5_1.length co32 : Value).ownBlock)) (rb_ HO236.out) hg hat); have n2_ := aM_ (hb); have n3_ := aM_ (ho); clear HO_5 HO236 HB HO239; have HO_5 := n0_; have HO236 := n1_; have HB := n2_; have HO246 := n3_; clear n0_ n1_ n2_ n3_ ho hb hg hat
                    refine hK.out _ _ trivial (fun hHeld => ?_)
                    clear hK K
                    refine norm_ (a' := ?_) ?_ ?_
                    rotate_left
                    ·show Act.put _ (some 77) _ = _
                     simp only [Act.put, List.setIfInBounds_toArray, List.set_cons_zero, List.set_cons_succ, i64_w, i32_w]
                     rfl
                    refine pu_ 12 (some 5) #[true, true, true, true, true, true, true, true, true, true, true, true, true] rfl rfl ?_
                    refine done_ (done_of HT_.out (by kernel_rfl)) ?_
                    try go_wp2
                    go_roundg kj15
                    case measure => have := HK1.out; have := HJ6.out; have := HK3.out; have := HJ9.out; have := HJ15.out; omega
                    case rel => exact ⟨(y244), (wrap64 (x6_1 + 1)), (by first | rfl | (simp; done) | (simp [*]; done)), H', ⟨by have := HK1.out; have := HJ6.out; have := HK3.out; have := HJ9.out; have := HJ15.out; omega⟩, ⟨by (with_reducible repeat (first | apply rA_ | apply rN_ | apply rD_)); exact Kd.R_mono HO246.out (fun _ hk => trivial)⟩, ⟨bw_⟩⟩
                   ·rw [if_neg c29] at H
                    exact absurd H (by simp)
                  ·rw [if_neg c26] at H
                   exact absurd H (by simp)
                 ·rw [if_neg c25] at H
                  exact absurd H (by simp)
                ·rw [if_neg c24] at H
                 exact absurd H (by simp)
               ·rw [if_neg c23] at H
                exact absurd H (by simp)
              ·replace c22 := Bool.eq_false_iff.mpr c22
               subst c22
               have H1 : (spec_NeighborsIn.l0 kj15 l0 a1 x5_1 (wrap64 (x6_1 + 1))) = some r := by rw [if_neg (show ¬ (false = true) by decide)] at H; exact H
               clear H; have H := H1; clear H1
               have H' := aM_ H
               clear H
               go_wp2
               go_roundg kj15
               case measure => have := HK1.out; have := HJ6.out; have := HK3.out; have := HJ9.out; have := HJ15.out; omega
               case rel => exact ⟨(x5_1), (wrap64 (x6_1 + 1)), (by first | rfl | (simp; done) | (simp [*]; done)), H', ⟨by have := HK1.out; have := HJ6.out; have := HK3.out; have := HJ9.out; have := HJ15.out; omega⟩, ⟨by (with_reducible repeat (first | apply rA_ | apply rN_ | apply rD_)); exact HO_5.out⟩, ⟨bw_⟩⟩
    ·rw [if_neg c6] at H
     exact absurd H (by simp)
   ·rw [if_neg c5] at H
    have c5b0 : decide (x6_1 < (l0.length : Int)) = false := decide_eq_false c5
    clear c5
    obtain rfl := Option.some.inj H
    go_wp2
    go_ret
    exact ⟨_, by first | rfl | (simp [errW_none, errW_some] <;> rfl) | (simp [*, errW_none, errW_some] <;> rfl), by (with_reducible repeat (first | apply rA_ | apply rN_ | apply rD_)); exact HO_5.out, bw_⟩

end Go.Proofs.Ytlogjmgghnifoaa.PFnHandovers
