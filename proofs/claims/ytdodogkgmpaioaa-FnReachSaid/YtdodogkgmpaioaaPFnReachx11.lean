/- The functions that the law reaches, as plain Lean functions, each with the proof that the Go code comes to its answers; conditions: those that each theorem names. (printed by a program of this session) -/
import Derived.Test.YtdodogkgmpaioaaPFnReachx0
namespace Go.Proofs.Ytdodogkgmpaioaa.PFnReach
open Go.RowKit Go.Proofs.YtdodogkgmpaioaaW.PrintWords Go.Proofs.YtdodogkgmpaioaaW.PrintLast Go.Proofs.YtdodogkgmpaioaaW.PrintMore
attribute [local go_sem] max2_int min2_int max_two min_two max_three min_three max_four min_four   -- for this text's walks alone
set_option linter.unusedVariables false
set_option linter.unusedSimpArgs false

/-! ### spec_NeighborsIn: function 138 -/
mutual
def spec_NeighborsIn.l0 : Nat → List (S123) → Int → List Int → Int → Option (List Int)
  | 0, _, _, _, _ => none
  | k + 1, x0, x1, x5, x6 => if x6 < (x0.length : Int) then (if 0 ≤ x6 then (if ((rd_T123 x0 x6).f0) = x1 then (spec_NeighborsIn.j1 k x0 x1 x5 x6 ((rd_T123 x0 x6).f1)) else (if ((rd_T123 x0 x6).f1) = x1 then (spec_NeighborsIn.j1 k x0 x1 x5 x6 ((rd_T123 x0 x6).f0)) else (spec_NeighborsIn.l0 k x0 x1 x5 (wrap64 (x6 + 1))))) else (none)) else (some x5)
def spec_NeighborsIn.j1 : Nat → List (S123) → Int → List Int → Int → Int → Option (List Int)
  | 0, _, _, _, _, _ => none
  | k + 1, x0, x1, x5, x6, x7 => spec_NeighborsIn.l1 k x0 x1 x5 x6 x7 0
def spec_NeighborsIn.l1 : Nat → List (S123) → Int → List Int → Int → Int → Int → Option (List Int)
  | 0, _, _, _, _, _, _ => none
  | k + 1, x0, x1, x5, x6, x7, x8 => if x8 < (x5.length : Int) then (if 0 ≤ x8 then (spec_NeighborsIn.j3 k x0 x1 x5 x6 x7 x8 (decide ((rd x5 x8) < x7))) else (none)) else (spec_NeighborsIn.j3 k x0 x1 x5 x6 x7 x8 false)
def spec_NeighborsIn.j3 : Nat → List (S123) → Int → List Int → Int → Int → Int → Bool → Option (List Int)
  | 0, _, _, _, _, _, _, _ => none
  | k + 1, x0, x1, x5, x6, x7, x8, x51 => if x51 = true then (spec_NeighborsIn.l1 k x0 x1 x5 x6 x7 (wrap64 (x8 + 1))) else (if x8 = (x5.length : Int) then (spec_NeighborsIn.j4 k x0 x1 x5 x6 x7 x8 true) else (if 0 ≤ x8 then (if x8 < (x5.length : Int) then (spec_NeighborsIn.j4 k x0 x1 x5 x6 x7 x8 ((rd x5 x8) != x7)) else (none)) else (none)))
def spec_NeighborsIn.j4 : Nat → List (S123) → Int → List Int → Int → Int → Int → Bool → Option (List Int)
  | 0, _, _, _, _, _, _, _ => none
  | k + 1, x0, x1, x5, x6, x7, x8, x65 => if x65 = true then ((some (([] : List Int) : List Int)).bind fun y259 => (if 0 ≤ x8 then (if x8 ≤ (x5.length : Int) then ((some (x5.take (x8 : Int).toNat : List Int)).bind fun y262 => (if y259.length + y262.length < 17592186044416 then ((some (y259 ++ y262 : List Int)).bind fun y266 => ((some (([x7] : List Int) : List Int)).bind fun y269 => (if y266.length + y269.length < 17592186044416 then ((some (y266 ++ y269 : List Int)).bind fun y272 => ((some (x5.drop (x8 : Int).toNat : List Int)).bind fun y275 => (if y272.length + y275.length < 17592186044416 then (spec_NeighborsIn.l0 k x0 x1 (y272 ++ y275) (wrap64 (x6 + 1))) else (none)))) else (none)))) else (none))) else (none)) else (none))) else (spec_NeighborsIn.l0 k x0 x1 x5 (wrap64 (x6 + 1)))
end
def spec_NeighborsIn.f (k : Nat) (l0 : List (S123)) (a1 : Int) : Option (List Int) := spec_NeighborsIn.l0 k l0 a1 (([] : List Int)) 0
def spec_NeighborsIn.T14 : Bool × List (List Nat × List Nat) := (true, [([], []), ([], []), ([], []), ([1, 2], [1, 2]), ([0, 3], [0, 3]), ([], []), ([5], [5]), ([4, 6, 4], [4, 6]), ([], []), ([], []), ([8, 9], [8, 9]), ([7, 10, 7], [7, 10]), ([11, 11, 0, 1, 2, 3, 4, 5, 6, 7, 8, 9, 10, 11], [1, 8, 11])])
def spec_NeighborsIn.B14 : List Nat := [0, 0, 0, 6, 15, 0, 32, 127, 0, 0, 768, 2047, 4095]
theorem spec_NeighborsIn.tab14 : rtab .any (opsOf Try.f138 14) = spec_NeighborsIn.T14 := by kernel_rfl
theorem spec_NeighborsIn.bits14 : waitsOk spec_NeighborsIn.T14.2 spec_NeighborsIn.B14 = true := by kernel_rfl
set_option maxHeartbeats 8000000 in
set_option maxRecDepth 100000 in
theorem spec_NeighborsIn.calls (k : Nat) (A0 : Option Addr) (c0 : Nat) (l0 : List (S123)) (a1 : Int) (r : List Int) (w : World) (hr0 : Kd.C k123 w A0 l0.length l0) (hc0 : l0.length ≤ c0) (h : spec_NeighborsIn.f k l0 a1 = some r) :
  Calls Try.prog 138 #[.slice A0 l0.length c0, .int .i64 a1] w fun e w' => ∃ v0_ : Value, e = .returned (v0_) ∧ Kd.R (Kd.int .i64) 3 w' w.heap.size (fun _ => True) v0_ r ∧ Below w.heap.size w w' := by
 have HR0 := aM_ hr0; have HC0 := aM_ hc0; clear hr0 hc0; have HB := aM_ (Below.refl w.heap.size w)
 have H : (spec_NeighborsIn.l0 k l0 a1 (([] : List Int)) 0) = some r := h
 clear h
 obtain ⟨y250, hy250⟩ : ∃ y_ : List Int, y_ = (([] : List Int)) := ⟨_, rfl⟩
 replace H : (spec_NeighborsIn.l0 k l0 a1 y250 0) = some r := by first | (rw [hy250]; with_reducible exact H) | (have H2_ := (Option.bind_some _ _).symm.trans H; rw [hy250]; with_reducible exact H2_) | (have H2_ := (Option.bind_some _ _).symm.trans H; with_reducible exact H2_) | with_reducible exact H | (rw [hy250]; exact H) | exact H
 have Ny250 := aM_ hy250; clear hy250
 have H' := aM_ H
 clear H
 go_enter Try.func138, Try.ntmps138
 go_wp2_with (first | ((with_reducible refine gate_dst (N := 9) rfl ?_); refine Kd.R_lit (Kd.int .i64) _ 3 ?hg (N := 9) ?hd (xs := ([] : List Int)) (inner := []) (ok := fun _ => True) (okp := fun _ => True) ?hr ?hp (fun _ hk => hk) trivial (Below.refl _ _) (Nat.le_refl _) (by simp) ?_; (case hd => rfl); (case hg => rfl); (case hr => first | (go_simp; done) | (go_simp; rfl)); (case hp => exact (Reps.none _ _)); intro v251 w3 ho4 hb hg_ hnew_; clear hg_ hnew_; (first | rw [← Ny250.out] at ho4 | (simp only [Int.reduceToNat] at ho4; rw [← Ny250.out] at ho4)); have n0_ := aM_ (Kd.R_lower ho4 (sZ_ (bw_))); have n1_ := aM_ (wS_ (bw_) hb); clear HB; have HO252 := n0_; have HB := n1_; clear n0_ n1_ hb ho4))
 go_loopg [5, 6] k (fun kq v5 v6 w' => ∃ (x5_1 : List Int) (x6_1 : Int), v6 = .int .i64 x6_1 ∧ Aside0 (spec_NeighborsIn.l0 kq l0 a1 x5_1 x6_1 = some r) ∧ Aside0 (kq ≤ k) ∧ Aside0 (Kd.R (Kd.int .i64) 3 w' w.heap.size (fun _ => True) v5 x5_1) ∧ Aside0 (Below w.heap.size w w'))
 case atStart => exact ⟨(y250), (0), (by first | rfl | (simp; done) | (simp [*]; done)), H', ⟨Nat.le_refl _⟩, ⟨by (with_reducible repeat (first | apply rA_ | apply rN_ | apply rD_)); exact HO252.out⟩, ⟨bw_⟩⟩
 case round =>
  clear H'
  obtain ⟨x5_1, x6_1, rfl, HA, HK1, HO_5, HB⟩ := hrel
  cases gk with
  | zero => exact absurd HA.out (by simp [spec_NeighborsIn.l0])
  | succ k1 =>
   have H := HA.out; clear HA
   simp only [spec_NeighborsIn.l0] at H
   by_cases c5 : x6_1 < (l0.length : Int)
   ·rw [if_pos c5] at H
    have c5b0 : decide (x6_1 < (l0.length : Int)) = true := decide_eq_true c5
    clear c5
    by_cases c6 : 0 ≤ x6_1
    ·rw [if_pos c6] at H
     have c6b0 : decide (0 ≤ x6_1) = true := decide_eq_true c6
     clear c6; have HC7 := aM_ H; clear H
     have p253 : 0 ≤ (x6_1 : Int) := dT_
     have q253 : x6_1 < (l0.length : Int) := dT_
     obtain ⟨ad253, e253, hx253_0, hx253_1⟩ := at_T123 HR0.out x6_1 p253 q253
     cases e253
     replace hx253_0 := (HB.out.cell (World.block_lt_of_cell? w _ hx253_0)).trans hx253_0
     replace hx253_1 := (HB.out.cell (World.block_lt_of_cell? w _ hx253_1)).trans hx253_1
     replace p253 := eq_true p253; replace q253 := eq_true q253
     go_upto_if 22 with (fail)
     go_cut [7] (fun v7 wc => ∃ (kq : Nat) (x7_6 : Int), v7 = .int .i64 x7_6 ∧ Aside0 (spec_NeighborsIn.j1 kq l0 a1 x5_1 x6_1 x7_6 = some r) ∧ Aside0 (kq ≤ k1) ∧ Aside0 (Kd.R (Kd.int .i64) 3 wc w.heap.size (fun _ => True) u5 x5_1) ∧ Aside0 (Below w.heap.size w wc))
     case first =>
      have H := HC7.out; clear HC7
      by_cases c8 : ((rd_T123 l0 x6_1).f0) = a1
      ·rw [if_pos c8] at H
       have c8b0 : (((rd_T123 l0 x6_1).f0) == a1) = true := beq_iff_eq.mpr c8
       have c8b1 : (((rd_T123 l0 x6_1).f0) != a1) = false := bne_eq_false_iff_eq.mpr c8
       clear c8
       (first | rw [c8b0] | (simp only [i64_w, i32_w]; rw [c8b0]) | skip)
       have H' := aM_ H
       clear H
       have p254 : 0 ≤ (x6_1 : Int) := dT_
       have q254 : x6_1 < (l0.length : Int) := dT_
       obtain ⟨ad254, e254, hx254_0, hx254_1⟩ := at_T123 HR0.out x6_1 p254 q254
       obtain rfl : ad253 = ad254 := (by injection e254)
       replace hx254_0 := (HB.out.cell (World.block_lt_of_cell? w _ hx254_0)).trans hx254_0
       replace hx254_1 := (HB.out.cell (World.block_lt_of_cell? w _ hx254_1)).trans hx254_1
       replace p254 := eq_true p254; replace q254 := eq_true q254
       go_wp2
       go_meet
       case rel => exact ⟨_, ((rd_T123 l0 x6_1).f1), (by first | rfl | (simp; done) | (simp [*]; done)), H', ⟨by have := HK1.out; first | omega | exact Nat.le_refl _⟩, ⟨by (with_reducible repeat (first | apply rA_ | apply rN_ | apply rD_)); exact HO_5.out⟩, ⟨bw_⟩⟩
      ·rw [if_neg c8] at H
       have c8b0 : (((rd_T123 l0 x6_1).f0) == a1) = false := beq_eq_false_iff_ne.mpr c8
       have c8b1 : (((rd_T123 l0 x6_1).f0) != a1) = true := bne_iff_ne.mpr c8
       (first | rw [c8b0] | (simp only [i64_w, i32_w]; rw [c8b0]) | skip)
       by_cases c9 : ((rd_T123 l0 x6_1).f1) = a1
       ·rw [if_pos c9] at H
        have c9b0 : (((rd_T123 l0 x6_1).f1) == a1) = true := beq_iff_eq.mpr c9
        have c9b1 : (((rd_T123 l0 x6_1).f1) != a1) = false := bne_eq_false_iff_eq.mpr c9
        clear c9
        have H' := aM_ H
        clear H
        have p255 : 0 ≤ (x6_1 : Int) := dT_
        have q255 : x6_1 < (l0.length : Int) := dT_
        obtain ⟨ad255, e255, hx255_0, hx255_1⟩ := at_T123 HR0.out x6_1 p255 q255
        obtain rfl : ad253 = ad255 := (by injection e255)
        replace hx255_0 := (HB.out.cell (World.block_lt_of_cell? w _ hx255_0)).trans hx255_0
        replace hx255_1 := (HB.out.cell (World.block_lt_of_cell? w _ hx255_1)).trans hx255_1
        replace p255 := eq_true p255; replace q255 := eq_true q255
        have p256 : 0 ≤ (x6_1 : Int) := dT_
        have q256 : x6_1 < (l0.length : Int) := dT_
        obtain ⟨ad256, e256, hx256_0, hx256_1⟩ := at_T123 HR0.out x6_1 p256 q256
        obtain rfl : ad253 = ad256 := (by injection e256)
        replace hx256_0 := (HB.out.cell (World.block_lt_of_cell? w _ hx256_0)).trans hx256_0
        replace hx256_1 := (HB.out.cell (World.block_lt_of_cell? w _ hx256_1)).trans hx256_1
        replace p256 := eq_true p256; replace q256 := eq_true q256
        go_wp2
        go_meet
        case rel => exact ⟨_, ((rd_T123 l0 x6_1).f0), (by first | rfl | (simp; done) | (simp [*]; done)), H', ⟨by have := HK1.out; first | omega | exact Nat.le_refl _⟩, ⟨by (with_reducible repeat (first | apply rA_ | apply rN_ | apply rD_)); exact HO_5.out⟩, ⟨bw_⟩⟩
       ·rw [if_neg c9] at H
        have c9b0 : (((rd_T123 l0 x6_1).f1) == a1) = false := beq_eq_false_iff_ne.mpr c9
        have c9b1 : (((rd_T123 l0 x6_1).f1) != a1) = true := bne_iff_ne.mpr c9
        have H' := aM_ H
        clear H
        have p255 : 0 ≤ (x6_1 : Int) := dT_
        have q255 : x6_1 < (l0.length : Int) := dT_
        obtain ⟨ad255, e255, hx255_0, hx255_1⟩ := at_T123 HR0.out x6_1 p255 q255
        obtain rfl : ad253 = ad255 := (by injection e255)
        replace hx255_0 := (HB.out.cell (World.block_lt_of_cell? w _ hx255_0)).trans hx255_0
        replace hx255_1 := (HB.out.cell (World.block_lt_of_cell? w _ hx255_1)).trans hx255_1
        replace p255 := eq_true p255; replace q255 := eq_true q255
        go_wp2
        go_roundg k1
        case measure => have := HK1.out; omega
        case rel => exact ⟨(x5_1), (wrap64 (x6_1 + 1)), (by first | rfl | (simp; done) | (simp [*]; done)), H', ⟨by have := HK1.out; omega⟩, ⟨by (with_reducible repeat (first | apply rA_ | apply rN_ | apply rD_)); exact HO_5.out⟩, ⟨bw_⟩⟩
     case rest =>
      clear HC7
      try clear hx2
      try clear c5b0
      try clear c6b0
      try clear c8b0
      try clear c8b1
      try clear c9b0
      try clear c9b1
      try clear hx253_0
      try clear hx253_1
      try clear hx254_0
      try clear hx254_1
      try clear hx255_0
      try clear hx255_1
      try clear hx256_0
      try clear hx256_1
      obtain ⟨kq, x7_6, rfl, HA, HJ6, HO_5, HB⟩ := hcut
      cases kq with
      | zero => exact absurd HA.out (by simp [spec_NeighborsIn.j1])
      | succ kj6 =>
       have H := HA.out; clear HA
       simp only [spec_NeighborsIn.j1] at H
       have H' := aM_ H
       clear H
       go_wp2
       go_loopg [8] kj6 (fun kq v8 w' => ∃ (x8_3 : Int), v8 = .int .i64 x8_3 ∧ Aside0 (spec_NeighborsIn.l1 kq l0 a1 x5_1 x6_1 x7_6 x8_3 = some r) ∧ Aside0 (kq ≤ kj6) ∧ Aside0 (Kd.R (Kd.int .i64) 3 w' w.heap.size (fun _ => True) u5 x5_1) ∧ Aside0 (Below w.heap.size w w'))
       case atStart => exact ⟨(0), (by first | rfl | (simp; done) | (simp [*]; done)), H', ⟨Nat.le_refl _⟩, ⟨by (with_reducible repeat (first | apply rA_ | apply rN_ | apply rD_)); exact HO_5.out⟩, ⟨bw_⟩⟩
       case round =>
        clear H'
        try clear hx2
        try clear c5b0
        try clear c6b0
        try clear c8b0
        try clear c8b1
        try clear c9b0
        try clear c9b1
        try clear hx253_0
        try clear hx253_1
        try clear hx254_0
        try clear hx254_1
        try clear hx255_0
        try clear hx255_1
        try clear hx256_0
        try clear hx256_1
        obtain ⟨x8_3, rfl, HA, HK3, HO_5, HB⟩ := hrel
        cases gk with
        | zero => exact absurd HA.out (by simp [spec_NeighborsIn.l1])
        | succ k3 =>
         have H := HA.out; clear HA
         simp only [spec_NeighborsIn.l1] at H
         have HC10 := aM_ H; clear H
         go_upto_region 11 with (fail)
         go_cut [51] (fun v51 wc => ∃ (kq : Nat) (x51_9 : Bool), v51 = .bool x51_9 ∧ Aside0 (spec_NeighborsIn.j3 kq l0 a1 x5_1 x6_1 x7_6 x8_3 x51_9 = some r) ∧ Aside0 (kq ≤ k3) ∧ Aside0 (Kd.R (Kd.int .i64) 3 wc w.heap.size (fun _ => True) u5 x5_1) ∧ Aside0 (Below w.heap.size w wc))
         case first =>
          have H := HC10.out; clear HC10
          by_cases c11 : x8_3 < (x5_1.length : Int)
          ·rw [if_pos c11] at H
           have c11b0 : decide (x8_3 < (x5_1.length : Int)) = true := decide_eq_true c11
           clear c11
           (first | rw [c11b0] | (simp only [i64_w, i32_w]; rw [c11b0]) | skip)
           by_cases c12 : 0 ≤ x8_3
           ·rw [if_pos c12] at H
            have c12b0 : decide (0 ≤ x8_3) = true := decide_eq_true c12
            clear c12
            have H' := aM_ H
            clear H
            obtain ⟨Ao13, co13, eo13⟩ := Kd.R_slice HO_5.out
            subst eo13
            have p257 : 0 ≤ (x8_3 : Int) := dT_
            have q257 : x8_3 < (x5_1.length : Int) := dT_
            obtain ⟨ad257, e257, hx257_0⟩ := Kd.at_int (Kd.R_reads' HO_5.out).2.2 x8_3 p257 q257
            cases e257
            replace p257 := eq_true p257; replace q257 := eq_true q257
            go_wp2
            go_meet
            case rel => exact ⟨_, (decide ((rd x5_1 x8_3) < x7_6)), (by first | rfl | (simp; done) | (simp [*]; done)), H', ⟨by have := HK1.out; have := HJ6.out; have := HK3.out; first | omega | exact Nat.le_refl _⟩, ⟨by (with_reducible repeat (first | apply rA_ | apply rN_ | apply rD_)); exact HO_5.out⟩, ⟨bw_⟩⟩
           ·rw [if_neg c12] at H
            exact absurd H (by simp)
          ·rw [if_neg c11] at H
           have c11b0 : decide (x8_3 < (x5_1.length : Int)) = false := decide_eq_false c11
           clear c11
           (first | rw [c11b0] | (simp only [i64_w, i32_w]; rw [c11b0]) | skip)
           have H' := aM_ H
           clear H
           obtain ⟨Ao14, co14, eo14⟩ := Kd.R_slice HO_5.out
           subst eo14
           go_wp2
           go_meet
           case rel => exact ⟨_, (false), (by first | rfl | (simp; done) | (simp [*]; done)), H', ⟨by have := HK1.out; have := HJ6.out; have := HK3.out; first | omega | exact Nat.le_refl _⟩, ⟨by (with_reducible repeat (first | apply rA_ | apply rN_ | apply rD_)); exact HO_5.out⟩, ⟨bw_⟩⟩
         case rest =>
          clear HC10
          try clear hx2
          try clear c5b0
          try clear c6b0
          try clear c8b0
          try clear c8b1
          try clear c9b0
          try clear c9b1
          try clear c11b0
          try clear c12b0
          try clear hx253_0
          try clear hx253_1
          try clear hx254_0
          try clear hx254_1
          try clear hx255_0
          try clear hx255_1
          try clear hx256_0
          try clear hx256_1
          try clear hx257_0
          obtain ⟨kq, x51_9, rfl, HA, HJ9, HO_5, HB⟩ := hcut
          cases kq with
          | zero => exact absurd HA.out (by simp [spec_NeighborsIn.j3])
          | succ kj9 =>
           have H := HA.out; clear HA
           simp only [spec_NeighborsIn.j3] at H
           by_cases c15 : x51_9 = true
           ·subst c15
            have H1 : (spec_NeighborsIn.l1 kj9 l0 a1 x5_1 x6_1 x7_6 (wrap64 (x8_3 + 1))) = some r := by rw [if_pos rfl] at H; exact H
            clear H; have H := H1; clear H1
            have H' := aM_ H
            clear H
            go_wp2
            go_roundg kj9
            case measure => have := HK1.out; have := HJ6.out; have := HK3.out; have := HJ9.out; omega
            case rel => exact ⟨(wrap64 (x8_3 + 1)), (by first | rfl | (simp; done) | (simp [*]; done)), H', ⟨by have := HK1.out; have := HJ6.out; have := HK3.out; have := HJ9.out; omega⟩, ⟨by (with_reducible repeat (first | apply rA_ | apply rN_ | apply rD_)); exact HO_5.out⟩, ⟨bw_⟩⟩
           ·replace c15 := Bool.eq_false_iff.mpr c15
            subst c15
            have H1 : (if x8_3 = (x5_1.length : Int) then (spec_NeighborsIn.j4 kj9 l0 a1 x5_1 x6_1 x7_6 x8_3 true) else (if 0 ≤ x8_3 then (if x8_3 < (x5_1.length : Int) then (spec_NeighborsIn.j4 kj9 l0 a1 x5_1 x6_1 x7_6 x8_3 ((rd x5_1 x8_3) != x7_6)) else (none)) else (none))) = some r := by rw [if_neg (show ¬ (false = true) by decide)] at H; exact H
            clear H; have H := H1; clear H1; have HC16 := aM_ H; clear H
            go_upto_region 13 with (fail)
            go_cut [65] (fun v65 wc => ∃ (kq : Nat) (x65_15 : Bool), v65 = .bool x65_15 ∧ Aside0 (spec_NeighborsIn.j4 kq l0 a1 x5_1 x6_1 x7_6 x8_3 x65_15 = some r) ∧ Aside0 (kq ≤ kj9) ∧ Aside0 (Kd.R (Kd.int .i64) 3 wc w.heap.size (fun _ => True) u5 x5_1) ∧ Aside0 (Below w.heap.size w wc))
            case first =>
             have H := HC16.out; clear HC16
             by_cases c17 : x8_3 = (x5_1.length : Int)
             ·rw [if_pos c17] at H
              have c17b0 : (x8_3 == (x5_1.length : Int)) = true := beq_iff_eq.mpr c17
              have c17b1 : (x8_3 != (x5_1.length : Int)) = false := bne_eq_false_iff_eq.mpr c17
              clear c17
              (first | rw [c17b0] | (simp only [i64_w, i32_w]; rw [c17b0]) | skip)
              have H' := aM_ H
              clear H
              obtain ⟨Ao18, co18, eo18⟩ := Kd.R_slice HO_5.out
              subst eo18
              go_wp2
              go_meet
              case rel => exact ⟨_, (true), (by first | rfl | (simp; done) | (simp [*]; done)), H', ⟨by have := HK1.out; have := HJ6.out; have := HK3.out; have := HJ9.out; first | omega | exact Nat.le_refl _⟩, ⟨by (with_reducible repeat (first | apply rA_ | apply rN_ | apply rD_)); exact HO_5.out⟩, ⟨bw_⟩⟩
             ·rw [if_neg c17] at H
              have c17b0 : (x8_3 == (x5_1.length : Int)) = false := beq_eq_false_iff_ne.mpr c17
              have c17b1 : (x8_3 != (x5_1.length : Int)) = true := bne_iff_ne.mpr c17
              (first | rw [c17b0] | (simp only [i64_w, i32_w]; rw [c17b0]) | skip)
              by_cases c19 : 0 ≤ x8_3
              ·rw [if_pos c19] at H
               have c19b0 : decide (0 ≤ x8_3) = true := decide_eq_true c19
               clear c19
               by_cases c20 : x8_3 < (x5_1.length : Int)
               ·rw [if_pos c20] at H
                have c20b0 : decide (x8_3 < (x5_1.length : Int)) = true := decide_eq_true c20
                clear c20
                have H' := aM_ H
                clear H
                obtain ⟨Ao21, co21, eo21⟩ := Kd.R_slice HO_5.out
                subst eo21
                have p258 : 0 ≤ (x8_3 : Int) := dT_
                have q258 : x8_3 < (x5_1.length : Int) := dT_
                obtain ⟨ad258, e258, hx258_0⟩ := Kd.at_int (Kd.R_reads' HO_5.out).2.2 x8_3 p258 q258
                cases e258
                replace p258 := eq_true p258; replace q258 := eq_true q258
                go_wp2
                go_meet
                case rel => exact ⟨_, (((rd x5_1 x8_3) != x7_6)), (by first | rfl | (simp; done) | (simp [*]; done)), H', ⟨by have := HK1.out; have := HJ6.out; have := HK3.out; have := HJ9.out; first | omega | exact Nat.le_refl _⟩, ⟨by (with_reducible repeat (first | apply rA_ | apply rN_ | apply rD_)); exact HO_5.out⟩, ⟨bw_⟩⟩
               ·rw [if_neg c20] at H
                exact absurd H (by simp)
              ·rw [if_neg c19] at H
               exact absurd H (by simp)
            case rest =>
             clear HC16
             try clear hx2
             try clear c5b0
             try clear c6b0
             try clear c8b0
             try clear c8b1
             try clear c9b0
             try clear c9b1
             try clear c11b0
             try clear c12b0
             try clear c17b0
             try clear c17b1
             try clear c19b0
             try clear c20b0
             try clear hx253_0
             try clear hx253_1
             try clear hx254_0
             try clear hx254_1
             try clear hx255_0
             try clear hx255_1
             try clear hx256_0
             try clear hx256_1
             try clear hx257_0
             try clear hx258_0
             obtain ⟨kq, x65_15, rfl, HA, HJ15, HO_5, HB⟩ := hcut
             cases kq with
             | zero => exact absurd HA.out (by simp [spec_NeighborsIn.j4])
             | succ kj15 =>
              have H := HA.out; clear HA
              simp only [spec_NeighborsIn.j4] at H
              by_cases c22 : x65_15 = true
              ·subst c22
               have H1 : ((some (([] : List Int) : List Int)).bind fun y259 => (if 0 ≤ x8_3 then (if x8_3 ≤ (x5_1.length : Int) then ((some (x5_1.take (x8_3 : Int).toNat : List Int)).bind fun y262 => (if y259.length + y262.length < 17592186044416 then ((some (y259 ++ y262 : List Int)).bind fun y266 => ((some (([x7_6] : List Int) : List Int)).bind fun y269 => (if y266.length + y269.length < 17592186044416 then ((some (y266 ++ y269 : List Int)).bind fun y272 => ((some (x5_1.drop (x8_3 : Int).toNat : List Int)).bind fun y275 => (if y272.length + y275.length < 17592186044416 then (spec_NeighborsIn.l0 kj15 l0 a1 (y272 ++ y275) (wrap64 (x6_1 + 1))) else (none)))) else (none)))) else (none))) else (none)) else (none))) = some r := by rw [if_pos rfl] at H; exact H
               clear H; have H := H1; clear H1
               obtain ⟨y259, hy259⟩ : ∃ y_ : List Int, y_ = (([] : List Int)) := ⟨_, rfl⟩
               replace H : (if 0 ≤ x8_3 then (if x8_3 ≤ (x5_1.length : Int) then ((some (x5_1.take (x8_3 : Int).toNat : List Int)).bind fun y262 => (if y259.length + y262.length < 17592186044416 then ((some (y259 ++ y262 : List Int)).bind fun y266 => ((some (([x7_6] : List Int) : List Int)).bind fun y269 => (if y266.length + y269.length < 17592186044416 then ((some (y266 ++ y269 : List Int)).bind fun y272 => ((some (x5_1.drop (x8_3 : Int).toNat : List Int)).bind fun y275 => (if y272.length + y275.length < 17592186044416 then (spec_NeighborsIn.l0 kj15 l0 a1 (y272 ++ y275) (wrap64 (x6_1 + 1))) else (none)))) else (none)))) else (none))) else (none)) else (none)) = some r := by first | (rw [hy259]; with_reducible exact H) | (have H2_ := (Option.bind_some _ _).symm.trans H; rw [hy259]; with_reducible exact H2_) | (have H2_ := (Option.bind_some _ _).symm.trans H; with_reducible exact H2_) | with_reducible exact H | (rw [hy259]; exact H) | exact H
               have Ny259 := aM_ hy259; clear hy259
               by_cases c23 : 0 ≤ x8_3
               ·rw [if_pos c23] at H
                have c23b0 := eq_true c23
                have c23b1 : decide (0 ≤ x8_3) = true := decide_eq_true c23
                clear c23
                by_cases c24 : x8_3 ≤ (x5_1.length : Int)
                ·rw [if_pos c24] at H
                 have c24b0 := eq_true c24
                 have c24b1 : decide (x8_3 ≤ (x5_1.length : Int)) = true := decide_eq_true c24
                 clear c24
                 obtain ⟨y262, hy262⟩ : ∃ y_ : List Int, y_ = (x5_1.take (x8_3 : Int).toNat) := ⟨_, rfl⟩
                 replace H : (if y259.length + y262.length < 17592186044416 then ((some (y259 ++ y262 : List Int)).bind fun y266 => ((some (([x7_6] : List Int) : List Int)).bind fun y269 => (if y266.length + y269.length < 17592186044416 then ((some (y266 ++ y269 : List Int)).bind fun y272 => ((some (x5_1.drop (x8_3 : Int).toNat : List Int)).bind fun y275 => (if y272.length + y275.length < 17592186044416 then (spec_NeighborsIn.l0 kj15 l0 a1 (y272 ++ y275) (wrap64 (x6_1 + 1))) else (none)))) else (none)))) else (none)) = some r := by first | (rw [hy262]; with_reducible exact H) | (have H2_ := (Option.bind_some _ _).symm.trans H; rw [hy262]; with_reducible exact H2_) | (have H2_ := (Option.bind_some _ _).symm.trans H; with_reducible exact H2_) | with_reducible exact H | (rw [hy262]; exact H) | exact H
                 have Ny262 := aM_ hy262; clear hy262
                 by_cases c25 : y259.length + y262.length < 17592186044416
                 ·rw [if_pos c25] at H
                  have LMc25 := aM_ c25; clear c25
                  obtain ⟨y266, hy266⟩ : ∃ y_ : List Int, y_ = (y259 ++ y262) := ⟨_, rfl⟩
                  replace H : ((some (([x7_6] : List Int) : List Int)).bind fun y269 => (if y266.length + y269.length < 17592186044416 then ((some (y266 ++ y269 : List Int)).bind fun y272 => ((some (x5_1.drop (x8_3 : Int).toNat : List Int)).bind fun y275 => (if y272.length + y275.length < 17592186044416 then (spec_NeighborsIn.l0 kj15 l0 a1 (y272 ++ y275) (wrap64 (x6_1 + 1))) else (none)))) else (none))) = some r := by first | (rw [hy266]; with_reducible exact H) | (have H2_ := (Option.bind_some _ _).symm.trans H; rw [hy266]; with_reducible exact H2_) | (have H2_ := (Option.bind_some _ _).symm.trans H; with_reducible exact H2_) | with_reducible exact H | (rw [hy266]; exact H) | exact H
                  have Ny266 := aM_ hy266; clear hy266
                  obtain ⟨y269, hy269⟩ : ∃ y_ : List Int, y_ = (([x7_6] : List Int)) := ⟨_, rfl⟩
                  replace H : (if y266.length + y269.length < 17592186044416 then ((some (y266 ++ y269 : List Int)).bind fun y272 => ((some (x5_1.drop (x8_3 : Int).toNat : List Int)).bind fun y275 => (if y272.length + y275.length < 17592186044416 then (spec_NeighborsIn.l0 kj15 l0 a1 (y272 ++ y275) (wrap64 (x6_1 + 1))) else (none)))) else (none)) = some r := by first | (rw [hy269]; with_reducible exact H) | (have H2_ := (Option.bind_some _ _).symm.trans H; rw [hy269]; with_reducible exact H2_) | (have H2_ := (Option.bind_some _ _).symm.trans H; with_reducible exact H2_) | with_reducible exact H | (rw [hy269]; exact H) | exact H
                  have Ny269 := aM_ hy269; clear hy269
                  by_cases c26 : y266.length + y269.length < 17592186044416
                  ·rw [if_pos c26] at H
                   have LMc26 := aM_ c26; clear c26
                   obtain ⟨y272, hy272⟩ : ∃ y_ : List Int, y_ = (y266 ++ y269) := ⟨_, rfl⟩
                   replace H : ((some (x5_1.drop (x8_3 : Int).toNat : List Int)).bind fun y275 => (if y272.length + y275.length < 17592186044416 then (spec_NeighborsIn.l0 kj15 l0 a1 (y272 ++ y275) (wrap64 (x6_1 + 1))) else (none))) = some r := by first | (rw [hy272]; with_reducible exact H) | (have H2_ := (Option.bind_some _ _).symm.trans H; rw [hy272]; with_reducible exact H2_) | (have H2_ := (Option.bind_some _ _).symm.trans H; with_reducible exact H2_) | with_reducible exact H | (rw [hy272]; exact H) | exact H
                   have Ny272 := aM_ hy272; clear hy272; have c27b0 := eq_true (dT_ : 0 ≤ x8_3); have c28b0 := eq_true (dT_ : x8_3 ≤ (x5_1.length : Int))
                   obtain ⟨y275, hy275⟩ : ∃ y_ : List Int, y_ = (x5_1.drop (x8_3 : Int).toNat) := ⟨_, rfl⟩
                   replace H : (if y272.length + y275.length < 17592186044416 then (spec_NeighborsIn.l0 kj15 l0 a1 (y272 ++ y275) (wrap64 (x6_1 + 1))) else (none)) = some r := by first | (rw [hy275]; with_reducible exact H) | (have H2_ := (Option.bind_some _ _).symm.trans H; rw [hy275]; with_reducible exact H2_) | (have H2_ := (Option.bind_some _ _).symm.trans H; with_reducible exact H2_) | with_reducible exact H | (rw [hy275]; exact H) | exact H
                   have Ny275 := aM_ hy275; clear hy275
                   by_cases c29 : y272.length + y275.length < 17592186044416
                   ·rw [if_pos c29] at H
                    have LMc29 := aM_ c29; clear c29
                    obtain ⟨y279, hy279⟩ : ∃ y_ : List Int, y_ = (y272 ++ y275) := ⟨_, rfl⟩
                    replace H : (spec_NeighborsIn.l0 kj15 l0 a1 y279 (wrap64 (x6_1 + 1))) = some r := by first | (rw [hy279]; with_reducible exact H) | (have H2_ := (Option.bind_some _ _).symm.trans H; rw [hy279]; with_reducible exact H2_) | (have H2_ := (Option.bind_some _ _).symm.trans H; with_reducible exact H2_) | with_reducible exact H | (rw [hy279]; exact H) | exact H
                    have Ny279 := aM_ hy279; clear hy279
                    have H' := aM_ H
                    clear H
                    try go_wp2
                    have n0_ := aM_ (rD_ HO_5.out); have n1_ := aM_ (wD_ HB.out); clear HO_5 HB; have HO_5 := n0_; have HB := n1_; clear n0_ n1_
                    obtain ⟨Ao32, co32, eo32⟩ := Kd.R_slice HO_5.out
                    (first | subst eo32 | (injection eo32 with f1_ f2_ f3_; have f4_ := f1_.symm; have f5_ := f3_.symm; clear f1_ f2_ f3_; subst f4_; subst f5_))
                    have q31 : (x8_3 : Int) ≤ ((x5_1.length : Int) : Int) := dT_
                    obtain ⟨i031, hi031, _, hsz31, _⟩ := info_parts info3
                    have hroom31 : x5_1.length ≤ co32 := (Kd.R_reads' HO_5.out).2.1
                    have hC31 : Kd.C (Kd.int .i64) _ Ao32 x5_1.length x5_1 := (Kd.R_reads' HO_5.out).2.2
                    have hcut31 := cut_to (P := Try.prog) 51 3 .i64 Try.underlying51 hi031 Ao32 x5_1.length co32 x8_3 (dT_) q31 hroom31; have hr31 := Kd.C_take (m := (x8_3 : Int).toNat) hC31 (by omega)
                    have hy31 : y262.length = (x8_3 : Int).toNat := (by rw [Ny262.out, List.length_take]; omega)
                    rw [← Ny262.out] at hr31
                    rw [← hy31] at hcut31
                    have HR265 := aM_ hr31; have HC265 := aM_ (show y262.length ≤ co32 from by omega); clear hr31 hC31 hroom31 hi031 hsz31; have KY31 := aM_ hy31; clear hy31; have KL31 := aM_ (show (x8_3 : Int).toNat ≤ x5_1.length from by omega); replace q31 := eq_true q31
                    have q33 : (x8_3 : Int) ≤ ((x5_1.length : Int) : Int) := dT_
                    obtain ⟨i033, hi033, _, hsz33, _⟩ := info_parts info3
                    have hroom33 : x5_1.length ≤ co32 := (Kd.R_reads' HO_5.out).2.1
                    have hC33 : Kd.C (Kd.int .i64) _ Ao32 x5_1.length x5_1 := (Kd.R_reads' HO_5.out).2.2
                    have q033 : (0 : Int) ≤ (x8_3 : Int) := dT_
                    have hcut33 := cut_from (P := Try.prog) 51 3 .i64 Try.underlying51 hi033 1 hsz33 Ao32 x5_1.length co32 x8_3 q033 q33; have hr33 := Kd.C_drop (m := (x8_3 : Int).toNat) (c := co32) hC33 (by omega) hroom33
                    obtain ⟨A33, hA33⟩ : ∃ A1, A1 = (if co32 = (x8_3 : Int).toNat then Ao32 else (Ao32 : Option Addr).map (·.add ((x8_3 : Int).toNat * 1))) := ⟨_, rfl⟩
                    obtain ⟨c33, hc33⟩ : ∃ c1, c1 = co32 - (x8_3 : Int).toNat := ⟨_, rfl⟩
                    have hy33 : y275.length = x5_1.length - (x8_3 : Int).toNat := (by rw [Ny275.out, List.length_drop] <;> omega)
                    rw [show (x5_1).drop (x8_3 : Int).toNat = y275 from Ny275.out.symm] at hr33
                    replace hr33 : Kd.C (Kd.int .i64) _ A33 y275.length y275 := (by rw [hA33]; exact hr33)
                    rw [← hy33, ← hA33, ← hc33] at hcut33
                    have HR278 := aM_ hr33; have HC278 := aM_ (show y275.length ≤ c33 from by rw [hy33, hc33]; exact Nat.sub_le_sub_right hroom33 _); clear hr33 hC33 hroom33 hi033 hsz33 hc33; have KY33 := aM_ hy33; have KA33 := aM_ hA33; clear hy33 hA33; have KL33 := aM_ (show (x8_3 : Int).toNat ≤ x5_1.length from by omega); replace q33 := eq_true q33
                    refine start_ (n := 13) (S := fun w' => True) (ds := []) #[false, false, false, false, false, false, false, false, false, false, false, false, false] (by kernel_rfl) rfl rfl trivial (fun hHeld => ?_); refine with_tabW spec_NeighborsIn.tab14 spec_NeighborsIn.bits14 (fun HT_ HW_ => ?_)
                    generalize wc.drew = w30 at HO_5 HB HR265 HR278 hHeld ⊢
                    refine pu_ 1 (some 67) #[false, true, false, false, false, false, false, false, false, false, false, false, false] rfl rfl ?_
                    refine pu_ 2 (some 68) #[false, true, true, false, false, false, false, false, false, false, false, false, false] rfl rfl ?_
                    refine pu_ 3 (some 69) #[false, true, true, true, false, false, false, false, false, false, false, false, false] rfl rfl ?_
                    refine pu_ 5 (some 71) #[false, true, true, true, false, true, false, false, false, false, false, false, false] rfl rfl ?_
                    refine pu_ 8 (some 74) #[false, true, true, true, false, true, false, false, true, false, false, false, false] rfl rfl ?_
                    refine pu_ 9 (some 75) #[false, true, true, true, false, true, false, false, true, true, false, false, false] rfl rfl ?_
                    refine pu_ 10 (some 76) #[false, true, true, true, false, true, false, false, true, true, true, false, false] rfl rfl ?_
                    refine join_ (σ := Value × Value × Value) 3 #[true, true, true, true, true, true, true, false, true, true, true, false, false] (fun s_ => [(66, s_.1), (70, s_.2.1), (72, s_.2.2)]) (fun s_ w' => (Kd.R (Kd.int .i64) 3 w' w.heap.size (fun k_ => some k_ ≠ (s_.2.2 : Value).ownBlock ∧ some k_ ≠ (.slice Ao32 x5_1.length co32 : Value).ownBlock) s_.2.1 y266) ∧ (Kd.R (Kd.int .i64) 3 w' w.heap.size (fun k_ => some k_ ≠ (s_.2.1 : Value).ownBlock ∧ some k_ ≠ (.slice Ao32 x5_1.length co32 : Value).ownBlock) s_.2.2 y269) ∧ (Kd.R (Kd.int .i64) 3 w' w.heap.size (fun k_ => some k_ ≠ (s_.2.1 : Value).ownBlock ∧ some k_ ≠ (s_.2.2 : Value).ownBlock) (.slice Ao32 x5_1.length co32) x5_1) ∧ (Below w.heap.size w w')) ?_ ?_
                    rotate_left
                    ·intro hCont
                     refine two_ (i := 0) (j := 6) (Ni := some 66) (Nj := some 72) #[true, true, true, true, false, true, false, false, true, true, true, false, false] #[false, true, true, true, false, true, true, false, true, true, true, false, false] rfl rfl rfl rfl (two_of HT_.out (by kernel_rfl)) (by decide) (by decide) (fun K hK => ?_) (fun K hK => ?_)
                     ·skip
                      refine Kd.R_lit_step (Kd.int .i64) _ 3 ?hg (N := 66) ?hd (xs := ([] : List Int)) (inner := []) (ok := fun _ => True) (okp := fun _ => True) ?hr ?hp (fun _ hk => hk) trivial (Below.refl _ _) (Nat.le_refl _) (by simp) ?_; (case hd => rfl); (case hg => rfl); (case hr => first | (go_simp; done) | (go_simp; rfl)); (case hp => exact (Reps.none _ _))
                      intro v260 w34 ho35 hb hg_ hnew_
                      clear hg_ hnew_
                      (first | rw [← Ny259.out] at ho35 | (simp only [Int.reduceToNat] at ho35; rw [← Ny259.out] at ho35))
                      have n0_ := aM_ (Kd.R_elder' (rb_ HO_5.out) (Kd.R_base ho35) hb); have n1_ := aM_ (Kd.R_lower (Kd.R_new' ho35 (Kd.R_lt (rb_ HO_5.out))) (sZ_ (bw_)))
                      have n2_ := aM_ (Kd.C_below (by repeat (first | (with_reducible exact HR265.out) | (with_reducible refine cA_ ?_ _) | (with_reducible refine cN_ ?_ _) | (with_reducible refine cD_ ?_) | exact HR265.out)) hb)
                      have n3_ := aM_ (Kd.C_below (by repeat (first | (with_reducible exact HR278.out) | (with_reducible refine cA_ ?_ _) | (with_reducible refine cN_ ?_ _) | (with_reducible refine cD_ ?_) | exact HR278.out)) hb)
                      have n4_ := aM_ (wS_ (bw_) hb); clear HO_5 HR265 HR278 HB; have HO_5 := n0_; have HO261 := n1_; have HR265 := n2_; have HR278 := n3_; have HB := n4_; clear n0_ n1_ n2_ n3_ n4_ hb ho35
                      refine hK.out _ _ trivial (fun hHeld => ?_)
                      clear hK K
                      refine norm_ (a' := ?_) ?_ ?_
                      rotate_left
                      ·show Act.put _ (some 66) _ = _
                       simp only [Act.put, List.setIfInBounds_toArray, List.set_cons_zero, List.set_cons_succ, i64_w, i32_w]
                       rfl
                      refine two_ (i := 4) (j := 6) (Ni := some 70) (Nj := some 72) #[true, true, true, true, true, true, false, false, true, true, true, false, false] #[true, true, true, true, false, true, true, false, true, true, true, false, false] rfl rfl rfl rfl (two_of HT_.out (by kernel_rfl)) (by decide) (by decide) (fun K hK => ?_) (fun K hK => ?_)
                      ·skip
                       refine Kd.R_append_rows_step (Kd.int .i64) (w0 := w) w.heap.size (by rfl) (.tmp 66) (.tmp 69) 51 3 (.int .i64 0) 8 rfl Try.underlying51 info3 rfl (by decide) (by omega) v260 y259 y262 _ _ _ (fun k_ => some k_ ≠ (.slice Ao32 x5_1.length co32 : Value).ownBlock) (fun _ => False) rfl rfl ?aO ?aR (fun _ _ h => h) (fun _ h => h.elim) ?aF ?aB ?aS ?aL ?_
                       (case aR => repeat (first | exact (by repeat (first | (with_reducible exact HR265.out) | (with_reducible refine cA_ ?_ _) | (with_reducible refine cN_ ?_ _) | (with_reducible refine cD_ ?_) | exact HR265.out)) | (with_reducible refine cA_ ?_ _) | (with_reducible refine cN_ ?_ _) | (with_reducible refine cD_ ?_)))
                       (case aB => exact (bw_))
                       (case aF => exact (fun k_ hk => Kd.fresh' (Kd.R_lt (rb_ HO_5.out)) k_ hk))
                       (case aO => exact (by (with_reducible repeat (first | apply rA_ | apply rN_ | apply rD_)); exact Kd.R_mono HO261.out (fun _ hk => hk.2)))
                       (case aS => exact (sZ_ (bw_)))
                       (case aL => have := LMc25.out; omega)
                       intro v267 w36 ho hb hg hat
                       rw [← Ny266.out] at ho
                       have n0_ := aM_ (Kd.R_after (ok := (fun _ => True)) (rb_ HO_5.out) hg hat); have n1_ := aM_ (hb); have n2_ := aM_ ((show Kd.C (Kd.int .i64) w36 Ao32 y262.length y262 from by rw [Ny262.out]; exact Kd.C_take (m := (x8_3 : Int).toNat) ((Kd.R_reads' (Kd.R_after (ok := (fun _ => True)) (rb_ HO_5.out) hg hat)).2.2) KL31.out)); have n3_ := aM_ ((show Kd.C (Kd.int .i64) w36 A33 y275.length y275 from by rw [Ny275.out, KA33.out]; exact Kd.C_drop (m := (x8_3 : Int).toNat) (c := co32) ((Kd.R_reads' (Kd.R_after (ok := (fun _ => True)) (rb_ HO_5.out) hg hat)).2.2) KL33.out ((Kd.R_reads' (Kd.R_after (ok := (fun _ => True)) (rb_ HO_5.out) hg hat)).2.1))); have n4_ := aM_ (ho); clear HO_5 HB HR265 HR278 HO261; have HO_5 := n0_; have HB := n1_; have HR265 := n2_; have HR278 := n3_; have HO268 := n4_; clear n0_ n1_ n2_ n3_ n4_ ho hb hg hat
                       refine hK.out _ _ trivial (fun hHeld => ?_)
                       clear hK K
                       refine norm_ (a' := ?_) ?_ ?_
                       rotate_left
                       ·show Act.put _ (some 70) _ = _
                        simp only [Act.put, List.setIfInBounds_toArray, List.set_cons_zero, List.set_cons_succ, i64_w, i32_w]
                        rfl
                       refine one_ (i := 6) (N := some 72) #[true, true, true, true, true, true, true, false, true, true, true, false, false] rfl rfl (one_of HT_.out (by kernel_rfl)) (by decide) (fun K hK => ?_)
                       refine Kd.R_lit_step (Kd.int .i64) _ 3 ?hg (N := 72) ?hd (xs := ([x7_6] : List Int)) (inner := [.int .i64 x7_6]) (ok := fun _ => True) (okp := fun _ => True) ?hr ?hp (fun _ hk => hk) trivial (Below.refl _ _) (Nat.le_refl _) (by simp) ?_; (case hd => rfl); (case hg => rfl); (case hr => first | (go_simp; done) | (go_simp; rfl)); (case hp => exact (Reps.one (show Kd.M (Kd.int .i64) _ _ _ x7_6 [.int .i64 x7_6] from rfl) (Reps.none _ _)))
                       intro v270 w37 ho38 hb hg_ hnew_
                       clear hg_ hnew_
                       (first | rw [← Ny269.out] at ho38 | (simp only [Int.reduceToNat] at ho38; rw [← Ny269.out] at ho38))
                       have n0_ := aM_ (Kd.R_elder' (rb_ HO_5.out) (Kd.R_base ho38) hb); have n1_ := aM_ (Kd.R_elder' (rb_ HO268.out) (Kd.R_base ho38) hb); have n2_ := aM_ (Kd.R_lower (Kd.R_new' (Kd.R_new' ho38 (Kd.R_lt (rb_ HO_5.out))) (Kd.R_lt (rb_ HO268.out))) (sZ_ (bw_)))
                       have n3_ := aM_ (Kd.C_below (by repeat (first | (with_reducible exact HR265.out) | (with_reducible refine cA_ ?_ _) | (with_reducible refine cN_ ?_ _) | (with_reducible refine cD_ ?_) | exact HR265.out)) hb)
                       have n4_ := aM_ (Kd.C_below (by repeat (first | (with_reducible exact HR278.out) | (with_reducible refine cA_ ?_ _) | (with_reducible refine cN_ ?_ _) | (with_reducible refine cD_ ?_) | exact HR278.out)) hb)
                       have n5_ := aM_ (wS_ (bw_) hb); clear HO_5 HO268 HR265 HR278 HB; have HO_5 := n0_; have HO268 := n1_; have HO271 := n2_; have HR265 := n3_; have HR278 := n4_; have HB := n5_; clear n0_ n1_ n2_ n3_ n4_ n5_ hb ho38
                       refine hK.out _ _ trivial (fun hHeld => ?_)
                       clear hK K
                       refine norm_ (a' := ?_) ?_ ?_
                       rotate_left
                       ·show Act.put _ (some 72) _ = _
                        simp only [Act.put, List.setIfInBounds_toArray, List.set_cons_zero, List.set_cons_succ, i64_w, i32_w]
                        rfl
                       exact norm_ (by simp only [putAll, Act.put, List.setIfInBounds_toArray, List.set_cons_zero, List.set_cons_succ]) (hCont (v260, v267, v270) _ ⟨(by (with_reducible repeat (first | apply rA_ | apply rN_ | apply rD_)); exact Kd.R_mono HO268.out (fun _ hk => ⟨hk.2, hk.1⟩)), (by (with_reducible repeat (first | apply rA_ | apply rN_ | apply rD_)); exact Kd.R_mono HO271.out (fun _ hk => ⟨hk.2, hk.1.2⟩)), (by (with_reducible repeat (first | apply rA_ | apply rN_ | apply rD_)); exact Kd.R_mono HO_5.out (fun _ hk => ⟨hk.1.2, hk.2⟩)), (bw_)⟩)
                      ·skip
                       refine Kd.R_lit_step (Kd.int .i64) _ 3 ?hg (N := 72) ?hd (xs := ([x7_6] : List Int)) (inner := [.int .i64 x7_6]) (ok := fun _ => True) (okp := fun _ => True) ?hr ?hp (fun _ hk => hk) trivial (Below.refl _ _) (Nat.le_refl _) (by simp) ?_; (case hd => rfl); (case hg => rfl); (case hr => first | (go_simp; done) | (go_simp; rfl)); (case hp => exact (Reps.one (show Kd.M (Kd.int .i64) _ _ _ x7_6 [.int .i64 x7_6] from rfl) (Reps.none _ _)))
                       intro v270 w36 ho37 hb hg_ hnew_
                       clear hg_ hnew_
                       (first | rw [← Ny269.out] at ho37 | (simp only [Int.reduceToNat] at ho37; rw [← Ny269.out] at ho37))
                       have n0_ := aM_ (Kd.R_elder' (rb_ HO_5.out) (Kd.R_base ho37) hb); have n1_ := aM_ (Kd.R_elder' (rb_ HO261.out) (Kd.R_base ho37) hb); have n2_ := aM_ (Kd.R_lower (Kd.R_new' (Kd.R_new' ho37 (Kd.R_lt (rb_ HO_5.out))) (Kd.R_lt (rb_ HO261.out))) (sZ_ (bw_)))
                       have n3_ := aM_ (Kd.C_below (by repeat (first | (with_reducible exact HR265.out) | (with_reducible refine cA_ ?_ _) | (with_reducible refine cN_ ?_ _) | (with_reducible refine cD_ ?_) | exact HR265.out)) hb)
                       have n4_ := aM_ (Kd.C_below (by repeat (first | (with_reducible exact HR278.out) | (with_reducible refine cA_ ?_ _) | (with_reducible refine cN_ ?_ _) | (with_reducible refine cD_ ?_) | exact HR278.out)) hb)
                       have n5_ := aM_ (wS_ (bw_) hb); clear HO_5 HO261 HR265 HR278 HB; have HO_5 := n0_; have HO261 := n1_; have HO271 := n2_; have HR265 := n3_; have HR278 := n4_; have HB := n5_; clear n0_ n1_ n2_ n3_ n4_ n5_ hb ho37
                       refine hK.out _ _ trivial (fun hHeld => ?_)
                       clear hK K
                       refine norm_ (a' := ?_) ?_ ?_
                       rotate_left
                       ·show Act.put _ (some 72) _ = _
                        simp only [Act.put, List.setIfInBounds_toArray, List.set_cons_zero, List.set_cons_succ, i64_w, i32_w]
                        rfl
                       refine one_ (i := 4) (N := some 70) #[true, true, true, true, true, true, true, false, true, true, true, false, false] rfl rfl (one_of HT_.out (by kernel_rfl)) (by decide) (fun K hK => ?_)
                       refine Kd.R_append_rows_step (Kd.int .i64) (w0 := w) w.heap.size (by rfl) (.tmp 66) (.tmp 69) 51 3 (.int .i64 0) 8 rfl Try.underlying51 info3 rfl (by decide) (by omega) v260 y259 y262 _ _ _ (fun k_ => some k_ ≠ (.slice Ao32 x5_1.length co32 : Value).ownBlock ∧ some k_ ≠ (v270 : Value).ownBlock) (fun _ => False) rfl rfl ?aO ?aR (fun _ _ h => h) (fun _ h => h.elim) ?aF ?aB ?aS ?aL ?_
                       (case aR => repeat (first | exact (by repeat (first | (with_reducible exact HR265.out) | (with_reducible refine cA_ ?_ _) | (with_reducible refine cN_ ?_ _) | (with_reducible refine cD_ ?_) | exact HR265.out)) | (with_reducible refine cA_ ?_ _) | (with_reducible refine cN_ ?_ _) | (with_reducible refine cD_ ?_)))
                       (case aB => exact (bw_))
                       (case aF => exact (fun k_ hk => ⟨Kd.fresh' (Kd.R_lt (rb_ HO_5.out)) k_ hk, Kd.fresh' (Kd.R_lt (rb_ HO271.out)) k_ hk⟩))
                       (case aO => exact (by (with_reducible repeat (first | apply rA_ | apply rN_ | apply rD_)); exact Kd.R_mono HO261.out (fun _ hk => ⟨hk.1.2, hk.2⟩)))
                       (case aS => exact (sZ_ (bw_)))
                       (case aL => have := LMc25.out; omega)
                       intro v267 w38 ho hb hg hat
                       rw [← Ny266.out] at ho
                       have n0_ := aM_ (Kd.R_after (ok := (fun k_ => some k_ ≠ (v270 : Value).ownBlock)) (by (with_reducible repeat (first | apply rA_ | apply rN_ | apply rD_)); exact Kd.R_mono HO_5.out (fun _ hk => ⟨hk.2, hk.1.2⟩)) hg hat); have n1_ := aM_ (Kd.R_after (ok := (fun k_ => some k_ ≠ (.slice Ao32 x5_1.length co32 : Value).ownBlock)) (by (with_reducible repeat (first | apply rA_ | apply rN_ | apply rD_)); exact Kd.R_mono HO271.out (fun _ hk => ⟨hk.1.2, hk.2⟩)) hg hat); have n2_ := aM_ (hb); have n3_ := aM_ ((show Kd.C (Kd.int .i64) w38 Ao32 y262.length y262 from by rw [Ny262.out]; exact Kd.C_take (m := (x8_3 : Int).toNat) ((Kd.R_reads' (Kd.R_after (ok := (fun k_ => some k_ ≠ (v270 : Value).ownBlock)) (by (with_reducible repeat (first | apply rA_ | apply rN_ | apply rD_)); exact Kd.R_mono HO_5.out (fun _ hk => ⟨hk.2, hk.1.2⟩)) hg hat)).2.2) KL31.out)); have n4_ := aM_ ((show Kd.C (Kd.int .i64) w38 A33 y275.length y275 from by rw [Ny275.out, KA33.out]; exact Kd.C_drop (m := (x8_3 : Int).toNat) (c := co32) ((Kd.R_reads' (Kd.R_after (ok := (fun k_ => some k_ ≠ (v270 : Value).ownBlock)) (by (with_reducible repeat (first | apply rA_ | apply rN_ | apply rD_)); exact Kd.R_mono HO_5.out (fun _ hk => ⟨hk.2, hk.1.2⟩)) hg hat)).2.2) KL33.out ((Kd.R_reads' (Kd.R_after (ok := (fun k_ => some k_ ≠ (v270 : Value).ownBlock)) (by (with_reducible repeat (first | apply rA_ | apply rN_ | apply rD_)); exact Kd.R_mono HO_5.out (fun _ hk => ⟨hk.2, hk.1.2⟩)) hg hat)).2.1))); have n5_ := aM_ (ho); clear HO_5 HO271 HB HR265 HR278 HO261; have HO_5 := n0_; have HO271 := n1_; have HB := n2_; have HR265 := n3_; have HR278 := n4_; have HO268 := n5_; clear n0_ n1_ n2_ n3_ n4_ n5_ ho hb hg hat
                       refine hK.out _ _ trivial (fun hHeld => ?_)
                       clear hK K
                       refine norm_ (a' := ?_) ?_ ?_
                       rotate_left
                       ·show Act.put _ (some 70) _ = _
                        simp only [Act.put, List.setIfInBounds_toArray, List.set_cons_zero, List.set_cons_succ, i64_w, i32_w]
                        rfl
                       exact norm_ (by simp only [putAll, Act.put, List.setIfInBounds_toArray, List.set_cons_zero, List.set_cons_succ]) (hCont (v260, v267, v270) _ ⟨(by (with_reducible repeat (first | apply rA_ | apply rN_ | apply rD_)); exact Kd.R_mono HO268.out (fun _ hk => ⟨hk.2, hk.1⟩)), (by (with_reducible repeat (first | apply rA_ | apply rN_ | apply rD_)); exact Kd.R_mono HO271.out (fun _ hk => ⟨hk.2, hk.1⟩)), (by (with_reducible repeat (first | apply rA_ | apply rN_ | apply rD_)); exact Kd.R_mono HO_5.out (fun _ hk => ⟨hk.2, hk.1⟩)), (bw_)⟩)
                     ·skip
                      refine Kd.R_lit_step (Kd.int .i64) _ 3 ?hg (N := 72) ?hd (xs := ([x7_6] : List Int)) (inner := [.int .i64 x7_6]) (ok := fun _ => True) (okp := fun _ => True) ?hr ?hp (fun _ hk => hk) trivial (Below.refl _ _) (Nat.le_refl _) (by simp) ?_; (case hd => rfl); (case hg => rfl); (case hr => first | (go_simp; done) | (go_simp; rfl)); (case hp => exact (Reps.one (show Kd.M (Kd.int .i64) _ _ _ x7_6 [.int .i64 x7_6] from rfl) (Reps.none _ _)))
                      intro v270 w34 ho35 hb hg_ hnew_
                      clear hg_ hnew_
                      (first | rw [← Ny269.out] at ho35 | (simp only [Int.reduceToNat] at ho35; rw [← Ny269.out] at ho35))
                      have n0_ := aM_ (Kd.R_elder' (rb_ HO_5.out) (Kd.R_base ho35) hb); have n1_ := aM_ (Kd.R_lower (Kd.R_new' ho35 (Kd.R_lt (rb_ HO_5.out))) (sZ_ (bw_)))
                      have n2_ := aM_ (Kd.C_below (by repeat (first | (with_reducible exact HR265.out) | (with_reducible refine cA_ ?_ _) | (with_reducible refine cN_ ?_ _) | (with_reducible refine cD_ ?_) | exact HR265.out)) hb)
                      have n3_ := aM_ (Kd.C_below (by repeat (first | (with_reducible exact HR278.out) | (with_reducible refine cA_ ?_ _) | (with_reducible refine cN_ ?_ _) | (with_reducible refine cD_ ?_) | exact HR278.out)) hb)
                      have n4_ := aM_ (wS_ (bw_) hb); clear HO_5 HR265 HR278 HB; have HO_5 := n0_; have HO271 := n1_; have HR265 := n2_; have HR278 := n3_; have HB := n4_; clear n0_ n1_ n2_ n3_ n4_ hb ho35
                      refine hK.out _ _ trivial (fun hHeld => ?_)
                      clear hK K
                      refine norm_ (a' := ?_) ?_ ?_
                      rotate_left
                      ·show Act.put _ (some 72) _ = _
                       simp only [Act.put, List.setIfInBounds_toArray, List.set_cons_zero, List.set_cons_succ, i64_w, i32_w]
                       rfl
                      refine one_ (i := 0) (N := some 66) #[true, true, true, true, false, true, true, false, true, true, true, false, false] rfl rfl (one_of HT_.out (by kernel_rfl)) (by decide) (fun K hK => ?_)
                      refine Kd.R_lit_step (Kd.int .i64) _ 3 ?hg (N := 66) ?hd (xs := ([] : List Int)) (inner := []) (ok := fun _ => True) (okp := fun _ => True) ?hr ?hp (fun _ hk => hk) trivial (Below.refl _ _) (Nat.le_refl _) (by simp) ?_; (case hd => rfl); (case hg => rfl); (case hr => first | (go_simp; done) | (go_simp; rfl)); (case hp => exact (Reps.none _ _))
                      intro v260 w36 ho37 hb hg_ hnew_
                      clear hg_ hnew_
                      (first | rw [← Ny259.out] at ho37 | (simp only [Int.reduceToNat] at ho37; rw [← Ny259.out] at ho37))
                      have n0_ := aM_ (Kd.R_elder' (rb_ HO_5.out) (Kd.R_base ho37) hb); have n1_ := aM_ (Kd.R_elder' (rb_ HO271.out) (Kd.R_base ho37) hb); have n2_ := aM_ (Kd.R_lower (Kd.R_new' (Kd.R_new' ho37 (Kd.R_lt (rb_ HO_5.out))) (Kd.R_lt (rb_ HO271.out))) (sZ_ (bw_)))
                      have n3_ := aM_ (Kd.C_below (by repeat (first | (with_reducible exact HR265.out) | (with_reducible refine cA_ ?_ _) | (with_reducible refine cN_ ?_ _) | (with_reducible refine cD_ ?_) | exact HR265.out)) hb)
                      have n4_ := aM_ (Kd.C_below (by repeat (first | (with_reducible exact HR278.out) | (with_reducible refine cA_ ?_ _) | (with_reducible refine cN_ ?_ _) | (with_reducible refine cD_ ?_) | exact HR278.out)) hb)
                      have n5_ := aM_ (wS_ (bw_) hb); clear HO_5 HO271 HR265 HR278 HB; have HO_5 := n0_; have HO271 := n1_; have HO261 := n2_; have HR265 := n3_; have HR278 := n4_; have HB := n5_; clear n0_ n1_ n2_ n3_ n4_ n5_ hb ho37
                      refine hK.out _ _ trivial (fun hHeld => ?_)
                      clear hK K
                      refine norm_ (a' := ?_) ?_ ?_
                      rotate_left
                      ·show Act.put _ (some 66) _ = _
                       simp only [Act.put, List.setIfInBounds_toArray, List.set_cons_zero, List.set_cons_succ, i64_w, i32_w]
                       rfl
                      refine one_ (i := 4) (N := some 70) #[true, true, true, true, true, true, true, false, true, true, true, false, false] rfl rfl (one_of HT_.out (by kernel_rfl)) (by decide) (fun K hK => ?_)
                      refine Kd.R_append_rows_step (Kd.int .i64) (w0 := w) w.heap.size (by rfl) (.tmp 66) (.tmp 69) 51 3 (.int .i64 0) 8 rfl Try.underlying51 info3 rfl (by decide) (by omega) v260 y259 y262 _ _ _ (fun k_ => some k_ ≠ (.slice Ao32 x5_1.length co32 : Value).ownBlock ∧ some k_ ≠ (v270 : Value).ownBlock) (fun _ => False) rfl rfl ?aO ?aR (fun _ _ h => h) (fun _ h => h.elim) ?aF ?aB ?aS ?aL ?_
                      (case aR => repeat (first | exact (by repeat (first | (with_reducible exact HR265.out) | (with_reducible refine cA_ ?_ _) | (with_reducible refine cN_ ?_ _) | (with_reducible refine cD_ ?_) | exact HR265.out)) | (with_reducible refine cA_ ?_ _) | (with_reducible refine cN_ ?_ _) | (with_reducible refine cD_ ?_)))
                      (case aB => exact (bw_))
                      (case aF => exact (fun k_ hk => ⟨Kd.fresh' (Kd.R_lt (rb_ HO_5.out)) k_ hk, Kd.fresh' (Kd.R_lt (rb_ HO271.out)) k_ hk⟩))
                      (case aO => exact (by (with_reducible repeat (first | apply rA_ | apply rN_ | apply rD_)); exact Kd.R_mono HO261.out (fun _ hk => ⟨hk.1.2, hk.2⟩)))
                      (case aS => exact (sZ_ (bw_)))
                      (case aL => have := LMc25.out; omega)
                      intro v267 w38 ho hb hg hat
                      rw [← Ny266.out] at ho
                      have n0_ := aM_ (Kd.R_after (ok := (fun k_ => some k_ ≠ (v270 : Value).ownBlock)) (by (with_reducible repeat (first | apply rA_ | apply rN_ | apply rD_)); exact Kd.R_mono HO_5.out (fun _ hk => ⟨hk.1.2, hk.2⟩)) hg hat); have n1_ := aM_ (Kd.R_after (ok := (fun k_ => some k_ ≠ (.slice Ao32 x5_1.length co32 : Value).ownBlock)) (by (with_reducible repeat (first | apply rA_ | apply rN_ | apply rD_)); exact Kd.R_mono HO271.out (fun _ hk => ⟨hk.1.2, hk.2⟩)) hg hat); have n2_ := aM_ (hb); have n3_ := aM_ ((show Kd.C (Kd.int .i64) w38 Ao32 y262.length y262 from by rw [Ny262.out]; exact Kd.C_take (m := (x8_3 : Int).toNat) ((Kd.R_reads' (Kd.R_after (ok := (fun k_ => some k_ ≠ (v270 : Value).ownBlock)) (by (with_reducible repeat (first | apply rA_ | apply rN_ | apply rD_)); exact Kd.R_mono HO_5.out (fun _ hk => ⟨hk.1.2, hk.2⟩)) hg hat)).2.2) KL31.out)); have n4_ := aM_ ((show Kd.C (Kd.int .i64) w38 A33 y275.length y275 from by rw [Ny275.out, KA33.out]; exact Kd.C_drop (m := (x8_3 : Int).toNat) (c := co32) ((Kd.R_reads' (Kd.R_after (ok := (fun k_ => some k_ ≠ (v270 : Value).ownBlock)) (by (with_reducible repeat (first | apply rA_ | apply rN_ | apply rD_)); exact Kd.R_mono HO_5.out (fun _ hk => ⟨hk.1.2, hk.2⟩)) hg hat)).2.2) KL33.out ((Kd.R_reads' (Kd.R_after (ok := (fun k_ => some k_ ≠ (v270 : Value).ownBlock)) (by (with_reducible repeat (first | apply rA_ | apply rN_ | apply rD_)); exact Kd.R_mono HO_5.out (fun _ hk => ⟨hk.1.2, hk.2⟩)) hg hat)).2.1))); have n5_ := aM_ (ho); clear HO_5 HO271 HB HR265 HR278 HO261; have HO_5 := n0_; have HO271 := n1_; have HB := n2_; have HR265 := n3_; have HR278 := n4_; have HO268 := n5_; clear n0_ n1_ n2_ n3_ n4_ n5_ ho hb hg hat
                      refine hK.out _ _ trivial (fun hHeld => ?_)
                      clear hK K
                      refine norm_ (a' := ?_) ?_ ?_
                      rotate_left
                      ·show Act.put _ (some 70) _ = _
                       simp only [Act.put, List.setIfInBounds_toArray, List.set_cons_zero, List.set_cons_succ, i64_w, i32_w]
                       rfl
                      exact norm_ (by simp only [putAll, Act.put, List.setIfInBounds_toArray, List.set_cons_zero, List.set_cons_succ]) (hCont (v260, v267, v270) _ ⟨(by (with_reducible repeat (first | apply rA_ | apply rN_ | apply rD_)); exact Kd.R_mono HO268.out (fun _ hk => ⟨hk.2, hk.1⟩)), (by (with_reducible repeat (first | apply rA_ | apply rN_ | apply rD_)); exact Kd.R_mono HO271.out (fun _ hk => ⟨hk.2, hk.1⟩)), (by (with_reducible repeat (first | apply rA_ | apply rN_ | apply rD_)); exact Kd.R_mono HO_5.out (fun _ hk => ⟨hk.2, hk.1⟩)), (bw_)⟩)
                    rintro ⟨v260, v267, v270⟩ w39 ⟨h0_, h1_, h2_, h3_⟩
                    have n0_ : Aside0 (Kd.R (Kd.int .i64) 3 w39 w.heap.size (fun k_ => some k_ ≠ (v270 : Value).ownBlock ∧ some k_ ≠ (.slice Ao32 x5_1.length co32 : Value).ownBlock) v267 y266) := ⟨h0_⟩
                    have n1_ : Aside0 (Kd.R (Kd.int .i64) 3 w39 w.heap.size (fun k_ => some k_ ≠ (v267 : Value).ownBlock ∧ some k_ ≠ (.slice Ao32 x5_1.length co32 : Value).ownBlock) v270 y269) := ⟨h1_⟩
                    have n2_ : Aside0 (Kd.R (Kd.int .i64) 3 w39 w.heap.size (fun k_ => some k_ ≠ (v267 : Value).ownBlock ∧ some k_ ≠ (v270 : Value).ownBlock) (.slice Ao32 x5_1.length co32) x5_1) := ⟨h2_⟩
                    have n3_ : Aside0 (Below w.heap.size w w39) := ⟨h3_⟩
                    clear HO_5 HB h0_ h1_ h2_ h3_; have HO268 := n0_; have HO271 := n1_; have HO_5 := n2_; have HB := n3_; clear n0_ n1_ n2_ n3_; have hHeld := trivial
                    obtain ⟨Ao41, co41, eo41⟩ := Kd.R_slice HO271.out
                    (first | subst eo41 | (injection eo41 with f1_ f2_ f3_; have f4_ := f1_.symm; have f5_ := f3_.symm; clear f1_ f2_ f3_; subst f4_; subst f5_))
                    refine norm_ (a' := ?_) ?_ ?_
                    rotate_left
                    ·simp only [putAll, Act.put, List.setIfInBounds_toArray, List.set_cons_zero, List.set_cons_succ]
                     rfl
                    refine one_ (i := 7) (N := some 73) #[true, true, true, true, true, true, true, true, true, true, true, false, false] rfl rfl (one_of HT_.out (by kernel_rfl)) (by decide) (fun K hK => ?_)
                    refine Kd.R_append_rows_step (Kd.int .i64) (w0 := w) w.heap.size (by rfl) (.tmp 70) (.tmp 72) 51 3 (.int .i64 0) 8 rfl Try.underlying51 info3 rfl (by decide) (by omega) v267 y266 y269 _ _ _ (fun k_ => some k_ ≠ (.slice Ao32 x5_1.length co32 : Value).ownBlock ∧ some k_ ≠ (.slice Ao41 y269.length co41 : Value).ownBlock) (fun _ => False) rfl rfl ?aO ?aR (fun _ _ h => h) (fun _ h => h.elim) ?aF ?aB ?aS ?aL ?_
                    (case aR => repeat (first | exact (Kd.R_reads' HO271.out).2.2 | (with_reducible refine cA_ ?_ _) | (with_reducible refine cN_ ?_ _) | (with_reducible refine cD_ ?_)))
                    (case aB => exact (bw_))
                    (case aF => exact (fun k_ hk => ⟨Kd.fresh' (Kd.R_lt (rb_ HO_5.out)) k_ hk, Kd.fresh' (Kd.R_lt (rb_ HO271.out)) k_ hk⟩))
                    (case aO => exact (by (with_reducible repeat (first | apply rA_ | apply rN_ | apply rD_)); exact Kd.R_mono HO268.out (fun _ hk => ⟨hk.2, hk.1⟩)))
                    (case aS => exact (sZ_ (bw_)))
                    (case aL => have := LMc26.out; omega)
                    intro v273 w40 ho hb hg hat
                    rw [← Ny272.out] at ho
                    have n0_ := aM_ (Kd.R_after (ok := (fun k_ => some k_ ≠ (.slice Ao41 y269.length co41 : Value).ownBlock)) (by (with_reducible repeat (first | apply rA_ | apply rN_ | apply rD_)); exact Kd.R_mono HO_5.out (fun _ hk => ⟨hk.2, hk.1⟩)) hg hat); have n1_ := aM_ (Kd.R_after (ok := (fun k_ => some k_ ≠ (.slice Ao32 x5_1.length co32 : Value).ownBlock)) (by (with_reducible repeat (first | apply rA_ | apply rN_ | apply rD_)); exact Kd.R_mono HO271.out (fun _ hk => ⟨hk.2, hk.1⟩)) hg hat); have n2_ := aM_ (hb); have n3_ := aM_ (ho); clear HO_5 HO271 HB HO268; have HO_5 := n0_; have HO271 := n1_; have HB := n2_; have HO274 := n3_; clear n0_ n1_ n2_ n3_ ho hb hg hat
                    refine hK.out _ _ trivial (fun hHeld => ?_)
                    clear hK K
                    refine norm_ (a' := ?_) ?_ ?_
                    rotate_left
                    ·show Act.put _ (some 73) _ = _
                     simp only [Act.put, List.setIfInBounds_toArray, List.set_cons_zero, List.set_cons_succ, i64_w, i32_w]
                     rfl
                    refine one_ (i := 11) (N := some 77) #[true, true, true, true, true, true, true, true, true, true, true, true, false] rfl rfl (one_of HT_.out (by kernel_rfl)) (by decide) (fun K hK => ?_)
                    refine Kd.R_append_rows_step (Kd.int .i64) (w0 := w) w.heap.size (by rfl) (.tmp 73) (.tmp 76) 51 3 (.int .i64 0) 8 rfl Try.underlying51 info3 rfl (by decide) (by omega) v273 y272 y275 _ _ _ (fun k_ => some k_ ≠ (.slice Ao32 x5_1.length co32 : Value).ownBlock ∧ some k_ ≠ (.slice Ao41 y269.length co41 : Value).ownBlock) (fun _ => False) rfl rfl ?aO ?aR (fun _ _ h => h) (fun _ h => h.elim) ?aF ?aB ?aS ?aL ?_
                    (case aR => exact (show Kd.C (Kd.int .i64) w40 A33 y275.length y275 from by rw [Ny275.out, KA33.out]; exact Kd.C_drop (m := (x8_3 : Int).toNat) (c := co32) ((Kd.R_reads' (show Kd.R (Kd.int .i64) 3 w40 _ _ (.slice Ao32 x5_1.length co32) x5_1 from by (with_reducible repeat (first | apply rA_ | apply rN_ | apply rD_)); exact HO_5.out)).2.2) KL33.out ((Kd.R_reads' (show Kd.R (Kd.int .i64) 3 w40 _ _ (.slice Ao32 x5_1.length co32) x5_1 from by (with_reducible repeat (first | apply rA_ | apply rN_ | apply rD_)); exact HO_5.out)).2.1)))
                    (case aB => exact (bw_))
                    (case aF => exact (fun k_ hk => ⟨Kd.fresh' (Kd.R_lt (rb_ HO_5.out)) k_ hk, Kd.fresh' (Kd.R_lt (rb_ HO271.out)) k_ hk⟩))
                    (case aO => exact (rb_ HO274.out))
                    (case aS => exact (sZ_ (bw_)))
                    (case aL => have := LMc29.out; omega)
                    intro v280 w42 ho hb hg hat
                    rw [← Ny279.out] at ho
                    have n0_ := aM_ (Kd.R_after (ok := (fun k_ => some k_ ≠ (.slice Ao41 y269.length co41 : Value).ownBlock)) (rb_ HO_5.out) hg hat); have n1_ := aM_ (Kd.R_after (ok := (fun k_ => some k_ ≠ (.slice Ao32 x5_1.length co32 : Value).ownBlock)) (rb_ HO271.out) hg hat); have n2_ := aM_ (hb); have n3_ := aM_ (ho); clear HO_5 HO271 HB HO274; have HO_5 := n0_; have HO271 := n1_; have HB := n2_; have HO281 := n3_; clear n0_ n1_ n2_ n3_ ho hb hg hat
                    refine hK.out _ _ trivial (fun hHeld => ?_)
                    clear hK K
                    refine norm_ (a' := ?_) ?_ ?_
                    rotate_left
                    ·show Act.put _ (some 77) _ = _
                     simp only [Act.put, List.setIfInBounds_toArray, List.set_cons_zero, List.set_cons_succ, i64_w, i32_w]
                     rfl
                    refine pu_ 12 (some 5) #[true, true, true, true, true, true, true, true, true, true, true, true, true] rfl rfl ?_
                    refine done_ (done_of HT_.out (by kernel_rfl)) ?_
                    try go_wp2
                    go_roundg kj15
                    case measure => have := HK1.out; have := HJ6.out; have := HK3.out; have := HJ9.out; have := HJ15.out; omega
                    case rel => exact ⟨(y279), (wrap64 (x6_1 + 1)), (by first | rfl | (simp; done) | (simp [*]; done)), H', ⟨by have := HK1.out; have := HJ6.out; have := HK3.out; have := HJ9.out; have := HJ15.out; omega⟩, ⟨by (with_reducible repeat (first | apply rA_ | apply rN_ | apply rD_)); exact Kd.R_mono HO281.out (fun _ hk => trivial)⟩, ⟨bw_⟩⟩
                   ·rw [if_neg c29] at H
                    exact absurd H (by simp)
                  ·rw [if_neg c26] at H
                   exact absurd H (by simp)
                 ·rw [if_neg c25] at H
                  exact absurd H (by simp)
                ·rw [if_neg c24] at H
                 exact absurd H (by simp)
               ·rw [if_neg c23] at H
                exact absurd H (by simp)
              ·replace c22 := Bool.eq_false_iff.mpr c22
               subst c22
               have H1 : (spec_NeighborsIn.l0 kj15 l0 a1 x5_1 (wrap64 (x6_1 + 1))) = some r := by rw [if_neg (show ¬ (false = true) by decide)] at H; exact H
               clear H; have H := H1; clear H1
               have H' := aM_ H
               clear H
               go_wp2
               go_roundg kj15
               case measure => have := HK1.out; have := HJ6.out; have := HK3.out; have := HJ9.out; have := HJ15.out; omega
               case rel => exact ⟨(x5_1), (wrap64 (x6_1 + 1)), (by first | rfl | (simp; done) | (simp [*]; done)), H', ⟨by have := HK1.out; have := HJ6.out; have := HK3.out; have := HJ9.out; have := HJ15.out; omega⟩, ⟨by (with_reducible repeat (first | apply rA_ | apply rN_ | apply rD_)); exact HO_5.out⟩, ⟨bw_⟩⟩
    ·rw [if_neg c6] at H
     exact absurd H (by simp)
   ·rw [if_neg c5] at H
    have c5b0 : decide (x6_1 < (l0.length : Int)) = false := decide_eq_false c5
    clear c5
    obtain rfl := Option.some.inj H
    go_wp2
    go_ret
    exact ⟨_, by first | rfl | (simp [errW_none, errW_some] <;> rfl) | (simp [*, errW_none, errW_some] <;> rfl), by (with_reducible repeat (first | apply rA_ | apply rN_ | apply rD_)); exact HO_5.out, bw_⟩

end Go.Proofs.Ytdodogkgmpaioaa.PFnReach
