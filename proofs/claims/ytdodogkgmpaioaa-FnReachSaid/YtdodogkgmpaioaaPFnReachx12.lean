/- The functions that the law reaches, as plain Lean functions, each with the proof that the Go code comes to its answers; conditions: those that each theorem names. (printed by a program of this session) -/
import Derived.Test.YtdodogkgmpaioaaPFnReachx0
import Derived.Test.YtdodogkgmpaioaaPFnReachx4
import Derived.Test.YtdodogkgmpaioaaPFnReachx10
import Derived.Test.YtdodogkgmpaioaaPFnReachx11
namespace Go.Proofs.Ytdodogkgmpaioaa.PFnReach
open Go.RowKit Go.Proofs.YtdodogkgmpaioaaW.PrintWords Go.Proofs.YtdodogkgmpaioaaW.PrintLast Go.Proofs.YtdodogkgmpaioaaW.PrintMore
attribute [local go_sem] max2_int min2_int max_two min_two max_three min_three max_four min_four   -- for this text's walks alone
set_option linter.unusedVariables false
set_option linter.unusedSimpArgs false

/-! ### spec_DistancesTo: function 135 -/
mutual
def spec_DistancesTo.l0 : Nat → List (S123) → Int → Int → Int → List Int → Int → Option (List Int)
  | 0, _, _, _, _, _, _ => none
  | k + 1, x0, x1, x2, x3, x9, x10 => if x10 < x1 then (if x9.length < 17592186044416 then (spec_DistancesTo.l0 k x0 x1 x2 x3 (x9 ++ [(-1)]) (wrap64 (x10 + 1))) else (none)) else (if 0 ≤ x3 then (if x3 < (x9.length : Int) then (spec_DistancesTo.l1 k x0 x1 x2 x3 (x9.set (x3 : Int).toNat 0) (([x3] : List Int)) 0) else (none)) else (none))
def spec_DistancesTo.l1 : Nat → List (S123) → Int → Int → Int → List Int → List Int → Int → Option (List Int)
  | 0, _, _, _, _, _, _, _ => none
  | k + 1, x0, x1, x2, x3, x9, x11, x12 => if x12 < (x11.length : Int) then (if 0 ≤ x12 then (if (rd x11 x12) = x3 then (spec_DistancesTo.j2 k x0 x1 x2 x3 x9 x11 x12 (rd x11 x12) false) else (spec_DistancesTo.j2 k x0 x1 x2 x3 x9 x11 x12 (rd x11 x12) (decide ((rd x11 x12) ≥ x2)))) else (none)) else (some x9)
def spec_DistancesTo.j2 : Nat → List (S123) → Int → Int → Int → List Int → List Int → Int → Int → Bool → Option (List Int)
  | 0, _, _, _, _, _, _, _, _, _ => none
  | k + 1, x0, x1, x2, x3, x9, x11, x12, x13, x52 => if x52 = true then (spec_DistancesTo.l1 k x0 x1 x2 x3 x9 x11 (wrap64 (x12 + 1))) else ((spec_NeighborsIn.f k x0 x13).bind fun t297 => (spec_DistancesTo.l2 k x0 x1 x2 x3 x9 x11 x12 x13 t297 0))
def spec_DistancesTo.l2 : Nat → List (S123) → Int → Int → Int → List Int → List Int → Int → Int → List Int → Int → Option (List Int)
  | 0, _, _, _, _, _, _, _, _, _, _ => none
  | k + 1, x0, x1, x2, x3, x9, x11, x12, x13, x14, x15 => if x15 < (x14.length : Int) then (if 0 ≤ x15 then ((spec_l1In.f (rd x14 x15) 0 (wrap64 (x1 - 1))).bind fun t301 => (if t301 = true then (if 0 ≤ (rd x14 x15) then (if (rd x14 x15) < (x9.length : Int) then (if (rd x9 (rd x14 x15)) < 0 then (if 0 ≤ x13 then (if x13 < (x9.length : Int) then (if x11.length < 17592186044416 then (spec_DistancesTo.l2 k x0 x1 x2 x3 (x9.set ((rd x14 x15) : Int).toNat (wrap64 ((rd x9 x13) + 1))) (x11 ++ [rd x14 x15]) x12 x13 x14 (wrap64 (x15 + 1))) else (none)) else (none)) else (none)) else (spec_DistancesTo.l2 k x0 x1 x2 x3 x9 x11 x12 x13 x14 (wrap64 (x15 + 1)))) else (none)) else (none)) else (spec_DistancesTo.l2 k x0 x1 x2 x3 x9 x11 x12 x13 x14 (wrap64 (x15 + 1))))) else (none)) else (spec_DistancesTo.l1 k x0 x1 x2 x3 x9 x11 (wrap64 (x12 + 1)))
end
def spec_DistancesTo.f (k : Nat) (l0 : List (S123)) (a1 : Int) (a2 : Int) (a3 : Int) : Option (List Int) := (spec_l14Ok.f a1 a3).bind fun t282 => (if t282 = true then (spec_DistancesTo.l0 k l0 a1 a2 a3 (([] : List Int)) 0) else (some (([] : List Int))))
def spec_DistancesTo.T20 : Bool × List (List Nat × List Nat) := (true, [([], []), ([], []), ([], []), ([1, 2], [1, 2]), ([3], [3]), ([], []), ([], []), ([5, 6], [5, 6]), ([7], [7]), ([8], [8]), ([0, 4, 0, 1, 2, 3, 4, 5, 6, 7, 8, 9], [0, 4]), ([10, 9, 0, 1, 2, 3, 4, 5, 6, 7, 8, 9], [9, 10])])
def spec_DistancesTo.B20 : List Nat := [0, 0, 0, 6, 14, 0, 0, 96, 224, 480, 1023, 2047]
theorem spec_DistancesTo.tab20 : rtab .any (opsOf Try.f135 20) = spec_DistancesTo.T20 := by kernel_rfl
theorem spec_DistancesTo.bits20 : waitsOk spec_DistancesTo.T20.2 spec_DistancesTo.B20 = true := by kernel_rfl
set_option maxHeartbeats 8000000 in
set_option maxRecDepth 100000 in
theorem spec_DistancesTo.calls (k : Nat) (A0 : Option Addr) (c0 : Nat) (l0 : List (S123)) (a1 : Int) (a2 : Int) (a3 : Int) (r : List Int) (w : World) (hr0 : Kd.C k123 w A0 l0.length l0) (hc0 : l0.length ≤ c0) (h : spec_DistancesTo.f k l0 a1 a2 a3 = some r) :
  Calls Try.prog 135 #[.slice A0 l0.length c0, .int .i64 a1, .int .i64 a2, .int .i64 a3] w fun e w' => ∃ v0_ : Value, e = .returned (v0_) ∧ Kd.R (Kd.int .i64) 3 w' w.heap.size (fun _ => True) v0_ r ∧ Below w.heap.size w w' := by
 have HR0 := aM_ hr0; have HC0 := aM_ hc0; clear hr0 hc0; have HB := aM_ (Below.refl w.heap.size w)
 have H : ((spec_l14Ok.f a1 a3).bind fun t282 => (if t282 = true then (spec_DistancesTo.l0 k l0 a1 a2 a3 (([] : List Int)) 0) else (some (([] : List Int))))) = some r := h
 clear h
 replace H := Option.bind_eq_some_iff.mp H
 obtain ⟨t282, A50, H⟩ := H
 (try dsimp only at H)
 have A5 := aM_ A50; clear A50
 by_cases c6 : t282 = true
 ·subst c6
  have H1 : (spec_DistancesTo.l0 k l0 a1 a2 a3 (([] : List Int)) 0) = some r := by rw [if_pos rfl] at H; exact H
  clear H; have H := H1; clear H1
  obtain ⟨y286, hy286⟩ : ∃ y_ : List Int, y_ = (([] : List Int)) := ⟨_, rfl⟩
  replace H : (spec_DistancesTo.l0 k l0 a1 a2 a3 y286 0) = some r := by first | (rw [hy286]; with_reducible exact H) | (have H2_ := (Option.bind_some _ _).symm.trans H; rw [hy286]; with_reducible exact H2_) | (have H2_ := (Option.bind_some _ _).symm.trans H; with_reducible exact H2_) | with_reducible exact H | (rw [hy286]; exact H) | exact H
  have Ny286 := aM_ hy286; clear hy286
  have H' := aM_ H
  clear H
  go_enter Try.func135, Try.ntmps135
  go_wp2_with (first | ((with_reducible refine gate_callee (f := 137) rfl ?_); refine goesL_ (some 18) rfl rfl Try.func137 (by kernel_rfl) rfl #[.int .i64 a1, .int .i64 a3] rfl (by (try simp only [List.map_toArray, List.map_cons, List.map_nil]); first | done | rfl | (simp only [List.length_drop, List.length_take]; rfl)) ?_; (with_reducible refine (spec_l14Ok.calls a1 a3 true _ A5.out).mono ?_); rintro e w' ⟨rfl, ⟨nd, rfl⟩⟩; refine ⟨_, rfl, ?_⟩) | ((with_reducible refine gate_dst (N := 21) rfl ?_); refine Kd.R_lit (Kd.int .i64) _ 3 ?hg (N := 21) ?hd (xs := ([] : List Int)) (inner := []) (ok := fun _ => True) (okp := fun _ => True) ?hr ?hp (fun _ hk => hk) trivial (Below.refl _ _) (Nat.le_refl _) (by simp) ?_; (case hd => rfl); (case hg => rfl); (case hr => first | (go_simp; done) | (go_simp; rfl)); (case hp => exact (Reps.none _ _)); intro v287 w7 ho8 hb hg_ hnew_; clear hg_ hnew_; (first | rw [← Ny286.out] at ho8 | (simp only [Int.reduceToNat] at ho8; rw [← Ny286.out] at ho8)); have n0_ := aM_ (Kd.R_lower ho8 (sZ_ (bw_))); have n1_ := aM_ (wS_ (bw_) hb); clear HB; have HO288 := n0_; have HB := n1_; clear n0_ n1_ hb ho8))
  go_loopg [9, 10] k (fun kq v9 v10 w' => ∃ (x9_1 : List Int) (x10_1 : Int), v10 = .int .i64 x10_1 ∧ Aside0 (spec_DistancesTo.l0 kq l0 a1 a2 a3 x9_1 x10_1 = some r) ∧ Aside0 (kq ≤ k) ∧ Aside0 (Kd.R (Kd.int .i64) 3 w' w.heap.size (fun _ => True) v9 x9_1) ∧ Aside0 (Below w.heap.size w w'))
  case atStart => exact ⟨(y286), (0), (by first | rfl | (simp; done) | (simp [*]; done)), H', ⟨Nat.le_refl _⟩, ⟨by (with_reducible repeat (first | apply rA_ | apply rN_ | apply rD_)); exact HO288.out⟩, ⟨bw_⟩⟩
  case round =>
   clear H'
   obtain ⟨x9_1, x10_1, rfl, HA, HK1, HO_9, HB⟩ := hrel
   cases gk with
   | zero => exact absurd HA.out (by simp [spec_DistancesTo.l0])
   | succ k1 =>
    have H := HA.out; clear HA
    simp only [spec_DistancesTo.l0] at H
    by_cases c9 : x10_1 < a1
    ·rw [if_pos c9] at H
     have c9b0 : decide (x10_1 < a1) = true := decide_eq_true c9
     clear c9
     by_cases c10 : x9_1.length < 17592186044416
     ·rw [if_pos c10] at H
      have LMc10 := aM_ c10; clear c10
      obtain ⟨y289, hy289⟩ : ∃ y_ : List Int, y_ = (x9_1 ++ [(-1)]) := ⟨_, rfl⟩
      replace H : (spec_DistancesTo.l0 k1 l0 a1 a2 a3 y289 (wrap64 (x10_1 + 1))) = some r := by first | (rw [hy289]; with_reducible exact H) | (have H2_ := (Option.bind_some _ _).symm.trans H; rw [hy289]; with_reducible exact H2_) | (have H2_ := (Option.bind_some _ _).symm.trans H; with_reducible exact H2_) | with_reducible exact H | (rw [hy289]; exact H) | exact H
      have Ny289 := aM_ hy289; clear hy289
      have H' := aM_ H
      clear H
      go_wp2_with (first | ((with_reducible refine gate_builtin (b := .append) (xs := #[.tmp 27, .tmp 28]) rfl ?_); at_builtin; refine Kd.R_append (Kd.int .i64) (w0 := w) w.heap.size rfl (.tmp 27) (.tmp 28) 51 3 (.int .i64 0) 8 rfl Try.underlying51 info3 rfl (by decide) (by omega) u9 x9_1 (-1) [.int .i64 (-1)] (fun _ => True) (fun _ => False) rfl rfl ?aP (fun _ hk => hk.elim) ?aF ?aO ?aB ?aS ?aL ?_; (case aP => exact rfl); (case aB => exact (bw_)); (case aF => exact (fun _ _ => trivial)); (case aO => exact (rb_ HO_9.out)); (case aS => exact (sZ_ (bw_))); (case aL => have := LMc10.out; omega); intro v290 w11 ho hb hg hat; rw [← Ny289.out] at ho; have n0_ := aM_ (hb); have n1_ := aM_ (ho); clear HB HO_9; have HB := n0_; have HO291 := n1_; clear n0_ n1_ ho hb hg hat))
      go_roundg k1
      case measure => have := HK1.out; omega
      case rel => exact ⟨(y289), (wrap64 (x10_1 + 1)), (by first | rfl | (simp; done) | (simp [*]; done)), H', ⟨by have := HK1.out; omega⟩, ⟨by (with_reducible repeat (first | apply rA_ | apply rN_ | apply rD_)); exact HO291.out⟩, ⟨bw_⟩⟩
     ·rw [if_neg c10] at H
      exact absurd H (by simp)
    ·rw [if_neg c9] at H
     have c9b0 : decide (x10_1 < a1) = false := decide_eq_false c9
     clear c9
     by_cases c12 : 0 ≤ a3
     ·rw [if_pos c12] at H
      have c12b0 : decide (0 ≤ a3) = true := decide_eq_true c12
      clear c12
      by_cases c13 : a3 < (x9_1.length : Int)
      ·rw [if_pos c13] at H
       have c13b0 : decide (a3 < (x9_1.length : Int)) = true := decide_eq_true c13
       clear c13
       obtain ⟨y292, hy292⟩ : ∃ y_ : List Int, y_ = (x9_1.set (a3 : Int).toNat 0) := ⟨_, rfl⟩
       replace H : (spec_DistancesTo.l1 k1 l0 a1 a2 a3 y292 (([a3] : List Int)) 0) = some r := by first | (rw [hy292]; with_reducible exact H) | (have H2_ := (Option.bind_some _ _).symm.trans H; rw [hy292]; with_reducible exact H2_) | (have H2_ := (Option.bind_some _ _).symm.trans H; with_reducible exact H2_) | with_reducible exact H | (rw [hy292]; exact H) | exact H
       have Ny292 := aM_ hy292; clear hy292
       obtain ⟨y293, hy293⟩ : ∃ y_ : List Int, y_ = (([a3] : List Int)) := ⟨_, rfl⟩
       replace H : (spec_DistancesTo.l1 k1 l0 a1 a2 a3 y292 y293 0) = some r := by first | (rw [hy293]; with_reducible exact H) | (have H2_ := (Option.bind_some _ _).symm.trans H; rw [hy293]; with_reducible exact H2_) | (have H2_ := (Option.bind_some _ _).symm.trans H; with_reducible exact H2_) | with_reducible exact H | (rw [hy293]; exact H) | exact H
       have Ny293 := aM_ hy293; clear hy293
       have H' := aM_ H
       clear H
       have p14 : 0 ≤ (a3 : Int) := dT_
       have q14 : (a3 : Int) < ((x9_1.length : Int) : Int) := dT_
       obtain ⟨go14, co14, eo14, gb14, gl14, cl14, HG14⟩ := Kd.R_form HO_9.out (by omega)
       (first | cases eo14 | (injection eo14 with ea_ en_ ec_; (first | subst ea_ | (injection ea_ with ea_; subst ea_)); subst ec_; clear en_))
       have GB14 := aM_ gb14; have GG14 := aM_ HG14; clear gb14 gl14 HG14
       obtain ⟨hx14_0, hf14_0⟩ := Kd.R_celln 0 HO_9.out (a3 : Int) p14 q14
       replace p14 := eq_true p14; replace q14 := eq_true q14; have HP15 := Kd.R_putg HO_9.out (a3 : Int) 0
       go_wp2_with (first | ((with_reducible refine gate_store (t := 3) (p := 32) rfl ?_); refine store_event (t := 3) (p := 32) (v := ?vo_w16) (w1 := (wr.setCell ⟨go14, (a3 : Int).toNat, none⟩ (.int .i64 0))) ?hg ?ho ?hn ?hr ?_; (case ho => rfl); (case hg => rfl); (case hn => rfl); (case hr => first | (go_simp; done) | (go_simp; rfl)); intro w16 hw; have hg : wr.grownBy w16 (some go14) := (by rw [hw]; exact HP15.2); have hp_ : Kd.R (Kd.int .i64) 3 w16 w.heap.size (fun _ => True) (.slice (some ⟨go14, 0, none⟩) x9_1.length co14) y292 := (by rw [hw, Ny292.out]; exact HP15.1); clear HP15; have n0_ := aM_ (hp_); have n1_ := aM_ ((by rw [hw]; exact wE_ (HB.out) GB14.out : Below w.heap.size w w16)); clear HO_9 HB; have HO_9 := n0_; have HB := n1_; clear n0_ n1_ hg hw hp_) | ((with_reducible refine gate_dst (N := 34) rfl ?_); refine Kd.R_lit (Kd.int .i64) _ 3 ?hg (N := 34) ?hd (xs := ([a3] : List Int)) (inner := [.int .i64 a3]) (ok := fun _ => True) (okp := fun _ => True) ?hr ?hp (fun _ hk => hk) trivial (Below.refl _ _) (Nat.le_refl _) (by simp) ?_; (case hd => rfl); (case hg => rfl); (case hr => first | (go_simp; done) | (go_simp; rfl)); (case hp => exact (Reps.one (show Kd.M (Kd.int .i64) _ _ _ a3 [.int .i64 a3] from rfl) (Reps.none _ _))); intro v294 w17 ho18 hb hg_ hnew_; clear hg_ hnew_; (first | rw [← Ny293.out] at ho18 | (simp only [Int.reduceToNat] at ho18; rw [← Ny293.out] at ho18)); have n0_ := aM_ (Kd.R_elder' (rb_ HO_9.out) (Kd.R_base ho18) hb); have n1_ := aM_ (Kd.R_lower (Kd.R_new' ho18 (Kd.R_lt (rb_ HO_9.out))) (sZ_ (bw_))); have n2_ := aM_ (wS_ (bw_) hb); clear HO_9 HB; have HO_9 := n0_; have HO295 := n1_; have HB := n2_; clear n0_ n1_ n2_ hb ho18))
       go_loopg [11, 12] k1 (fun kq v11 v12 w' => ∃ (x9_2 : List Int) (x11_2 : List Int) (x12_2 : Int), v12 = .int .i64 x12_2 ∧ Aside0 (spec_DistancesTo.l1 kq l0 a1 a2 a3 x9_2 x11_2 x12_2 = some r) ∧ Aside0 (kq ≤ k1) ∧ Aside0 (Kd.R (Kd.int .i64) 3 w' w.heap.size (fun k_ => some k_ ≠ (v11 : Value).ownBlock) (.slice (some ⟨go14, 0, none⟩) x9_1.length co14) x9_2) ∧ Aside0 (Kd.R (Kd.int .i64) 3 w' w.heap.size (fun k_ => some k_ ≠ ((.slice (some ⟨go14, 0, none⟩) x9_1.length co14) : Value).ownBlock) v11 x11_2) ∧ Aside0 (Below w.heap.size w w'))
       case atStart => exact ⟨(y292), (y293), (0), (by first | rfl | (simp; done) | (simp [*]; done)), H', ⟨Nat.le_refl _⟩, ⟨by (with_reducible repeat (first | apply rA_ | apply rN_ | apply rD_)); exact Kd.R_mono HO_9.out (fun _ hk => hk.2)⟩, ⟨by (with_reducible repeat (first | apply rA_ | apply rN_ | apply rD_)); exact Kd.R_mono HO295.out (fun _ hk => hk.2)⟩, ⟨bw_⟩⟩
       case round =>
        clear H'
        try clear hx1
        try clear c9b0
        try clear c12b0
        try clear c13b0
        try clear hx14
        try clear hf14
        try clear hx14_0
        obtain ⟨x9_2, x11_2, x12_2, rfl, HA, HK2, HO_9, HO_11, HB⟩ := hrel
        have hl9_2 := (Kd.R_reads' HO_9.out).1
        rw [hl9_2] at HO_9
        (try simp only [hl9_2])
        (try simp only [hl9_2] at HO_11)
        cases gk with
        | zero => exact absurd HA.out (by simp [spec_DistancesTo.l1])
        | succ k2 =>
         have H := HA.out; clear HA
         simp only [spec_DistancesTo.l1] at H
         by_cases c19 : x12_2 < (x11_2.length : Int)
         ·rw [if_pos c19] at H
          have c19b0 : decide (x12_2 < (x11_2.length : Int)) = true := decide_eq_true c19
          clear c19
          by_cases c20 : 0 ≤ x12_2
          ·rw [if_pos c20] at H
           have c20b0 : decide (0 ≤ x12_2) = true := decide_eq_true c20
           clear c20; have HC21 := aM_ H; clear H
           obtain ⟨Ao22, co22, eo22⟩ := Kd.R_slice HO_11.out
           subst eo22
           have p296 : 0 ≤ (x12_2 : Int) := dT_
           have q296 : x12_2 < (x11_2.length : Int) := dT_
           obtain ⟨ad296, e296, hx296_0⟩ := Kd.at_int (Kd.R_reads' HO_11.out).2.2 x12_2 p296 q296
           cases e296
           replace p296 := eq_true p296; replace q296 := eq_true q296
           go_upto_region 14 with (fail)
           go_cut [52] (fun v52 wc => ∃ (kq : Nat) (x52_20 : Bool), v52 = .bool x52_20 ∧ Aside0 (spec_DistancesTo.j2 kq l0 a1 a2 a3 x9_2 x11_2 x12_2 (rd x11_2 x12_2) x52_20 = some r) ∧ Aside0 (kq ≤ k2) ∧ Aside0 (Kd.R (Kd.int .i64) 3 wc w.heap.size (fun k_ => some k_ ≠ ((.slice (some ad296) x11_2.length co22) : Value).ownBlock) (.slice (some ⟨go14, 0, none⟩) x9_2.length co14) x9_2) ∧ Aside0 (Kd.R (Kd.int .i64) 3 wc w.heap.size (fun k_ => some k_ ≠ ((.slice (some ⟨go14, 0, none⟩) x9_2.length co14) : Value).ownBlock) (.slice (some ad296) x11_2.length co22) x11_2) ∧ Aside0 (Below w.heap.size w wc))
           case first =>
            have H := HC21.out; clear HC21
            by_cases c23 : (rd x11_2 x12_2) = a3
            ·rw [if_pos c23] at H
             have c23b0 : ((rd x11_2 x12_2) == a3) = true := beq_iff_eq.mpr c23
             have c23b1 : ((rd x11_2 x12_2) != a3) = false := bne_eq_false_iff_eq.mpr c23
             clear c23
             (first | rw [c23b0] | (simp only [i64_w, i32_w]; rw [c23b0]) | skip)
             have H' := aM_ H
             clear H
             go_wp2
             go_meet
             case rel => exact ⟨_, (false), (by first | rfl | (simp; done) | (simp [*]; done)), H', ⟨by have := HK1.out; have := HK2.out; first | omega | exact Nat.le_refl _⟩, ⟨by (try simp only [hl9_2]); (with_reducible repeat (first | apply rA_ | apply rN_ | apply rD_)); exact HO_9.out⟩, ⟨by (try simp only [hl9_2]); (with_reducible repeat (first | apply rA_ | apply rN_ | apply rD_)); exact HO_11.out⟩, ⟨bw_⟩⟩
            ·rw [if_neg c23] at H
             have c23b0 : ((rd x11_2 x12_2) == a3) = false := beq_eq_false_iff_ne.mpr c23
             have c23b1 : ((rd x11_2 x12_2) != a3) = true := bne_iff_ne.mpr c23
             (first | rw [c23b0] | (simp only [i64_w, i32_w]; rw [c23b0]) | skip)
             have H' := aM_ H
             clear H
             go_wp2
             go_meet
             case rel => exact ⟨_, (decide ((rd x11_2 x12_2) ≥ a2)), (by first | rfl | (simp; done) | (simp [*]; done)), H', ⟨by have := HK1.out; have := HK2.out; first | omega | exact Nat.le_refl _⟩, ⟨by (try simp only [hl9_2]); (with_reducible repeat (first | apply rA_ | apply rN_ | apply rD_)); exact HO_9.out⟩, ⟨by (try simp only [hl9_2]); (with_reducible repeat (first | apply rA_ | apply rN_ | apply rD_)); exact HO_11.out⟩, ⟨bw_⟩⟩
           case rest =>
            clear HC21
            try clear hx1
            try clear hx2
            try clear c9b0
            try clear c12b0
            try clear c13b0
            try clear hx14
            try clear hf14
            try clear c19b0
            try clear c20b0
            try clear c23b0
            try clear c23b1
            try clear hx14_0
            try clear hx296_0
            obtain ⟨kq, x52_20, rfl, HA, HJ20, HO_9, HO_11, HB⟩ := hcut
            cases kq with
            | zero => exact absurd HA.out (by simp [spec_DistancesTo.j2])
            | succ kj20 =>
             have H := HA.out; clear HA
             simp only [spec_DistancesTo.j2] at H
             by_cases c24 : x52_20 = true
             ·subst c24
              have H1 : (spec_DistancesTo.l1 kj20 l0 a1 a2 a3 x9_2 x11_2 (wrap64 (x12_2 + 1))) = some r := by rw [if_pos rfl] at H; exact H
              clear H; have H := H1; clear H1
              have H' := aM_ H
              clear H
              go_wp2
              (try simp only [← hl9_2])
              go_roundg kj20
              case measure => have := HK1.out; have := HK2.out; have := HJ20.out; omega
              case rel => exact ⟨(x9_2), (x11_2), (wrap64 (x12_2 + 1)), (by first | rfl | (simp; done) | (simp [*]; done)), H', ⟨by have := HK1.out; have := HK2.out; have := HJ20.out; omega⟩, ⟨by (try simp only [hl9_2]); (with_reducible repeat (first | apply rA_ | apply rN_ | apply rD_)); exact HO_9.out⟩, ⟨by (try simp only [hl9_2]); (with_reducible repeat (first | apply rA_ | apply rN_ | apply rD_)); exact HO_11.out⟩, ⟨bw_⟩⟩
             ·replace c24 := Bool.eq_false_iff.mpr c24
              subst c24
              have H1 : ((spec_NeighborsIn.f kj20 l0 (rd x11_2 x12_2)).bind fun t297 => (spec_DistancesTo.l2 kj20 l0 a1 a2 a3 x9_2 x11_2 x12_2 (rd x11_2 x12_2) t297 0)) = some r := by rw [if_neg (show ¬ (false = true) by decide)] at H; exact H
              clear H; have H := H1; clear H1
              replace H := Option.bind_eq_some_iff.mp H
              obtain ⟨t297, A250, H⟩ := H
              (try dsimp only at H)
              have A25 := aM_ A250; clear A250
              have H' := aM_ H
              clear H
              go_wp2_with (first | ((with_reducible refine gate_callee (f := 138) rfl ?_); refine goesL_ (some 55) rfl rfl Try.func138 (by kernel_rfl) rfl #[.slice A0 l0.length c0, .int .i64 (rd x11_2 x12_2)] rfl (by (try simp only [List.map_toArray, List.map_cons, List.map_nil]); first | done | rfl | (simp only [List.length_drop, List.length_take]; rfl)) ?_; (with_reducible refine (spec_NeighborsIn.calls kj20 _ _ l0 (rd x11_2 x12_2) t297 _ ?side1 ?side2 A25.out).mono ?_); (case side1 => repeat (first | exact (Kd.C_below HR0.out HB.out) | (with_reducible refine cA_ ?_ _) | (with_reducible refine cN_ ?_ _) | (with_reducible refine cD_ ?_))); (case side2 => exact HC0.out); rintro e w26 ⟨v298, rfl, ho0, hb⟩; refine ⟨_, rfl, ?_⟩; have n0_ := aM_ (Kd.R_elder' (rb_ HO_9.out) (Kd.R_base ho0) hb); have n1_ := aM_ (Kd.R_elder' (rb_ HO_11.out) (Kd.R_base ho0) hb); have n2_ := aM_ (Kd.R_lower (Kd.R_new' (Kd.R_new' ho0 (Kd.R_lt (rb_ HO_9.out))) (Kd.R_lt (rb_ HO_11.out))) (sZ_ (bw_))); have n3_ := aM_ (wS_ (bw_) hb); clear HO_9 HO_11 HB; have HO_9 := n0_; have HO_11 := n1_; have HO299 := n2_; have HB := n3_; clear n0_ n1_ n2_ n3_; (try clear hb); (try clear hb2); (try clear hk); (try clear hi); (try clear ho0)))
              go_loopg [11, 15] kj20 (fun kq v11 v15 w' => ∃ (x9_4 : List Int) (x11_4 : List Int) (x15_4 : Int), v15 = .int .i64 x15_4 ∧ Aside0 (spec_DistancesTo.l2 kq l0 a1 a2 a3 x9_4 x11_4 x12_2 (rd x11_2 x12_2) t297 x15_4 = some r) ∧ Aside0 (kq ≤ kj20) ∧ Aside0 (Kd.R (Kd.int .i64) 3 w' w.heap.size (fun k_ => some k_ ≠ (v11 : Value).ownBlock ∧ some k_ ≠ (v298 : Value).ownBlock) (.slice (some ⟨go14, 0, none⟩) x9_2.length co14) x9_4) ∧ Aside0 (Kd.R (Kd.int .i64) 3 w' w.heap.size (fun k_ => some k_ ≠ ((.slice (some ⟨go14, 0, none⟩) x9_2.length co14) : Value).ownBlock ∧ some k_ ≠ (v298 : Value).ownBlock) v11 x11_4) ∧ Aside0 (Kd.R (Kd.int .i64) 3 w' w.heap.size (fun k_ => some k_ ≠ ((.slice (some ⟨go14, 0, none⟩) x9_2.length co14) : Value).ownBlock ∧ some k_ ≠ (v11 : Value).ownBlock) v298 t297) ∧ Aside0 (Below w.heap.size w w'))
              case atStart => exact ⟨(x9_2), (x11_2), (0), (by first | rfl | (simp; done) | (simp [*]; done)), H', ⟨Nat.le_refl _⟩, ⟨by (try simp only [hl9_2]); (with_reducible repeat (first | apply rA_ | apply rN_ | apply rD_)); exact HO_9.out⟩, ⟨by (try simp only [hl9_2]); (with_reducible repeat (first | apply rA_ | apply rN_ | apply rD_)); exact HO_11.out⟩, ⟨by (try simp only [hl9_2]); (with_reducible repeat (first | apply rA_ | apply rN_ | apply rD_)); exact Kd.R_mono HO299.out (fun _ hk => ⟨hk.1.2, hk.2⟩)⟩, ⟨bw_⟩⟩
              case round =>
               clear H'
               try clear hx1
               try clear hx2
               try clear c9b0
               try clear c12b0
               try clear c13b0
               try clear hx14
               try clear hf14
               try clear c19b0
               try clear c20b0
               try clear c23b0
               try clear c23b1
               try clear hx14_0
               try clear hx296_0
               obtain ⟨x9_4, x11_4, x15_4, rfl, HA, HK4, HO_9, HO_11, HO_14, HB⟩ := hrel
               have hl9_4 := (Kd.R_reads' HO_9.out).1
               rw [hl9_4] at HO_9
               (try simp only [hl9_4])
               (try simp only [hl9_4] at HO_11)
               (try simp only [hl9_4] at HO_14)
               cases gk with
               | zero => exact absurd HA.out (by simp [spec_DistancesTo.l2])
               | succ k4 =>
                have H := HA.out; clear HA
                simp only [spec_DistancesTo.l2] at H
                by_cases c27 : x15_4 < (t297.length : Int)
                ·rw [if_pos c27] at H
                 have c27b0 : decide (x15_4 < (t297.length : Int)) = true := decide_eq_true c27
                 clear c27
                 by_cases c28 : 0 ≤ x15_4
                 ·rw [if_pos c28] at H
                  have c28b0 : decide (0 ≤ x15_4) = true := decide_eq_true c28
                  clear c28
                  replace H := Option.bind_eq_some_iff.mp H
                  obtain ⟨t301, A290, H⟩ := H
                  (try dsimp only at H)
                  have A29 := aM_ A290; clear A290
                  by_cases c30 : t301 = true
                  ·subst c30
                   have H1 : (if 0 ≤ (rd t297 x15_4) then (if (rd t297 x15_4) < (x9_4.length : Int) then (if (rd x9_4 (rd t297 x15_4)) < 0 then (if 0 ≤ (rd x11_2 x12_2) then (if (rd x11_2 x12_2) < (x9_4.length : Int) then (if x11_4.length < 17592186044416 then (spec_DistancesTo.l2 k4 l0 a1 a2 a3 (x9_4.set ((rd t297 x15_4) : Int).toNat (wrap64 ((rd x9_4 (rd x11_2 x12_2)) + 1))) (x11_4 ++ [rd t297 x15_4]) x12_2 (rd x11_2 x12_2) t297 (wrap64 (x15_4 + 1))) else (none)) else (none)) else (none)) else (spec_DistancesTo.l2 k4 l0 a1 a2 a3 x9_4 x11_4 x12_2 (rd x11_2 x12_2) t297 (wrap64 (x15_4 + 1)))) else (none)) else (none)) = some r := by rw [if_pos rfl] at H; exact H
                   clear H; have H := H1; clear H1
                   by_cases c31 : 0 ≤ (rd t297 x15_4)
                   ·rw [if_pos c31] at H
                    have c31b0 : decide (0 ≤ (rd t297 x15_4)) = true := decide_eq_true c31
                    clear c31
                    by_cases c32 : (rd t297 x15_4) < (x9_4.length : Int)
                    ·rw [if_pos c32] at H
                     have c32b0 : decide ((rd t297 x15_4) < (x9_4.length : Int)) = true := decide_eq_true c32
                     clear c32
                     by_cases c33 : (rd x9_4 (rd t297 x15_4)) < 0
                     ·rw [if_pos c33] at H
                      have c33b0 : decide ((rd x9_4 (rd t297 x15_4)) < 0) = true := decide_eq_true c33
                      clear c33
                      by_cases c34 : 0 ≤ (rd x11_2 x12_2)
                      ·rw [if_pos c34] at H
                       have c34b0 : decide (0 ≤ (rd x11_2 x12_2)) = true := decide_eq_true c34
                       clear c34
                       by_cases c35 : (rd x11_2 x12_2) < (x9_4.length : Int)
                       ·rw [if_pos c35] at H
                        have c35b0 : decide ((rd x11_2 x12_2) < (x9_4.length : Int)) = true := decide_eq_true c35
                        clear c35
                        obtain ⟨y306, hy306⟩ : ∃ y_ : List Int, y_ = (x9_4.set ((rd t297 x15_4) : Int).toNat (wrap64 ((rd x9_4 (rd x11_2 x12_2)) + 1))) := ⟨_, rfl⟩
                        replace H : (if x11_4.length < 17592186044416 then (spec_DistancesTo.l2 k4 l0 a1 a2 a3 y306 (x11_4 ++ [rd t297 x15_4]) x12_2 (rd x11_2 x12_2) t297 (wrap64 (x15_4 + 1))) else (none)) = some r := by first | (rw [hy306]; with_reducible exact H) | (have H2_ := (Option.bind_some _ _).symm.trans H; rw [hy306]; with_reducible exact H2_) | (have H2_ := (Option.bind_some _ _).symm.trans H; with_reducible exact H2_) | with_reducible exact H | (rw [hy306]; exact H) | exact H
                        have Ny306 := aM_ hy306; clear hy306
                        by_cases c37 : x11_4.length < 17592186044416
                        ·rw [if_pos c37] at H
                         have LMc37 := aM_ c37; clear c37
                         obtain ⟨y307, hy307⟩ : ∃ y_ : List Int, y_ = (x11_4 ++ [rd t297 x15_4]) := ⟨_, rfl⟩
                         replace H : (spec_DistancesTo.l2 k4 l0 a1 a2 a3 y306 y307 x12_2 (rd x11_2 x12_2) t297 (wrap64 (x15_4 + 1))) = some r := by first | (rw [hy307]; with_reducible exact H) | (have H2_ := (Option.bind_some _ _).symm.trans H; rw [hy307]; with_reducible exact H2_) | (have H2_ := (Option.bind_some _ _).symm.trans H; with_reducible exact H2_) | with_reducible exact H | (rw [hy307]; exact H) | exact H
                         have Ny307 := aM_ hy307; clear hy307
                         have H' := aM_ H
                         clear H
                         obtain ⟨Ao38, co38, eo38⟩ := Kd.R_slice HO_14.out
                         subst eo38
                         have p300 : 0 ≤ (x15_4 : Int) := dT_
                         have q300 : x15_4 < (t297.length : Int) := dT_
                         obtain ⟨ad300, e300, hx300_0⟩ := Kd.at_int (Kd.R_reads' HO_14.out).2.2 x15_4 p300 q300
                         cases e300
                         replace p300 := eq_true p300; replace q300 := eq_true q300
                         try go_wp2_with (first | ((with_reducible refine gate_callee (f := 43) rfl ?_); refine goesL_ (some 68) rfl rfl Try.func43 (by kernel_rfl) rfl #[.int .i64 (rd t297 x15_4), .int .i64 0, .int .i64 (wrap64 (a1 - 1))] rfl (by (try simp only [List.map_toArray, List.map_cons, List.map_nil]); first | done | rfl | (simp only [List.length_drop, List.length_take]; rfl)) ?_; (first | (with_reducible refine (spec_l1In.calls (rd t297 x15_4) 0 (wrap64 (a1 - 1)) true _ A29.out).mono ?_) | (with_reducible refine (spec_l1In.calls (rd t297 x15_4) 0 (IntKind.i64.wrap (a1 - 1)) true _ (by rw [i64_w]; exact A29.out)).mono ?_)); rintro e w' ⟨rfl, ⟨nd, rfl⟩⟩; refine ⟨_, rfl, ?_⟩; (try (rw [drewN_self wr]; generalize hq_ : World.drewN wr _ = wr; have n0_ : Aside0 (Kd.R (Kd.int .i64) 3 wr w.heap.size (fun k_ => (some k_ ≠ (.slice (some ⟨go14, 0, none⟩) x9_4.length co14 : Value).ownBlock ∧ some k_ ≠ (.slice (some ad300) t297.length co38 : Value).ownBlock)) u11 x11_4) := ⟨by rw [← hq_]; exact (rb_ HO_11.out)⟩; have n1_ : Aside0 (Kd.R (Kd.int .i64) 3 wr w.heap.size (fun k_ => (some k_ ≠ (.slice (some ⟨go14, 0, none⟩) x9_4.length co14 : Value).ownBlock ∧ some k_ ≠ (u11 : Value).ownBlock)) (.slice (some ad300) t297.length co38) t297) := ⟨by rw [← hq_]; exact (rb_ HO_14.out)⟩; have n2_ : Aside0 (Kd.R (Kd.int .i64) 3 wr w.heap.size (fun k_ => (some k_ ≠ (u11 : Value).ownBlock ∧ some k_ ≠ (.slice (some ad300) t297.length co38 : Value).ownBlock)) (.slice (some ⟨go14, 0, none⟩) x9_4.length co14) x9_4) := ⟨by rw [← hq_]; exact (rb_ HO_9.out)⟩; have n3_ : Aside0 (Below w.heap.size w wr) := ⟨by rw [← hq_]; exact (bw_)⟩; clear HO_11 HO_14 HO_9 HB hq_; have HO_11 := n0_; have HO_14 := n1_; have HO_9 := n2_; have HB := n3_; clear n0_ n1_ n2_ n3_)); have p302 : 0 ≤ (x15_4 : Int) := dT_; have q302 : x15_4 < (t297.length : Int) := dT_; obtain ⟨ad302, e302, hx302_0⟩ := Kd.at_int (Kd.R_reads' HO_14.out).2.2 x15_4 p302 q302; obtain rfl : ad300 = ad302 := (by injection e302); replace p302 := eq_true p302; replace q302 := eq_true q302; have p303 : 0 ≤ ((rd t297 x15_4) : Int) := dT_; have q303 : (rd t297 x15_4) < (x9_4.length : Int) := dT_; obtain ⟨ad303, e303, hx303_0⟩ := Kd.at_int (Kd.R_reads' HO_9.out).2.2 (rd t297 x15_4) p303 q303; obtain rfl : (⟨go14, 0, none⟩ : Addr) = ad303 := (by injection e303); (first | simp only [add_plain] at hx303_0 | simp only [add_at] at hx303_0 | simp only [Addr.add, Nat.zero_add] at hx303_0 | skip); replace p303 := eq_true p303; replace q303 := eq_true q303))
                         have n0_ := aM_ (rD_ HO_9.out); have n1_ := aM_ (rD_ HO_11.out); have n2_ := aM_ (rD_ HO_14.out); have n3_ := aM_ (wD_ HB.out); clear HO_9 HO_11 HO_14 HB; have HO_9 := n0_; have HO_11 := n1_; have HO_14 := n2_; have HB := n3_; clear n0_ n1_ n2_ n3_
                         have p304 : 0 ≤ (x15_4 : Int) := dT_
                         have q304 : x15_4 < (t297.length : Int) := dT_
                         obtain ⟨ad304, e304, hx304_0⟩ := Kd.at_int (Kd.R_reads' HO_14.out).2.2 x15_4 p304 q304
                         obtain rfl : ad300 = ad304 := (by injection e304)
                         replace p304 := eq_true p304; replace q304 := eq_true q304
                         have p305 : 0 ≤ ((rd x11_2 x12_2) : Int) := dT_
                         have q305 : (rd x11_2 x12_2) < (x9_4.length : Int) := dT_
                         obtain ⟨ad305, e305, hx305_0⟩ := Kd.at_int (Kd.R_reads' HO_9.out).2.2 (rd x11_2 x12_2) p305 q305
                         obtain rfl : (⟨go14, 0, none⟩ : Addr) = ad305 := (by injection e305)
                         (first | simp only [add_plain] at hx305_0 | simp only [add_at] at hx305_0 | simp only [Addr.add, Nat.zero_add] at hx305_0 | skip)
                         replace p305 := eq_true p305; replace q305 := eq_true q305
                         have p36 : 0 ≤ ((rd t297 x15_4) : Int) := dT_
                         have q36 : ((rd t297 x15_4) : Int) < ((x9_4.length : Int) : Int) := dT_
                         obtain ⟨hx36_0, hf36_0⟩ := Kd.R_celln 0 HO_9.out ((rd t297 x15_4) : Int) p36 q36
                         replace p36 := eq_true p36; replace q36 := eq_true q36; have HP40 := Kd.R_putn HO_9.out ((rd t297 x15_4) : Int) (wrap64 ((rd x9_4 (rd x11_2 x12_2)) + 1))
                         rw [← Ny306.out] at HP40
                         have HQ40 := aM_ HP40; clear HP40
                         refine start_ (n := 12) (S := fun w' => w'.cell? (ad300.add (x15_4).toNat) = some (.int .i64 (rd t297 x15_4)) ∧ w'.cell? ⟨go14, ((rd x11_2 x12_2)).toNat, none⟩ = some (.int .i64 (rd x9_4 (rd x11_2 x12_2)))) (ds := [11]) #[false, false, false, false, false, false, false, false, false, false, false, false] (by kernel_rfl) rfl rfl ⟨hx304_0, hx305_0⟩ (fun hHeld => ?_); refine with_tabW spec_DistancesTo.tab20 spec_DistancesTo.bits20 (fun HT_ HW_ => ?_)
                         generalize wr.drew = w39 at HO_9 HO_11 HO_14 HB HQ40 hf36_0 hx304_0 hx305_0 hx36_0 hHeld ⊢
                         refine pu_ 0 (some 79) #[true, false, false, false, false, false, false, false, false, false, false, false] rfl rfl ?_
                         refine pu_ 1 (some 80) #[true, true, false, false, false, false, false, false, false, false, false, false] rfl rfl ?_
                         refine pu_ 2 (some 81) #[true, true, true, false, false, false, false, false, false, false, false, false] rfl rfl ?_
                         refine pu_ 3 (some 82) #[true, true, true, true, false, false, false, false, false, false, false, false] rfl rfl ?_
                         refine pu_ 5 (some 84) #[true, true, true, true, false, true, false, false, false, false, false, false] rfl rfl ?_
                         refine pu_ 6 (some 85) #[true, true, true, true, false, true, true, false, false, false, false, false] rfl rfl ?_
                         refine pu_ 7 (some 86) #[true, true, true, true, false, true, true, true, false, false, false, false] rfl rfl ?_
                         refine tk2_ 4 (some 83) #[true, true, true, true, true, true, true, true, false, false, false, false] rfl rfl ?_
                         refine tk2_ 8 (some 87) #[true, true, true, true, true, true, true, true, true, false, false, false] rfl rfl ?_
                         refine pu_ 9 (some 88) #[true, true, true, true, true, true, true, true, true, true, false, false] rfl rfl ?_
                         refine pu_ 10 (some 89) #[true, true, true, true, true, true, true, true, true, true, true, false] rfl rfl ?_
                         refine last_ (i := 11) (N := none) #[true, true, true, true, true, true, true, true, true, true, true, true] rfl rfl (one_of HT_.out (by kernel_rfl)) (by decide) (fun K hK => ?_)
                         refine skip_ (w1 := ?_) (by rfl) rfl ?_ ?_
                         rotate_left
                         ·go_simp
                          rfl
                         refine hK.out _ _ ?_
                         clear hK K
                         refine done_ (done_of HT_.out (by kernel_rfl)) ?_
                         have hN1_ := Kd.R_far HO_14.out (p := ⟨go14, ((rd t297 x15_4)).toNat, none⟩) (fun k_ hk_ e_ => by have h1_ : some k_ = some go14 := (by rw [e_]); first | exact hk_.1 h1_ | exact hk_.2 h1_ | exact hk_.1.1 h1_ | exact hk_.1.2 h1_ | exact hk_.2.1 h1_ | exact hk_.2.2 h1_) (.int .i64 (wrap64 ((rd x9_4 (rd x11_2 x12_2)) + 1)))
                         obtain ⟨adN_, eN_, hxN_⟩ := Kd.at_int (Kd.R_reads' hN1_).2.2 x15_4 (of_eq_true p304) (of_eq_true q304)
                         obtain rfl : ad300 = adN_ := (by injection eN_)
                         clear hN1_
                         try go_wp2_with (first | ((with_reducible refine gate_builtin (b := .append) (xs := #[.tmp 90, .tmp 95]) rfl ?_); at_builtin; refine Kd.R_append (Kd.int .i64) (w0 := w) w.heap.size rfl (.tmp 90) (.tmp 95) 51 3 (.int .i64 0) 8 rfl Try.underlying51 info3 rfl (by decide) (by omega) u11 x11_4 (rd t297 x15_4) [.int .i64 (rd t297 x15_4)] (fun k_ => some k_ ≠ (.slice (some ⟨go14, 0, none⟩) x9_4.length co14 : Value).ownBlock ∧ some k_ ≠ (.slice (some ad300) t297.length co38 : Value).ownBlock) (fun _ => False) rfl (by first | (go_simp; done) | (go_simp; rfl)) ?aP (fun _ hk => hk.elim) ?aF ?aO ?aB ?aS ?aL ?_; (case aP => exact rfl); (case aB => exact (by repeat (first | (with_reducible first | exact HB.out | apply wA_ | apply wN_ | apply wD_ | refine wE_ ?_ GB14.out) | exact HB.out))); (case aF => exact (fun k_ hk => ⟨Kd.fresh' (Kd.R_lt (rb_ HQ40.out)) k_ hk, Kd.fresh' (Kd.R_lt (by (with_reducible repeat (first | apply rA_ | apply rN_ | apply rD_)); exact (Kd.R_mono (Kd.R_far (p := ⟨go14, ((rd t297 x15_4) : Int).toNat, none⟩) (Kd.R_mono HO_14.out (fun k_ hk => (⟨hk, fun e_ => hk.1 (by rw [e_]; rfl)⟩ : _ ∧ k_ ≠ go14))) (fun _ hk => hk.2) (.int .i64 (wrap64 ((rd x9_4 (rd x11_2 x12_2)) + 1)))) (fun _ h_ => h_.1)))) k_ hk⟩)); (case aO => exact (by (with_reducible repeat (first | apply rA_ | apply rN_ | apply rD_)); exact Kd.R_mono (Kd.R_far (p := ⟨go14, ((rd t297 x15_4) : Int).toNat, none⟩) (Kd.R_mono HO_11.out (fun k_ hk => (⟨hk, fun e_ => hk.1 (by rw [e_]; rfl)⟩ : _ ∧ k_ ≠ go14))) (fun _ hk => hk.2) (.int .i64 (wrap64 ((rd x9_4 (rd x11_2 x12_2)) + 1)))) (fun _ hk => ⟨hk.1.1, hk.1.2⟩))); (case aS => exact (sZ_ (by repeat (first | (with_reducible first | exact HB.out | apply wA_ | apply wN_ | apply wD_ | refine wE_ ?_ GB14.out) | exact HB.out)))); (case aL => have := LMc37.out; omega); intro v308 w41 ho hb hg hat; rw [← Ny307.out] at ho; have n0_ := aM_ (Kd.R_after (ok := (fun k_ => some k_ ≠ (.slice (some ad300) t297.length co38 : Value).ownBlock)) (by (with_reducible repeat (first | apply rA_ | apply rN_ | apply rD_)); exact Kd.R_mono HQ40.out (fun _ hk => ⟨hk.2, hk.1⟩)) hg hat); have n1_ := aM_ (Kd.R_after (ok := (fun k_ => some k_ ≠ (.slice (some ⟨go14, 0, none⟩) x9_4.length co14 : Value).ownBlock)) (by (with_reducible repeat (first | apply rA_ | apply rN_ | apply rD_)); exact Kd.R_mono (Kd.R_far (p := ⟨go14, ((rd t297 x15_4) : Int).toNat, none⟩) (Kd.R_mono HO_14.out (fun k_ hk => (⟨hk, fun e_ => hk.1 (by rw [e_]; rfl)⟩ : _ ∧ k_ ≠ go14))) (fun _ hk => hk.2) (.int .i64 (wrap64 ((rd x9_4 (rd x11_2 x12_2)) + 1)))) (fun _ hk => ⟨hk.1.1, hk.1.2⟩)) hg hat); have n2_ := aM_ (hb); have n3_ := aM_ (ho); clear HO_9 HO_14 HB HO_11; have HO_9 := n0_; have HO_14 := n1_; have HB := n2_; have HO309 := n3_; clear n0_ n1_ n2_ n3_ ho hb hg hat))
                         (try simp only [← hl9_4])
                         go_roundg k4
                         case measure => have := HK1.out; have := HK2.out; have := HJ20.out; have := HK4.out; omega
                         case rel => exact ⟨(y306), (y307), (wrap64 (x15_4 + 1)), (by first | rfl | (simp; done) | (simp [*]; done)), H', ⟨by have := HK1.out; have := HK2.out; have := HJ20.out; have := HK4.out; omega⟩, ⟨by (try simp only [hl9_2]); (try simp only [hl9_4]); (with_reducible repeat (first | apply rA_ | apply rN_ | apply rD_)); exact Kd.R_mono HO_9.out (fun _ hk => ⟨hk.2, hk.1⟩)⟩, ⟨by (try simp only [hl9_2]); (try simp only [hl9_4]); (with_reducible repeat (first | apply rA_ | apply rN_ | apply rD_)); exact HO309.out⟩, ⟨by (try simp only [hl9_2]); (try simp only [hl9_4]); (with_reducible repeat (first | apply rA_ | apply rN_ | apply rD_)); exact HO_14.out⟩, ⟨bw_⟩⟩
                        ·rw [if_neg c37] at H
                         exact absurd H (by simp)
                       ·rw [if_neg c35] at H
                        exact absurd H (by simp)
                      ·rw [if_neg c34] at H
                       exact absurd H (by simp)
                     ·rw [if_neg c33] at H
                      have c33b0 : decide ((rd x9_4 (rd t297 x15_4)) < 0) = false := decide_eq_false c33
                      clear c33
                      have H' := aM_ H
                      clear H
                      obtain ⟨Ao42, co42, eo42⟩ := Kd.R_slice HO_14.out
                      subst eo42
                      have p300 : 0 ≤ (x15_4 : Int) := dT_
                      have q300 : x15_4 < (t297.length : Int) := dT_
                      obtain ⟨ad300, e300, hx300_0⟩ := Kd.at_int (Kd.R_reads' HO_14.out).2.2 x15_4 p300 q300
                      cases e300
                      replace p300 := eq_true p300; replace q300 := eq_true q300
                      go_wp2_with (first | ((with_reducible refine gate_callee (f := 43) rfl ?_); refine goesL_ (some 68) rfl rfl Try.func43 (by kernel_rfl) rfl #[.int .i64 (rd t297 x15_4), .int .i64 0, .int .i64 (wrap64 (a1 - 1))] rfl (by (try simp only [List.map_toArray, List.map_cons, List.map_nil]); first | done | rfl | (simp only [List.length_drop, List.length_take]; rfl)) ?_; (first | (with_reducible refine (spec_l1In.calls (rd t297 x15_4) 0 (wrap64 (a1 - 1)) true _ A29.out).mono ?_) | (with_reducible refine (spec_l1In.calls (rd t297 x15_4) 0 (IntKind.i64.wrap (a1 - 1)) true _ (by rw [i64_w]; exact A29.out)).mono ?_)); rintro e w' ⟨rfl, ⟨nd, rfl⟩⟩; refine ⟨_, rfl, ?_⟩; have p302 : 0 ≤ (x15_4 : Int) := dT_; have q302 : x15_4 < (t297.length : Int) := dT_; obtain ⟨ad302, e302, hx302_0⟩ := Kd.at_int (Kd.R_reads' HO_14.out).2.2 x15_4 p302 q302; obtain rfl : ad300 = ad302 := (by injection e302); replace p302 := eq_true p302; replace q302 := eq_true q302; have p303 : 0 ≤ ((rd t297 x15_4) : Int) := dT_; have q303 : (rd t297 x15_4) < (x9_4.length : Int) := dT_; obtain ⟨ad303, e303, hx303_0⟩ := Kd.at_int (Kd.R_reads' HO_9.out).2.2 (rd t297 x15_4) p303 q303; obtain rfl : (⟨go14, 0, none⟩ : Addr) = ad303 := (by injection e303); (first | simp only [add_plain] at hx303_0 | simp only [add_at] at hx303_0 | simp only [Addr.add, Nat.zero_add] at hx303_0 | skip); replace p303 := eq_true p303; replace q303 := eq_true q303))
                      (try simp only [← hl9_4])
                      go_roundg k4
                      case measure => have := HK1.out; have := HK2.out; have := HJ20.out; have := HK4.out; omega
                      case rel => exact ⟨(x9_4), (x11_4), (wrap64 (x15_4 + 1)), (by first | rfl | (simp; done) | (simp [*]; done)), H', ⟨by have := HK1.out; have := HK2.out; have := HJ20.out; have := HK4.out; omega⟩, ⟨by (try simp only [hl9_2]); (try simp only [hl9_4]); (with_reducible repeat (first | apply rA_ | apply rN_ | apply rD_)); exact HO_9.out⟩, ⟨by (try simp only [hl9_2]); (try simp only [hl9_4]); (with_reducible repeat (first | apply rA_ | apply rN_ | apply rD_)); exact HO_11.out⟩, ⟨by (try simp only [hl9_2]); (try simp only [hl9_4]); (with_reducible repeat (first | apply rA_ | apply rN_ | apply rD_)); exact HO_14.out⟩, ⟨bw_⟩⟩
                    ·rw [if_neg c32] at H
                     exact absurd H (by simp)
                   ·rw [if_neg c31] at H
                    exact absurd H (by simp)
                  ·replace c30 := Bool.eq_false_iff.mpr c30
                   subst c30
                   have H1 : (spec_DistancesTo.l2 k4 l0 a1 a2 a3 x9_4 x11_4 x12_2 (rd x11_2 x12_2) t297 (wrap64 (x15_4 + 1))) = some r := by rw [if_neg (show ¬ (false = true) by decide)] at H; exact H
                   clear H; have H := H1; clear H1
                   have H' := aM_ H
                   clear H
                   obtain ⟨Ao43, co43, eo43⟩ := Kd.R_slice HO_14.out
                   subst eo43
                   have p300 : 0 ≤ (x15_4 : Int) := dT_
                   have q300 : x15_4 < (t297.length : Int) := dT_
                   obtain ⟨ad300, e300, hx300_0⟩ := Kd.at_int (Kd.R_reads' HO_14.out).2.2 x15_4 p300 q300
                   cases e300
                   replace p300 := eq_true p300; replace q300 := eq_true q300
                   go_wp2_with (first | ((with_reducible refine gate_callee (f := 43) rfl ?_); refine goesL_ (some 68) rfl rfl Try.func43 (by kernel_rfl) rfl #[.int .i64 (rd t297 x15_4), .int .i64 0, .int .i64 (wrap64 (a1 - 1))] rfl (by (try simp only [List.map_toArray, List.map_cons, List.map_nil]); first | done | rfl | (simp only [List.length_drop, List.length_take]; rfl)) ?_; (first | (with_reducible refine (spec_l1In.calls (rd t297 x15_4) 0 (wrap64 (a1 - 1)) false _ A29.out).mono ?_) | (with_reducible refine (spec_l1In.calls (rd t297 x15_4) 0 (IntKind.i64.wrap (a1 - 1)) false _ (by rw [i64_w]; exact A29.out)).mono ?_)); rintro e w' ⟨rfl, ⟨nd, rfl⟩⟩; refine ⟨_, rfl, ?_⟩))
                   (try simp only [← hl9_4])
                   go_roundg k4
                   case measure => have := HK1.out; have := HK2.out; have := HJ20.out; have := HK4.out; omega
                   case rel => exact ⟨(x9_4), (x11_4), (wrap64 (x15_4 + 1)), (by first | rfl | (simp; done) | (simp [*]; done)), H', ⟨by have := HK1.out; have := HK2.out; have := HJ20.out; have := HK4.out; omega⟩, ⟨by (try simp only [hl9_2]); (try simp only [hl9_4]); (with_reducible repeat (first | apply rA_ | apply rN_ | apply rD_)); exact HO_9.out⟩, ⟨by (try simp only [hl9_2]); (try simp only [hl9_4]); (with_reducible repeat (first | apply rA_ | apply rN_ | apply rD_)); exact HO_11.out⟩, ⟨by (try simp only [hl9_2]); (try simp only [hl9_4]); (with_reducible repeat (first | apply rA_ | apply rN_ | apply rD_)); exact HO_14.out⟩, ⟨bw_⟩⟩
                 ·rw [if_neg c28] at H
                  exact absurd H (by simp)
                ·rw [if_neg c27] at H
                 have c27b0 : decide (x15_4 < (t297.length : Int)) = false := decide_eq_false c27
                 clear c27
                 have H' := aM_ H
                 clear H
                 obtain ⟨Ao44, co44, eo44⟩ := Kd.R_slice HO_14.out
                 subst eo44
                 go_wp2
                 (try simp only [← hl9_2, ← hl9_4])
                 go_roundg k4
                 case measure => have := HK1.out; have := HK2.out; have := HJ20.out; have := HK4.out; omega
                 case rel => exact ⟨(x9_4), (x11_4), (wrap64 (x12_2 + 1)), (by first | rfl | (simp; done) | (simp [*]; done)), H', ⟨by have := HK1.out; have := HK2.out; have := HJ20.out; have := HK4.out; omega⟩, ⟨by (try simp only [hl9_2]); (try simp only [hl9_4]); (with_reducible repeat (first | apply rA_ | apply rN_ | apply rD_)); exact Kd.R_mono HO_9.out (fun _ hk => hk.1)⟩, ⟨by (try simp only [hl9_2]); (try simp only [hl9_4]); (with_reducible repeat (first | apply rA_ | apply rN_ | apply rD_)); exact Kd.R_mono HO_11.out (fun _ hk => hk.1)⟩, ⟨bw_⟩⟩
          ·rw [if_neg c20] at H
           exact absurd H (by simp)
         ·rw [if_neg c19] at H
          have c19b0 : decide (x12_2 < (x11_2.length : Int)) = false := decide_eq_false c19
          clear c19
          obtain rfl := Option.some.inj H
          obtain ⟨Ao45, co45, eo45⟩ := Kd.R_slice HO_11.out
          subst eo45
          go_wp2
          go_ret
          exact ⟨_, by first | rfl | (simp [errW_none, errW_some] <;> rfl) | (simp [*, errW_none, errW_some] <;> rfl), by (with_reducible repeat (first | apply rA_ | apply rN_ | apply rD_)); exact Kd.R_mono HO_9.out (fun _ hk => trivial), bw_⟩
      ·rw [if_neg c13] at H
       exact absurd H (by simp)
     ·rw [if_neg c12] at H
      exact absurd H (by simp)
 ·replace c6 := Bool.eq_false_iff.mpr c6
  subst c6
  have H1 : (some (([] : List Int))) = some r := by rw [if_neg (show ¬ (false = true) by decide)] at H; exact H
  clear H; have H := H1; clear H1
  obtain ⟨y283, hy283⟩ : ∃ y_ : List Int, y_ = (([] : List Int)) := ⟨_, rfl⟩
  replace H : (some y283) = some r := by first | (rw [hy283]; with_reducible exact H) | (have H2_ := (Option.bind_some _ _).symm.trans H; rw [hy283]; with_reducible exact H2_) | (have H2_ := (Option.bind_some _ _).symm.trans H; with_reducible exact H2_) | with_reducible exact H | (rw [hy283]; exact H) | exact H
  have Ny283 := aM_ hy283; clear hy283
  obtain rfl := Option.some.inj H
  go_enter Try.func135, Try.ntmps135
  go_wp2_with (first | ((with_reducible refine gate_callee (f := 137) rfl ?_); refine goesL_ (some 18) rfl rfl Try.func137 (by kernel_rfl) rfl #[.int .i64 a1, .int .i64 a3] rfl (by (try simp only [List.map_toArray, List.map_cons, List.map_nil]); first | done | rfl | (simp only [List.length_drop, List.length_take]; rfl)) ?_; (with_reducible refine (spec_l14Ok.calls a1 a3 false _ A5.out).mono ?_); rintro e w' ⟨rfl, ⟨nd, rfl⟩⟩; refine ⟨_, rfl, ?_⟩) | ((with_reducible refine gate_dst (N := 20) rfl ?_); refine Kd.R_lit (Kd.int .i64) _ 3 ?hg (N := 20) ?hd (xs := ([] : List Int)) (inner := []) (ok := fun _ => True) (okp := fun _ => True) ?hr ?hp (fun _ hk => hk) trivial (Below.refl _ _) (Nat.le_refl _) (by simp) ?_; (case hd => rfl); (case hg => rfl); (case hr => first | (go_simp; done) | (go_simp; rfl)); (case hp => exact (Reps.none _ _)); intro v284 w46 ho47 hb hg_ hnew_; clear hg_ hnew_; (first | rw [← Ny283.out] at ho47 | (simp only [Int.reduceToNat] at ho47; rw [← Ny283.out] at ho47)); have n0_ := aM_ (Kd.R_lower ho47 (sZ_ (bw_))); have n1_ := aM_ (wS_ (bw_) hb); clear HB; have HO285 := n0_; have HB := n1_; clear n0_ n1_ hb ho47))
  go_ret
  exact ⟨_, by first | rfl | (simp [errW_none, errW_some] <;> rfl) | (simp [*, errW_none, errW_some] <;> rfl), by (with_reducible repeat (first | apply rA_ | apply rN_ | apply rD_)); exact HO285.out, bw_⟩

end Go.Proofs.Ytdodogkgmpaioaa.PFnReach
