/- The functions that the law reaches, as plain Lean functions, each with the proof that the Go code comes to its answers; conditions: those that each theorem names. (printed by a program of this session) -/
import Derived.Test.YtdodogkgmpaioaaPFnReservedx0
import Derived.Test.YtdodogkgmpaioaaPFnReservedx2
import Derived.Test.YtdodogkgmpaioaaPFnReservedx3
namespace Go.Proofs.Ytdodogkgmpaioaa.PFnReserved
open Go.RowKit Go.Proofs.YtdodogkgmpaioaaW.PrintWords Go.Proofs.YtdodogkgmpaioaaW.PrintLast Go.Proofs.YtdodogkgmpaioaaW.PrintMore
attribute [local go_sem] max2_int min2_int max_two min_two max_three min_three max_four min_four   -- for this text's walks alone
set_option linter.unusedVariables false
set_option linter.unusedSimpArgs false

/-! ### impl_HasRoom: function 57 -/
mutual
def impl_HasRoom.l0 : Nat → List (S42) → Int → Int → Int → Int → Int → Int → List (S103) → Int → Int → Int → Int → Option (Bool)
  | 0, _, _, _, _, _, _, _, _, _, _, _, _ => none
  | k + 1, x1, x3, x14, x15, x174000, x174001, x174002, x174003, x175000, x175001, x175002, x175003 => if x15 < x14 then ((impl_RouteIn.f k x174000 x174001 x174002 x174003 x15 x175000 x175001 x175002 x175003).bind fun t175 => (impl_HasRoom.l1 k x1 x3 x15 t175 1 x14 x15 x174000 x174001 x174002 x174003 x175000 x175001 x175002 x175003)) else (some true)
def impl_HasRoom.l1 : Nat → List (S42) → Int → Int → List Int → Int → Int → Int → Int → Int → Int → List (S103) → Int → Int → Int → Int → Option (Bool)
  | 0, _, _, _, _, _, _, _, _, _, _, _, _, _, _, _ => none
  | k + 1, x1, x3, x9, x10, x11, x14, x15, x174000, x174001, x174002, x174003, x175000, x175001, x175002, x175003 => if x11 < (x10.length : Int) then (if 0 ≤ (wrap64 (x11 - 1)) then (if (wrap64 (x11 - 1)) < (x10.length : Int) then (if 0 ≤ x11 then ((impl_ReservedOn.f k x174000 x174001 x174002 x174003 x1 x9 (rd x10 (wrap64 (x11 - 1))) (rd x10 x11)).bind fun t180 => (if t180 ≥ x3 then (some false) else (impl_HasRoom.l1 k x1 x3 x9 x10 (wrap64 (x11 + 1)) x14 x15 x174000 x174001 x174002 x174003 x175000 x175001 x175002 x175003))) else (none)) else (none)) else (none)) else (impl_HasRoom.l0 k x1 x3 x14 (wrap64 (x15 + 1)) x174000 x174001 x174002 x174003 x175000 x175001 x175002 x175003)
end
def impl_HasRoom.f (k : Nat) (a0_0 : Int) (a0_1 : Int) (a0_2 : Int) (l0_3 : List (S103)) (l1 : List (S42)) (a2_0 : Int) (a2_1 : Int) (a2_2 : Int) (a2_3 : Int) (a3 : Int) : Option (Bool) := impl_HasRoom.l0 k l1 a3 (l0_3.length : Int) 0 a0_0 a0_1 a0_2 l0_3 a2_0 a2_1 a2_2 a2_3
def impl_HasRoom.T8 : Bool × List (List Nat × List Nat) := (true, [([], []), ([], []), ([], []), ([], []), ([], []), ([4], [4]), ([3, 5], [3, 5]), ([6], [6]), ([], []), ([], []), ([8, 9], [8, 9]), ([10], [10]), ([0, 1, 2, 7, 11], [0, 1, 2, 7, 11]), ([], []), ([12, 13], [12, 13])])
def impl_HasRoom.B8 : List Nat := [0, 0, 0, 0, 0, 16, 56, 120, 0, 0, 768, 1792, 4095, 0, 16383]
theorem impl_HasRoom.tab8 : rtab .any (opsOf Try.f57 8) = impl_HasRoom.T8 := by kernel_rfl
theorem impl_HasRoom.bits8 : waitsOk impl_HasRoom.T8.2 impl_HasRoom.B8 = true := by kernel_rfl
set_option maxHeartbeats 8000000 in
set_option maxRecDepth 100000 in
theorem impl_HasRoom.calls (k : Nat) (a0_0 : Int) (a0_1 : Int) (a0_2 : Int) (A0_3 : Option Addr) (c0_3 : Nat) (l0_3 : List (S103)) (A1 : Option Addr) (c1 : Nat) (l1 : List (S42)) (a2_0 : Int) (a2_1 : Int) (a2_2 : Int) (a2_3 : Int) (a3 : Int) (r : Bool) (w : World) (hr0_3 : Kd.C k103 w A0_3 l0_3.length l0_3) (hc0_3 : l0_3.length ≤ c0_3) (hr1 : Kd.C k42 w A1 l1.length l1) (hc1 : l1.length ≤ c1) (h : impl_HasRoom.f k a0_0 a0_1 a0_2 l0_3 l1 a2_0 a2_1 a2_2 a2_3 a3 = some r) :
  Calls Try.prog 57 #[.agg #[.int .i64 a0_0, .int .i64 a0_1, .int .i64 a0_2, .slice A0_3 l0_3.length c0_3], .slice A1 l1.length c1, .agg #[.int .i64 a2_0, .int .i64 a2_1, .int .i64 a2_2, .int .i64 a2_3], .int .i64 a3] w fun e w' => e = .returned (.bool r) ∧ Below w.heap.size w w' := by
 have hu31 := Try.underlying31; have hu42 := Try.underlying42; have HR0_3 := aM_ hr0_3; have HC0_3 := aM_ hc0_3; clear hr0_3 hc0_3; have HR1 := aM_ hr1; have HC1 := aM_ hc1; clear hr1 hc1; have HB := aM_ (Below.refl w.heap.size w)
 have H : (impl_HasRoom.l0 k l1 a3 (l0_3.length : Int) 0 a0_0 a0_1 a0_2 l0_3 a2_0 a2_1 a2_2 a2_3) = some r := h
 clear h
 have H' := aM_ H
 clear H
 go_enter Try.func57, Try.ntmps57
 go_wp2_with (first | ((with_reducible refine gate_dst (N := 4) rfl ?_); refine box_event ?hg (N := 4) ?hd (cs := #[.int .i64 a0_0, .int .i64 a0_1, .int .i64 a0_2, .slice A0_3 l0_3.length c0_3]) (t := 31) ?hr ?_; (case hd => rfl); (case hg => rfl); (case hr => first | (go_simp; done) | (go_simp; rfl)); intro gb173 hg w5 hbox hb; have n0_ := aM_ (wS_ (bw_) hb); have n1_ := aM_ (hbox); have n2_ := aM_ ((by rw [hg]; exact (sZ_ (bw_)) : w.heap.size ≤ gb173)); have n3_ := aM_ ((by rw [hg]; exact (sZ_ (bw_)) : w.heap.size ≤ gb173)); clear HB; have HB := n0_; have BK173 := n1_; have GW173 := n2_; have GE173 := n3_; clear n0_ n1_ n2_ n3_ hb hbox hg) | ((with_reducible refine gate_dst (N := 6) rfl ?_); refine box_event ?hg (N := 6) ?hd (cs := #[.int .i64 a2_0, .int .i64 a2_1, .int .i64 a2_2, .int .i64 a2_3]) (t := 42) ?hr ?_; (case hd => rfl); (case hg => rfl); (case hr => first | (go_simp; done) | (go_simp; rfl)); intro gb174 hg w6 hbox hb; have n0_ := aM_ (bB_ (g := gb173) (o := .cells #[.int .i64 a0_0, .int .i64 a0_1, .int .i64 a0_2, .slice A0_3 l0_3.length c0_3] 31 (0, 0)) (kb_ BK173.out) hb); have n1_ := aM_ (wS_ (bw_) hb); have n2_ := aM_ (hbox); have n3_ := aM_ ((by rw [hg]; exact (sZ_ (bw_)) : w.heap.size ≤ gb174)); have n4_ := aM_ ((by rw [hg]; exact (sZ_ (bw_)) : w.heap.size ≤ gb174)); have n5_ := aM_ ((by rw [hg]; exact Nat.ne_of_lt (blk_lt (g := gb173) (o := .cells #[.int .i64 a0_0, .int .i64 a0_1, .int .i64 a0_2, .slice A0_3 l0_3.length c0_3] 31 (0, 0)) (kb_ BK173.out)) : gb173 ≠ gb174)); have n6_ := aM_ ((by rw [hg]; exact Nat.ne_of_gt (blk_lt (g := gb173) (o := .cells #[.int .i64 a0_0, .int .i64 a0_1, .int .i64 a0_2, .slice A0_3 l0_3.length c0_3] 31 (0, 0)) (kb_ BK173.out)) : gb174 ≠ gb173)); clear BK173 HB; have BK173 := n0_; have HB := n1_; have BK174 := n2_; have GW174 := n3_; have GE174 := n4_; have NB173_174 := n5_; have NB174_173 := n6_; clear n0_ n1_ n2_ n3_ n4_ n5_ n6_ hb hbox hg; have hnb7 := NB173_174.out; have hnc7 := NB174_173.out; obtain ⟨hcz8_0, hcz8_1, hcz8_2, hcz8_3, hfz8_0, hfz8_1, hfz8_2, hfz8_3⟩ := bk4_ BK173.out))
 go_loopg [15] k (fun kq v15 w' => ∃ (x15_1 : Int), v15 = .int .i64 x15_1 ∧ Aside0 (impl_HasRoom.l0 kq l1 a3 (l0_3.length : Int) x15_1 a0_0 a0_1 a0_2 l0_3 a2_0 a2_1 a2_2 a2_3 = some r) ∧ Aside0 (kq ≤ k) ∧ Aside0 (w'.heap[gb173]? = some (.cells #[.int .i64 a0_0, .int .i64 a0_1, .int .i64 a0_2, (.slice A0_3 l0_3.length c0_3)] 31 (0, 0))) ∧ Aside0 (w'.heap[gb174]? = some (.cells #[.int .i64 a2_0, .int .i64 a2_1, .int .i64 a2_2, .int .i64 a2_3] 42 (0, 0))) ∧ Aside0 (Below w.heap.size w w'))
 case atStart => exact ⟨(0), (by first | rfl | (simp; done) | (simp [*]; done)), H', ⟨Nat.le_refl _⟩, ⟨by (with_reducible repeat (first | refine bN_ ?_ _ | refine bD_ ?_ | refine bA_ ?_ _)); exact BK173.out⟩, ⟨by (with_reducible repeat (first | refine bN_ ?_ _ | refine bD_ ?_ | refine bA_ ?_ _)); exact BK174.out⟩, ⟨bw_⟩⟩
 case round =>
  clear H'
  try clear hcz8_0
  try clear hcz8_1
  try clear hcz8_2
  try clear hcz8_3
  try clear hfz8_0
  try clear hfz8_1
  try clear hfz8_2
  try clear hfz8_3
  obtain ⟨x15_1, rfl, HA, HK1, BK173, BK174, HB⟩ := hrel
  cases gk with
  | zero => exact absurd HA.out (by simp [impl_HasRoom.l0])
  | succ k1 =>
   have H := HA.out; clear HA
   simp only [impl_HasRoom.l0] at H
   by_cases c9 : x15_1 < (l0_3.length : Int)
   ·rw [if_pos c9] at H
    have c9b0 : decide (x15_1 < (l0_3.length : Int)) = true := decide_eq_true c9
    clear c9
    replace H := Option.bind_eq_some_iff.mp H
    obtain ⟨t175, A100, H⟩ := H
    (try dsimp only at H)
    have A10 := aM_ A100; clear A100
    have H' := aM_ H
    clear H; have hnb11 := NB173_174.out; have hnc11 := NB174_173.out
    have hcz12_0 : wr.cell? ⟨gb173, 0, none⟩ = some (.int .i64 a0_0) := (blk_cell BK173.out 0).trans rfl
    have hcz12_1 : wr.cell? ⟨gb173, 1, none⟩ = some (.int .i64 a0_1) := (blk_cell BK173.out 1).trans rfl
    have hcz12_2 : wr.cell? ⟨gb173, 2, none⟩ = some (.int .i64 a0_2) := (blk_cell BK173.out 2).trans rfl
    have hcz12_3 : wr.cell? ⟨gb173, 3, none⟩ = some (.slice A0_3 l0_3.length c0_3) := (blk_cell BK173.out 3).trans rfl
    have hfz12_0 := blk_frozen BK173.out 0; have hfz12_1 := blk_frozen BK173.out 1; have hfz12_2 := blk_frozen BK173.out 2; have hfz12_3 := blk_frozen BK173.out 3
    have hcz13_0 : wr.cell? ⟨gb174, 0, none⟩ = some (.int .i64 a2_0) := (blk_cell BK174.out 0).trans rfl
    have hcz13_1 : wr.cell? ⟨gb174, 1, none⟩ = some (.int .i64 a2_1) := (blk_cell BK174.out 1).trans rfl
    have hcz13_2 : wr.cell? ⟨gb174, 2, none⟩ = some (.int .i64 a2_2) := (blk_cell BK174.out 2).trans rfl
    have hcz13_3 : wr.cell? ⟨gb174, 3, none⟩ = some (.int .i64 a2_3) := (blk_cell BK174.out 3).trans rfl
    have hfz13_0 := blk_frozen BK174.out 0; have hfz13_1 := blk_frozen BK174.out 1; have hfz13_2 := blk_frozen BK174.out 2; have hfz13_3 := blk_frozen BK174.out 3
    go_wp2_with (first | ((with_reducible refine gate_callee (f := 27) rfl ?_); refine goesL_ (some 21) rfl rfl Try.func27 (by kernel_rfl) rfl #[.agg #[.int .i64 a0_0, .int .i64 a0_1, .int .i64 a0_2, .slice A0_3 l0_3.length c0_3], .int .i64 x15_1, .agg #[.int .i64 a2_0, .int .i64 a2_1, .int .i64 a2_2, .int .i64 a2_3]] rfl (by (try simp only [List.map_toArray, List.map_cons, List.map_nil]); first | done | rfl | (simp only [List.length_drop, List.length_take]; rfl)) ?_; (with_reducible refine (impl_RouteIn.calls k1 a0_0 a0_1 a0_2 _ _ l0_3 x15_1 a2_0 a2_1 a2_2 a2_3 t175 _ ?side1 ?side2 A10.out).mono ?_); (case side1 => repeat (first | exact (Kd.C_below HR0_3.out HB.out) | (with_reducible refine cA_ ?_ _) | (with_reducible refine cN_ ?_ _) | (with_reducible refine cD_ ?_))); (case side2 => exact HC0_3.out); rintro e w14 ⟨v176, rfl, ho0, hb⟩; refine ⟨_, rfl, ?_⟩; have n0_ := aM_ (Kd.R_lower ho0 (sZ_ (bw_))); have n1_ := aM_ (bB_ (g := gb173) (o := .cells #[.int .i64 a0_0, .int .i64 a0_1, .int .i64 a0_2, .slice A0_3 l0_3.length c0_3] 31 (0, 0)) (kb_ BK173.out) hb); have n2_ := aM_ (bB_ (g := gb174) (o := .cells #[.int .i64 a2_0, .int .i64 a2_1, .int .i64 a2_2, .int .i64 a2_3] 42 (0, 0)) (kb_ BK174.out) hb); have n3_ := aM_ (wS_ (bw_) hb); clear BK173 BK174 HB; have HO177 := n0_; have BK173 := n1_; have BK174 := n2_; have HB := n3_; clear n0_ n1_ n2_ n3_; (try clear hb); (try clear hb2); (try clear hk); (try clear hi); (try clear ho0)))
    go_loopg [11] k1 (fun kq v11 w' => ∃ (x11_2 : Int), v11 = .int .i64 x11_2 ∧ Aside0 (impl_HasRoom.l1 kq l1 a3 x15_1 t175 x11_2 (l0_3.length : Int) x15_1 a0_0 a0_1 a0_2 l0_3 a2_0 a2_1 a2_2 a2_3 = some r) ∧ Aside0 (kq ≤ k1) ∧ Aside0 (Kd.R (Kd.int .i64) 3 w' w.heap.size (fun _ => True) v176 t175) ∧ Aside0 (w'.heap[gb173]? = some (.cells #[.int .i64 a0_0, .int .i64 a0_1, .int .i64 a0_2, (.slice A0_3 l0_3.length c0_3)] 31 (0, 0))) ∧ Aside0 (w'.heap[gb174]? = some (.cells #[.int .i64 a2_0, .int .i64 a2_1, .int .i64 a2_2, .int .i64 a2_3] 42 (0, 0))) ∧ Aside0 (Below w.heap.size w w'))
    case atStart => exact ⟨(1), (by first | rfl | (simp; done) | (simp [*]; done)), H', ⟨Nat.le_refl _⟩, ⟨by (with_reducible repeat (first | apply rA_ | apply rN_ | apply rD_)); exact HO177.out⟩, ⟨by (with_reducible repeat (first | refine bN_ ?_ _ | refine bD_ ?_ | refine bA_ ?_ _)); exact BK173.out⟩, ⟨by (with_reducible repeat (first | refine bN_ ?_ _ | refine bD_ ?_ | refine bA_ ?_ _)); exact BK174.out⟩, ⟨bw_⟩⟩
    case round =>
     clear H'
     try clear c9b0
     try clear hcz12_0
     try clear hcz12_1
     try clear hcz12_2
     try clear hcz12_3
     try clear hcz13_0
     try clear hcz13_1
     try clear hcz13_2
     try clear hcz13_3
     try clear hcz8_0
     try clear hcz8_1
     try clear hcz8_2
     try clear hcz8_3
     try clear hfz12_0
     try clear hfz12_1
     try clear hfz12_2
     try clear hfz12_3
     try clear hfz13_0
     try clear hfz13_1
     try clear hfz13_2
     try clear hfz13_3
     try clear hfz8_0
     try clear hfz8_1
     try clear hfz8_2
     try clear hfz8_3
     obtain ⟨x11_2, rfl, HA, HK2, HO_10, BK173, BK174, HB⟩ := hrel
     cases gk with
     | zero => exact absurd HA.out (by simp [impl_HasRoom.l1])
     | succ k2 =>
      have H := HA.out; clear HA
      simp only [impl_HasRoom.l1] at H
      by_cases c15 : x11_2 < (t175.length : Int)
      ·rw [if_pos c15] at H
       have c15b0 : decide (x11_2 < (t175.length : Int)) = true := decide_eq_true c15
       clear c15
       obtain ⟨ji16, hji16⟩ : ∃ j_ : Int, (wrap64 (x11_2 - 1)) = j_ := ⟨_, rfl⟩
       replace H : (if 0 ≤ (ji16) then (if (ji16) < (t175.length : Int) then (if 0 ≤ x11_2 then ((impl_ReservedOn.f k2 a0_0 a0_1 a0_2 l0_3 l1 x15_1 (rd t175 (ji16)) (rd t175 x11_2)).bind fun t180 => (if t180 ≥ a3 then (some false) else (impl_HasRoom.l1 k2 l1 a3 x15_1 t175 (wrap64 (x11_2 + 1)) (l0_3.length : Int) x15_1 a0_0 a0_1 a0_2 l0_3 a2_0 a2_1 a2_2 a2_3))) else (none)) else (none)) else (none)) = some r := by first | (rw [hji16] at H; exact H) | (simp only [hji16] at H ⊢; exact H)
       have hji16w : (IntKind.i64.wrap (x11_2 - 1)) = ji16 := (i64_w _).trans hji16
       by_cases c17 : 0 ≤ (ji16)
       ·rw [if_pos c17] at H
        have c17b0 : decide (0 ≤ (ji16)) = true := decide_eq_true c17
        clear c17
        by_cases c18 : (ji16) < (t175.length : Int)
        ·rw [if_pos c18] at H
         have c18b0 : decide ((ji16) < (t175.length : Int)) = true := decide_eq_true c18
         clear c18
         by_cases c19 : 0 ≤ x11_2
         ·rw [if_pos c19] at H
          have c19b0 : decide (0 ≤ x11_2) = true := decide_eq_true c19
          clear c19
          replace H := Option.bind_eq_some_iff.mp H
          obtain ⟨t180, A200, H⟩ := H
          (try dsimp only at H)
          have A20 := aM_ A200; clear A200
          by_cases c21 : t180 ≥ a3
          ·rw [if_pos c21] at H
           have c21b0 : decide (a3 ≤ t180) = true := decide_eq_true c21
           clear c21
           obtain rfl := Option.some.inj H
           obtain ⟨Ao22, co22, eo22⟩ := Kd.R_slice HO_10.out
           subst eo22
           try go_wp2
           have n0_ := aM_ (rD_ HO_10.out); have n1_ := aM_ (bD_ BK173.out); have n2_ := aM_ (bD_ BK174.out); have n3_ := aM_ (wD_ HB.out); clear HO_10 BK173 BK174 HB; have HO_10 := n0_; have BK173 := n1_; have BK174 := n2_; have HB := n3_; clear n0_ n1_ n2_ n3_
           have p178 : 0 ≤ ((ji16) : Int) := dT_
           have q178 : (ji16) < (t175.length : Int) := dT_
           obtain ⟨ad178, e178, hx178_0⟩ := Kd.at_int (Kd.R_reads' HO_10.out).2.2 (ji16) p178 q178
           cases e178
           replace p178 := eq_true p178; replace q178 := eq_true q178
           have p179 : 0 ≤ (x11_2 : Int) := dT_
           have q179 : x11_2 < (t175.length : Int) := dT_
           obtain ⟨ad179, e179, hx179_0⟩ := Kd.at_int (Kd.R_reads' HO_10.out).2.2 x11_2 p179 q179
           obtain rfl : ad178 = ad179 := (by injection e179)
           replace p179 := eq_true p179; replace q179 := eq_true q179
           refine start_ (n := 15) (S := fun w' => w'.cell? ⟨gb173, 0, none⟩ = some (.int .i64 a0_0) ∧ w'.cell? ⟨gb173, 1, none⟩ = some (.int .i64 a0_1) ∧ w'.cell? ⟨gb173, 2, none⟩ = some (.int .i64 a0_2) ∧ w'.cell? ⟨gb173, 3, none⟩ = some (.slice A0_3 l0_3.length c0_3) ∧ w'.cell? (ad178.add ((ji16)).toNat) = some (.int .i64 (rd t175 (ji16))) ∧ w'.cell? (ad178.add (x11_2).toNat) = some (.int .i64 (rd t175 x11_2))) (ds := []) #[false, false, false, false, false, false, false, false, false, false, false, false, false, false, false] (by kernel_rfl) rfl rfl ⟨(blk_cell BK173.out 0).trans rfl, (blk_cell BK173.out 1).trans rfl, (blk_cell BK173.out 2).trans rfl, (blk_cell BK173.out 3).trans rfl, hx178_0, hx179_0⟩ (fun hHeld => ?_); refine with_tabW impl_HasRoom.tab8 impl_HasRoom.bits8 (fun HT_ HW_ => ?_)
           generalize wr.drew = w23 at HO_10 BK173 BK174 HB hx178_0 hx179_0 hHeld ⊢
           refine pu_ 1 (some 29) #[false, true, false, false, false, false, false, false, false, false, false, false, false, false, false] rfl rfl ?_
           refine pu_ 2 (some 30) #[false, true, true, false, false, false, false, false, false, false, false, false, false, false, false] rfl rfl ?_
           refine pu_ 3 (some 31) #[false, true, true, true, false, false, false, false, false, false, false, false, false, false, false] rfl rfl ?_
           refine pu_ 4 (some 32) #[false, true, true, true, true, false, false, false, false, false, false, false, false, false, false] rfl rfl ?_
           refine pu_ 5 (some 33) #[false, true, true, true, true, true, false, false, false, false, false, false, false, false, false] rfl rfl ?_
           refine pu_ 6 (some 34) #[false, true, true, true, true, true, true, false, false, false, false, false, false, false, false] rfl rfl ?_
           refine pu_ 8 (some 36) #[false, true, true, true, true, true, true, false, true, false, false, false, false, false, false] rfl rfl ?_
           refine pu_ 9 (some 37) #[false, true, true, true, true, true, true, false, true, true, false, false, false, false, false] rfl rfl ?_
           refine pu_ 10 (some 38) #[false, true, true, true, true, true, true, false, true, true, true, false, false, false, false] rfl rfl ?_
           refine pu_ 13 (some 41) #[false, true, true, true, true, true, true, false, true, true, true, false, false, true, false] rfl rfl ?_
           refine tk6_ 0 (some 28) #[true, true, true, true, true, true, true, false, true, true, true, false, false, true, false] rfl rfl ?_
           refine tk6_ 7 (some 35) #[true, true, true, true, true, true, true, true, true, true, true, false, false, true, false] rfl rfl ?_
           refine tk6_ 11 (some 39) #[true, true, true, true, true, true, true, true, true, true, true, true, false, true, false] rfl rfl ?_
           refine one_ (i := 12) (N := some 40) #[true, true, true, true, true, true, true, true, true, true, true, true, true, true, false] rfl rfl (one_of HT_.out (by kernel_rfl)) (by decide) (fun K hK => ?_)
           refine goes_ Try.func48 (by kernel_rfl) rfl #[.agg #[.int .i64 a0_0, .int .i64 a0_1, .int .i64 a0_2, .slice A0_3 l0_3.length c0_3], .slice A1 l1.length c1, .int .i64 x15_1, .int .i64 (rd t175 (ji16)), .int .i64 (rd t175 x11_2)] (by rfl) rfl rfl (by (try simp only [List.map_toArray, List.map_cons, List.map_nil]); first | done | (simp only [hji16]; rfl) | rfl | (simp only [List.length_drop, List.length_take]; rfl)) ?_
           with_reducible refine (impl_ReservedOn.calls k2 a0_0 a0_1 a0_2 _ _ l0_3 _ _ l1 x15_1 (rd t175 (ji16)) (rd t175 x11_2) t180 _ ?side1 ?side2 ?side3 ?side4 A20.out).mono ?_
           (case side1 => repeat (first | exact (Kd.C_below HR0_3.out HB.out) | (with_reducible refine cA_ ?_ _) | (with_reducible refine cN_ ?_ _) | (with_reducible refine cD_ ?_)))
           (case side2 => exact HC0_3.out)
           (case side3 => repeat (first | exact (Kd.C_below HR1.out HB.out) | (with_reducible refine cA_ ?_ _) | (with_reducible refine cN_ ?_ _) | (with_reducible refine cD_ ?_)))
           (case side4 => exact HC1.out)
           rintro e w24 ⟨rfl, hb⟩
           have HS4_ := (hb.cell (World.block_lt_of_cell? _ _ (hHeld.2.2.2.2.1))).trans (hHeld.2.2.2.2.1); have HS5_ := (hb.cell (World.block_lt_of_cell? _ _ (hHeld.2.2.2.2.2))).trans (hHeld.2.2.2.2.2)
           refine ⟨_, rfl, ?_⟩
           have n0_ := aM_ (rB_ (rb_ HO_10.out) hb); have n1_ := aM_ (bB_ (g := gb173) (o := .cells #[.int .i64 a0_0, .int .i64 a0_1, .int .i64 a0_2, .slice A0_3 l0_3.length c0_3] 31 (0, 0)) (kb_ BK173.out) hb); have n2_ := aM_ (bB_ (g := gb174) (o := .cells #[.int .i64 a2_0, .int .i64 a2_1, .int .i64 a2_2, .int .i64 a2_3] 42 (0, 0)) (kb_ BK174.out) hb); have n3_ := aM_ (wS_ (bw_) hb); clear HO_10 BK173 BK174 HB; have HO_10 := n0_; have BK173 := n1_; have BK174 := n2_; have HB := n3_; clear n0_ n1_ n2_ n3_; (try clear hb); (try clear hb2); (try clear hk); (try clear hi)
           refine hK.out _ _ ⟨(blk_cell BK173.out 0).trans rfl, (blk_cell BK173.out 1).trans rfl, (blk_cell BK173.out 2).trans rfl, (blk_cell BK173.out 3).trans rfl, HS4_, HS5_⟩ (fun hHeld => ?_)
           clear hK K
           refine norm_ (a' := ?_) ?_ ?_
           rotate_left
           ·show Act.put _ (some 40) _ = _
            simp only [Act.put, List.setIfInBounds_toArray, List.set_cons_zero, List.set_cons_succ, i64_w, i32_w]
            rfl
           refine pu_ 14 (some 42) #[true, true, true, true, true, true, true, true, true, true, true, true, true, true, true] rfl rfl ?_
           refine done_ (done_of HT_.out (by kernel_rfl)) ?_
           try go_wp2
           go_ret
           exact ⟨by first | rfl | (simp [errW_none, errW_some] <;> rfl) | (simp only [← hji16]; first | rfl | (simp [errW_none, errW_some] <;> rfl)) | (simp [*, errW_none, errW_some] <;> rfl), bw_⟩
          ·rw [if_neg c21] at H
           have c21b0 : decide (a3 ≤ t180) = false := decide_eq_false c21
           clear c21
           have H' := aM_ H
           clear H
           obtain ⟨Ao25, co25, eo25⟩ := Kd.R_slice HO_10.out
           subst eo25
           try go_wp2
           have n0_ := aM_ (rD_ HO_10.out); have n1_ := aM_ (bD_ BK173.out); have n2_ := aM_ (bD_ BK174.out); have n3_ := aM_ (wD_ HB.out); clear HO_10 BK173 BK174 HB; have HO_10 := n0_; have BK173 := n1_; have BK174 := n2_; have HB := n3_; clear n0_ n1_ n2_ n3_
           have p178 : 0 ≤ ((ji16) : Int) := dT_
           have q178 : (ji16) < (t175.length : Int) := dT_
           obtain ⟨ad178, e178, hx178_0⟩ := Kd.at_int (Kd.R_reads' HO_10.out).2.2 (ji16) p178 q178
           cases e178
           replace p178 := eq_true p178; replace q178 := eq_true q178
           have p179 : 0 ≤ (x11_2 : Int) := dT_
           have q179 : x11_2 < (t175.length : Int) := dT_
           obtain ⟨ad179, e179, hx179_0⟩ := Kd.at_int (Kd.R_reads' HO_10.out).2.2 x11_2 p179 q179
           obtain rfl : ad178 = ad179 := (by injection e179)
           replace p179 := eq_true p179; replace q179 := eq_true q179
           refine start_ (n := 15) (S := fun w' => w'.cell? ⟨gb173, 0, none⟩ = some (.int .i64 a0_0) ∧ w'.cell? ⟨gb173, 1, none⟩ = some (.int .i64 a0_1) ∧ w'.cell? ⟨gb173, 2, none⟩ = some (.int .i64 a0_2) ∧ w'.cell? ⟨gb173, 3, none⟩ = some (.slice A0_3 l0_3.length c0_3) ∧ w'.cell? (ad178.add ((ji16)).toNat) = some (.int .i64 (rd t175 (ji16))) ∧ w'.cell? (ad178.add (x11_2).toNat) = some (.int .i64 (rd t175 x11_2))) (ds := []) #[false, false, false, false, false, false, false, false, false, false, false, false, false, false, false] (by kernel_rfl) rfl rfl ⟨(blk_cell BK173.out 0).trans rfl, (blk_cell BK173.out 1).trans rfl, (blk_cell BK173.out 2).trans rfl, (blk_cell BK173.out 3).trans rfl, hx178_0, hx179_0⟩ (fun hHeld => ?_); refine with_tabW impl_HasRoom.tab8 impl_HasRoom.bits8 (fun HT_ HW_ => ?_)
           generalize wr.drew = w26 at HO_10 BK173 BK174 HB hx178_0 hx179_0 hHeld ⊢
           refine pu_ 1 (some 29) #[false, true, false, false, false, false, false, false, false, false, false, false, false, false, false] rfl rfl ?_
           refine pu_ 2 (some 30) #[false, true, true, false, false, false, false, false, false, false, false, false, false, false, false] rfl rfl ?_
           refine pu_ 3 (some 31) #[false, true, true, true, false, false, false, false, false, false, false, false, false, false, false] rfl rfl ?_
           refine pu_ 4 (some 32) #[false, true, true, true, true, false, false, false, false, false, false, false, false, false, false] rfl rfl ?_
           refine pu_ 5 (some 33) #[false, true, true, true, true, true, false, false, false, false, false, false, false, false, false] rfl rfl ?_
           refine pu_ 6 (some 34) #[false, true, true, true, true, true, true, false, false, false, false, false, false, false, false] rfl rfl ?_
           refine pu_ 8 (some 36) #[false, true, true, true, true, true, true, false, true, false, false, false, false, false, false] rfl rfl ?_
           refine pu_ 9 (some 37) #[false, true, true, true, true, true, true, false, true, true, false, false, false, false, false] rfl rfl ?_
           refine pu_ 10 (some 38) #[false, true, true, true, true, true, true, false, true, true, true, false, false, false, false] rfl rfl ?_
           refine pu_ 13 (some 41) #[false, true, true, true, true, true, true, false, true, true, true, false, false, true, false] rfl rfl ?_
           refine tk6_ 0 (some 28) #[true, true, true, true, true, true, true, false, true, true, true, false, false, true, false] rfl rfl ?_
           refine tk6_ 7 (some 35) #[true, true, true, true, true, true, true, true, true, true, true, false, false, true, false] rfl rfl ?_
           refine tk6_ 11 (some 39) #[true, true, true, true, true, true, true, true, true, true, true, true, false, true, false] rfl rfl ?_
           refine one_ (i := 12) (N := some 40) #[true, true, true, true, true, true, true, true, true, true, true, true, true, true, false] rfl rfl (one_of HT_.out (by kernel_rfl)) (by decide) (fun K hK => ?_)
           refine goes_ Try.func48 (by kernel_rfl) rfl #[.agg #[.int .i64 a0_0, .int .i64 a0_1, .int .i64 a0_2, .slice A0_3 l0_3.length c0_3], .slice A1 l1.length c1, .int .i64 x15_1, .int .i64 (rd t175 (ji16)), .int .i64 (rd t175 x11_2)] (by rfl) rfl rfl (by (try simp only [List.map_toArray, List.map_cons, List.map_nil]); first | done | (simp only [hji16]; rfl) | rfl | (simp only [List.length_drop, List.length_take]; rfl)) ?_
           with_reducible refine (impl_ReservedOn.calls k2 a0_0 a0_1 a0_2 _ _ l0_3 _ _ l1 x15_1 (rd t175 (ji16)) (rd t175 x11_2) t180 _ ?side1 ?side2 ?side3 ?side4 A20.out).mono ?_
           (case side1 => repeat (first | exact (Kd.C_below HR0_3.out HB.out) | (with_reducible refine cA_ ?_ _) | (with_reducible refine cN_ ?_ _) | (with_reducible refine cD_ ?_)))
           (case side2 => exact HC0_3.out)
           (case side3 => repeat (first | exact (Kd.C_below HR1.out HB.out) | (with_reducible refine cA_ ?_ _) | (with_reducible refine cN_ ?_ _) | (with_reducible refine cD_ ?_)))
           (case side4 => exact HC1.out)
           rintro e w27 ⟨rfl, hb⟩
           have HS4_ := (hb.cell (World.block_lt_of_cell? _ _ (hHeld.2.2.2.2.1))).trans (hHeld.2.2.2.2.1); have HS5_ := (hb.cell (World.block_lt_of_cell? _ _ (hHeld.2.2.2.2.2))).trans (hHeld.2.2.2.2.2)
           refine ⟨_, rfl, ?_⟩
           have n0_ := aM_ (rB_ (rb_ HO_10.out) hb); have n1_ := aM_ (bB_ (g := gb173) (o := .cells #[.int .i64 a0_0, .int .i64 a0_1, .int .i64 a0_2, .slice A0_3 l0_3.length c0_3] 31 (0, 0)) (kb_ BK173.out) hb); have n2_ := aM_ (bB_ (g := gb174) (o := .cells #[.int .i64 a2_0, .int .i64 a2_1, .int .i64 a2_2, .int .i64 a2_3] 42 (0, 0)) (kb_ BK174.out) hb); have n3_ := aM_ (wS_ (bw_) hb); clear HO_10 BK173 BK174 HB; have HO_10 := n0_; have BK173 := n1_; have BK174 := n2_; have HB := n3_; clear n0_ n1_ n2_ n3_; (try clear hb); (try clear hb2); (try clear hk); (try clear hi)
           refine hK.out _ _ ⟨(blk_cell BK173.out 0).trans rfl, (blk_cell BK173.out 1).trans rfl, (blk_cell BK173.out 2).trans rfl, (blk_cell BK173.out 3).trans rfl, HS4_, HS5_⟩ (fun hHeld => ?_)
           clear hK K
           refine norm_ (a' := ?_) ?_ ?_
           rotate_left
           ·show Act.put _ (some 40) _ = _
            simp only [Act.put, List.setIfInBounds_toArray, List.set_cons_zero, List.set_cons_succ, i64_w, i32_w]
            rfl
           refine pu_ 14 (some 42) #[true, true, true, true, true, true, true, true, true, true, true, true, true, true, true] rfl rfl ?_
           refine done_ (done_of HT_.out (by kernel_rfl)) ?_
           try go_wp2
           go_roundg k2
           case measure => have := HK1.out; have := HK2.out; omega
           case rel => exact ⟨(wrap64 (x11_2 + 1)), (by first | rfl | (simp; done) | (simp [*]; done)), H', ⟨by have := HK1.out; have := HK2.out; omega⟩, ⟨by (with_reducible repeat (first | apply rA_ | apply rN_ | apply rD_)); exact HO_10.out⟩, ⟨by (with_reducible repeat (first | refine bN_ ?_ _ | refine bD_ ?_ | refine bA_ ?_ _)); exact BK173.out⟩, ⟨by (with_reducible repeat (first | refine bN_ ?_ _ | refine bD_ ?_ | refine bA_ ?_ _)); exact BK174.out⟩, ⟨bw_⟩⟩
         ·rw [if_neg c19] at H
          exact absurd H (by simp)
        ·rw [if_neg c18] at H
         exact absurd H (by simp)
       ·rw [if_neg c17] at H
        exact absurd H (by simp)
      ·rw [if_neg c15] at H
       have c15b0 : decide (x11_2 < (t175.length : Int)) = false := decide_eq_false c15
       clear c15
       have H' := aM_ H
       clear H
       obtain ⟨Ao28, co28, eo28⟩ := Kd.R_slice HO_10.out
       subst eo28
       go_wp2
       go_roundg k2
       case measure => have := HK1.out; have := HK2.out; omega
       case rel => exact ⟨(wrap64 (x15_1 + 1)), (by first | rfl | (simp; done) | (simp [*]; done)), H', ⟨by have := HK1.out; have := HK2.out; omega⟩, ⟨by (with_reducible repeat (first | refine bN_ ?_ _ | refine bD_ ?_ | refine bA_ ?_ _)); exact BK173.out⟩, ⟨by (with_reducible repeat (first | refine bN_ ?_ _ | refine bD_ ?_ | refine bA_ ?_ _)); exact BK174.out⟩, ⟨bw_⟩⟩
   ·rw [if_neg c9] at H
    have c9b0 : decide (x15_1 < (l0_3.length : Int)) = false := decide_eq_false c9
    clear c9
    obtain rfl := Option.some.inj H
    go_wp2
    go_ret
    exact ⟨by first | rfl | (simp [errW_none, errW_some] <;> rfl) | (simp [*, errW_none, errW_some] <;> rfl), bw_⟩

end Go.Proofs.Ytdodogkgmpaioaa.PFnReserved
