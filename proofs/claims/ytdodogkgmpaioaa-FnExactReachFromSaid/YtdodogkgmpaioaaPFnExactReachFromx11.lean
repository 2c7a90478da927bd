/- The functions that the law reaches, as plain Lean functions, each with the proof that the Go code comes to its answers; conditions: those that each theorem names. (printed by a program of this session) -/
import Derived.Test.YtdodogkgmpaioaaPFnExactReachFromx0
import Derived.Test.YtdodogkgmpaioaaPFnExactReachFromx2
import Derived.Test.YtdodogkgmpaioaaPFnExactReachFromx3
import Derived.Test.YtdodogkgmpaioaaPFnExactReachFromx4
import Derived.Test.YtdodogkgmpaioaaPFnExactReachFromx5
import Derived.Test.YtdodogkgmpaioaaPFnExactReachFromx6
import Derived.Test.YtdodogkgmpaioaaPFnExactReachFromx8
import Derived.Test.YtdodogkgmpaioaaPFnExactReachFromx10
namespace Go.Proofs.Ytdodogkgmpaioaa.PFnExactReachFrom
open Go.RowKit Go.Proofs.YtdodogkgmpaioaaW.PrintWords Go.Proofs.YtdodogkgmpaioaaW.PrintLast Go.Proofs.YtdodogkgmpaioaaW.PrintMore
attribute [local go_sem] max2_int min2_int max_two min_two max_three min_three max_four min_four   -- for this text's walks alone
set_option linter.unusedVariables false
set_option linter.unusedSimpArgs false

/-! ### laws_heldIntS: function 37 -/
def laws_heldIntS.l0 : Nat → List Int → Int → Int → Option (Int)
  | 0, _, _, _ => none
  | k + 1, x0, x1, x5 => if x5 < (x0.length : Int) then (if 0 ≤ x5 then (if (rd x0 x5) = x1 then (laws_heldIntS.l0 k x0 (wrap64 (x1 + 1)) (wrap64 (x5 + 1))) else (some (-1))) else (none)) else (some x1)
def laws_heldIntS.f (k : Nat) (l0 : List Int) (a1 : Int) : Option (Int) := laws_heldIntS.l0 k l0 a1 0
theorem laws_heldIntS.mono_l : ∀ k, (∀ y0 y1 y2, LeO (laws_heldIntS.l0 k y0 y1 y2) (laws_heldIntS.l0 (k + 1) y0 y1 y2))
  | 0 => fun _ _ _ r h => by simp [laws_heldIntS.l0] at h
  | k + 1 => by
    have ih0 := laws_heldIntS.mono_l k
    · intro y0 y1 y2
      unfold laws_heldIntS.l0
      repeat' first
      | (with_reducible exact ih0 _ _ _)
      | (with_reducible exact LeO.refl _)
      | (with_reducible exact LeO.none _)
      | (with_reducible refine LeO.ite ?_ ?_)
      | (with_reducible refine LeO.bind ?_ (fun _ => ?_))
      | exact ih0 _ _ _
      | exact LeO.none _
      | refine LeO.ite ?_ ?_
      | refine LeO.bind ?_ (fun _ => ?_)
theorem laws_heldIntS.mono : ∀ a0 a1 k, LeO (laws_heldIntS.f k a0 a1) (laws_heldIntS.f (k + 1) a0 a1) := by
  intro a0 a1 k
  have ih0 := laws_heldIntS.mono_l k
  unfold laws_heldIntS.f
  repeat' first
      | (with_reducible exact ih0 _ _ _)
      | (with_reducible exact LeO.refl _)
      | (with_reducible exact LeO.none _)
      | (with_reducible refine LeO.ite ?_ ?_)
      | (with_reducible refine LeO.bind ?_ (fun _ => ?_))
      | exact ih0 _ _ _
      | exact LeO.none _
      | refine LeO.ite ?_ ?_
      | refine LeO.bind ?_ (fun _ => ?_)
set_option maxHeartbeats 8000000 in
set_option maxRecDepth 100000 in
theorem laws_heldIntS.calls (k : Nat) (A0 : Option Addr) (c0 : Nat) (l0 : List Int) (a1 : Int) (r : Int) (w : World) (hr0 : Kd.C (Kd.int .i64) w A0 l0.length l0) (hc0 : l0.length ≤ c0) (h : laws_heldIntS.f k l0 a1 = some r) :
    Calls Try.prog 37 #[.slice A0 l0.length c0, .int .i64 a1] w fun e w' => e = .returned (.int .i64 r) ∧ Drawn0 w w' := by
  have HR0 := aM_ hr0
  have HC0 := aM_ hc0
  clear hr0 hc0
  have H : (laws_heldIntS.l0 k l0 a1 0) = some r := h
  clear h
  have H' := aM_ H
  clear H
  go_enter Try.func37, Try.ntmps37
  go_wp2
  go_loopg [1, 5] k (fun kq v1 v5 w' => ∃ (x1_1 : Int) (x5_1 : Int), v1 = .int .i64 x1_1 ∧ v5 = .int .i64 x5_1 ∧ Aside0 (laws_heldIntS.l0 kq l0 x1_1 x5_1 = some r) ∧ Aside0 (kq ≤ k) ∧ Drawn0 w w')
  case atStart => exact ⟨(a1), (0), (by first | rfl | (simp; done) | (simp [*]; done)), (by first | rfl | (simp; done) | (simp [*]; done)), H', ⟨Nat.le_refl _⟩, by repeat (first | exact Drawn0.refl _ | apply Drawn0.step)⟩
  case round =>
    clear H'
    try clear p2
    obtain ⟨x1_1, x5_1, rfl, rfl, HA, HK1, ⟨m1, rfl⟩⟩ := hrel
    cases gk with
    | zero => exact absurd HA.out (by simp [laws_heldIntS.l0])
    | succ k1 =>
      have H := HA.out
      clear HA
      simp only [laws_heldIntS.l0] at H
      by_cases c3 : x5_1 < (l0.length : Int)
      · rw [if_pos c3] at H
        have c3b0 : decide (x5_1 < (l0.length : Int)) = true := decide_eq_true c3
        clear c3
        by_cases c4 : 0 ≤ x5_1
        · rw [if_pos c4] at H
          have c4b0 : decide (0 ≤ x5_1) = true := decide_eq_true c4
          clear c4
          by_cases c5 : (rd l0 x5_1) = x1_1
          · rw [if_pos c5] at H
            have c5b0 : ((rd l0 x5_1) == x1_1) = true := beq_iff_eq.mpr c5
            have c5b1 : ((rd l0 x5_1) != x1_1) = false := bne_eq_false_iff_eq.mpr c5
            clear c5
            have H' := aM_ H
            clear H
            have p266 : 0 ≤ (x5_1 : Int) := of_decide_eq_true (by first | (with_reducible assumption) | assumption)
            have q266 : x5_1 < (l0.length : Int) := of_decide_eq_true (by first | (with_reducible assumption) | assumption)
            obtain ⟨ad266, e266, hx266_0⟩ := Kd.at_int HR0.out x5_1 p266 q266
            cases e266
            replace p266 := eq_true p266
            replace q266 := eq_true q266
            go_wp2
            go_roundg k1
            case measure => have := HK1.out; omega
            case rel => exact ⟨(wrap64 (x1_1 + 1)), (wrap64 (x5_1 + 1)), (by first | rfl | (simp; done) | (simp [*]; done)), (by first | rfl | (simp; done) | (simp [*]; done)), H', ⟨by have := HK1.out; omega⟩, by repeat (first | exact Drawn0.refl _ | apply Drawn0.step)⟩
          · rw [if_neg c5] at H
            have c5b0 : ((rd l0 x5_1) == x1_1) = false := beq_eq_false_iff_ne.mpr c5
            have c5b1 : ((rd l0 x5_1) != x1_1) = true := bne_iff_ne.mpr c5
            obtain rfl := Option.some.inj H
            have p266 : 0 ≤ (x5_1 : Int) := of_decide_eq_true (by first | (with_reducible assumption) | assumption)
            have q266 : x5_1 < (l0.length : Int) := of_decide_eq_true (by first | (with_reducible assumption) | assumption)
            obtain ⟨ad266, e266, hx266_0⟩ := Kd.at_int HR0.out x5_1 p266 q266
            cases e266
            replace p266 := eq_true p266
            replace q266 := eq_true q266
            go_wp2
            go_ret
            exact ⟨by first | rfl | (simp; done) | (simp [*]; done), by repeat (first | exact Drawn0.refl _ | apply Drawn0.step)⟩
        · rw [if_neg c4] at H
          exact absurd H (by simp)
      · rw [if_neg c3] at H
        have c3b0 : decide (x5_1 < (l0.length : Int)) = false := decide_eq_false c3
        clear c3
        obtain rfl := Option.some.inj H
        go_wp2
        go_ret
        exact ⟨by first | rfl | (simp; done) | (simp [*]; done), by repeat (first | exact Drawn0.refl _ | apply Drawn0.step)⟩

/-! ### laws_FnExactReachFrom: function 8 -/
def laws_FnExactReachFrom.j0 : Nat → Int → Int → Int → List Int → List Int → Bool → Int → Int → Int → List (S98) → Option (Bool)
  | 0, _, _, _, _, _, _, _, _, _, _ => none
  | k + 1, x1, x2, x3, x10, x12, x54, x268000, x268001, x268002, x268003 => if x54 = true then (some false) else ((laws_markIntS.f k x12 1).bind fun bt298 => ((laws_heldIntS.f k bt298.2 1).bind fun t300 => (if t300 < 0 then (some false) else (if t300 = bt298.1 then ((laws_toProgram.f k x268000 x268001 x268002 x268003).bind fun bt301 => ((impl_ReachFrom.f k bt301.1 bt301.2.1 bt301.2.2.1 bt301.2.2.2 x1 x2 x3).bind fun t307 => ((laws_eqIntS.f k t307 x10).bind fun t310 => (if t310 = true then ((laws_heldIntS.f k bt298.2 1).bind fun t311 => (if t311 < 0 then (some false) else (if t311 = bt298.1 then (some true) else (some false)))) else (some false))))) else (some false)))))
def laws_FnExactReachFrom.f (k : Nat) (a0_0 : Int) (a0_1 : Int) (a0_2 : Int) (l0_3 : List (S98)) (a1 : Int) (a2 : Int) (a3 : Int) : Option (Bool) := (laws_szProgram.f k a0_0 a0_1 a0_2 l0_3 1048576).bind fun t268 => (if t268 < 0 then (some true) else ((laws_toProgram.f k a0_0 a0_1 a0_2 l0_3).bind fun bt269 => ((spec_ReachFrom.f k bt269.1 bt269.2.1 bt269.2.2.1 bt269.2.2.2 a1 a2 a3).bind fun t275 => ((laws_toProgram.f k a0_0 a0_1 a0_2 l0_3).bind fun bt278 => ((impl_ReachFrom.f k bt278.1 bt278.2.1 bt278.2.2.1 bt278.2.2.2 a1 a2 a3).bind fun t285 => ((laws_eqIntS.f k t285 t275).bind fun t288 => (if t288 = true then ((laws_toProgram.f k a0_0 a0_1 a0_2 l0_3).bind fun bt289 => ((laws_eqProgram.f k bt278.1 bt278.2.1 bt278.2.2.1 bt278.2.2.2 bt289.1 bt289.2.1 bt289.2.2.1 bt289.2.2.2).bind fun t295 => (if t295 = true then ((laws_markProgram.f bt278.1 bt278.2.1 bt278.2.2.1 bt278.2.2.2 1).bind fun t296 => (if t296 < 0 then (laws_FnExactReachFrom.j0 k a1 a2 a3 t275 t285 true a0_0 a0_1 a0_2 l0_3) else ((laws_eqIntS.f k t285 t275).bind fun t297 => (laws_FnExactReachFrom.j0 k a1 a2 a3 t275 t285 (!t297) a0_0 a0_1 a0_2 l0_3)))) else (some false)))) else (some false))))))))
theorem laws_FnExactReachFrom.mono_l : ∀ k, (∀ y0 y1 y2 y3 y4 y5 y6 y7 y8 y9, LeO (laws_FnExactReachFrom.j0 k y0 y1 y2 y3 y4 y5 y6 y7 y8 y9) (laws_FnExactReachFrom.j0 (k + 1) y0 y1 y2 y3 y4 y5 y6 y7 y8 y9))
  | 0 => fun _ _ _ _ _ _ _ _ _ _ r h => by simp [laws_FnExactReachFrom.j0] at h
  | k + 1 => by
    have ih0 := laws_FnExactReachFrom.mono_l k
    · intro y0 y1 y2 y3 y4 y5 y6 y7 y8 y9
      unfold laws_FnExactReachFrom.j0
      repeat' first
      | (with_reducible exact ih0 _ _ _ _ _ _ _ _ _ _)
      | (with_reducible exact impl_ReachFrom.mono _ _ _ _ _ _ _ _)
      | (with_reducible exact laws_eqIntS.mono _ _ _)
      | (with_reducible exact laws_eqProgram.mono _ _ _ _ _ _ _ _ _)
      | (with_reducible exact laws_heldIntS.mono _ _ _)
      | (with_reducible exact laws_markIntS.mono _ _ _)
      | (with_reducible exact laws_szProgram.mono _ _ _ _ _ _)
      | (with_reducible exact laws_toProgram.mono _ _ _ _ _)
      | (with_reducible exact spec_ReachFrom.mono _ _ _ _ _ _ _ _)
      | (with_reducible exact LeO.refl _)
      | (with_reducible exact LeO.none _)
      | (with_reducible refine LeO.ite ?_ ?_)
      | (with_reducible refine LeO.bind ?_ (fun _ => ?_))
      | exact ih0 _ _ _ _ _ _ _ _ _ _
      | exact impl_ReachFrom.mono _ _ _ _ _ _ _ _
      | exact laws_eqIntS.mono _ _ _
      | exact laws_eqProgram.mono _ _ _ _ _ _ _ _ _
      | exact laws_heldIntS.mono _ _ _
      | exact laws_markIntS.mono _ _ _
      | exact laws_szProgram.mono _ _ _ _ _ _
      | exact laws_toProgram.mono _ _ _ _ _
      | exact spec_ReachFrom.mono _ _ _ _ _ _ _ _
      | exact LeO.none _
      | refine LeO.ite ?_ ?_
      | refine LeO.bind ?_ (fun _ => ?_)
theorem laws_FnExactReachFrom.mono : ∀ a0 a1 a2 a3 a4 a5 a6 k, LeO (laws_FnExactReachFrom.f k a0 a1 a2 a3 a4 a5 a6) (laws_FnExactReachFrom.f (k + 1) a0 a1 a2 a3 a4 a5 a6) := by
  intro a0 a1 a2 a3 a4 a5 a6 k
  have ih0 := laws_FnExactReachFrom.mono_l k
  unfold laws_FnExactReachFrom.f
  repeat' first
      | (with_reducible exact ih0 _ _ _ _ _ _ _ _ _ _)
      | (with_reducible exact impl_ReachFrom.mono _ _ _ _ _ _ _ _)
      | (with_reducible exact laws_eqIntS.mono _ _ _)
      | (with_reducible exact laws_eqProgram.mono _ _ _ _ _ _ _ _ _)
      | (with_reducible exact laws_heldIntS.mono _ _ _)
      | (with_reducible exact laws_markIntS.mono _ _ _)
      | (with_reducible exact laws_szProgram.mono _ _ _ _ _ _)
      | (with_reducible exact laws_toProgram.mono _ _ _ _ _)
      | (with_reducible exact spec_ReachFrom.mono _ _ _ _ _ _ _ _)
      | (with_reducible exact LeO.refl _)
      | (with_reducible exact LeO.none _)
      | (with_reducible refine LeO.ite ?_ ?_)
      | (with_reducible refine LeO.bind ?_ (fun _ => ?_))
      | exact ih0 _ _ _ _ _ _ _ _ _ _
      | exact impl_ReachFrom.mono _ _ _ _ _ _ _ _
      | exact laws_eqIntS.mono _ _ _
      | exact laws_eqProgram.mono _ _ _ _ _ _ _ _ _
      | exact laws_heldIntS.mono _ _ _
      | exact laws_markIntS.mono _ _ _
      | exact laws_szProgram.mono _ _ _ _ _ _
      | exact laws_toProgram.mono _ _ _ _ _
      | exact spec_ReachFrom.mono _ _ _ _ _ _ _ _
      | exact LeO.none _
      | refine LeO.ite ?_ ?_
      | refine LeO.bind ?_ (fun _ => ?_)
set_option maxHeartbeats 8000000 in
set_option maxRecDepth 100000 in
theorem laws_FnExactReachFrom.calls (k : Nat) (a0_0 : Int) (a0_1 : Int) (a0_2 : Int) (A0_3 : Option Addr) (c0_3 : Nat) (l0_3 : List (S98)) (a1 : Int) (a2 : Int) (a3 : Int) (r : Bool) (w : World) (hr0_3 : Kd.C k98 w A0_3 l0_3.length l0_3) (hc0_3 : l0_3.length ≤ c0_3) (hr_ : r = true) (h : laws_FnExactReachFrom.f k a0_0 a0_1 a0_2 l0_3 a1 a2 a3 = some r) :
  Calls Try.prog 8 #[.agg #[.int .i64 a0_0, .int .i64 a0_1, .int .i64 a0_2, .slice A0_3 l0_3.length c0_3], .int .i64 a1, .int .i64 a2, .int .i64 a3] w fun e w' => e = .returned (.bool r) ∧ Below w.heap.size w w' := by
 have hu24 := Try.underlying24; have hu31 := Try.underlying31; have HR0_3 := aM_ hr0_3; have HC0_3 := aM_ hc0_3; clear hr0_3 hc0_3; have HB := aM_ (Below.refl w.heap.size w)
 have H : ((laws_szProgram.f k a0_0 a0_1 a0_2 l0_3 1048576).bind fun t268 => (if t268 < 0 then (some true) else ((laws_toProgram.f k a0_0 a0_1 a0_2 l0_3).bind fun bt269 => ((spec_ReachFrom.f k bt269.1 bt269.2.1 bt269.2.2.1 bt269.2.2.2 a1 a2 a3).bind fun t275 => ((laws_toProgram.f k a0_0 a0_1 a0_2 l0_3).bind fun bt278 => ((impl_ReachFrom.f k bt278.1 bt278.2.1 bt278.2.2.1 bt278.2.2.2 a1 a2 a3).bind fun t285 => ((laws_eqIntS.f k t285 t275).bind fun t288 => (if t288 = true then ((laws_toProgram.f k a0_0 a0_1 a0_2 l0_3).bind fun bt289 => ((laws_eqProgram.f k bt278.1 bt278.2.1 bt278.2.2.1 bt278.2.2.2 bt289.1 bt289.2.1 bt289.2.2.1 bt289.2.2.2).bind fun t295 => (if t295 = true then ((laws_markProgram.f bt278.1 bt278.2.1 bt278.2.2.1 bt278.2.2.2 1).bind fun t296 => (if t296 < 0 then (laws_FnExactReachFrom.j0 k a1 a2 a3 t275 t285 true a0_0 a0_1 a0_2 l0_3) else ((laws_eqIntS.f k t285 t275).bind fun t297 => (laws_FnExactReachFrom.j0 k a1 a2 a3 t275 t285 (!t297) a0_0 a0_1 a0_2 l0_3)))) else (some false)))) else (some false))))))))) = some r := h
 clear h; have HTRUE := aM_ hr_; clear hr_
 replace H := Option.bind_eq_some_iff.mp H
 obtain ⟨t268, A50, H⟩ := H
 (try dsimp only at H)
 have A5 := aM_ A50; clear A50
 by_cases c6 : t268 < 0
 ·rw [if_pos c6] at H
  have c6b0 : decide (t268 < 0) = true := decide_eq_true c6
  clear c6
  obtain rfl := Option.some.inj H
  go_enter Try.func8, Try.ntmps8
  go_wp2_with (first | ((with_reducible refine gate_dst (N := 4) rfl ?_); refine box_event ?hg (N := 4) ?hd (cs := #[.int .i64 a0_0, .int .i64 a0_1, .int .i64 a0_2, .slice A0_3 l0_3.length c0_3]) (t := 24) ?hr ?_; (case hd => rfl); (case hg => rfl); (case hr => first | (go_simp; done) | (go_simp; rfl)); intro gb267 hg w7 hbox hb; have n0_ := aM_ (wS_ (by repeat (first | (with_reducible first | exact HB.out | apply wA_ | apply wN_ | apply wD_) | exact HB.out)) hb); have n1_ := aM_ (hbox); have n2_ := aM_ ((by rw [hg]; exact (sZ_ (by repeat (first | (with_reducible first | exact HB.out | apply wA_ | apply wN_ | apply wD_) | exact HB.out))) : w.heap.size ≤ gb267)); have n3_ := aM_ ((by rw [hg]; exact (sZ_ (by repeat (first | (with_reducible first | exact HB.out | apply wA_ | apply wN_ | apply wD_) | exact HB.out))) : w.heap.size ≤ gb267)); clear HB; have HB := n0_; have BK267 := n1_; have GW267 := n2_; have GE267 := n3_; clear n0_ n1_ n2_ n3_; clear hb hbox hg; have hcz8_0 : w7.cell? ⟨gb267, 0, none⟩ = some (.int .i64 a0_0) := (blk_cell BK267.out 0).trans rfl; have hcz8_1 : w7.cell? ⟨gb267, 1, none⟩ = some (.int .i64 a0_1) := (blk_cell BK267.out 1).trans rfl; have hcz8_2 : w7.cell? ⟨gb267, 2, none⟩ = some (.int .i64 a0_2) := (blk_cell BK267.out 2).trans rfl; have hcz8_3 : w7.cell? ⟨gb267, 3, none⟩ = some (.slice A0_3 l0_3.length c0_3) := (blk_cell BK267.out 3).trans rfl; have hfz8_0 := blk_frozen BK267.out 0; have hfz8_1 := blk_frozen BK267.out 1; have hfz8_2 := blk_frozen BK267.out 2; have hfz8_3 := blk_frozen BK267.out 3) | ((with_reducible refine gate_callee (f := 11) rfl ?_); refine goesL_ (some 19) rfl rfl Try.func11 (by kernel_rfl) rfl #[.agg #[.int .i64 a0_0, .int .i64 a0_1, .int .i64 a0_2, .slice A0_3 l0_3.length c0_3], .int .i64 1048576] rfl (by (try simp only [List.map_toArray, List.map_cons, List.map_nil]); first | done | rfl | (simp only [List.length_drop, List.length_take]; rfl)) ?_; (with_reducible refine (laws_szProgram.calls k a0_0 a0_1 a0_2 _ _ l0_3 1048576 t268 _ ?side1 ?side2 A5.out).mono ?_); (case side1 => repeat (first | exact (Kd.C_below HR0_3.out HB.out) | (with_reducible refine cA_ ?_ _) | (with_reducible refine cN_ ?_ _) | (with_reducible refine cD_ ?_))); (case side2 => exact HC0_3.out); rintro e w9 ⟨rfl, hb⟩; refine ⟨_, rfl, ?_⟩; have n0_ := aM_ (bB_ (g := gb267) (by (with_reducible repeat (first | refine bN_ ?_ _ | refine bD_ ?_ | refine bA_ ?_ _)); exact BK267.out) hb); have n1_ := aM_ (wS_ (by repeat (first | (with_reducible first | exact HB.out | apply wA_ | apply wN_ | apply wD_ | refine wE_ ?_ GE267.out) | exact HB.out)) hb); clear BK267; clear HB; have BK267 := n0_; have HB := n1_; clear n0_ n1_; (try clear hb); (try clear hb2); (try clear hk); (try clear hi)))
  go_ret
  exact ⟨by first | rfl | (simp [errW_none, errW_some] <;> rfl) | (simp [*, errW_none, errW_some] <;> rfl), by repeat (first | (with_reducible first | exact HB.out | apply wA_ | apply wN_ | apply wD_ | refine wE_ ?_ GE267.out) | exact HB.out)⟩
 ·rw [if_neg c6] at H
  have c6b0 : decide (t268 < 0) = false := decide_eq_false c6
  clear c6
  replace H := Option.bind_eq_some_iff.mp H
  obtain ⟨⟨t269, t270, t271, t272⟩, A100, H⟩ := H
  (try dsimp only at H)
  have A10 := aM_ A100; clear A100
  replace H := Option.bind_eq_some_iff.mp H
  obtain ⟨t275, A110, H⟩ := H
  (try dsimp only at H)
  have A11 := aM_ A110; clear A110
  replace H := Option.bind_eq_some_iff.mp H
  obtain ⟨⟨t278, t279, t280, t281⟩, A120, H⟩ := H
  (try dsimp only at H)
  have A12 := aM_ A120; clear A120
  replace H := Option.bind_eq_some_iff.mp H
  obtain ⟨t285, A130, H⟩ := H
  (try dsimp only at H)
  have A13 := aM_ A130; clear A130
  replace H := Option.bind_eq_some_iff.mp H
  obtain ⟨t288, A140, H⟩ := H
  (try dsimp only at H)
  have A14 := aM_ A140; clear A140
  by_cases c15 : t288 = true
  ·subst c15
   have H1 : ((laws_toProgram.f k a0_0 a0_1 a0_2 l0_3).bind fun bt289 => ((laws_eqProgram.f k t278 t279 t280 t281 bt289.1 bt289.2.1 bt289.2.2.1 bt289.2.2.2).bind fun t295 => (if t295 = true then ((laws_markProgram.f t278 t279 t280 t281 1).bind fun t296 => (if t296 < 0 then (laws_FnExactReachFrom.j0 k a1 a2 a3 t275 t285 true a0_0 a0_1 a0_2 l0_3) else ((laws_eqIntS.f k t285 t275).bind fun t297 => (laws_FnExactReachFrom.j0 k a1 a2 a3 t275 t285 (!t297) a0_0 a0_1 a0_2 l0_3)))) else (some false)))) = some r := by rw [if_pos rfl] at H; exact H
   clear H; have H := H1; clear H1
   replace H := Option.bind_eq_some_iff.mp H
   obtain ⟨⟨t289, t290, t291, t292⟩, A160, H⟩ := H
   (try dsimp only at H)
   have A16 := aM_ A160; clear A160
   replace H := Option.bind_eq_some_iff.mp H
   obtain ⟨t295, A170, H⟩ := H
   (try dsimp only at H)
   have A17 := aM_ A170; clear A170
   by_cases c18 : t295 = true
   ·subst c18
    have H1 : ((laws_markProgram.f t278 t279 t280 t281 1).bind fun t296 => (if t296 < 0 then (laws_FnExactReachFrom.j0 k a1 a2 a3 t275 t285 true a0_0 a0_1 a0_2 l0_3) else ((laws_eqIntS.f k t285 t275).bind fun t297 => (laws_FnExactReachFrom.j0 k a1 a2 a3 t275 t285 (!t297) a0_0 a0_1 a0_2 l0_3)))) = some r := by rw [if_pos rfl] at H; exact H
    clear H; have H := H1; clear H1
    replace H := Option.bind_eq_some_iff.mp H
    obtain ⟨t296, A190, H⟩ := H
    (try dsimp only at H)
    have A19 := aM_ A190; clear A190; have HC20 := aM_ H; clear H
    go_enter Try.func8, Try.ntmps8
    try go_wp2_with (first | ((with_reducible refine gate_dst (N := 4) rfl ?_); refine box_event ?hg (N := 4) ?hd (cs := #[.int .i64 a0_0, .int .i64 a0_1, .int .i64 a0_2, .slice A0_3 l0_3.length c0_3]) (t := 24) ?hr ?_; (case hd => rfl); (case hg => rfl); (case hr => first | (go_simp; done) | (go_simp; rfl)); intro gb267 hg w21 hbox hb; have n0_ := aM_ (wS_ (by repeat (first | (with_reducible first | exact HB.out | apply wA_ | apply wN_ | apply wD_) | exact HB.out)) hb); have n1_ := aM_ (hbox); have n2_ := aM_ ((by rw [hg]; exact (sZ_ (by repeat (first | (with_reducible first | exact HB.out | apply wA_ | apply wN_ | apply wD_) | exact HB.out))) : w.heap.size ≤ gb267)); have n3_ := aM_ ((by rw [hg]; exact (sZ_ (by repeat (first | (with_reducible first | exact HB.out | apply wA_ | apply wN_ | apply wD_) | exact HB.out))) : w.heap.size ≤ gb267)); clear HB; have HB := n0_; have BK267 := n1_; have GW267 := n2_; have GE267 := n3_; clear n0_ n1_ n2_ n3_; clear hb hbox hg; have hcz22_0 : w21.cell? ⟨gb267, 0, none⟩ = some (.int .i64 a0_0) := (blk_cell BK267.out 0).trans rfl; have hcz22_1 : w21.cell? ⟨gb267, 1, none⟩ = some (.int .i64 a0_1) := (blk_cell BK267.out 1).trans rfl; have hcz22_2 : w21.cell? ⟨gb267, 2, none⟩ = some (.int .i64 a0_2) := (blk_cell BK267.out 2).trans rfl; have hcz22_3 : w21.cell? ⟨gb267, 3, none⟩ = some (.slice A0_3 l0_3.length c0_3) := (blk_cell BK267.out 3).trans rfl; have hfz22_0 := blk_frozen BK267.out 0; have hfz22_1 := blk_frozen BK267.out 1; have hfz22_2 := blk_frozen BK267.out 2; have hfz22_3 := blk_frozen BK267.out 3) | ((with_reducible refine gate_callee (f := 11) rfl ?_); refine goesL_ (some 19) rfl rfl Try.func11 (by kernel_rfl) rfl #[.agg #[.int .i64 a0_0, .int .i64 a0_1, .int .i64 a0_2, .slice A0_3 l0_3.length c0_3], .int .i64 1048576] rfl (by (try simp only [List.map_toArray, List.map_cons, List.map_nil]); first | done | rfl | (simp only [List.length_drop, List.length_take]; rfl)) ?_; (with_reducible refine (laws_szProgram.calls k a0_0 a0_1 a0_2 _ _ l0_3 1048576 t268 _ ?side1 ?side2 A5.out).mono ?_); (case side1 => repeat (first | exact (Kd.C_below HR0_3.out HB.out) | (with_reducible refine cA_ ?_ _) | (with_reducible refine cN_ ?_ _) | (with_reducible refine cD_ ?_))); (case side2 => exact HC0_3.out); rintro e w23 ⟨rfl, hb⟩; refine ⟨_, rfl, ?_⟩; have n0_ := aM_ (bB_ (g := gb267) (by (with_reducible repeat (first | refine bN_ ?_ _ | refine bD_ ?_ | refine bA_ ?_ _)); exact BK267.out) hb); have n1_ := aM_ (wS_ (by repeat (first | (with_reducible first | exact HB.out | apply wA_ | apply wN_ | apply wD_ | refine wE_ ?_ GE267.out) | exact HB.out)) hb); clear BK267; clear HB; have BK267 := n0_; have HB := n1_; clear n0_ n1_; (try clear hb); (try clear hb2); (try clear hk); (try clear hi); have hcz24_0 : w23.cell? ⟨gb267, 0, none⟩ = some (.int .i64 a0_0) := (blk_cell BK267.out 0).trans rfl; have hcz24_1 : w23.cell? ⟨gb267, 1, none⟩ = some (.int .i64 a0_1) := (blk_cell BK267.out 1).trans rfl; have hcz24_2 : w23.cell? ⟨gb267, 2, none⟩ = some (.int .i64 a0_2) := (blk_cell BK267.out 2).trans rfl; have hcz24_3 : w23.cell? ⟨gb267, 3, none⟩ = some (.slice A0_3 l0_3.length c0_3) := (blk_cell BK267.out 3).trans rfl; have hfz24_0 := blk_frozen BK267.out 0; have hfz24_1 := blk_frozen BK267.out 1; have hfz24_2 := blk_frozen BK267.out 2; have hfz24_3 := blk_frozen BK267.out 3) | ((with_reducible refine gate_callee (f := 14) rfl ?_); refine goesL_ (some 23) rfl rfl Try.func14 (by kernel_rfl) rfl #[.agg #[.int .i64 a0_0, .int .i64 a0_1, .int .i64 a0_2, .slice A0_3 l0_3.length c0_3]] rfl (by (try simp only [List.map_toArray, List.map_cons, List.map_nil]); first | done | rfl | (simp only [List.length_drop, List.length_take]; rfl)) ?_; (with_reducible refine (laws_toProgram.calls k a0_0 a0_1 a0_2 _ _ l0_3 t269 t270 t271 t272 _ ?side1 ?side2 A10.out).mono ?_); (case side1 => repeat (first | exact (Kd.C_below HR0_3.out HB.out) | (with_reducible refine cA_ ?_ _) | (with_reducible refine cN_ ?_ _) | (with_reducible refine cD_ ?_))); (case side2 => exact HC0_3.out); rintro e w25 ⟨v273, rfl, ho0, hb⟩; refine ⟨_, rfl, ?_⟩; have n0_ := aM_ (Kd.R_lower ho0 (sZ_ (by repeat (first | (with_reducible first | exact HB.out | apply wA_ | apply wN_ | apply wD_ | refine wE_ ?_ GE267.out) | exact HB.out)))); have n1_ := aM_ (bB_ (g := gb267) (by (with_reducible repeat (first | refine bN_ ?_ _ | refine bD_ ?_ | refine bA_ ?_ _)); exact BK267.out) hb); have n2_ := aM_ (wS_ (by repeat (first | (with_reducible first | exact HB.out | apply wA_ | apply wN_ | apply wD_ | refine wE_ ?_ GE267.out) | exact HB.out)) hb); clear BK267; clear HB; have HO274 := n0_; have BK267 := n1_; have HB := n2_; clear n0_ n1_ n2_; (try clear hb); (try clear hb2); (try clear hk); (try clear hi); (try clear ho0); obtain ⟨Ao26, co26, eo26⟩ := Kd.R_slice HO274.out; subst eo26) | ((with_reducible refine gate_callee (f := 33) rfl ?_); refine goesL_ (some 27) rfl rfl Try.func33 (by kernel_rfl) rfl #[.agg #[.int .i64 t269, .int .i64 t270, .int .i64 t271, .slice Ao26 t272.length co26], .int .i64 a1, .int .i64 a2, .int .i64 a3] rfl (by (try simp only [List.map_toArray, List.map_cons, List.map_nil]); first | done | rfl | (simp only [List.length_drop, List.length_take]; rfl)) ?_; (with_reducible refine (spec_ReachFrom.calls k t269 t270 t271 _ _ t272 a1 a2 a3 t275 _ ?side1 ?side2 A11.out).mono ?_); (case side1 => repeat (first | exact (Kd.R_reads' HO274.out).2.2 | (with_reducible refine cA_ ?_ _) | (with_reducible refine cN_ ?_ _) | (with_reducible refine cD_ ?_))); (case side2 => exact (Kd.R_reads' HO274.out).2.1); rintro e w27 ⟨v276, rfl, ho0, hb⟩; refine ⟨_, rfl, ?_⟩; have n0_ := aM_ (Kd.R_elder' (by (with_reducible repeat (first | apply rA_ | apply rN_ | apply rD_)); exact HO274.out) (Kd.R_base ho0) hb); have n1_ := aM_ (Kd.R_lower ho0 (sZ_ (by repeat (first | (with_reducible first | exact HB.out | apply wA_ | apply wN_ | apply wD_ | refine wE_ ?_ GE267.out) | exact HB.out)))); have n2_ := aM_ (bB_ (g := gb267) (by (with_reducible repeat (first | refine bN_ ?_ _ | refine bD_ ?_ | refine bA_ ?_ _)); exact BK267.out) hb); have n3_ := aM_ (wS_ (by repeat (first | (with_reducible first | exact HB.out | apply wA_ | apply wN_ | apply wD_ | refine wE_ ?_ GE267.out) | exact HB.out)) hb); clear HO274; clear BK267; clear HB; have HO274 := n0_; have HO277 := n1_; have BK267 := n2_; have HB := n3_; clear n0_ n1_ n2_ n3_; (try clear hb); (try clear hb2); (try clear hk); (try clear hi); (try clear ho0); have hcz28_0 : w27.cell? ⟨gb267, 0, none⟩ = some (.int .i64 a0_0) := (blk_cell BK267.out 0).trans rfl; have hcz28_1 : w27.cell? ⟨gb267, 1, none⟩ = some (.int .i64 a0_1) := (blk_cell BK267.out 1).trans rfl; have hcz28_2 : w27.cell? ⟨gb267, 2, none⟩ = some (.int .i64 a0_2) := (blk_cell BK267.out 2).trans rfl; have hcz28_3 : w27.cell? ⟨gb267, 3, none⟩ = some (.slice A0_3 l0_3.length c0_3) := (blk_cell BK267.out 3).trans rfl; have hfz28_0 := blk_frozen BK267.out 0; have hfz28_1 := blk_frozen BK267.out 1; have hfz28_2 := blk_frozen BK267.out 2; have hfz28_3 := blk_frozen BK267.out 3) | ((with_reducible refine gate_callee (f := 14) rfl ?_); refine goesL_ (some 29) rfl rfl Try.func14 (by kernel_rfl) rfl #[.agg #[.int .i64 a0_0, .int .i64 a0_1, .int .i64 a0_2, .slice A0_3 l0_3.length c0_3]] rfl (by (try simp only [List.map_toArray, List.map_cons, List.map_nil]); first | done | rfl | (simp only [List.length_drop, List.length_take]; rfl)) ?_; (with_reducible refine (laws_toProgram.calls k a0_0 a0_1 a0_2 _ _ l0_3 t278 t279 t280 t281 _ ?side1 ?side2 A12.out).mono ?_); (case side1 => repeat (first | exact (Kd.C_below HR0_3.out HB.out) | (with_reducible refine cA_ ?_ _) | (with_reducible refine cN_ ?_ _) | (with_reducible refine cD_ ?_))); (case side2 => exact HC0_3.out); rintro e w29 ⟨v282, rfl, ho0, hb⟩; refine ⟨_, rfl, ?_⟩; have n0_ := aM_ (Kd.R_elder' (by (with_reducible repeat (first | apply rA_ | apply rN_ | apply rD_)); exact HO274.out) (Kd.R_base ho0) hb); have n1_ := aM_ (rB_ (by (with_reducible repeat (first | apply rA_ | apply rN_ | apply rD_)); exact HO277.out) hb); have n2_ := aM_ (Kd.R_lower (Kd.R_new' (Kd.R_new' ho0 (Kd.R_lt (by (with_reducible repeat (first | apply rA_ | apply rN_ | apply rD_)); exact HO274.out))) (Kd.R_lt (by (with_reducible repeat (first | apply rA_ | apply rN_ | apply rD_)); exact HO277.out))) (sZ_ (by repeat (first | (with_reducible first | exact HB.out | apply wA_ | apply wN_ | apply wD_ | refine wE_ ?_ GE267.out) | exact HB.out)))); have n3_ := aM_ (bB_ (g := gb267) (by (with_reducible repeat (first | refine bN_ ?_ _ | refine bD_ ?_ | refine bA_ ?_ _)); exact BK267.out) hb); have n4_ := aM_ (wS_ (by repeat (first | (with_reducible first | exact HB.out | apply wA_ | apply wN_ | apply wD_ | refine wE_ ?_ GE267.out) | exact HB.out)) hb); clear HO274; clear HO277; clear BK267; clear HB; have HO274 := n0_; have HO277 := n1_; have HO283 := n2_; have BK267 := n3_; have HB := n4_; clear n0_ n1_ n2_ n3_ n4_; (try clear hb); (try clear hb2); (try clear hk); (try clear hi); (try clear ho0)) | ((with_reducible refine gate_dst (N := 11) rfl ?_); refine box_event ?hg (N := 11) ?hd (cs := #[.int .i64 0, .int .i64 0, .int .i64 0, .slice none 0 0]) (t := 31) ?hr ?_; (case hd => rfl); (case hg => rfl); (case hr => first | (go_simp; done) | (go_simp; rfl)); intro gb284 hg w30 hbox hb; have n0_ := aM_ (rB_ (by (with_reducible repeat (first | apply rA_ | apply rN_ | apply rD_)); exact HO274.out) hb); have n1_ := aM_ (rB_ (by (with_reducible repeat (first | apply rA_ | apply rN_ | apply rD_)); exact HO277.out) hb); have n2_ := aM_ (rB_ (by (with_reducible repeat (first | apply rA_ | apply rN_ | apply rD_)); exact HO283.out) hb); have n3_ := aM_ (bB_ (g := gb267) (by (with_reducible repeat (first | refine bN_ ?_ _ | refine bD_ ?_ | refine bA_ ?_ _)); exact BK267.out) hb); have n4_ := aM_ (wS_ (by repeat (first | (with_reducible first | exact HB.out | apply wA_ | apply wN_ | apply wD_ | refine wE_ ?_ GE267.out) | exact HB.out)) hb); have n5_ := aM_ (hbox); have n6_ := aM_ ((by rw [hg]; exact (sZ_ (by repeat (first | (with_reducible first | exact HB.out | apply wA_ | apply wN_ | apply wD_ | refine wE_ ?_ GE267.out) | exact HB.out))) : w.heap.size ≤ gb284)); have n7_ := aM_ ((by rw [hg]; exact (sZ_ (by repeat (first | (with_reducible first | exact HB.out | apply wA_ | apply wN_ | apply wD_ | refine wE_ ?_ GE267.out) | exact HB.out))) : w.heap.size ≤ gb284)); have n8_ := aM_ ((by rw [hg]; exact Nat.ne_of_lt (blk_lt (g := gb267) (by (with_reducible repeat (first | refine bN_ ?_ _ | refine bD_ ?_ | refine bA_ ?_ _)); exact BK267.out)) : gb267 ≠ gb284)); have n9_ := aM_ ((by rw [hg]; exact Nat.ne_of_gt (blk_lt (g := gb267) (by (with_reducible repeat (first | refine bN_ ?_ _ | refine bD_ ?_ | refine bA_ ?_ _)); exact BK267.out)) : gb284 ≠ gb267)); clear HO274; clear HO277; clear HO283; clear BK267; clear HB; have HO274 := n0_; have HO277 := n1_; have HO283 := n2_; have BK267 := n3_; have HB := n4_; have BK284 := n5_; have GW284 := n6_; have GE284 := n7_; have NB267_284 := n8_; have NB284_267 := n9_; clear n0_ n1_ n2_ n3_ n4_ n5_ n6_ n7_ n8_ n9_; clear hb hbox hg; have hnb31 := NB284_267.out; have hnc31 := NB267_284.out; have hcz32_0 : w30.cell? ⟨gb284, 0, none⟩ = some (.int .i64 0) := (blk_cell BK284.out 0).trans rfl; have hcz32_1 : w30.cell? ⟨gb284, 1, none⟩ = some (.int .i64 0) := (blk_cell BK284.out 1).trans rfl; have hcz32_2 : w30.cell? ⟨gb284, 2, none⟩ = some (.int .i64 0) := (blk_cell BK284.out 2).trans rfl; have hcz32_3 : w30.cell? ⟨gb284, 3, none⟩ = some (.slice none 0 0) := (blk_cell BK284.out 3).trans rfl; have hfz32_0 := blk_frozen BK284.out 0; have hfz32_1 := blk_frozen BK284.out 1; have hfz32_2 := blk_frozen BK284.out 2; have hfz32_3 := blk_frozen BK284.out 3; obtain ⟨Ao33, co33, eo33⟩ := Kd.R_slice HO283.out; subst eo33) | ((with_reducible refine gate_callee (f := 34) rfl ?_); refine goesL_ (some 34) rfl rfl Try.func34 (by kernel_rfl) rfl #[.agg #[.int .i64 t278, .int .i64 t279, .int .i64 t280, .slice Ao33 t281.length co33], .int .i64 a1, .int .i64 a2, .int .i64 a3] rfl (by (try simp only [List.map_toArray, List.map_cons, List.map_nil]); first | done | rfl | (simp only [List.length_drop, List.length_take]; rfl)) ?_; (with_reducible refine (impl_ReachFrom.calls k t278 t279 t280 _ _ t281 a1 a2 a3 t285 _ ?side1 ?side2 A13.out).mono ?_); (case side1 => refine (Kd.R_reads' (e := 103) (base := w.heap.size) (ok := fun k_ => ((True ∧ some k_ ≠ (.slice Ao26 t272.length co26 : Value).ownBlock) ∧ some k_ ≠ (v276 : Value).ownBlock)) (n := t281.length) (c := co33) ?_).2.2; exact (by (with_reducible repeat (first | apply rA_ | apply rN_ | apply rD_)); exact (Kd.R_mono (Kd.R_far (p := ⟨gb284, 3, none⟩) (Kd.R_far (p := ⟨gb284, 2, none⟩) (Kd.R_far (p := ⟨gb284, 1, none⟩) (Kd.R_far (p := ⟨gb284, 0, none⟩) (Kd.R_types HO283.out BK284.out (by decide)) (fun _ hk => hk.2) (.int .i64 t278)) (fun _ hk => hk.2) (.int .i64 t279)) (fun _ hk => hk.2) (.int .i64 t280)) (fun _ hk => hk.2) (.slice Ao33 t281.length co33)) (fun _ h_ => h_.1)))); (case side2 => exact (Kd.R_reads' HO283.out).2.1); rintro e w34 ⟨v286, rfl, ho0, hb⟩; refine ⟨_, rfl, ?_⟩; have n0_ := aM_ (Kd.R_elder' (by (with_reducible repeat (first | apply rA_ | apply rN_ | apply rD_)); exact (Kd.R_mono (Kd.R_far (p := ⟨gb284, 3, none⟩) (Kd.R_far (p := ⟨gb284, 2, none⟩) (Kd.R_far (p := ⟨gb284, 1, none⟩) (Kd.R_far (p := ⟨gb284, 0, none⟩) (Kd.R_types HO274.out BK284.out (by decide)) (fun _ hk => hk.2) (.int .i64 t278)) (fun _ hk => hk.2) (.int .i64 t279)) (fun _ hk => hk.2) (.int .i64 t280)) (fun _ hk => hk.2) (.slice Ao33 t281.length co33)) (fun _ h_ => h_.1))) (Kd.R_base ho0) hb); have n1_ := aM_ (Kd.R_elder' (by (with_reducible repeat (first | apply rA_ | apply rN_ | apply rD_)); exact (Kd.R_mono (Kd.R_far (p := ⟨gb284, 3, none⟩) (Kd.R_far (p := ⟨gb284, 2, none⟩) (Kd.R_far (p := ⟨gb284, 1, none⟩) (Kd.R_far (p := ⟨gb284, 0, none⟩) (Kd.R_types HO277.out BK284.out (by decide)) (fun _ hk => hk.2) (.int .i64 t278)) (fun _ hk => hk.2) (.int .i64 t279)) (fun _ hk => hk.2) (.int .i64 t280)) (fun _ hk => hk.2) (.slice Ao33 t281.length co33)) (fun _ h_ => h_.1))) (Kd.R_base ho0) hb); have n2_ := aM_ (Kd.R_elder' (by (with_reducible repeat (first | apply rA_ | apply rN_ | apply rD_)); exact (Kd.R_mono (Kd.R_far (p := ⟨gb284, 3, none⟩) (Kd.R_far (p := ⟨gb284, 2, none⟩) (Kd.R_far (p := ⟨gb284, 1, none⟩) (Kd.R_far (p := ⟨gb284, 0, none⟩) (Kd.R_types HO283.out BK284.out (by decide)) (fun _ hk => hk.2) (.int .i64 t278)) (fun _ hk => hk.2) (.int .i64 t279)) (fun _ hk => hk.2) (.int .i64 t280)) (fun _ hk => hk.2) (.slice Ao33 t281.length co33)) (fun _ h_ => h_.1))) (Kd.R_base ho0) hb); have n3_ := aM_ (Kd.R_lower (Kd.R_new' ho0 (Kd.R_lt (by (with_reducible repeat (first | apply rA_ | apply rN_ | apply rD_)); exact (Kd.R_mono (Kd.R_far (p := ⟨gb284, 3, none⟩) (Kd.R_far (p := ⟨gb284, 2, none⟩) (Kd.R_far (p := ⟨gb284, 1, none⟩) (Kd.R_far (p := ⟨gb284, 0, none⟩) (Kd.R_types HO277.out BK284.out (by decide)) (fun _ hk => hk.2) (.int .i64 t278)) (fun _ hk => hk.2) (.int .i64 t279)) (fun _ hk => hk.2) (.int .i64 t280)) (fun _ hk => hk.2) (.slice Ao33 t281.length co33)) (fun _ h_ => h_.1))))) (sZ_ (by repeat (first | (with_reducible first | exact HB.out | apply wA_ | apply wN_ | apply wD_ | refine wE_ ?_ GE267.out | refine wE_ ?_ GE284.out) | exact HB.out)))); have n4_ := aM_ (bB_ (g := gb267) (o := .cells #[.int .i64 a0_0, .int .i64 a0_1, .int .i64 a0_2, .slice A0_3 l0_3.length c0_3] 24 (0, 0)) (by (with_reducible repeat (first | refine bN_ ?_ _ | refine bD_ ?_ | refine bA_ ?_ _)); refine blk_far ?_ NB267_284.out _; (with_reducible repeat (first | refine bN_ ?_ _ | refine bD_ ?_ | refine bA_ ?_ _)); refine blk_far ?_ NB267_284.out _; (with_reducible repeat (first | refine bN_ ?_ _ | refine bD_ ?_ | refine bA_ ?_ _)); refine blk_far ?_ NB267_284.out _; (with_reducible repeat (first | refine bN_ ?_ _ | refine bD_ ?_ | refine bA_ ?_ _)); refine blk_far ?_ NB267_284.out _; (with_reducible repeat (first | refine bN_ ?_ _ | refine bD_ ?_ | refine bA_ ?_ _)); exact BK267.out) hb); have n5_ := aM_ (bB_ (g := gb284) (o := .cells #[.int .i64 t278, .int .i64 t279, .int .i64 t280, .slice Ao33 t281.length co33] 31 (0, 0)) (by (with_reducible repeat (first | refine bN_ ?_ _ | refine bD_ ?_ | refine bA_ ?_ _)); refine blk_put (cs := #[.int .i64 t278, .int .i64 t279, .int .i64 t280, .slice none 0 0]) ?_ 3 _ rfl; (with_reducible repeat (first | refine bN_ ?_ _ | refine bD_ ?_ | refine bA_ ?_ _)); refine blk_put (cs := #[.int .i64 t278, .int .i64 t279, .int .i64 0, .slice none 0 0]) ?_ 2 _ rfl; (with_reducible repeat (first | refine bN_ ?_ _ | refine bD_ ?_ | refine bA_ ?_ _)); refine blk_put (cs := #[.int .i64 t278, .int .i64 0, .int .i64 0, .slice none 0 0]) ?_ 1 _ rfl; (with_reducible repeat (first | refine bN_ ?_ _ | refine bD_ ?_ | refine bA_ ?_ _)); refine blk_put (cs := #[.int .i64 0, .int .i64 0, .int .i64 0, .slice none 0 0]) ?_ 0 _ rfl; (with_reducible repeat (first | refine bN_ ?_ _ | refine bD_ ?_ | refine bA_ ?_ _)); exact BK284.out) hb); have n6_ := aM_ (wS_ (by repeat (first | (with_reducible first | exact HB.out | apply wA_ | apply wN_ | apply wD_ | refine wE_ ?_ GE267.out | refine wE_ ?_ GE284.out) | exact HB.out)) hb); clear HO274; clear HO277; clear HO283; clear BK267; clear BK284; clear HB; have HO274 := n0_; have HO277 := n1_; have HO283 := n2_; have HO287 := n3_; have BK267 := n4_; have BK284 := n5_; have HB := n6_; clear n0_ n1_ n2_ n3_ n4_ n5_ n6_; (try clear hb); (try clear hb2); (try clear hk); (try clear hi); (try clear ho0); obtain ⟨Ao35, co35, eo35⟩ := Kd.R_slice HO287.out; subst eo35; obtain ⟨Ao36, co36, eo36⟩ := Kd.R_slice HO277.out; subst eo36) | ((with_reducible refine gate_callee (f := 35) rfl ?_); refine goesL_ (some 37) rfl rfl Try.func35 (by kernel_rfl) rfl #[.slice Ao35 t285.length co35, .slice Ao36 t275.length co36] rfl (by (try simp only [List.map_toArray, List.map_cons, List.map_nil]); first | done | rfl | (simp only [List.length_drop, List.length_take]; rfl)) ?_; (with_reducible refine (laws_eqIntS.calls k _ _ t285 _ _ t275 true _ ?side1 ?side2 ?side3 ?side4 A14.out).mono ?_); (case side1 => repeat (first | exact (Kd.R_reads' HO287.out).2.2 | (with_reducible refine cA_ ?_ _) | (with_reducible refine cN_ ?_ _) | (with_reducible refine cD_ ?_))); (case side2 => exact (Kd.R_reads' HO287.out).2.1); (case side3 => repeat (first | exact (Kd.R_reads' HO277.out).2.2 | (with_reducible refine cA_ ?_ _) | (with_reducible refine cN_ ?_ _) | (with_reducible refine cD_ ?_))); (case side4 => exact (Kd.R_reads' HO277.out).2.1); rintro e w' ⟨rfl, ⟨nd, rfl⟩⟩; refine ⟨_, rfl, ?_⟩))
    (try (rw [drewN_self w34]; generalize hq_ : World.drewN w34 _ = w34; have n0_ : Aside0 (Kd.R k103 103 w34 w.heap.size (fun k_ => some k_ ≠ (.slice Ao36 t275.length co36 : Value).ownBlock ∧ some k_ ≠ (.slice Ao33 t281.length co33 : Value).ownBlock ∧ some k_ ≠ (.slice Ao35 t285.length co35 : Value).ownBlock) (.slice Ao26 t272.length co26) t272) := ⟨by rw [← hq_]; exact (by (with_reducible repeat (first | apply rA_ | apply rN_ | apply rD_)); exact Kd.R_mono HO274.out (fun _ hk => ⟨hk.1.1.2, ⟨hk.1.2, hk.2⟩⟩))⟩; have n1_ : Aside0 (Kd.R (Kd.int .i64) 3 w34 w.heap.size (fun k_ => some k_ ≠ (.slice Ao35 t285.length co35 : Value).ownBlock) (.slice Ao36 t275.length co36) t275) := ⟨by rw [← hq_]; exact (by (with_reducible repeat (first | apply rA_ | apply rN_ | apply rD_)); exact Kd.R_mono HO277.out (fun _ hk => hk.2))⟩; have n2_ : Aside0 (Kd.R k103 103 w34 w.heap.size (fun k_ => some k_ ≠ (.slice Ao26 t272.length co26 : Value).ownBlock ∧ some k_ ≠ (.slice Ao36 t275.length co36 : Value).ownBlock ∧ some k_ ≠ (.slice Ao35 t285.length co35 : Value).ownBlock) (.slice Ao33 t281.length co33) t281) := ⟨by rw [← hq_]; exact (by (with_reducible repeat (first | apply rA_ | apply rN_ | apply rD_)); exact Kd.R_mono HO283.out (fun _ hk => ⟨hk.1.1.2, ⟨hk.1.2, hk.2⟩⟩))⟩; have n3_ : Aside0 (Kd.R (Kd.int .i64) 3 w34 w.heap.size (fun k_ => some k_ ≠ (.slice Ao36 t275.length co36 : Value).ownBlock) (.slice Ao35 t285.length co35) t285) := ⟨by rw [← hq_]; exact (by (with_reducible repeat (first | apply rA_ | apply rN_ | apply rD_)); exact Kd.R_mono HO287.out (fun _ hk => hk.2))⟩; have n4_ : Aside0 (w34.heap[gb267]? = some (.cells #[.int .i64 a0_0, .int .i64 a0_1, .int .i64 a0_2, .slice A0_3 l0_3.length c0_3] 24 (0, 0))) := ⟨by rw [← hq_]; exact (by (with_reducible repeat (first | refine bN_ ?_ _ | refine bD_ ?_ | refine bA_ ?_ _)); exact BK267.out)⟩; have n5_ : Aside0 (w34.heap[gb284]? = some (.cells #[.int .i64 t278, .int .i64 t279, .int .i64 t280, .slice Ao33 t281.length co33] 31 (0, 0))) := ⟨by rw [← hq_]; exact (by (with_reducible repeat (first | refine bN_ ?_ _ | refine bD_ ?_ | refine bA_ ?_ _)); exact BK284.out)⟩; have n6_ : Aside0 (Below w.heap.size w w34) := ⟨by rw [← hq_]; exact (by repeat (first | (with_reducible first | exact HB.out | apply wA_ | apply wN_ | apply wD_ | refine wE_ ?_ GE267.out | refine wE_ ?_ GE284.out) | exact HB.out))⟩; clear HO274 HO277 HO283 HO287 BK267 BK284 HB hq_; have HO274 := n0_; have HO277 := n1_; have HO283 := n2_; have HO287 := n3_; have BK267 := n4_; have BK284 := n5_; have HB := n6_; clear n0_ n1_ n2_ n3_ n4_ n5_ n6_))
    have n0_ := aM_ (rD_ HO274.out); have n1_ := aM_ (rD_ HO277.out); have n2_ := aM_ (rD_ HO283.out); have n3_ := aM_ (rD_ HO287.out); have n4_ := aM_ (bD_ BK267.out); have n5_ := aM_ (bD_ BK284.out); have n6_ := aM_ (wD_ HB.out); clear HO274 HO277 HO283 HO287 BK267 BK284 HB; have HO274 := n0_; have HO277 := n1_; have HO283 := n2_; have HO287 := n3_; have BK267 := n4_; have BK284 := n5_; have HB := n6_; clear n0_ n1_ n2_ n3_ n4_ n5_ n6_
    refine start_ (n := 5) (S := fun w' => w'.cell? ⟨gb284, 0, none⟩ = some (.int .i64 t278) ∧ w'.cell? ⟨gb284, 1, none⟩ = some (.int .i64 t279) ∧ w'.cell? ⟨gb284, 2, none⟩ = some (.int .i64 t280) ∧ w'.cell? ⟨gb284, 3, none⟩ = some (.slice Ao33 t281.length co33) ∧ w'.cell? ⟨gb267, 0, none⟩ = some (.int .i64 a0_0) ∧ w'.cell? ⟨gb267, 1, none⟩ = some (.int .i64 a0_1) ∧ w'.cell? ⟨gb267, 2, none⟩ = some (.int .i64 a0_2) ∧ w'.cell? ⟨gb267, 3, none⟩ = some (.slice A0_3 l0_3.length c0_3)) (ds := []) #[false, false, false, false, false] (by kernel_rfl) rfl rfl ⟨(blk_cell BK284.out 0).trans rfl, (blk_cell BK284.out 1).trans rfl, (blk_cell BK284.out 2).trans rfl, (blk_cell BK284.out 3).trans rfl, (blk_cell BK267.out 0).trans rfl, (blk_cell BK267.out 1).trans rfl, (blk_cell BK267.out 2).trans rfl, (blk_cell BK267.out 3).trans rfl⟩ (fun hHeld => ?_)
    generalize w34.drew = w37 at HO274 HO277 HO283 HO287 BK267 BK284 HB hHeld ⊢
    refine take_ (i := 0) (N := some 39) (v := ?_) (a' := ?_) #[true, false, false, false, false] rfl rfl (by kernel_rfl) (fun _ _ _ h => h) (Or.inl ⟨by rfl, ?_⟩) hHeld ?_ ?_
    rotate_left
    ·rintro w' ⟨s0, s1, s2, s3, s4, s5, s6, s7⟩
     go_simp
     with_reducible rfl
    rotate_left
    ·simp only [Act.put, List.setIfInBounds_toArray, List.set_cons_zero, List.set_cons_succ, i64_w, i32_w]
     rfl
    refine take_ (i := 1) (N := some 40) (v := ?_) (a' := ?_) #[true, true, false, false, false] rfl rfl (by kernel_rfl) (fun _ _ _ h => h) (Or.inl ⟨by rfl, ?_⟩) hHeld ?_ ?_
    rotate_left
    ·rintro w' ⟨s0, s1, s2, s3, s4, s5, s6, s7⟩
     go_simp
     with_reducible rfl
    rotate_left
    ·simp only [Act.put, List.setIfInBounds_toArray, List.set_cons_zero, List.set_cons_succ, i64_w, i32_w]
     rfl
    refine one_ (i := 2) (N := some 41) #[true, true, true, false, false] rfl rfl (by kernel_rfl) (by decide) (fun K hK => ?_)
    refine goes_ Try.func14 (by kernel_rfl) rfl #[.agg #[.int .i64 a0_0, .int .i64 a0_1, .int .i64 a0_2, .slice A0_3 l0_3.length c0_3]] (by rfl) rfl rfl (by (try simp only [List.map_toArray, List.map_cons, List.map_nil]); first | done | rfl | (simp only [List.length_drop, List.length_take]; rfl)) ?_
    with_reducible refine (laws_toProgram.calls k a0_0 a0_1 a0_2 _ _ l0_3 t289 t290 t291 t292 _ ?side1 ?side2 A16.out).mono ?_
    (case side1 => repeat (first | exact (Kd.C_below HR0_3.out HB.out) | (with_reducible refine cA_ ?_ _) | (with_reducible refine cN_ ?_ _) | (with_reducible refine cD_ ?_)))
    (case side2 => exact HC0_3.out)
    rintro e w38 ⟨v293, rfl, ho0, hb⟩
    refine ⟨_, rfl, ?_⟩
    have n0_ := aM_ (Kd.R_elder' (by (with_reducible repeat (first | apply rA_ | apply rN_ | apply rD_)); exact HO274.out) (Kd.R_base ho0) hb); have n1_ := aM_ (rB_ (by (with_reducible repeat (first | apply rA_ | apply rN_ | apply rD_)); exact HO277.out) hb); have n2_ := aM_ (Kd.R_elder' (by (with_reducible repeat (first | apply rA_ | apply rN_ | apply rD_)); exact HO283.out) (Kd.R_base ho0) hb); have n3_ := aM_ (rB_ (by (with_reducible repeat (first | apply rA_ | apply rN_ | apply rD_)); exact HO287.out) hb); have n4_ := aM_ (Kd.R_lower (Kd.R_new' (Kd.R_new' (Kd.R_new' (Kd.R_new' ho0 (Kd.R_lt (by (with_reducible repeat (first | apply rA_ | apply rN_ | apply rD_)); exact HO274.out))) (Kd.R_lt (by (with_reducible repeat (first | apply rA_ | apply rN_ | apply rD_)); exact HO277.out))) (Kd.R_lt (by (with_reducible repeat (first | apply rA_ | apply rN_ | apply rD_)); exact HO283.out))) (Kd.R_lt (by (with_reducible repeat (first | apply rA_ | apply rN_ | apply rD_)); exact HO287.out))) (sZ_ (by repeat (first | (with_reducible first | exact HB.out | apply wA_ | apply wN_ | apply wD_ | refine wE_ ?_ GE267.out | refine wE_ ?_ GE284.out) | exact HB.out)))); have n5_ := aM_ (bB_ (g := gb267) (by (with_reducible repeat (first | refine bN_ ?_ _ | refine bD_ ?_ | refine bA_ ?_ _)); exact BK267.out) hb); have n6_ := aM_ (bB_ (g := gb284) (by (with_reducible repeat (first | refine bN_ ?_ _ | refine bD_ ?_ | refine bA_ ?_ _)); exact BK284.out) hb); have n7_ := aM_ (wS_ (by repeat (first | (with_reducible first | exact HB.out | apply wA_ | apply wN_ | apply wD_ | refine wE_ ?_ GE267.out | refine wE_ ?_ GE284.out) | exact HB.out)) hb); clear HO274 HO277 HO283 HO287 BK267 BK284 HB; have HO274 := n0_; have HO277 := n1_; have HO283 := n2_; have HO287 := n3_; have HO294 := n4_; have BK267 := n5_; have BK284 := n6_; have HB := n7_; clear n0_ n1_ n2_ n3_ n4_ n5_ n6_ n7_; (try clear hb); (try clear hb2); (try clear hk); (try clear hi); (try clear ho0)
    obtain ⟨Ao39, co39, eo39⟩ := Kd.R_slice HO294.out
    (first | subst eo39 | (injection eo39 with f1_ f2_ f3_; have f4_ := f1_.symm; have f5_ := f3_.symm; clear f1_ f2_ f3_; subst f4_; subst f5_))
    refine hK.out _ _ ⟨(blk_cell BK284.out 0).trans rfl, (blk_cell BK284.out 1).trans rfl, (blk_cell BK284.out 2).trans rfl, (blk_cell BK284.out 3).trans rfl, (blk_cell BK267.out 0).trans rfl, (blk_cell BK267.out 1).trans rfl, (blk_cell BK267.out 2).trans rfl, (blk_cell BK267.out 3).trans rfl⟩ (fun hHeld => ?_)
    clear hK K
    refine norm_ (a' := ?_) ?_ ?_
    rotate_left
    ·show Act.put _ (some 41) _ = _
     simp only [Act.put, List.setIfInBounds_toArray, List.set_cons_zero, List.set_cons_succ, i64_w, i32_w]
     rfl
    refine one_ (i := 3) (N := some 42) #[true, true, true, true, false] rfl rfl (by kernel_rfl) (by decide) (fun K hK => ?_)
    refine goes_ Try.func17 (by kernel_rfl) rfl #[.agg #[.int .i64 t278, .int .i64 t279, .int .i64 t280, .slice Ao33 t281.length co33], .agg #[.int .i64 t289, .int .i64 t290, .int .i64 t291, .slice Ao39 t292.length co39]] (by rfl) rfl rfl (by (try simp only [List.map_toArray, List.map_cons, List.map_nil]); first | done | rfl | (simp only [List.length_drop, List.length_take]; rfl)) ?_
    with_reducible refine (laws_eqProgram.calls k t278 t279 t280 _ _ t281 t289 t290 t291 _ _ t292 true _ ?side1 ?side2 ?side3 ?side4 A17.out).mono ?_
    (case side1 => repeat (first | exact (Kd.R_reads' HO283.out).2.2 | (with_reducible refine cA_ ?_ _) | (with_reducible refine cN_ ?_ _) | (with_reducible refine cD_ ?_)))
    (case side2 => exact (Kd.R_reads' HO283.out).2.1)
    (case side3 => repeat (first | exact (Kd.R_reads' HO294.out).2.2 | (with_reducible refine cA_ ?_ _) | (with_reducible refine cN_ ?_ _) | (with_reducible refine cD_ ?_)))
    (case side4 => exact (Kd.R_reads' HO294.out).2.1)
    rintro e w40 ⟨rfl, hb⟩
    refine ⟨_, rfl, ?_⟩
    have n0_ := aM_ (rB_ (by (with_reducible repeat (first | apply rA_ | apply rN_ | apply rD_)); exact HO274.out) hb); have n1_ := aM_ (rB_ (by (with_reducible repeat (first | apply rA_ | apply rN_ | apply rD_)); exact HO277.out) hb); have n2_ := aM_ (rB_ (by (with_reducible repeat (first | apply rA_ | apply rN_ | apply rD_)); exact HO283.out) hb); have n3_ := aM_ (rB_ (by (with_reducible repeat (first | apply rA_ | apply rN_ | apply rD_)); exact HO287.out) hb); have n4_ := aM_ (rB_ (by (with_reducible repeat (first | apply rA_ | apply rN_ | apply rD_)); exact HO294.out) hb); have n5_ := aM_ (bB_ (g := gb267) (by (with_reducible repeat (first | refine bN_ ?_ _ | refine bD_ ?_ | refine bA_ ?_ _)); exact BK267.out) hb); have n6_ := aM_ (bB_ (g := gb284) (by (with_reducible repeat (first | refine bN_ ?_ _ | refine bD_ ?_ | refine bA_ ?_ _)); exact BK284.out) hb); have n7_ := aM_ (wS_ (by repeat (first | (with_reducible first | exact HB.out | apply wA_ | apply wN_ | apply wD_ | refine wE_ ?_ GE267.out | refine wE_ ?_ GE284.out) | exact HB.out)) hb); clear HO274 HO277 HO283 HO287 HO294 BK267 BK284 HB; have HO274 := n0_; have HO277 := n1_; have HO283 := n2_; have HO287 := n3_; have HO294 := n4_; have BK267 := n5_; have BK284 := n6_; have HB := n7_; clear n0_ n1_ n2_ n3_ n4_ n5_ n6_ n7_; (try clear hb); (try clear hb2); (try clear hk); (try clear hi)
    refine hK.out _ _ ⟨(blk_cell BK284.out 0).trans rfl, (blk_cell BK284.out 1).trans rfl, (blk_cell BK284.out 2).trans rfl, (blk_cell BK284.out 3).trans rfl, (blk_cell BK267.out 0).trans rfl, (blk_cell BK267.out 1).trans rfl, (blk_cell BK267.out 2).trans rfl, (blk_cell BK267.out 3).trans rfl⟩ (fun hHeld => ?_)
    clear hK K
    refine norm_ (a' := ?_) ?_ ?_
    rotate_left
    ·show Act.put _ (some 42) _ = _
     simp only [Act.put, List.setIfInBounds_toArray, List.set_cons_zero, List.set_cons_succ, i64_w, i32_w]
     rfl
    refine pure_ (i := 4) (N := some 43) (v := ?_) (a' := ?_) #[true, true, true, true, true] rfl rfl (by kernel_rfl) (fun _ _ _ h => h) (Or.inl ⟨by rfl, ?_⟩) ?_ ?_
    rotate_left
    ·intro w'
     go_simp
     with_reducible rfl
    rotate_left
    ·simp only [Act.put, List.setIfInBounds_toArray, List.set_cons_zero, List.set_cons_succ, i64_w, i32_w]
     rfl
    refine done_ (by kernel_rfl) ?_
    have hcz41_0 : w40.cell? ⟨gb284, 0, none⟩ = some (.int .i64 t278) := (blk_cell BK284.out 0).trans rfl
    have hcz41_1 : w40.cell? ⟨gb284, 1, none⟩ = some (.int .i64 t279) := (blk_cell BK284.out 1).trans rfl
    have hcz41_2 : w40.cell? ⟨gb284, 2, none⟩ = some (.int .i64 t280) := (blk_cell BK284.out 2).trans rfl
    have hcz41_3 : w40.cell? ⟨gb284, 3, none⟩ = some (.slice Ao33 t281.length co33) := (blk_cell BK284.out 3).trans rfl
    have hfz41_0 := blk_frozen BK284.out 0; have hfz41_1 := blk_frozen BK284.out 1; have hfz41_2 := blk_frozen BK284.out 2; have hfz41_3 := blk_frozen BK284.out 3
    go_upto_region 14 with (first | ((with_reducible refine gate_callee (f := 22) rfl ?_); refine goesL_ (some 46) rfl rfl Try.func22 (by kernel_rfl) rfl #[.agg #[.int .i64 t278, .int .i64 t279, .int .i64 t280, .slice Ao33 t281.length co33], .int .i64 1] rfl (by (try simp only [List.map_toArray, List.map_cons, List.map_nil]); first | done | rfl | (simp only [List.length_drop, List.length_take]; rfl)) ?_; (with_reducible refine (laws_markProgram.calls t278 t279 t280 ?P_ (.slice Ao33 t281.length co33) t281 1 t296 w _ ?side1 ?side2 A19.out).mono ?_); (case side1 => repeat (first | (with_reducible first | exact HB.out | apply wA_ | apply wN_ | apply wD_ | refine wE_ ?_ GE267.out | refine wE_ ?_ GE284.out) | exact HB.out)); (case side2 => exact Kd.R_bound (HO283.out)); rintro e w42 ⟨rfl, hb, hkp⟩; refine ⟨_, rfl, ?_⟩; have n0_ := aM_ (blk_kept (by (with_reducible repeat (first | refine bN_ ?_ _ | refine bD_ ?_ | refine bA_ ?_ _)); exact BK267.out) hkp (fun hs_ => not_types_ (by (with_reducible repeat (first | refine bN_ ?_ _ | refine bD_ ?_ | refine bA_ ?_ _)); exact BK267.out) hs_.2.2.2 (by decide))); have n1_ := aM_ (Kd.R_mono (ok := fun k_ => some k_ = (.slice Ao36 t275.length co36 : Value).ownBlock) (ok' := fun k_ => some k_ ≠ (.slice Ao35 t285.length co35 : Value).ownBlock) (Kd.R_mono (Kd.R_keptB (Kd.R_tight rfl (HO277.out)) hkp (fun k_ hk_ hs_ => (show some k_ ≠ (.slice Ao36 t275.length co36 : Value).ownBlock from (by have p_ := hs_.1; first | exact p_ | exact p_.1 | exact p_.2 | exact p_.1.1 | exact p_.1.2 | exact p_.2.1 | exact p_.2.2 | exact p_.1.1.1 | exact p_.1.1.2 | exact p_.1.2.1 | exact p_.1.2.2 | exact p_.2.1.1 | exact p_.2.1.2 | exact p_.2.2.1 | exact p_.2.2.2 | exact p_.1.1.1.1 | exact p_.1.1.1.2 | exact p_.1.1.2.1 | exact p_.1.1.2.2 | exact p_.1.2.1.1 | exact p_.1.2.1.2 | exact p_.1.2.2.1 | exact p_.1.2.2.2 | exact p_.2.1.1.1 | exact p_.2.1.1.2 | exact p_.2.1.2.1 | exact p_.2.1.2.2 | exact p_.2.2.1.1 | exact p_.2.2.1.2 | exact p_.2.2.2.1 | exact p_.2.2.2.2 | exact p_.1.1.1.1.1 | exact p_.1.1.1.1.2 | exact p_.1.1.1.2.1 | exact p_.1.1.1.2.2 | exact p_.1.1.2.1.1 | exact p_.1.1.2.1.2 | exact p_.1.1.2.2.1 | exact p_.1.1.2.2.2 | exact p_.1.2.1.1.1 | exact p_.1.2.1.1.2 | exact p_.1.2.1.2.1 | exact p_.1.2.1.2.2 | exact p_.1.2.2.1.1 | exact p_.1.2.2.1.2 | exact p_.1.2.2.2.1 | exact p_.1.2.2.2.2 | exact p_.2.1.1.1.1 | exact p_.2.1.1.1.2 | exact p_.2.1.1.2.1 | exact p_.2.1.1.2.2 | exact p_.2.1.2.1.1 | exact p_.2.1.2.1.2 | exact p_.2.1.2.2.1 | exact p_.2.1.2.2.2 | exact p_.2.2.1.1.1 | exact p_.2.2.1.1.2 | exact p_.2.2.1.2.1 | exact p_.2.2.1.2.2 | exact p_.2.2.2.1.1 | exact p_.2.2.2.1.2 | exact p_.2.2.2.2.1 | exact p_.2.2.2.2.2)) hk_)) (fun _ h_ => h_.1)) (fun k_ hk_ => (by have p_ := ((HO277.out).1 k_ hk_.symm); first | exact p_ | exact p_.1 | exact p_.2 | exact p_.1.1 | exact p_.1.2 | exact p_.2.1 | exact p_.2.2 | exact p_.1.1.1 | exact p_.1.1.2 | exact p_.1.2.1 | exact p_.1.2.2 | exact p_.2.1.1 | exact p_.2.1.2 | exact p_.2.2.1 | exact p_.2.2.2 | exact p_.1.1.1.1 | exact p_.1.1.1.2 | exact p_.1.1.2.1 | exact p_.1.1.2.2 | exact p_.1.2.1.1 | exact p_.1.2.1.2 | exact p_.1.2.2.1 | exact p_.1.2.2.2 | exact p_.2.1.1.1 | exact p_.2.1.1.2 | exact p_.2.1.2.1 | exact p_.2.1.2.2 | exact p_.2.2.1.1 | exact p_.2.2.1.2 | exact p_.2.2.2.1 | exact p_.2.2.2.2 | exact p_.1.1.1.1.1 | exact p_.1.1.1.1.2 | exact p_.1.1.1.2.1 | exact p_.1.1.1.2.2 | exact p_.1.1.2.1.1 | exact p_.1.1.2.1.2 | exact p_.1.1.2.2.1 | exact p_.1.1.2.2.2 | exact p_.1.2.1.1.1 | exact p_.1.2.1.1.2 | exact p_.1.2.1.2.1 | exact p_.1.2.1.2.2 | exact p_.1.2.2.1.1 | exact p_.1.2.2.1.2 | exact p_.1.2.2.2.1 | exact p_.1.2.2.2.2 | exact p_.2.1.1.1.1 | exact p_.2.1.1.1.2 | exact p_.2.1.1.2.1 | exact p_.2.1.1.2.2 | exact p_.2.1.2.1.1 | exact p_.2.1.2.1.2 | exact p_.2.1.2.2.1 | exact p_.2.1.2.2.2 | exact p_.2.2.1.1.1 | exact p_.2.2.1.1.2 | exact p_.2.2.1.2.1 | exact p_.2.2.1.2.2 | exact p_.2.2.2.1.1 | exact p_.2.2.2.1.2 | exact p_.2.2.2.2.1 | exact p_.2.2.2.2.2))); have n2_ := aM_ (blk_kept (by (with_reducible repeat (first | refine bN_ ?_ _ | refine bD_ ?_ | refine bA_ ?_ _)); exact BK284.out) hkp (fun hs_ => not_types_ (by (with_reducible repeat (first | refine bN_ ?_ _ | refine bD_ ?_ | refine bA_ ?_ _)); exact BK284.out) hs_.2.2.2 (by decide))); have n3_ := aM_ (Kd.R_mono (ok := fun k_ => some k_ = (.slice Ao35 t285.length co35 : Value).ownBlock) (ok' := fun k_ => some k_ ≠ (.slice Ao36 t275.length co36 : Value).ownBlock) (Kd.R_mono (Kd.R_keptB (Kd.R_tight rfl (HO287.out)) hkp (fun k_ hk_ hs_ => (show some k_ ≠ (.slice Ao35 t285.length co35 : Value).ownBlock from (by have p_ := hs_.1; first | exact p_ | exact p_.1 | exact p_.2 | exact p_.1.1 | exact p_.1.2 | exact p_.2.1 | exact p_.2.2 | exact p_.1.1.1 | exact p_.1.1.2 | exact p_.1.2.1 | exact p_.1.2.2 | exact p_.2.1.1 | exact p_.2.1.2 | exact p_.2.2.1 | exact p_.2.2.2 | exact p_.1.1.1.1 | exact p_.1.1.1.2 | exact p_.1.1.2.1 | exact p_.1.1.2.2 | exact p_.1.2.1.1 | exact p_.1.2.1.2 | exact p_.1.2.2.1 | exact p_.1.2.2.2 | exact p_.2.1.1.1 | exact p_.2.1.1.2 | exact p_.2.1.2.1 | exact p_.2.1.2.2 | exact p_.2.2.1.1 | exact p_.2.2.1.2 | exact p_.2.2.2.1 | exact p_.2.2.2.2 | exact p_.1.1.1.1.1 | exact p_.1.1.1.1.2 | exact p_.1.1.1.2.1 | exact p_.1.1.1.2.2 | exact p_.1.1.2.1.1 | exact p_.1.1.2.1.2 | exact p_.1.1.2.2.1 | exact p_.1.1.2.2.2 | exact p_.1.2.1.1.1 | exact p_.1.2.1.1.2 | exact p_.1.2.1.2.1 | exact p_.1.2.1.2.2 | exact p_.1.2.2.1.1 | exact p_.1.2.2.1.2 | exact p_.1.2.2.2.1 | exact p_.1.2.2.2.2 | exact p_.2.1.1.1.1 | exact p_.2.1.1.1.2 | exact p_.2.1.1.2.1 | exact p_.2.1.1.2.2 | exact p_.2.1.2.1.1 | exact p_.2.1.2.1.2 | exact p_.2.1.2.2.1 | exact p_.2.1.2.2.2 | exact p_.2.2.1.1.1 | exact p_.2.2.1.1.2 | exact p_.2.2.1.2.1 | exact p_.2.2.1.2.2 | exact p_.2.2.2.1.1 | exact p_.2.2.2.1.2 | exact p_.2.2.2.2.1 | exact p_.2.2.2.2.2)) hk_)) (fun _ h_ => h_.1)) (fun k_ hk_ => (by have p_ := ((HO287.out).1 k_ hk_.symm); first | exact p_ | exact p_.1 | exact p_.2 | exact p_.1.1 | exact p_.1.2 | exact p_.2.1 | exact p_.2.2 | exact p_.1.1.1 | exact p_.1.1.2 | exact p_.1.2.1 | exact p_.1.2.2 | exact p_.2.1.1 | exact p_.2.1.2 | exact p_.2.2.1 | exact p_.2.2.2 | exact p_.1.1.1.1 | exact p_.1.1.1.2 | exact p_.1.1.2.1 | exact p_.1.1.2.2 | exact p_.1.2.1.1 | exact p_.1.2.1.2 | exact p_.1.2.2.1 | exact p_.1.2.2.2 | exact p_.2.1.1.1 | exact p_.2.1.1.2 | exact p_.2.1.2.1 | exact p_.2.1.2.2 | exact p_.2.2.1.1 | exact p_.2.2.1.2 | exact p_.2.2.2.1 | exact p_.2.2.2.2 | exact p_.1.1.1.1.1 | exact p_.1.1.1.1.2 | exact p_.1.1.1.2.1 | exact p_.1.1.1.2.2 | exact p_.1.1.2.1.1 | exact p_.1.1.2.1.2 | exact p_.1.1.2.2.1 | exact p_.1.1.2.2.2 | exact p_.1.2.1.1.1 | exact p_.1.2.1.1.2 | exact p_.1.2.1.2.1 | exact p_.1.2.1.2.2 | exact p_.1.2.2.1.1 | exact p_.1.2.2.1.2 | exact p_.1.2.2.2.1 | exact p_.1.2.2.2.2 | exact p_.2.1.1.1.1 | exact p_.2.1.1.1.2 | exact p_.2.1.1.2.1 | exact p_.2.1.1.2.2 | exact p_.2.1.2.1.1 | exact p_.2.1.2.1.2 | exact p_.2.1.2.2.1 | exact p_.2.1.2.2.2 | exact p_.2.2.1.1.1 | exact p_.2.2.1.1.2 | exact p_.2.2.1.2.1 | exact p_.2.2.1.2.2 | exact p_.2.2.2.1.1 | exact p_.2.2.2.1.2 | exact p_.2.2.2.2.1 | exact p_.2.2.2.2.2))); have n4_ := aM_ (hb); clear BK267; clear HO277; clear BK284; clear HO287; clear HB; clear HO283; clear HO274; clear HO294; have BK267 := n0_; have HO277 := n1_; have BK284 := n2_; have HO287 := n3_; have HB := n4_; clear n0_ n1_ n2_ n3_ n4_; (try clear hb); (try clear hkp)))
    (try simp only [Act.put, List.setIfInBounds_toArray, List.set_cons_zero, List.set_cons_succ])
    go_cut [54] (fun v54 wc => ∃ (kq : Nat) (x54_19 : Bool), v54 = .bool x54_19 ∧ Aside0 (laws_FnExactReachFrom.j0 kq a1 a2 a3 t275 t285 x54_19 a0_0 a0_1 a0_2 l0_3 = some r) ∧ Aside0 (kq ≤ k) ∧ Aside0 (Kd.R (Kd.int .i64) 3 wc w.heap.size (fun k_ => some k_ ≠ ((.slice Ao35 t285.length co35) : Value).ownBlock) (.slice Ao36 t275.length co36) t275) ∧ Aside0 (Kd.R (Kd.int .i64) 3 wc w.heap.size (fun k_ => some k_ ≠ ((.slice Ao36 t275.length co36) : Value).ownBlock) (.slice Ao35 t285.length co35) t285) ∧ Aside0 (wc.heap[gb267]? = some (.cells #[.int .i64 a0_0, .int .i64 a0_1, .int .i64 a0_2, (.slice A0_3 l0_3.length c0_3)] 24 (0, 0))) ∧ Aside0 (Below w.heap.size w wc))
    case first =>
     have H := HC20.out; clear HC20
     by_cases c43 : t296 < 0
     ·rw [if_pos c43] at H
      have c43b0 : decide (t296 < 0) = true := decide_eq_true c43
      clear c43
      (first | rw [c43b0] | (simp only [i64_w, i32_w]; rw [c43b0]) | skip)
      have H' := aM_ H
      clear H
      go_wp2
      go_meet
      case rel => exact ⟨_, (true), (by first | rfl | (simp; done) | (simp [*]; done)), H', ⟨by first | omega | exact Nat.le_refl _⟩, ⟨by (with_reducible repeat (first | apply rA_ | apply rN_ | apply rD_)); exact HO277.out⟩, ⟨by (with_reducible repeat (first | apply rA_ | apply rN_ | apply rD_)); exact HO287.out⟩, ⟨by (with_reducible repeat (first | refine bN_ ?_ _ | refine bD_ ?_ | refine bA_ ?_ _)); exact BK267.out⟩, ⟨by repeat (first | (with_reducible first | exact HB.out | apply wA_ | apply wN_ | apply wD_ | refine wE_ ?_ GE267.out | refine wE_ ?_ GE284.out) | exact HB.out)⟩⟩
     ·rw [if_neg c43] at H
      have c43b0 : decide (t296 < 0) = false := decide_eq_false c43
      clear c43
      (first | rw [c43b0] | (simp only [i64_w, i32_w]; rw [c43b0]) | skip)
      replace H := Option.bind_eq_some_iff.mp H
      obtain ⟨t297, A440, H⟩ := H
      (try dsimp only at H)
      have A44 := aM_ A440; clear A440
      have H' := aM_ H
      clear H
      go_wp2_with (first | (go_at_call 35; (with_reducible refine (laws_eqIntS.calls k _ _ t285 _ _ t275 t297 _ ?side1 ?side2 ?side3 ?side4 A44.out).mono ?_); (case side1 => repeat (first | exact (Kd.R_reads' HO287.out).2.2 | (with_reducible refine cA_ ?_ _) | (with_reducible refine cN_ ?_ _) | (with_reducible refine cD_ ?_))); (case side2 => exact (Kd.R_reads' HO287.out).2.1); (case side3 => repeat (first | exact (Kd.R_reads' HO277.out).2.2 | (with_reducible refine cA_ ?_ _) | (with_reducible refine cN_ ?_ _) | (with_reducible refine cD_ ?_))); (case side4 => exact (Kd.R_reads' HO277.out).2.1); rintro e w' ⟨rfl, ⟨nd, rfl⟩⟩))
      go_meet
      case rel => exact ⟨_, (!t297), (by first | rfl | (simp; done) | (simp [*]; done)), H', ⟨by first | omega | exact Nat.le_refl _⟩, ⟨by (with_reducible repeat (first | apply rA_ | apply rN_ | apply rD_)); exact HO277.out⟩, ⟨by (with_reducible repeat (first | apply rA_ | apply rN_ | apply rD_)); exact HO287.out⟩, ⟨by (with_reducible repeat (first | refine bN_ ?_ _ | refine bD_ ?_ | refine bA_ ?_ _)); exact BK267.out⟩, ⟨by repeat (first | (with_reducible first | exact HB.out | apply wA_ | apply wN_ | apply wD_ | refine wE_ ?_ GE267.out | refine wE_ ?_ GE284.out) | exact HB.out)⟩⟩
    case rest =>
     clear HC20
     try clear c1
     try clear c2
     try clear p2
     try clear c3
     try clear c4
     try clear c6
     try clear c6b0
     try clear c8
     try clear c11
     try clear c14
     try clear c15
     try clear c17
     try clear c18
     try clear c22
     try clear c31
     try clear c33
     try clear c34
     try clear c35
     try clear c43
     try clear c43b0
     try clear hcz22_0
     try clear hcz22_1
     try clear hcz22_2
     try clear hcz22_3
     try clear hcz24_0
     try clear hcz24_1
     try clear hcz24_2
     try clear hcz24_3
     try clear hcz28_0
     try clear hcz28_1
     try clear hcz28_2
     try clear hcz28_3
     try clear hcz32_0
     try clear hcz32_1
     try clear hcz32_2
     try clear hcz32_3
     try clear hcz41_0
     try clear hcz41_1
     try clear hcz41_2
     try clear hcz41_3
     try clear hcz8_0
     try clear hcz8_1
     try clear hcz8_2
     try clear hcz8_3
     try clear hfz22_0
     try clear hfz22_1
     try clear hfz22_2
     try clear hfz22_3
     try clear hfz24_0
     try clear hfz24_1
     try clear hfz24_2
     try clear hfz24_3
     try clear hfz28_0
     try clear hfz28_1
     try clear hfz28_2
     try clear hfz28_3
     try clear hfz32_0
     try clear hfz32_1
     try clear hfz32_2
     try clear hfz32_3
     try clear hfz41_0
     try clear hfz41_1
     try clear hfz41_2
     try clear hfz41_3
     try clear hfz8_0
     try clear hfz8_1
     try clear hfz8_2
     try clear hfz8_3
     obtain ⟨kq, x54_19, rfl, HA, HJ19, HO_10, HO_12, BK267, HB⟩ := hcut
     cases kq with
     | zero => exact absurd HA.out (by simp [laws_FnExactReachFrom.j0])
     | succ kj19 =>
      have H := HA.out; clear HA
      simp only [laws_FnExactReachFrom.j0] at H
      by_cases c45 : x54_19 = true
      ·subst c45
       have H1 : (some false) = some r := by rw [if_pos rfl] at H; exact H
       clear H; have H := H1; clear H1
       exact absurd ((Option.some.inj H).trans HTRUE.out) (by decide)
      ·replace c45 := Bool.eq_false_iff.mpr c45
       subst c45
       have H1 : ((laws_markIntS.f kj19 t285 1).bind fun bt298 => ((laws_heldIntS.f kj19 bt298.2 1).bind fun t300 => (if t300 < 0 then (some false) else (if t300 = bt298.1 then ((laws_toProgram.f kj19 a0_0 a0_1 a0_2 l0_3).bind fun bt301 => ((impl_ReachFrom.f kj19 bt301.1 bt301.2.1 bt301.2.2.1 bt301.2.2.2 a1 a2 a3).bind fun t307 => ((laws_eqIntS.f kj19 t307 t275).bind fun t310 => (if t310 = true then ((laws_heldIntS.f kj19 bt298.2 1).bind fun t311 => (if t311 < 0 then (some false) else (if t311 = bt298.1 then (some true) else (some false)))) else (some false))))) else (some false))))) = some r := by rw [if_neg (show ¬ (false = true) by decide)] at H; exact H
       clear H; have H := H1; clear H1
       replace H := Option.bind_eq_some_iff.mp H
       obtain ⟨⟨t298, t299⟩, A460, H⟩ := H
       (try dsimp only at H)
       have A46 := aM_ A460; clear A460
       replace H := Option.bind_eq_some_iff.mp H
       obtain ⟨t300, A470, H⟩ := H
       (try dsimp only at H)
       have A47 := aM_ A470; clear A470
       by_cases c48 : t300 < 0
       ·rw [if_pos c48] at H
        have c48b0 : decide (t300 < 0) = true := decide_eq_true c48
        clear c48
        exact absurd ((Option.some.inj H).trans HTRUE.out) (by decide)
       ·rw [if_neg c48] at H
        have c48b0 : decide (t300 < 0) = false := decide_eq_false c48
        clear c48
        by_cases c49 : t300 = t298
        ·rw [if_pos c49] at H
         have c49b0 : (t300 == t298) = true := beq_iff_eq.mpr c49
         have c49b1 : (t300 != t298) = false := bne_eq_false_iff_eq.mpr c49
         clear c49
         replace H := Option.bind_eq_some_iff.mp H
         obtain ⟨⟨t301, t302, t303, t304⟩, A500, H⟩ := H
         (try dsimp only at H)
         have A50 := aM_ A500; clear A500
         replace H := Option.bind_eq_some_iff.mp H
         obtain ⟨t307, A510, H⟩ := H
         (try dsimp only at H)
         have A51 := aM_ A510; clear A510
         replace H := Option.bind_eq_some_iff.mp H
         obtain ⟨t310, A520, H⟩ := H
         (try dsimp only at H)
         have A52 := aM_ A520; clear A520
         by_cases c53 : t310 = true
         ·subst c53
          have H1 : ((laws_heldIntS.f kj19 t299 1).bind fun t311 => (if t311 < 0 then (some false) else (if t311 = t298 then (some true) else (some false)))) = some r := by rw [if_pos rfl] at H; exact H
          clear H; have H := H1; clear H1
          replace H := Option.bind_eq_some_iff.mp H
          obtain ⟨t311, A540, H⟩ := H
          (try dsimp only at H)
          have A54 := aM_ A540; clear A540
          by_cases c55 : t311 < 0
          ·rw [if_pos c55] at H
           have c55b0 : decide (t311 < 0) = true := decide_eq_true c55
           clear c55
           exact absurd ((Option.some.inj H).trans HTRUE.out) (by decide)
          ·rw [if_neg c55] at H
           have c55b0 : decide (t311 < 0) = false := decide_eq_false c55
           clear c55
           by_cases c56 : t311 = t298
           ·rw [if_pos c56] at H
            have c56b0 : (t311 == t298) = true := beq_iff_eq.mpr c56
            have c56b1 : (t311 != t298) = false := bne_eq_false_iff_eq.mpr c56
            clear c56
            obtain rfl := Option.some.inj H
            go_wp2_with (first | ((with_reducible refine gate_callee (f := 36) rfl ?_); refine goesL_ (some 57) rfl rfl Try.func36 (by kernel_rfl) rfl #[.slice Ao35 t285.length co35, .int .i64 1] rfl (by (try simp only [List.map_toArray, List.map_cons, List.map_nil]); first | done | rfl | (simp only [List.length_drop, List.length_take]; rfl)) ?_; (with_reducible refine (laws_markIntS.calls kj19 (fun k_ => some k_ = (.slice Ao35 t285.length co35 : Value).ownBlock) (.slice Ao35 t285.length co35) t285 1 t298 t299 w _ ?side1 ?side2 A46.out).mono ?_); (case side1 => repeat (first | (with_reducible first | exact HB.out | apply wA_ | apply wN_ | apply wD_ | refine wE_ ?_ GE267.out) | exact HB.out)); (case side2 => exact Kd.R_tight rfl HO_12.out); rintro e w57 ⟨rfl, hy0, hb, hkp⟩; refine ⟨_, rfl, ?_⟩; have n0_ := aM_ (Kd.R_mono (ok' := fun k_ => some k_ ≠ (.slice Ao35 t285.length co35 : Value).ownBlock) (Kd.R_keptB (HO_10.out) hkp (fun k_ hk_ hs_ => (hk_) hs_)) (fun k_ hk_ => hk_.1)); have n1_ := aM_ (Kd.R_reok rfl hy0 (fun k_ e_ => HO_12.out.1 k_ e_)); have n2_ := aM_ (blk_kept (by (with_reducible repeat (first | refine bN_ ?_ _ | refine bD_ ?_ | refine bA_ ?_ _)); exact BK267.out) hkp (fun hs_ => (fun e_ => (Kd.R_ne HO_12.out BK267.out (by decide)) e_) hs_)); have n3_ := aM_ (hb); clear HO_10; clear HO_12; clear BK267; clear HB; have HO_10 := n0_; have HO_12 := n1_; have BK267 := n2_; have HB := n3_; clear n0_ n1_ n2_ n3_; (try clear hb); (try clear hkp); (try clear hy0)) | ((with_reducible refine gate_callee (f := 37) rfl ?_); refine goesL_ (some 60) rfl rfl Try.func37 (by kernel_rfl) rfl #[.slice Ao35 t299.length co35, .int .i64 1] rfl (by (try simp only [List.map_toArray, List.map_cons, List.map_nil]); first | done | (rw [show t299.length = t285.length from (Kd.R_reads' HO_12.out).1.symm] <;> rfl) | rfl | (simp only [List.length_drop, List.length_take]; rfl)) ?_; (with_reducible refine (laws_heldIntS.calls kj19 _ _ t299 1 t300 _ ?side1 ?side2 A47.out).mono ?_); (case side1 => repeat (first | exact (Kd.R_reads' HO_12.out).2.2 | (with_reducible refine cA_ ?_ _) | (with_reducible refine cN_ ?_ _) | (with_reducible refine cD_ ?_))); (case side2 => rw [show t299.length = t285.length from (Kd.R_reads' HO_12.out).1.symm]; exact (Kd.R_reads' HO_12.out).2.1); rintro e w' ⟨rfl, ⟨nd, rfl⟩⟩; refine ⟨_, rfl, ?_⟩; have hcz58_0 : w57.cell? ⟨gb267, 0, none⟩ = some (.int .i64 a0_0) := (blk_cell BK267.out 0).trans rfl; have hcz58_1 : w57.cell? ⟨gb267, 1, none⟩ = some (.int .i64 a0_1) := (blk_cell BK267.out 1).trans rfl; have hcz58_2 : w57.cell? ⟨gb267, 2, none⟩ = some (.int .i64 a0_2) := (blk_cell BK267.out 2).trans rfl; have hcz58_3 : w57.cell? ⟨gb267, 3, none⟩ = some (.slice A0_3 l0_3.length c0_3) := (blk_cell BK267.out 3).trans rfl; have hfz58_0 := blk_frozen BK267.out 0; have hfz58_1 := blk_frozen BK267.out 1; have hfz58_2 := blk_frozen BK267.out 2; have hfz58_3 := blk_frozen BK267.out 3) | ((with_reducible refine gate_callee (f := 14) rfl ?_); refine goesL_ (some 67) rfl rfl Try.func14 (by kernel_rfl) rfl #[.agg #[.int .i64 a0_0, .int .i64 a0_1, .int .i64 a0_2, .slice A0_3 l0_3.length c0_3]] rfl (by (try simp only [List.map_toArray, List.map_cons, List.map_nil]); first | done | rfl | (simp only [List.length_drop, List.length_take]; rfl)) ?_; (with_reducible refine (laws_toProgram.calls kj19 a0_0 a0_1 a0_2 _ _ l0_3 t301 t302 t303 t304 _ ?side1 ?side2 A50.out).mono ?_); (case side1 => repeat (first | exact (Kd.C_below HR0_3.out (by repeat (first | (with_reducible first | exact HB.out | apply wA_ | apply wN_ | apply wD_ | refine wE_ ?_ GE267.out) | exact HB.out))) | (with_reducible refine cA_ ?_ _) | (with_reducible refine cN_ ?_ _) | (with_reducible refine cD_ ?_))); (case side2 => exact HC0_3.out); rintro e w59 ⟨v305, rfl, ho0, hb⟩; refine ⟨_, rfl, ?_⟩; have n0_ := aM_ (rB_ (by (with_reducible repeat (first | apply rA_ | apply rN_ | apply rD_)); exact HO_10.out) hb); have n1_ := aM_ (rB_ (by (with_reducible repeat (first | apply rA_ | apply rN_ | apply rD_)); exact HO_12.out) hb); have n2_ := aM_ (Kd.R_lower (Kd.R_new' (Kd.R_new' ho0 (Kd.R_lt (by (with_reducible repeat (first | apply rA_ | apply rN_ | apply rD_)); exact HO_10.out))) (Kd.R_lt (by (with_reducible repeat (first | apply rA_ | apply rN_ | apply rD_)); exact HO_12.out))) (sZ_ (by repeat (first | (with_reducible first | exact HB.out | apply wA_ | apply wN_ | apply wD_ | refine wE_ ?_ GE267.out) | exact HB.out)))); have n3_ := aM_ (bB_ (g := gb267) (by (with_reducible repeat (first | refine bN_ ?_ _ | refine bD_ ?_ | refine bA_ ?_ _)); exact BK267.out) hb); have n4_ := aM_ (wS_ (by repeat (first | (with_reducible first | exact HB.out | apply wA_ | apply wN_ | apply wD_ | refine wE_ ?_ GE267.out) | exact HB.out)) hb); clear HO_10; clear HO_12; clear BK267; clear HB; have HO_10 := n0_; have HO_12 := n1_; have HO306 := n2_; have BK267 := n3_; have HB := n4_; clear n0_ n1_ n2_ n3_ n4_; (try clear hb); (try clear hb2); (try clear hk); (try clear hi); (try clear ho0); obtain ⟨Ao60, co60, eo60⟩ := Kd.R_slice HO306.out; subst eo60) | ((with_reducible refine gate_callee (f := 34) rfl ?_); refine goesL_ (some 71) rfl rfl Try.func34 (by kernel_rfl) rfl #[.agg #[.int .i64 t301, .int .i64 t302, .int .i64 t303, .slice Ao60 t304.length co60], .int .i64 a1, .int .i64 a2, .int .i64 a3] rfl (by (try simp only [List.map_toArray, List.map_cons, List.map_nil]); first | done | rfl | (simp only [List.length_drop, List.length_take]; rfl)) ?_; (with_reducible refine (impl_ReachFrom.calls kj19 t301 t302 t303 _ _ t304 a1 a2 a3 t307 _ ?side1 ?side2 A51.out).mono ?_); (case side1 => repeat (first | exact (Kd.R_reads' HO306.out).2.2 | (with_reducible refine cA_ ?_ _) | (with_reducible refine cN_ ?_ _) | (with_reducible refine cD_ ?_))); (case side2 => exact (Kd.R_reads' HO306.out).2.1); rintro e w61 ⟨v308, rfl, ho0, hb⟩; refine ⟨_, rfl, ?_⟩; have n0_ := aM_ (Kd.R_elder' (by (with_reducible repeat (first | apply rA_ | apply rN_ | apply rD_)); exact HO_10.out) (Kd.R_base ho0) hb); have n1_ := aM_ (Kd.R_elder' (by (with_reducible repeat (first | apply rA_ | apply rN_ | apply rD_)); exact HO_12.out) (Kd.R_base ho0) hb); have n2_ := aM_ (Kd.R_elder' (by (with_reducible repeat (first | apply rA_ | apply rN_ | apply rD_)); exact HO306.out) (Kd.R_base ho0) hb); have n3_ := aM_ (Kd.R_lower (Kd.R_new' (Kd.R_new' ho0 (Kd.R_lt (by (with_reducible repeat (first | apply rA_ | apply rN_ | apply rD_)); exact HO_10.out))) (Kd.R_lt (by (with_reducible repeat (first | apply rA_ | apply rN_ | apply rD_)); exact HO_12.out))) (sZ_ (by repeat (first | (with_reducible first | exact HB.out | apply wA_ | apply wN_ | apply wD_ | refine wE_ ?_ GE267.out) | exact HB.out)))); have n4_ := aM_ (bB_ (g := gb267) (by (with_reducible repeat (first | refine bN_ ?_ _ | refine bD_ ?_ | refine bA_ ?_ _)); exact BK267.out) hb); have n5_ := aM_ (wS_ (by repeat (first | (with_reducible first | exact HB.out | apply wA_ | apply wN_ | apply wD_ | refine wE_ ?_ GE267.out) | exact HB.out)) hb); clear HO_10; clear HO_12; clear HO306; clear BK267; clear HB; have HO_10 := n0_; have HO_12 := n1_; have HO306 := n2_; have HO309 := n3_; have BK267 := n4_; have HB := n5_; clear n0_ n1_ n2_ n3_ n4_ n5_; (try clear hb); (try clear hb2); (try clear hk); (try clear hi); (try clear ho0); obtain ⟨Ao62, co62, eo62⟩ := Kd.R_slice HO309.out; subst eo62) | ((with_reducible refine gate_callee (f := 35) rfl ?_); refine goesL_ (some 74) rfl rfl Try.func35 (by kernel_rfl) rfl #[.slice Ao62 t307.length co62, .slice Ao36 t275.length co36] rfl (by (try simp only [List.map_toArray, List.map_cons, List.map_nil]); first | done | rfl | (simp only [List.length_drop, List.length_take]; rfl)) ?_; (with_reducible refine (laws_eqIntS.calls kj19 _ _ t307 _ _ t275 true _ ?side1 ?side2 ?side3 ?side4 A52.out).mono ?_); (case side1 => repeat (first | exact (Kd.R_reads' HO309.out).2.2 | (with_reducible refine cA_ ?_ _) | (with_reducible refine cN_ ?_ _) | (with_reducible refine cD_ ?_))); (case side2 => exact (Kd.R_reads' HO309.out).2.1); (case side3 => repeat (first | exact (Kd.R_reads' HO_10.out).2.2 | (with_reducible refine cA_ ?_ _) | (with_reducible refine cN_ ?_ _) | (with_reducible refine cD_ ?_))); (case side4 => exact (Kd.R_reads' HO_10.out).2.1); rintro e w' ⟨rfl, ⟨nd, rfl⟩⟩; refine ⟨_, rfl, ?_⟩) | ((with_reducible refine gate_callee (f := 37) rfl ?_); refine goesL_ (some 78) rfl rfl Try.func37 (by kernel_rfl) rfl #[.slice Ao35 t299.length co35, .int .i64 1] rfl (by (try simp only [List.map_toArray, List.map_cons, List.map_nil]); first | done | (rw [show t299.length = t285.length from (Kd.R_reads' HO_12.out).1.symm] <;> rfl) | rfl | (simp only [List.length_drop, List.length_take]; rfl)) ?_; (with_reducible refine (laws_heldIntS.calls kj19 _ _ t299 1 t311 _ ?side1 ?side2 A54.out).mono ?_); (case side1 => repeat (first | exact (Kd.R_reads' HO_12.out).2.2 | (with_reducible refine cA_ ?_ _) | (with_reducible refine cN_ ?_ _) | (with_reducible refine cD_ ?_))); (case side2 => rw [show t299.length = t285.length from (Kd.R_reads' HO_12.out).1.symm]; exact (Kd.R_reads' HO_12.out).2.1); rintro e w' ⟨rfl, ⟨nd, rfl⟩⟩; refine ⟨_, rfl, ?_⟩))
            go_ret
            exact ⟨by first | rfl | (simp [errW_none, errW_some] <;> rfl) | (simp [*, errW_none, errW_some] <;> rfl), by repeat (first | (with_reducible first | exact HB.out | apply wA_ | apply wN_ | apply wD_ | refine wE_ ?_ GE267.out) | exact HB.out)⟩
           ·rw [if_neg c56] at H
            have c56b0 : (t311 == t298) = false := beq_eq_false_iff_ne.mpr c56
            have c56b1 : (t311 != t298) = true := bne_iff_ne.mpr c56
            exact absurd ((Option.some.inj H).trans HTRUE.out) (by decide)
         ·replace c53 := Bool.eq_false_iff.mpr c53
          subst c53
          have H1 : (some false) = some r := by rw [if_neg (show ¬ (false = true) by decide)] at H; exact H
          clear H; have H := H1; clear H1
          exact absurd ((Option.some.inj H).trans HTRUE.out) (by decide)
        ·rw [if_neg c49] at H
         have c49b0 : (t300 == t298) = false := beq_eq_false_iff_ne.mpr c49
         have c49b1 : (t300 != t298) = true := bne_iff_ne.mpr c49
         exact absurd ((Option.some.inj H).trans HTRUE.out) (by decide)
   ·replace c18 := Bool.eq_false_iff.mpr c18
    subst c18
    have H1 : (some false) = some r := by rw [if_neg (show ¬ (false = true) by decide)] at H; exact H
    clear H; have H := H1; clear H1
    exact absurd ((Option.some.inj H).trans HTRUE.out) (by decide)
  ·replace c15 := Bool.eq_false_iff.mpr c15
   subst c15
   have H1 : (some false) = some r := by rw [if_neg (show ¬ (false = true) by decide)] at H; exact H
   clear H; have H := H1; clear H1
   exact absurd ((Option.some.inj H).trans HTRUE.out) (by decide)

end Go.Proofs.Ytdodogkgmpaioaa.PFnExactReachFrom
