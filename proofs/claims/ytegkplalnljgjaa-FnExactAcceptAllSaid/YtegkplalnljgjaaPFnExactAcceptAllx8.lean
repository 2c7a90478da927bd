/- The functions that the law reaches, as plain Lean functions, each with the proof that the Go code comes to its answers; conditions: those that each theorem names. (printed by a program of this session) -/
import Derived.Test.YtegkplalnljgjaaPFnExactAcceptAllx0
import Derived.Test.YtegkplalnljgjaaPFnExactAcceptAllx4
import Derived.Test.YtegkplalnljgjaaPFnExactAcceptAllx5
import Derived.Test.YtegkplalnljgjaaPFnExactAcceptAllx7
namespace Go.Proofs.Ytegkplalnljgjaa.PFnExactAcceptAll
open Go.RowKit Go.Proofs.YtegkplalnljgjaaW.PrintWords Go.Proofs.YtegkplalnljgjaaW.PrintLast Go.Proofs.YtegkplalnljgjaaW.PrintMore
attribute [local go_sem] max2_int min2_int max_two min_two max_three min_three max_four min_four   -- for this text's walks alone
set_option linter.unusedVariables false
set_option linter.unusedSimpArgs false

/-! ### laws_FnExactAcceptAll: function 7 -/
mutual
def laws_FnExactAcceptAll.j0 : Nat → List Int → List Int → List Int → List Int → Bool → Int → Int → List Int → Int → Int → List Int → Int → Int → List Int → Int → Int → List Int → Option (Bool)
  | 0, _, _, _, _, _, _, _, _, _, _, _, _, _, _, _, _, _ => none
  | k + 1, x1, x7, x9, x11, x52, x343000, x343001, x343002, x361000, x361001, x361002, x367000, x367001, x367002, x379000, x379001, x379002 => if x52 = true then (some false) else ((laws_toStream.f k x343000 x343001 x343002).bind fun bt381 => ((laws_eqStream.f k x367000 x367001 x367002 bt381.1 bt381.2.1 bt381.2.2).bind fun t386 => (if t386 = true then ((laws_toIntS.f k x1).bind fun t387 => ((laws_eqIntS.f k x9 t387).bind fun t390 => (if t390 = true then ((laws_markStream.f k x367000 x367001 x367002 1).bind fun bt391 => ((laws_markIntS.f k x9 bt391.1).bind fun bt393 => (if bt393.1 < 0 then (laws_FnExactAcceptAll.j1 k x1 x7 x11 true x343000 x343001 x343002 x361000 x361001 x361002 x379000 x379001 x379002) else ((laws_eqStream.f k x379000 x379001 x379002 x361000 x361001 x361002).bind fun t395 => (if t395 = true then ((laws_eqIntS.f k x11 x7).bind fun t396 => (laws_FnExactAcceptAll.j1 k x1 x7 x11 (!t396) x343000 x343001 x343002 x361000 x361001 x361002 x379000 x379001 x379002)) else (laws_FnExactAcceptAll.j1 k x1 x7 x11 true x343000 x343001 x343002 x361000 x361001 x361002 x379000 x379001 x379002)))))) else (some false)))) else (some false))))
def laws_FnExactAcceptAll.j1 : Nat → List Int → List Int → List Int → Bool → Int → Int → List Int → Int → Int → List Int → Int → Int → List Int → Option (Bool)
  | 0, _, _, _, _, _, _, _, _, _, _, _, _, _ => none
  | k + 1, x1, x7, x11, x82, x343000, x343001, x343002, x361000, x361001, x361002, x379000, x379001, x379002 => if x82 = true then (some false) else ((laws_markStream.f k x379000 x379001 x379002 1).bind fun bt397 => ((laws_markIntS.f k x11 bt397.1).bind fun bt399 => ((laws_heldStream.f k x379000 x379001 bt397.2 1).bind fun t401 => (if t401 < 0 then (some false) else ((laws_heldIntS.f k bt399.2 t401).bind fun t402 => (if t402 < 0 then (some false) else (if t402 = bt399.1 then ((laws_toStream.f k x343000 x343001 x343002).bind fun bt403 => ((laws_toIntS.f k x1).bind fun t408 => ((impl_AcceptAll.f k bt403.1 bt403.2.1 bt403.2.2 t408).bind fun bt411 => ((laws_eqStream.f k bt411.1 bt411.2.1 bt411.2.2.1 x361000 x361001 x361002).bind fun t420 => (if t420 = true then ((laws_eqIntS.f k bt411.2.2.2 x7).bind fun t421 => (laws_FnExactAcceptAll.j2 k bt399.2 bt399.1 (!t421) x379000 x379001 bt397.2)) else (laws_FnExactAcceptAll.j2 k bt399.2 bt399.1 true x379000 x379001 bt397.2)))))) else (some false))))))))
def laws_FnExactAcceptAll.j2 : Nat → List Int → Int → Bool → Int → Int → List Int → Option (Bool)
  | 0, _, _, _, _, _, _ => none
  | k + 1, x11, x13, x119, x379000, x379001, x379002 => if x119 = true then (some false) else ((laws_heldStream.f k x379000 x379001 x379002 1).bind fun t422 => (if t422 < 0 then (some false) else ((laws_heldIntS.f k x11 t422).bind fun t423 => (if t423 < 0 then (some false) else (if t423 = x13 then (some true) else (some false))))))
end
def laws_FnExactAcceptAll.f (k : Nat) (a0_0 : Int) (a0_1 : Int) (l0_2 : List Int) (l1 : List Int) : Option (Bool) := if (l1.length : Int) > 1048576 then (some true) else ((laws_szStream.f a0_0 a0_1 l0_2 1048576).bind fun t343 => (if t343 < 0 then (some true) else ((laws_toStream.f k a0_0 a0_1 l0_2).bind fun bt344 => ((laws_toIntS.f k l1).bind fun t349 => ((spec_AcceptAll.f k bt344.1 bt344.2.1 bt344.2.2 t349).bind fun bt352 => ((laws_toStream.f k a0_0 a0_1 l0_2).bind fun bt361 => ((laws_toIntS.f k l1).bind fun t367 => ((impl_AcceptAll.f k bt361.1 bt361.2.1 bt361.2.2 t367).bind fun bt370 => ((laws_eqStream.f k bt370.1 bt370.2.1 bt370.2.2.1 bt352.1 bt352.2.1 bt352.2.2.1).bind fun t379 => (if t379 = true then ((laws_eqIntS.f k bt370.2.2.2 bt352.2.2.2).bind fun t380 => (laws_FnExactAcceptAll.j0 k l1 bt352.2.2.2 t367 bt370.2.2.2 (!t380) a0_0 a0_1 l0_2 bt352.1 bt352.2.1 bt352.2.2.1 bt361.1 bt361.2.1 bt361.2.2 bt370.1 bt370.2.1 bt370.2.2.1)) else (laws_FnExactAcceptAll.j0 k l1 bt352.2.2.2 t367 bt370.2.2.2 true a0_0 a0_1 l0_2 bt352.1 bt352.2.1 bt352.2.2.1 bt361.1 bt361.2.1 bt361.2.2 bt370.1 bt370.2.1 bt370.2.2.1)))))))))))
theorem laws_FnExactAcceptAll.mono_l : ∀ k, (∀ y0 y1 y2 y3 y4 y5 y6 y7 y8 y9 y10 y11 y12 y13 y14 y15 y16, LeO (laws_FnExactAcceptAll.j0 k y0 y1 y2 y3 y4 y5 y6 y7 y8 y9 y10 y11 y12 y13 y14 y15 y16) (laws_FnExactAcceptAll.j0 (k + 1) y0 y1 y2 y3 y4 y5 y6 y7 y8 y9 y10 y11 y12 y13 y14 y15 y16)) ∧ (∀ y0 y1 y2 y3 y4 y5 y6 y7 y8 y9 y10 y11 y12, LeO (laws_FnExactAcceptAll.j1 k y0 y1 y2 y3 y4 y5 y6 y7 y8 y9 y10 y11 y12) (laws_FnExactAcceptAll.j1 (k + 1) y0 y1 y2 y3 y4 y5 y6 y7 y8 y9 y10 y11 y12)) ∧ (∀ y0 y1 y2 y3 y4 y5, LeO (laws_FnExactAcceptAll.j2 k y0 y1 y2 y3 y4 y5) (laws_FnExactAcceptAll.j2 (k + 1) y0 y1 y2 y3 y4 y5))
  | 0 => ⟨fun _ _ _ _ _ _ _ _ _ _ _ _ _ _ _ _ _ r h => by simp [laws_FnExactAcceptAll.j0] at h, fun _ _ _ _ _ _ _ _ _ _ _ _ _ r h => by simp [laws_FnExactAcceptAll.j1] at h, fun _ _ _ _ _ _ r h => by simp [laws_FnExactAcceptAll.j2] at h⟩
  | k + 1 => by
    obtain ⟨ih0, ih1, ih2⟩ := laws_FnExactAcceptAll.mono_l k
    refine ⟨?_, ?_, ?_⟩
    · intro y0 y1 y2 y3 y4 y5 y6 y7 y8 y9 y10 y11 y12 y13 y14 y15 y16
      unfold laws_FnExactAcceptAll.j0
      repeat' first
      | (with_reducible exact ih0 _ _ _ _ _ _ _ _ _ _ _ _ _ _ _ _ _)
      | (with_reducible exact ih1 _ _ _ _ _ _ _ _ _ _ _ _ _)
      | (with_reducible exact ih2 _ _ _ _ _ _)
      | (with_reducible exact impl_AcceptAll.mono _ _ _ _ _)
      | (with_reducible exact laws_eqIntS.mono _ _ _)
      | (with_reducible exact laws_eqStream.mono _ _ _ _ _ _ _)
      | (with_reducible exact laws_heldIntS.mono _ _ _)
      | (with_reducible exact laws_heldStream.mono _ _ _ _ _)
      | (with_reducible exact laws_markIntS.mono _ _ _)
      | (with_reducible exact laws_markStream.mono _ _ _ _ _)
      | (with_reducible exact laws_toIntS.mono _ _)
      | (with_reducible exact laws_toStream.mono _ _ _ _)
      | (with_reducible exact spec_AcceptAll.mono _ _ _ _ _)
      | (with_reducible exact LeO.refl _)
      | (with_reducible exact LeO.none _)
      | (with_reducible refine LeO.ite ?_ ?_)
      | (with_reducible refine LeO.bind ?_ (fun _ => ?_))
      | exact ih0 _ _ _ _ _ _ _ _ _ _ _ _ _ _ _ _ _
      | exact ih1 _ _ _ _ _ _ _ _ _ _ _ _ _
      | exact ih2 _ _ _ _ _ _
      | exact impl_AcceptAll.mono _ _ _ _ _
      | exact laws_eqIntS.mono _ _ _
      | exact laws_eqStream.mono _ _ _ _ _ _ _
      | exact laws_heldIntS.mono _ _ _
      | exact laws_heldStream.mono _ _ _ _ _
      | exact laws_markIntS.mono _ _ _
      | exact laws_markStream.mono _ _ _ _ _
      | exact laws_toIntS.mono _ _
      | exact laws_toStream.mono _ _ _ _
      | exact spec_AcceptAll.mono _ _ _ _ _
      | exact LeO.none _
      | refine LeO.ite ?_ ?_
      | refine LeO.bind ?_ (fun _ => ?_)
    · intro y0 y1 y2 y3 y4 y5 y6 y7 y8 y9 y10 y11 y12
      unfold laws_FnExactAcceptAll.j1
      repeat' first
      | (with_reducible exact ih0 _ _ _ _ _ _ _ _ _ _ _ _ _ _ _ _ _)
      | (with_reducible exact ih1 _ _ _ _ _ _ _ _ _ _ _ _ _)
      | (with_reducible exact ih2 _ _ _ _ _ _)
      | (with_reducible exact impl_AcceptAll.mono _ _ _ _ _)
      | (with_reducible exact laws_eqIntS.mono _ _ _)
      | (with_reducible exact laws_eqStream.mono _ _ _ _ _ _ _)
      | (with_reducible exact laws_heldIntS.mono _ _ _)
      | (with_reducible exact laws_heldStream.mono _ _ _ _ _)
      | (with_reducible exact laws_markIntS.mono _ _ _)
      | (with_reducible exact laws_markStream.mono _ _ _ _ _)
      | (with_reducible exact laws_toIntS.mono _ _)
      | (with_reducible exact laws_toStream.mono _ _ _ _)
      | (with_reducible exact spec_AcceptAll.mono _ _ _ _ _)
      | (with_reducible exact LeO.refl _)
      | (with_reducible exact LeO.none _)
      | (with_reducible refine LeO.ite ?_ ?_)
      | (with_reducible refine LeO.bind ?_ (fun _ => ?_))
      | exact ih0 _ _ _ _ _ _ _ _ _ _ _ _ _ _ _ _ _
      | exact ih1 _ _ _ _ _ _ _ _ _ _ _ _ _
      | exact ih2 _ _ _ _ _ _
      | exact impl_AcceptAll.mono _ _ _ _ _
      | exact laws_eqIntS.mono _ _ _
      | exact laws_eqStream.mono _ _ _ _ _ _ _
      | exact laws_heldIntS.mono _ _ _
      | exact laws_heldStream.mono _ _ _ _ _
      | exact laws_markIntS.mono _ _ _
      | exact laws_markStream.mono _ _ _ _ _
      | exact laws_toIntS.mono _ _
      | exact laws_toStream.mono _ _ _ _
      | exact spec_AcceptAll.mono _ _ _ _ _
      | exact LeO.none _
      | refine LeO.ite ?_ ?_
      | refine LeO.bind ?_ (fun _ => ?_)
    · intro y0 y1 y2 y3 y4 y5
      unfold laws_FnExactAcceptAll.j2
      repeat' first
      | (with_reducible exact ih0 _ _ _ _ _ _ _ _ _ _ _ _ _ _ _ _ _)
      | (with_reducible exact ih1 _ _ _ _ _ _ _ _ _ _ _ _ _)
      | (with_reducible exact ih2 _ _ _ _ _ _)
      | (with_reducible exact impl_AcceptAll.mono _ _ _ _ _)
      | (with_reducible exact laws_eqIntS.mono _ _ _)
      | (with_reducible exact laws_eqStream.mono _ _ _ _ _ _ _)
      | (with_reducible exact laws_heldIntS.mono _ _ _)
      | (with_reducible exact laws_heldStream.mono _ _ _ _ _)
      | (with_reducible exact laws_markIntS.mono _ _ _)
      | (with_reducible exact laws_markStream.mono _ _ _ _ _)
      | (with_reducible exact laws_toIntS.mono _ _)
      | (with_reducible exact laws_toStream.mono _ _ _ _)
      | (with_reducible exact spec_AcceptAll.mono _ _ _ _ _)
      | (with_reducible exact LeO.refl _)
      | (with_reducible exact LeO.none _)
      | (with_reducible refine LeO.ite ?_ ?_)
      | (with_reducible refine LeO.bind ?_ (fun _ => ?_))
      | exact ih0 _ _ _ _ _ _ _ _ _ _ _ _ _ _ _ _ _
      | exact ih1 _ _ _ _ _ _ _ _ _ _ _ _ _
      | exact ih2 _ _ _ _ _ _
      | exact impl_AcceptAll.mono _ _ _ _ _
      | exact laws_eqIntS.mono _ _ _
      | exact laws_eqStream.mono _ _ _ _ _ _ _
      | exact laws_heldIntS.mono _ _ _
      | exact laws_heldStream.mono _ _ _ _ _
      | exact laws_markIntS.mono _ _ _
      | exact laws_markStream.mono _ _ _ _ _
      | exact laws_toIntS.mono _ _
      | exact laws_toStream.mono _ _ _ _
      | exact spec_AcceptAll.mono _ _ _ _ _
      | exact LeO.none _
      | refine LeO.ite ?_ ?_
      | refine LeO.bind ?_ (fun _ => ?_)
theorem laws_FnExactAcceptAll.mono : ∀ a0 a1 a2 a3 k, LeO (laws_FnExactAcceptAll.f k a0 a1 a2 a3) (laws_FnExactAcceptAll.f (k + 1) a0 a1 a2 a3) := by
  intro a0 a1 a2 a3 k
  obtain ⟨ih0, ih1, ih2⟩ := laws_FnExactAcceptAll.mono_l k
  unfold laws_FnExactAcceptAll.f
  repeat' first
      | (with_reducible exact ih0 _ _ _ _ _ _ _ _ _ _ _ _ _ _ _ _ _)
      | (with_reducible exact ih1 _ _ _ _ _ _ _ _ _ _ _ _ _)
      | (with_reducible exact ih2 _ _ _ _ _ _)
      | (with_reducible exact impl_AcceptAll.mono _ _ _ _ _)
      | (with_reducible exact laws_eqIntS.mono _ _ _)
      | (with_reducible exact laws_eqStream.mono _ _ _ _ _ _ _)
      | (with_reducible exact laws_heldIntS.mono _ _ _)
      | (with_reducible exact laws_heldStream.mono _ _ _ _ _)
      | (with_reducible exact laws_markIntS.mono _ _ _)
      | (with_reducible exact laws_markStream.mono _ _ _ _ _)
      | (with_reducible exact laws_toIntS.mono _ _)
      | (with_reducible exact laws_toStream.mono _ _ _ _)
      | (with_reducible exact spec_AcceptAll.mono _ _ _ _ _)
      | (with_reducible exact LeO.refl _)
      | (with_reducible exact LeO.none _)
      | (with_reducible refine LeO.ite ?_ ?_)
      | (with_reducible refine LeO.bind ?_ (fun _ => ?_))
      | exact ih0 _ _ _ _ _ _ _ _ _ _ _ _ _ _ _ _ _
      | exact ih1 _ _ _ _ _ _ _ _ _ _ _ _ _
      | exact ih2 _ _ _ _ _ _
      | exact impl_AcceptAll.mono _ _ _ _ _
      | exact laws_eqIntS.mono _ _ _
      | exact laws_eqStream.mono _ _ _ _ _ _ _
      | exact laws_heldIntS.mono _ _ _
      | exact laws_heldStream.mono _ _ _ _ _
      | exact laws_markIntS.mono _ _ _
      | exact laws_markStream.mono _ _ _ _ _
      | exact laws_toIntS.mono _ _
      | exact laws_toStream.mono _ _ _ _
      | exact spec_AcceptAll.mono _ _ _ _ _
      | exact LeO.none _
      | refine LeO.ite ?_ ?_
      | refine LeO.bind ?_ (fun _ => ?_)
set_option maxHeartbeats 8000000 in
set_option maxRecDepth 100000 in
theorem laws_FnExactAcceptAll.calls (k : Nat) (a0_0 : Int) (a0_1 : Int) (A0_2 : Option Addr) (c0_2 : Nat) (l0_2 : List Int) (A1 : Option Addr) (c1 : Nat) (l1 : List Int) (r : Bool) (w : World) (hr0_2 : Kd.C (Kd.int .i64) w A0_2 l0_2.length l0_2) (hc0_2 : l0_2.length ≤ c0_2) (hr1 : Kd.C (Kd.int .i64) w A1 l1.length l1) (hc1 : l1.length ≤ c1) (hr_ : r = true) (h : laws_FnExactAcceptAll.f k a0_0 a0_1 l0_2 l1 = some r) :
    Calls Try.prog 7 #[.agg #[.int .i64 a0_0, .int .i64 a0_1, .slice A0_2 l0_2.length c0_2], .slice A1 l1.length c1] w fun e w' => e = .returned (.bool r) ∧ Below w.heap.size w w' := by
  have hu53 := Try.underlying53
  have hu45 := Try.underlying45
  have HR0_2 := Aside0.mk hr0_2
  have HC0_2 := Aside0.mk hc0_2
  clear hr0_2 hc0_2
  have HR1 := Aside0.mk hr1
  have HC1 := Aside0.mk hc1
  clear hr1 hc1
  have HB := Aside0.mk (Below.refl w.heap.size w)
  have H : (if (l1.length : Int) > 1048576 then (some true) else ((laws_szStream.f a0_0 a0_1 l0_2 1048576).bind fun t343 => (if t343 < 0 then (some true) else ((laws_toStream.f k a0_0 a0_1 l0_2).bind fun bt344 => ((laws_toIntS.f k l1).bind fun t349 => ((spec_AcceptAll.f k bt344.1 bt344.2.1 bt344.2.2 t349).bind fun bt352 => ((laws_toStream.f k a0_0 a0_1 l0_2).bind fun bt361 => ((laws_toIntS.f k l1).bind fun t367 => ((impl_AcceptAll.f k bt361.1 bt361.2.1 bt361.2.2 t367).bind fun bt370 => ((laws_eqStream.f k bt370.1 bt370.2.1 bt370.2.2.1 bt352.1 bt352.2.1 bt352.2.2.1).bind fun t379 => (if t379 = true then ((laws_eqIntS.f k bt370.2.2.2 bt352.2.2.2).bind fun t380 => (laws_FnExactAcceptAll.j0 k l1 bt352.2.2.2 t367 bt370.2.2.2 (!t380) a0_0 a0_1 l0_2 bt352.1 bt352.2.1 bt352.2.2.1 bt361.1 bt361.2.1 bt361.2.2 bt370.1 bt370.2.1 bt370.2.2.1)) else (laws_FnExactAcceptAll.j0 k l1 bt352.2.2.2 t367 bt370.2.2.2 true a0_0 a0_1 l0_2 bt352.1 bt352.2.1 bt352.2.2.1 bt361.1 bt361.2.1 bt361.2.2 bt370.1 bt370.2.1 bt370.2.2.1)))))))))))) = some r := h
  clear h
  have HTRUE := Aside0.mk hr_
  clear hr_
  by_cases c3 : (l1.length : Int) > 1048576
  · rw [if_pos c3] at H
    have c3b0 : decide (1048576 < (l1.length : Int)) = true := decide_eq_true c3
    have c3b1 : decide (1048576 < l1.length) = true := decide_eq_true (by omega)
    clear c3
    obtain rfl := Option.some.inj H
    go_enter Try.func7, Try.ntmps7
    go_wp2_with (first | ((with_reducible refine gate_dst (N := 2) rfl ?_); refine box_event ?hg (N := 2) ?hd (cs := #[.int .i64 a0_0, .int .i64 a0_1, .slice A0_2 l0_2.length c0_2]) (t := 53) ?hr ?_; (case hd => rfl); (case hg => rfl); (case hr => first | (go_simp; done) | (go_simp; rfl)); intro gb342 hg w4 hbox hb; have n0_ := Aside0.mk (below_step (by repeat (first | (with_reducible first | exact HB.out | apply below_alloc | apply pw_below_drewN | apply below_drew1) | exact HB.out)) hb); have n1_ := Aside0.mk (hbox); have n2_ := Aside0.mk ((by rw [hg]; exact (below_size (by repeat (first | (with_reducible first | exact HB.out | apply below_alloc | apply pw_below_drewN | apply below_drew1) | exact HB.out))) : w.heap.size ≤ gb342)); have n3_ := Aside0.mk ((by rw [hg]; exact (below_size (by repeat (first | (with_reducible first | exact HB.out | apply below_alloc | apply pw_below_drewN | apply below_drew1) | exact HB.out))) : w.heap.size ≤ gb342)); clear HB; have HB := n0_; have BK342 := n1_; have GW342 := n2_; have GE342 := n3_; clear n0_ n1_ n2_ n3_; clear hb hbox hg))
    go_ret
    exact ⟨by first | rfl | (simp [errW_none, errW_some] <;> rfl) | (simp [*, errW_none, errW_some] <;> rfl), by repeat (first | (with_reducible first | exact HB.out | apply below_alloc | apply pw_below_drewN | apply below_drew1 | refine below_set ?_ GE342.out) | exact HB.out)⟩
  · rw [if_neg c3] at H
    have c3b0 : decide (1048576 < (l1.length : Int)) = false := decide_eq_false c3
    have c3b1 : decide (1048576 < l1.length) = false := decide_eq_false (by omega)
    clear c3
    replace H := Option.bind_eq_some_iff.mp H
    obtain ⟨t343, A50, H⟩ := H
    replace H : (if t343 < 0 then (some true) else ((laws_toStream.f k a0_0 a0_1 l0_2).bind fun bt344 => ((laws_toIntS.f k l1).bind fun t349 => ((spec_AcceptAll.f k bt344.1 bt344.2.1 bt344.2.2 t349).bind fun bt352 => ((laws_toStream.f k a0_0 a0_1 l0_2).bind fun bt361 => ((laws_toIntS.f k l1).bind fun t367 => ((impl_AcceptAll.f k bt361.1 bt361.2.1 bt361.2.2 t367).bind fun bt370 => ((laws_eqStream.f k bt370.1 bt370.2.1 bt370.2.2.1 bt352.1 bt352.2.1 bt352.2.2.1).bind fun t379 => (if t379 = true then ((laws_eqIntS.f k bt370.2.2.2 bt352.2.2.2).bind fun t380 => (laws_FnExactAcceptAll.j0 k l1 bt352.2.2.2 t367 bt370.2.2.2 (!t380) a0_0 a0_1 l0_2 bt352.1 bt352.2.1 bt352.2.2.1 bt361.1 bt361.2.1 bt361.2.2 bt370.1 bt370.2.1 bt370.2.2.1)) else (laws_FnExactAcceptAll.j0 k l1 bt352.2.2.2 t367 bt370.2.2.2 true a0_0 a0_1 l0_2 bt352.1 bt352.2.1 bt352.2.2.1 bt361.1 bt361.2.1 bt361.2.2 bt370.1 bt370.2.1 bt370.2.2.1)))))))))) = some r := H
    have A5 := Aside0.mk A50
    clear A50
    by_cases c6 : t343 < 0
    · rw [if_pos c6] at H
      have c6b0 : decide (t343 < 0) = true := decide_eq_true c6
      clear c6
      obtain rfl := Option.some.inj H
      go_enter Try.func7, Try.ntmps7
      go_wp2_with (first | ((with_reducible refine gate_dst (N := 2) rfl ?_); refine box_event ?hg (N := 2) ?hd (cs := #[.int .i64 a0_0, .int .i64 a0_1, .slice A0_2 l0_2.length c0_2]) (t := 53) ?hr ?_; (case hd => rfl); (case hg => rfl); (case hr => first | (go_simp; done) | (go_simp; rfl)); intro gb342 hg w7 hbox hb; have n0_ := Aside0.mk (below_step (by repeat (first | (with_reducible first | exact HB.out | apply below_alloc | apply pw_below_drewN | apply below_drew1) | exact HB.out)) hb); have n1_ := Aside0.mk (hbox); have n2_ := Aside0.mk ((by rw [hg]; exact (below_size (by repeat (first | (with_reducible first | exact HB.out | apply below_alloc | apply pw_below_drewN | apply below_drew1) | exact HB.out))) : w.heap.size ≤ gb342)); have n3_ := Aside0.mk ((by rw [hg]; exact (below_size (by repeat (first | (with_reducible first | exact HB.out | apply below_alloc | apply pw_below_drewN | apply below_drew1) | exact HB.out))) : w.heap.size ≤ gb342)); clear HB; have HB := n0_; have BK342 := n1_; have GW342 := n2_; have GE342 := n3_; clear n0_ n1_ n2_ n3_; clear hb hbox hg; have hcz8_0 : w7.cell? ⟨gb342, 0, none⟩ = some (.int .i64 a0_0) := (blk_cell BK342.out 0).trans rfl; have hcz8_1 : w7.cell? ⟨gb342, 1, none⟩ = some (.int .i64 a0_1) := (blk_cell BK342.out 1).trans rfl; have hcz8_2 : w7.cell? ⟨gb342, 2, none⟩ = some (.slice A0_2 l0_2.length c0_2) := (blk_cell BK342.out 2).trans rfl; have hfz8_0 := blk_frozen BK342.out 0; have hfz8_1 := blk_frozen BK342.out 1; have hfz8_2 := blk_frozen BK342.out 2) | ((with_reducible refine gate_callee (f := 32) rfl ?_); refine goesL_ (some 22) rfl rfl Try.func32 (by kernel_rfl) rfl #[.agg #[.int .i64 a0_0, .int .i64 a0_1, .slice A0_2 l0_2.length c0_2], .int .i64 1048576] rfl (by (try simp only [List.map_toArray, List.map_cons, List.map_nil]); first | done | rfl | (simp only [List.length_drop, List.length_take]; rfl)) ?_; (with_reducible refine (laws_szStream.calls a0_0 a0_1 _ _ l0_2 1048576 t343 _ ?side1 ?side2 A5.out).mono ?_); (case side1 => repeat (first | exact (Kd.C_below HR0_2.out HB.out) | (with_reducible refine Kd.C_alloc ?_ _) | (with_reducible refine Kd.C_drewN ?_ _) | (with_reducible refine Kd.C_drew ?_))); (case side2 => exact HC0_2.out); rintro e w9 ⟨rfl, hb⟩; refine ⟨_, rfl, ?_⟩; have n0_ := Aside0.mk (blk_below (g := gb342) (o := .cells #[.int .i64 a0_0, .int .i64 a0_1, .slice A0_2 l0_2.length c0_2] 53 (0, 0)) (by (with_reducible repeat (first | refine blk_drewN ?_ _ | refine blk_drew ?_ | refine blk_alloc ?_ _)); exact BK342.out) hb); have n1_ := Aside0.mk (below_step (by repeat (first | (with_reducible first | exact HB.out | apply below_alloc | apply pw_below_drewN | apply below_drew1 | refine below_set ?_ GE342.out) | exact HB.out)) hb); clear BK342; clear HB; have BK342 := n0_; have HB := n1_; clear n0_ n1_; (try clear hb); (try clear hb2); (try clear hk); (try clear hi)))
      go_ret
      exact ⟨by first | rfl | (simp [errW_none, errW_some] <;> rfl) | (simp [*, errW_none, errW_some] <;> rfl), by repeat (first | (with_reducible first | exact HB.out | apply below_alloc | apply pw_below_drewN | apply below_drew1 | refine below_set ?_ GE342.out) | exact HB.out)⟩
    · rw [if_neg c6] at H
      have c6b0 : decide (t343 < 0) = false := decide_eq_false c6
      clear c6
      replace H := Option.bind_eq_some_iff.mp H
      obtain ⟨⟨t344, t345, t346⟩, A100, H⟩ := H
      replace H : ((laws_toIntS.f k l1).bind fun t349 => ((spec_AcceptAll.f k t344 t345 t346 t349).bind fun bt352 => ((laws_toStream.f k a0_0 a0_1 l0_2).bind fun bt361 => ((laws_toIntS.f k l1).bind fun t367 => ((impl_AcceptAll.f k bt361.1 bt361.2.1 bt361.2.2 t367).bind fun bt370 => ((laws_eqStream.f k bt370.1 bt370.2.1 bt370.2.2.1 bt352.1 bt352.2.1 bt352.2.2.1).bind fun t379 => (if t379 = true then ((laws_eqIntS.f k bt370.2.2.2 bt352.2.2.2).bind fun t380 => (laws_FnExactAcceptAll.j0 k l1 bt352.2.2.2 t367 bt370.2.2.2 (!t380) a0_0 a0_1 l0_2 bt352.1 bt352.2.1 bt352.2.2.1 bt361.1 bt361.2.1 bt361.2.2 bt370.1 bt370.2.1 bt370.2.2.1)) else (laws_FnExactAcceptAll.j0 k l1 bt352.2.2.2 t367 bt370.2.2.2 true a0_0 a0_1 l0_2 bt352.1 bt352.2.1 bt352.2.2.1 bt361.1 bt361.2.1 bt361.2.2 bt370.1 bt370.2.1 bt370.2.2.1)))))))) = some r := H
      have A10 := Aside0.mk A100
      clear A100
      replace H := Option.bind_eq_some_iff.mp H
      obtain ⟨t349, A110, H⟩ := H
      replace H : ((spec_AcceptAll.f k t344 t345 t346 t349).bind fun bt352 => ((laws_toStream.f k a0_0 a0_1 l0_2).bind fun bt361 => ((laws_toIntS.f k l1).bind fun t367 => ((impl_AcceptAll.f k bt361.1 bt361.2.1 bt361.2.2 t367).bind fun bt370 => ((laws_eqStream.f k bt370.1 bt370.2.1 bt370.2.2.1 bt352.1 bt352.2.1 bt352.2.2.1).bind fun t379 => (if t379 = true then ((laws_eqIntS.f k bt370.2.2.2 bt352.2.2.2).bind fun t380 => (laws_FnExactAcceptAll.j0 k l1 bt352.2.2.2 t367 bt370.2.2.2 (!t380) a0_0 a0_1 l0_2 bt352.1 bt352.2.1 bt352.2.2.1 bt361.1 bt361.2.1 bt361.2.2 bt370.1 bt370.2.1 bt370.2.2.1)) else (laws_FnExactAcceptAll.j0 k l1 bt352.2.2.2 t367 bt370.2.2.2 true a0_0 a0_1 l0_2 bt352.1 bt352.2.1 bt352.2.2.1 bt361.1 bt361.2.1 bt361.2.2 bt370.1 bt370.2.1 bt370.2.2.1))))))) = some r := H
      have A11 := Aside0.mk A110
      clear A110
      replace H := Option.bind_eq_some_iff.mp H
      obtain ⟨⟨t352, t353, t354, t357⟩, A120, H⟩ := H
      replace H : ((laws_toStream.f k a0_0 a0_1 l0_2).bind fun bt361 => ((laws_toIntS.f k l1).bind fun t367 => ((impl_AcceptAll.f k bt361.1 bt361.2.1 bt361.2.2 t367).bind fun bt370 => ((laws_eqStream.f k bt370.1 bt370.2.1 bt370.2.2.1 t352 t353 t354).bind fun t379 => (if t379 = true then ((laws_eqIntS.f k bt370.2.2.2 t357).bind fun t380 => (laws_FnExactAcceptAll.j0 k l1 t357 t367 bt370.2.2.2 (!t380) a0_0 a0_1 l0_2 t352 t353 t354 bt361.1 bt361.2.1 bt361.2.2 bt370.1 bt370.2.1 bt370.2.2.1)) else (laws_FnExactAcceptAll.j0 k l1 t357 t367 bt370.2.2.2 true a0_0 a0_1 l0_2 t352 t353 t354 bt361.1 bt361.2.1 bt361.2.2 bt370.1 bt370.2.1 bt370.2.2.1)))))) = some r := H
      have A12 := Aside0.mk A120
      clear A120
      replace H := Option.bind_eq_some_iff.mp H
      obtain ⟨⟨t361, t362, t363⟩, A130, H⟩ := H
      replace H : ((laws_toIntS.f k l1).bind fun t367 => ((impl_AcceptAll.f k t361 t362 t363 t367).bind fun bt370 => ((laws_eqStream.f k bt370.1 bt370.2.1 bt370.2.2.1 t352 t353 t354).bind fun t379 => (if t379 = true then ((laws_eqIntS.f k bt370.2.2.2 t357).bind fun t380 => (laws_FnExactAcceptAll.j0 k l1 t357 t367 bt370.2.2.2 (!t380) a0_0 a0_1 l0_2 t352 t353 t354 t361 t362 t363 bt370.1 bt370.2.1 bt370.2.2.1)) else (laws_FnExactAcceptAll.j0 k l1 t357 t367 bt370.2.2.2 true a0_0 a0_1 l0_2 t352 t353 t354 t361 t362 t363 bt370.1 bt370.2.1 bt370.2.2.1))))) = some r := H
      have A13 := Aside0.mk A130
      clear A130
      replace H := Option.bind_eq_some_iff.mp H
      obtain ⟨t367, A140, H⟩ := H
      replace H : ((impl_AcceptAll.f k t361 t362 t363 t367).bind fun bt370 => ((laws_eqStream.f k bt370.1 bt370.2.1 bt370.2.2.1 t352 t353 t354).bind fun t379 => (if t379 = true then ((laws_eqIntS.f k bt370.2.2.2 t357).bind fun t380 => (laws_FnExactAcceptAll.j0 k l1 t357 t367 bt370.2.2.2 (!t380) a0_0 a0_1 l0_2 t352 t353 t354 t361 t362 t363 bt370.1 bt370.2.1 bt370.2.2.1)) else (laws_FnExactAcceptAll.j0 k l1 t357 t367 bt370.2.2.2 true a0_0 a0_1 l0_2 t352 t353 t354 t361 t362 t363 bt370.1 bt370.2.1 bt370.2.2.1)))) = some r := H
      have A14 := Aside0.mk A140
      clear A140
      replace H := Option.bind_eq_some_iff.mp H
      obtain ⟨⟨t370, t371, t372, t375⟩, A150, H⟩ := H
      replace H : ((laws_eqStream.f k t370 t371 t372 t352 t353 t354).bind fun t379 => (if t379 = true then ((laws_eqIntS.f k t375 t357).bind fun t380 => (laws_FnExactAcceptAll.j0 k l1 t357 t367 t375 (!t380) a0_0 a0_1 l0_2 t352 t353 t354 t361 t362 t363 t370 t371 t372)) else (laws_FnExactAcceptAll.j0 k l1 t357 t367 t375 true a0_0 a0_1 l0_2 t352 t353 t354 t361 t362 t363 t370 t371 t372))) = some r := H
      have A15 := Aside0.mk A150
      clear A150
      have HC16 := Aside0.mk H
      clear H
      go_enter Try.func7, Try.ntmps7
      go_upto_region 11 with (first | ((with_reducible refine gate_dst (N := 2) rfl ?_); refine box_event ?hg (N := 2) ?hd (cs := #[.int .i64 a0_0, .int .i64 a0_1, .slice A0_2 l0_2.length c0_2]) (t := 53) ?hr ?_; (case hd => rfl); (case hg => rfl); (case hr => first | (go_simp; done) | (go_simp; rfl)); intro gb342 hg w17 hbox hb; have n0_ := Aside0.mk (below_step (by repeat (first | (with_reducible first | exact HB.out | apply below_alloc | apply pw_below_drewN | apply below_drew1) | exact HB.out)) hb); have n1_ := Aside0.mk (hbox); have n2_ := Aside0.mk ((by rw [hg]; exact (below_size (by repeat (first | (with_reducible first | exact HB.out | apply below_alloc | apply pw_below_drewN | apply below_drew1) | exact HB.out))) : w.heap.size ≤ gb342)); have n3_ := Aside0.mk ((by rw [hg]; exact (below_size (by repeat (first | (with_reducible first | exact HB.out | apply below_alloc | apply pw_below_drewN | apply below_drew1) | exact HB.out))) : w.heap.size ≤ gb342)); clear HB; have HB := n0_; have BK342 := n1_; have GW342 := n2_; have GE342 := n3_; clear n0_ n1_ n2_ n3_; clear hb hbox hg; have hcz18_0 : w17.cell? ⟨gb342, 0, none⟩ = some (.int .i64 a0_0) := (blk_cell BK342.out 0).trans rfl; have hcz18_1 : w17.cell? ⟨gb342, 1, none⟩ = some (.int .i64 a0_1) := (blk_cell BK342.out 1).trans rfl; have hcz18_2 : w17.cell? ⟨gb342, 2, none⟩ = some (.slice A0_2 l0_2.length c0_2) := (blk_cell BK342.out 2).trans rfl; have hfz18_0 := blk_frozen BK342.out 0; have hfz18_1 := blk_frozen BK342.out 1; have hfz18_2 := blk_frozen BK342.out 2) | ((with_reducible refine gate_callee (f := 32) rfl ?_); refine goesL_ (some 22) rfl rfl Try.func32 (by kernel_rfl) rfl #[.agg #[.int .i64 a0_0, .int .i64 a0_1, .slice A0_2 l0_2.length c0_2], .int .i64 1048576] rfl (by (try simp only [List.map_toArray, List.map_cons, List.map_nil]); first | done | rfl | (simp only [List.length_drop, List.length_take]; rfl)) ?_; (with_reducible refine (laws_szStream.calls a0_0 a0_1 _ _ l0_2 1048576 t343 _ ?side1 ?side2 A5.out).mono ?_); (case side1 => repeat (first | exact (Kd.C_below HR0_2.out HB.out) | (with_reducible refine Kd.C_alloc ?_ _) | (with_reducible refine Kd.C_drewN ?_ _) | (with_reducible refine Kd.C_drew ?_))); (case side2 => exact HC0_2.out); rintro e w19 ⟨rfl, hb⟩; refine ⟨_, rfl, ?_⟩; have n0_ := Aside0.mk (blk_below (g := gb342) (o := .cells #[.int .i64 a0_0, .int .i64 a0_1, .slice A0_2 l0_2.length c0_2] 53 (0, 0)) (by (with_reducible repeat (first | refine blk_drewN ?_ _ | refine blk_drew ?_ | refine blk_alloc ?_ _)); exact BK342.out) hb); have n1_ := Aside0.mk (below_step (by repeat (first | (with_reducible first | exact HB.out | apply below_alloc | apply pw_below_drewN | apply below_drew1 | refine below_set ?_ GE342.out) | exact HB.out)) hb); clear BK342; clear HB; have BK342 := n0_; have HB := n1_; clear n0_ n1_; (try clear hb); (try clear hb2); (try clear hk); (try clear hi); have hcz20_0 : w19.cell? ⟨gb342, 0, none⟩ = some (.int .i64 a0_0) := (blk_cell BK342.out 0).trans rfl; have hcz20_1 : w19.cell? ⟨gb342, 1, none⟩ = some (.int .i64 a0_1) := (blk_cell BK342.out 1).trans rfl; have hcz20_2 : w19.cell? ⟨gb342, 2, none⟩ = some (.slice A0_2 l0_2.length c0_2) := (blk_cell BK342.out 2).trans rfl; have hfz20_0 := blk_frozen BK342.out 0; have hfz20_1 := blk_frozen BK342.out 1; have hfz20_2 := blk_frozen BK342.out 2) | ((with_reducible refine gate_callee (f := 34) rfl ?_); refine goesL_ (some 27) rfl rfl Try.func34 (by kernel_rfl) rfl #[.agg #[.int .i64 a0_0, .int .i64 a0_1, .slice A0_2 l0_2.length c0_2]] rfl (by (try simp only [List.map_toArray, List.map_cons, List.map_nil]); first | done | rfl | (simp only [List.length_drop, List.length_take]; rfl)) ?_; (with_reducible refine (laws_toStream.calls k a0_0 a0_1 _ _ l0_2 t344 t345 t346 _ ?side1 ?side2 A10.out).mono ?_); (case side1 => repeat (first | exact (Kd.C_below HR0_2.out HB.out) | (with_reducible refine Kd.C_alloc ?_ _) | (with_reducible refine Kd.C_drewN ?_ _) | (with_reducible refine Kd.C_drew ?_))); (case side2 => exact HC0_2.out); rintro e w21 ⟨v347, rfl, ho0, hb⟩; refine ⟨_, rfl, ?_⟩; have n0_ := Aside0.mk (Kd.R_lower ho0 (below_size (by repeat (first | (with_reducible first | exact HB.out | apply below_alloc | apply pw_below_drewN | apply below_drew1 | refine below_set ?_ GE342.out) | exact HB.out)))); have n1_ := Aside0.mk (blk_below (g := gb342) (o := .cells #[.int .i64 a0_0, .int .i64 a0_1, .slice A0_2 l0_2.length c0_2] 53 (0, 0)) (by (with_reducible repeat (first | refine blk_drewN ?_ _ | refine blk_drew ?_ | refine blk_alloc ?_ _)); exact BK342.out) hb); have n2_ := Aside0.mk (below_step (by repeat (first | (with_reducible first | exact HB.out | apply below_alloc | apply pw_below_drewN | apply below_drew1 | refine below_set ?_ GE342.out) | exact HB.out)) hb); clear BK342; clear HB; have HO348 := n0_; have BK342 := n1_; have HB := n2_; clear n0_ n1_ n2_; (try clear hb); (try clear hb2); (try clear hk); (try clear hi); (try clear ho0)) | ((with_reducible refine gate_callee (f := 43) rfl ?_); refine goesL_ (some 29) rfl rfl Try.func43 (by kernel_rfl) rfl #[.slice A1 l1.length c1] rfl (by (try simp only [List.map_toArray, List.map_cons, List.map_nil]); first | done | rfl | (simp only [List.length_drop, List.length_take]; rfl)) ?_; (with_reducible refine (laws_toIntS.calls k _ _ l1 t349 _ ?side1 ?side2 A11.out).mono ?_); (case side1 => repeat (first | exact (Kd.C_below HR1.out HB.out) | (with_reducible refine Kd.C_alloc ?_ _) | (with_reducible refine Kd.C_drewN ?_ _) | (with_reducible refine Kd.C_drew ?_))); (case side2 => exact HC1.out); rintro e w22 ⟨v350, rfl, ho0, hb⟩; refine ⟨_, rfl, ?_⟩; have n0_ := Aside0.mk (Kd.R_elder' (by (with_reducible repeat (first | apply Kd.R_alloc | apply Kd.R_drewN | apply Kd.R_drew)); exact HO348.out) (Kd.R_base ho0) hb); have n1_ := Aside0.mk (Kd.R_lower (Kd.R_new' ho0 (Kd.R_lt (by (with_reducible repeat (first | apply Kd.R_alloc | apply Kd.R_drewN | apply Kd.R_drew)); exact HO348.out))) (below_size (by repeat (first | (with_reducible first | exact HB.out | apply below_alloc | apply pw_below_drewN | apply below_drew1 | refine below_set ?_ GE342.out) | exact HB.out)))); have n2_ := Aside0.mk (blk_below (g := gb342) (o := .cells #[.int .i64 a0_0, .int .i64 a0_1, .slice A0_2 l0_2.length c0_2] 53 (0, 0)) (by (with_reducible repeat (first | refine blk_drewN ?_ _ | refine blk_drew ?_ | refine blk_alloc ?_ _)); exact BK342.out) hb); have n3_ := Aside0.mk (below_step (by repeat (first | (with_reducible first | exact HB.out | apply below_alloc | apply pw_below_drewN | apply below_drew1 | refine below_set ?_ GE342.out) | exact HB.out)) hb); clear HO348; clear BK342; clear HB; have HO348 := n0_; have HO351 := n1_; have BK342 := n2_; have HB := n3_; clear n0_ n1_ n2_ n3_; (try clear hb); (try clear hb2); (try clear hk); (try clear hi); (try clear ho0); obtain ⟨Ao23, co23, eo23⟩ := Kd.R_slice HO348.out; subst eo23; obtain ⟨Ao24, co24, eo24⟩ := Kd.R_slice HO351.out; subst eo24) | ((with_reducible refine gate_callee (f := 42) rfl ?_); refine goesL_ (some 30) rfl rfl Try.func42 (by kernel_rfl) rfl #[.agg #[.int .i64 t344, .int .i64 t345, .slice Ao23 t346.length co23], .slice Ao24 t349.length co24] rfl (by (try simp only [List.map_toArray, List.map_cons, List.map_nil]); first | done | rfl | (simp only [List.length_drop, List.length_take]; rfl)) ?_; (with_reducible refine (spec_AcceptAll.calls k t344 t345 _ _ t346 _ _ t349 t352 t353 t354 t357 _ ?side1 ?side2 ?side3 ?side4 A12.out).mono ?_); (case side1 => repeat (first | exact (Kd.R_reads' HO348.out).2.2 | (with_reducible refine Kd.C_alloc ?_ _) | (with_reducible refine Kd.C_drewN ?_ _) | (with_reducible refine Kd.C_drew ?_))); (case side2 => exact (Kd.R_reads' HO348.out).2.1); (case side3 => repeat (first | exact (Kd.R_reads' HO351.out).2.2 | (with_reducible refine Kd.C_alloc ?_ _) | (with_reducible refine Kd.C_drewN ?_ _) | (with_reducible refine Kd.C_drew ?_))); (case side4 => exact (Kd.R_reads' HO351.out).2.1); rintro e w25 ⟨v355, v358, rfl, ho0, ho1, hb⟩; refine ⟨_, rfl, ?_⟩; have n0_ := Aside0.mk (Kd.R_mono (Kd.R_told (Kd.R_told (Kd.R_old (by (with_reducible repeat (first | apply Kd.R_alloc | apply Kd.R_drewN | apply Kd.R_drew)); exact HO348.out) hb) (Kd.R_base ho0)) (Kd.R_base ho1)) (fun _ h_ => h_.1)); have n1_ := Aside0.mk (Kd.R_mono (Kd.R_told (Kd.R_told (Kd.R_old (by (with_reducible repeat (first | apply Kd.R_alloc | apply Kd.R_drewN | apply Kd.R_drew)); exact HO351.out) hb) (Kd.R_base ho0)) (Kd.R_base ho1)) (fun _ h_ => h_.1)); have n2_ := Aside0.mk (Kd.R_lower (Kd.R_new' (Kd.R_new' ho0 (Kd.R_lt (by (with_reducible repeat (first | apply Kd.R_alloc | apply Kd.R_drewN | apply Kd.R_drew)); exact HO348.out))) (Kd.R_lt (by (with_reducible repeat (first | apply Kd.R_alloc | apply Kd.R_drewN | apply Kd.R_drew)); exact HO351.out))) (below_size (by repeat (first | (with_reducible first | exact HB.out | apply below_alloc | apply pw_below_drewN | apply below_drew1 | refine below_set ?_ GE342.out) | exact HB.out)))); have n3_ := Aside0.mk (Kd.R_lower (Kd.R_new' (Kd.R_new' ho1 (Kd.R_lt (by (with_reducible repeat (first | apply Kd.R_alloc | apply Kd.R_drewN | apply Kd.R_drew)); exact HO348.out))) (Kd.R_lt (by (with_reducible repeat (first | apply Kd.R_alloc | apply Kd.R_drewN | apply Kd.R_drew)); exact HO351.out))) (below_size (by repeat (first | (with_reducible first | exact HB.out | apply below_alloc | apply pw_below_drewN | apply below_drew1 | refine below_set ?_ GE342.out) | exact HB.out)))); have n4_ := Aside0.mk (blk_below (g := gb342) (o := .cells #[.int .i64 a0_0, .int .i64 a0_1, .slice A0_2 l0_2.length c0_2] 53 (0, 0)) (by (with_reducible repeat (first | refine blk_drewN ?_ _ | refine blk_drew ?_ | refine blk_alloc ?_ _)); exact BK342.out) hb); have n5_ := Aside0.mk (below_step (by repeat (first | (with_reducible first | exact HB.out | apply below_alloc | apply pw_below_drewN | apply below_drew1 | refine below_set ?_ GE342.out) | exact HB.out)) hb); clear HO348; clear HO351; clear BK342; clear HB; have HO348 := n0_; have HO351 := n1_; have HO356 := n2_; have HO359 := n3_; have BK342 := n4_; have HB := n5_; clear n0_ n1_ n2_ n3_ n4_ n5_; (try clear hb); (try clear hb2); (try clear hk); (try clear hi); (try clear ho0); (try clear ho1)) | ((with_reducible refine gate_dst (N := 6) rfl ?_); refine box_event ?hg (N := 6) ?hd (cs := #[.int .i64 0, .int .i64 0, .slice none 0 0]) (t := 45) ?hr ?_; (case hd => rfl); (case hg => rfl); (case hr => first | (go_simp; done) | (go_simp; rfl)); intro gb360 hg w26 hbox hb; have n0_ := Aside0.mk (Kd.R_below (by (with_reducible repeat (first | apply Kd.R_alloc | apply Kd.R_drewN | apply Kd.R_drew)); exact HO348.out) hb); have n1_ := Aside0.mk (Kd.R_below (by (with_reducible repeat (first | apply Kd.R_alloc | apply Kd.R_drewN | apply Kd.R_drew)); exact HO351.out) hb); have n2_ := Aside0.mk (Kd.R_below (by (with_reducible repeat (first | apply Kd.R_alloc | apply Kd.R_drewN | apply Kd.R_drew)); exact HO356.out) hb); have n3_ := Aside0.mk (Kd.R_below (by (with_reducible repeat (first | apply Kd.R_alloc | apply Kd.R_drewN | apply Kd.R_drew)); exact HO359.out) hb); have n4_ := Aside0.mk (blk_below (g := gb342) (o := .cells #[.int .i64 a0_0, .int .i64 a0_1, .slice A0_2 l0_2.length c0_2] 53 (0, 0)) (by (with_reducible repeat (first | refine blk_drewN ?_ _ | refine blk_drew ?_ | refine blk_alloc ?_ _)); exact BK342.out) hb); have n5_ := Aside0.mk (below_step (by repeat (first | (with_reducible first | exact HB.out | apply below_alloc | apply pw_below_drewN | apply below_drew1 | refine below_set ?_ GE342.out) | exact HB.out)) hb); have n6_ := Aside0.mk (hbox); have n7_ := Aside0.mk ((by rw [hg]; exact (below_size (by repeat (first | (with_reducible first | exact HB.out | apply below_alloc | apply pw_below_drewN | apply below_drew1 | refine below_set ?_ GE342.out) | exact HB.out))) : w.heap.size ≤ gb360)); have n8_ := Aside0.mk ((by rw [hg]; exact (below_size (by repeat (first | (with_reducible first | exact HB.out | apply below_alloc | apply pw_below_drewN | apply below_drew1 | refine below_set ?_ GE342.out) | exact HB.out))) : w.heap.size ≤ gb360)); have n9_ := Aside0.mk ((by rw [hg]; exact Nat.ne_of_lt (blk_lt (g := gb342) (o := .cells #[.int .i64 a0_0, .int .i64 a0_1, .slice A0_2 l0_2.length c0_2] 53 (0, 0)) (by (with_reducible repeat (first | refine blk_drewN ?_ _ | refine blk_drew ?_ | refine blk_alloc ?_ _)); exact BK342.out)) : gb342 ≠ gb360)); have n10_ := Aside0.mk ((by rw [hg]; exact Nat.ne_of_gt (blk_lt (g := gb342) (o := .cells #[.int .i64 a0_0, .int .i64 a0_1, .slice A0_2 l0_2.length c0_2] 53 (0, 0)) (by (with_reducible repeat (first | refine blk_drewN ?_ _ | refine blk_drew ?_ | refine blk_alloc ?_ _)); exact BK342.out)) : gb360 ≠ gb342)); clear HO348; clear HO351; clear HO356; clear HO359; clear BK342; clear HB; have HO348 := n0_; have HO351 := n1_; have HO356 := n2_; have HO359 := n3_; have BK342 := n4_; have HB := n5_; have BK360 := n6_; have GW360 := n7_; have GE360 := n8_; have NB342_360 := n9_; have NB360_342 := n10_; clear n0_ n1_ n2_ n3_ n4_ n5_ n6_ n7_ n8_ n9_ n10_; clear hb hbox hg; have hnb27 := NB360_342.out; have hnc27 := NB342_360.out; have hcz28_0 : w26.cell? ⟨gb360, 0, none⟩ = some (.int .i64 0) := (blk_cell BK360.out 0).trans rfl; have hcz28_1 : w26.cell? ⟨gb360, 1, none⟩ = some (.int .i64 0) := (blk_cell BK360.out 1).trans rfl; have hcz28_2 : w26.cell? ⟨gb360, 2, none⟩ = some (.slice none 0 0) := (blk_cell BK360.out 2).trans rfl; have hfz28_0 := blk_frozen BK360.out 0; have hfz28_1 := blk_frozen BK360.out 1; have hfz28_2 := blk_frozen BK360.out 2; obtain ⟨Ao29, co29, eo29⟩ := Kd.R_slice HO356.out; subst eo29; have hcz30_0 : w26.cell? ⟨gb342, 0, none⟩ = some (.int .i64 a0_0) := (blk_cell BK342.out 0).trans rfl; have hcz30_1 : w26.cell? ⟨gb342, 1, none⟩ = some (.int .i64 a0_1) := (blk_cell BK342.out 1).trans rfl; have hcz30_2 : w26.cell? ⟨gb342, 2, none⟩ = some (.slice A0_2 l0_2.length c0_2) := (blk_cell BK342.out 2).trans rfl; have hfz30_0 := blk_frozen BK342.out 0; have hfz30_1 := blk_frozen BK342.out 1; have hfz30_2 := blk_frozen BK342.out 2) | ((with_reducible refine gate_callee (f := 34) rfl ?_); refine goesL_ (some 34) rfl rfl Try.func34 (by kernel_rfl) rfl #[.agg #[.int .i64 a0_0, .int .i64 a0_1, .slice A0_2 l0_2.length c0_2]] rfl (by (try simp only [List.map_toArray, List.map_cons, List.map_nil]); first | done | rfl | (simp only [List.length_drop, List.length_take]; rfl)) ?_; (with_reducible refine (laws_toStream.calls k a0_0 a0_1 _ _ l0_2 t361 t362 t363 _ ?side1 ?side2 A13.out).mono ?_); (case side1 => exact Kd.C_below HR0_2.out (by repeat (first | (with_reducible first | exact HB.out | apply below_alloc | apply pw_below_drewN | apply below_drew1 | refine below_set ?_ GE342.out | refine below_set ?_ GE360.out) | exact HB.out))); (case side2 => exact HC0_2.out); rintro e w31 ⟨v364, rfl, ho0, hb⟩; refine ⟨_, rfl, ?_⟩; have n0_ := Aside0.mk (Kd.R_elder' (by (with_reducible repeat (first | apply Kd.R_alloc | apply Kd.R_drewN | apply Kd.R_drew)); exact (Kd.R_mono (Kd.R_far (p := ⟨gb360, 2, none⟩) (Kd.R_far (p := ⟨gb360, 1, none⟩) (Kd.R_far (p := ⟨gb360, 0, none⟩) (Kd.R_types HO348.out BK360.out (by decide)) (fun _ hk => hk.2) (.int .i64 t352)) (fun _ hk => hk.2) (.int .i64 t353)) (fun _ hk => hk.2) (.slice Ao29 t354.length co29)) (fun _ h_ => h_.1))) (Kd.R_base ho0) hb); have n1_ := Aside0.mk (Kd.R_elder' (by (with_reducible repeat (first | apply Kd.R_alloc | apply Kd.R_drewN | apply Kd.R_drew)); exact (Kd.R_mono (Kd.R_far (p := ⟨gb360, 2, none⟩) (Kd.R_far (p := ⟨gb360, 1, none⟩) (Kd.R_far (p := ⟨gb360, 0, none⟩) (Kd.R_types HO351.out BK360.out (by decide)) (fun _ hk => hk.2) (.int .i64 t352)) (fun _ hk => hk.2) (.int .i64 t353)) (fun _ hk => hk.2) (.slice Ao29 t354.length co29)) (fun _ h_ => h_.1))) (Kd.R_base ho0) hb); have n2_ := Aside0.mk (Kd.R_elder' (by (with_reducible repeat (first | apply Kd.R_alloc | apply Kd.R_drewN | apply Kd.R_drew)); exact (Kd.R_mono (Kd.R_far (p := ⟨gb360, 2, none⟩) (Kd.R_far (p := ⟨gb360, 1, none⟩) (Kd.R_far (p := ⟨gb360, 0, none⟩) (Kd.R_types HO356.out BK360.out (by decide)) (fun _ hk => hk.2) (.int .i64 t352)) (fun _ hk => hk.2) (.int .i64 t353)) (fun _ hk => hk.2) (.slice Ao29 t354.length co29)) (fun _ h_ => h_.1))) (Kd.R_base ho0) hb); have n3_ := Aside0.mk (Kd.R_elder' (by (with_reducible repeat (first | apply Kd.R_alloc | apply Kd.R_drewN | apply Kd.R_drew)); exact (Kd.R_mono (Kd.R_far (p := ⟨gb360, 2, none⟩) (Kd.R_far (p := ⟨gb360, 1, none⟩) (Kd.R_far (p := ⟨gb360, 0, none⟩) (Kd.R_types HO359.out BK360.out (by decide)) (fun _ hk => hk.2) (.int .i64 t352)) (fun _ hk => hk.2) (.int .i64 t353)) (fun _ hk => hk.2) (.slice Ao29 t354.length co29)) (fun _ h_ => h_.1))) (Kd.R_base ho0) hb); have n4_ := Aside0.mk (Kd.R_lower (Kd.R_new' (Kd.R_new' (Kd.R_new' (Kd.R_new' ho0 (Kd.R_lt (by (with_reducible repeat (first | apply Kd.R_alloc | apply Kd.R_drewN | apply Kd.R_drew)); exact (Kd.R_mono (Kd.R_far (p := ⟨gb360, 2, none⟩) (Kd.R_far (p := ⟨gb360, 1, none⟩) (Kd.R_far (p := ⟨gb360, 0, none⟩) (Kd.R_types HO348.out BK360.out (by decide)) (fun _ hk => hk.2) (.int .i64 t352)) (fun _ hk => hk.2) (.int .i64 t353)) (fun _ hk => hk.2) (.slice Ao29 t354.length co29)) (fun _ h_ => h_.1))))) (Kd.R_lt (by (with_reducible repeat (first | apply Kd.R_alloc | apply Kd.R_drewN | apply Kd.R_drew)); exact (Kd.R_mono (Kd.R_far (p := ⟨gb360, 2, none⟩) (Kd.R_far (p := ⟨gb360, 1, none⟩) (Kd.R_far (p := ⟨gb360, 0, none⟩) (Kd.R_types HO351.out BK360.out (by decide)) (fun _ hk => hk.2) (.int .i64 t352)) (fun _ hk => hk.2) (.int .i64 t353)) (fun _ hk => hk.2) (.slice Ao29 t354.length co29)) (fun _ h_ => h_.1))))) (Kd.R_lt (by (with_reducible repeat (first | apply Kd.R_alloc | apply Kd.R_drewN | apply Kd.R_drew)); exact (Kd.R_mono (Kd.R_far (p := ⟨gb360, 2, none⟩) (Kd.R_far (p := ⟨gb360, 1, none⟩) (Kd.R_far (p := ⟨gb360, 0, none⟩) (Kd.R_types HO356.out BK360.out (by decide)) (fun _ hk => hk.2) (.int .i64 t352)) (fun _ hk => hk.2) (.int .i64 t353)) (fun _ hk => hk.2) (.slice Ao29 t354.length co29)) (fun _ h_ => h_.1))))) (Kd.R_lt (by (with_reducible repeat (first | apply Kd.R_alloc | apply Kd.R_drewN | apply Kd.R_drew)); exact (Kd.R_mono (Kd.R_far (p := ⟨gb360, 2, none⟩) (Kd.R_far (p := ⟨gb360, 1, none⟩) (Kd.R_far (p := ⟨gb360, 0, none⟩) (Kd.R_types HO359.out BK360.out (by decide)) (fun _ hk => hk.2) (.int .i64 t352)) (fun _ hk => hk.2) (.int .i64 t353)) (fun _ hk => hk.2) (.slice Ao29 t354.length co29)) (fun _ h_ => h_.1))))) (below_size (by repeat (first | (with_reducible first | exact HB.out | apply below_alloc | apply pw_below_drewN | apply below_drew1 | refine below_set ?_ GE342.out | refine below_set ?_ GE360.out) | exact HB.out)))); have n5_ := Aside0.mk (blk_below (g := gb342) (o := .cells #[.int .i64 a0_0, .int .i64 a0_1, .slice A0_2 l0_2.length c0_2] 53 (0, 0)) (by (with_reducible repeat (first | refine blk_drewN ?_ _ | refine blk_drew ?_ | refine blk_alloc ?_ _)); refine blk_far ?_ NB342_360.out _; (with_reducible repeat (first | refine blk_drewN ?_ _ | refine blk_drew ?_ | refine blk_alloc ?_ _)); refine blk_far ?_ NB342_360.out _; (with_reducible repeat (first | refine blk_drewN ?_ _ | refine blk_drew ?_ | refine blk_alloc ?_ _)); refine blk_far ?_ NB342_360.out _; (with_reducible repeat (first | refine blk_drewN ?_ _ | refine blk_drew ?_ | refine blk_alloc ?_ _)); exact BK342.out) hb); have n6_ := Aside0.mk (blk_below (g := gb360) (o := .cells #[.int .i64 t352, .int .i64 t353, .slice Ao29 t354.length co29] 45 (0, 0)) (by (with_reducible repeat (first | refine blk_drewN ?_ _ | refine blk_drew ?_ | refine blk_alloc ?_ _)); refine blk_put (cs := #[.int .i64 t352, .int .i64 t353, .slice none 0 0]) ?_ 2 _ rfl; (with_reducible repeat (first | refine blk_drewN ?_ _ | refine blk_drew ?_ | refine blk_alloc ?_ _)); refine blk_put (cs := #[.int .i64 t352, .int .i64 0, .slice none 0 0]) ?_ 1 _ rfl; (with_reducible repeat (first | refine blk_drewN ?_ _ | refine blk_drew ?_ | refine blk_alloc ?_ _)); refine blk_put (cs := #[.int .i64 0, .int .i64 0, .slice none 0 0]) ?_ 0 _ rfl; (with_reducible repeat (first | refine blk_drewN ?_ _ | refine blk_drew ?_ | refine blk_alloc ?_ _)); exact BK360.out) hb); have n7_ := Aside0.mk (below_step (by repeat (first | (with_reducible first | exact HB.out | apply below_alloc | apply pw_below_drewN | apply below_drew1 | refine below_set ?_ GE342.out | refine below_set ?_ GE360.out) | exact HB.out)) hb); clear HO348; clear HO351; clear HO356; clear HO359; clear BK342; clear BK360; clear HB; have HO348 := n0_; have HO351 := n1_; have HO356 := n2_; have HO359 := n3_; have HO365 := n4_; have BK342 := n5_; have BK360 := n6_; have HB := n7_; clear n0_ n1_ n2_ n3_ n4_ n5_ n6_ n7_; (try clear hb); (try clear hb2); (try clear hk); (try clear hi); (try clear ho0)) | ((with_reducible refine gate_dst (N := 8) rfl ?_); refine box_event ?hg (N := 8) ?hd (cs := #[.int .i64 0, .int .i64 0, .slice none 0 0]) (t := 45) ?hr ?_; (case hd => rfl); (case hg => rfl); (case hr => first | (go_simp; done) | (go_simp; rfl)); intro gb366 hg w32 hbox hb; have n0_ := Aside0.mk (Kd.R_below (by (with_reducible repeat (first | apply Kd.R_alloc | apply Kd.R_drewN | apply Kd.R_drew)); exact HO348.out) hb); have n1_ := Aside0.mk (Kd.R_below (by (with_reducible repeat (first | apply Kd.R_alloc | apply Kd.R_drewN | apply Kd.R_drew)); exact HO351.out) hb); have n2_ := Aside0.mk (Kd.R_below (by (with_reducible repeat (first | apply Kd.R_alloc | apply Kd.R_drewN | apply Kd.R_drew)); exact HO356.out) hb); have n3_ := Aside0.mk (Kd.R_below (by (with_reducible repeat (first | apply Kd.R_alloc | apply Kd.R_drewN | apply Kd.R_drew)); exact HO359.out) hb); have n4_ := Aside0.mk (Kd.R_below (by (with_reducible repeat (first | apply Kd.R_alloc | apply Kd.R_drewN | apply Kd.R_drew)); exact HO365.out) hb); have n5_ := Aside0.mk (blk_below (g := gb342) (o := .cells #[.int .i64 a0_0, .int .i64 a0_1, .slice A0_2 l0_2.length c0_2] 53 (0, 0)) (by (with_reducible repeat (first | refine blk_drewN ?_ _ | refine blk_drew ?_ | refine blk_alloc ?_ _)); exact BK342.out) hb); have n6_ := Aside0.mk (blk_below (g := gb360) (o := .cells #[.int .i64 t352, .int .i64 t353, .slice Ao29 t354.length co29] 45 (0, 0)) (by (with_reducible repeat (first | refine blk_drewN ?_ _ | refine blk_drew ?_ | refine blk_alloc ?_ _)); exact BK360.out) hb); have n7_ := Aside0.mk (below_step (by repeat (first | (with_reducible first | exact HB.out | apply below_alloc | apply pw_below_drewN | apply below_drew1 | refine below_set ?_ GE342.out | refine below_set ?_ GE360.out) | exact HB.out)) hb); have n8_ := Aside0.mk (hbox); have n9_ := Aside0.mk ((by rw [hg]; exact (below_size (by repeat (first | (with_reducible first | exact HB.out | apply below_alloc | apply pw_below_drewN | apply below_drew1 | refine below_set ?_ GE342.out | refine below_set ?_ GE360.out) | exact HB.out))) : w.heap.size ≤ gb366)); have n10_ := Aside0.mk ((by rw [hg]; exact (below_size (by repeat (first | (with_reducible first | exact HB.out | apply below_alloc | apply pw_below_drewN | apply below_drew1 | refine below_set ?_ GE342.out | refine below_set ?_ GE360.out) | exact HB.out))) : w.heap.size ≤ gb366)); have n11_ := Aside0.mk ((by rw [hg]; exact Nat.ne_of_lt (blk_lt (g := gb342) (o := .cells #[.int .i64 a0_0, .int .i64 a0_1, .slice A0_2 l0_2.length c0_2] 53 (0, 0)) (by (with_reducible repeat (first | refine blk_drewN ?_ _ | refine blk_drew ?_ | refine blk_alloc ?_ _)); exact BK342.out)) : gb342 ≠ gb366)); have n12_ := Aside0.mk ((by rw [hg]; exact Nat.ne_of_gt (blk_lt (g := gb342) (o := .cells #[.int .i64 a0_0, .int .i64 a0_1, .slice A0_2 l0_2.length c0_2] 53 (0, 0)) (by (with_reducible repeat (first | refine blk_drewN ?_ _ | refine blk_drew ?_ | refine blk_alloc ?_ _)); exact BK342.out)) : gb366 ≠ gb342)); have n13_ := Aside0.mk ((by rw [hg]; exact Nat.ne_of_lt (blk_lt (g := gb360) (o := .cells #[.int .i64 t352, .int .i64 t353, .slice Ao29 t354.length co29] 45 (0, 0)) (by (with_reducible repeat (first | refine blk_drewN ?_ _ | refine blk_drew ?_ | refine blk_alloc ?_ _)); exact BK360.out)) : gb360 ≠ gb366)); have n14_ := Aside0.mk ((by rw [hg]; exact Nat.ne_of_gt (blk_lt (g := gb360) (o := .cells #[.int .i64 t352, .int .i64 t353, .slice Ao29 t354.length co29] 45 (0, 0)) (by (with_reducible repeat (first | refine blk_drewN ?_ _ | refine blk_drew ?_ | refine blk_alloc ?_ _)); exact BK360.out)) : gb366 ≠ gb360)); clear HO348; clear HO351; clear HO356; clear HO359; clear HO365; clear BK342; clear BK360; clear HB; have HO348 := n0_; have HO351 := n1_; have HO356 := n2_; have HO359 := n3_; have HO365 := n4_; have BK342 := n5_; have BK360 := n6_; have HB := n7_; have BK366 := n8_; have GW366 := n9_; have GE366 := n10_; have NB342_366 := n11_; have NB366_342 := n12_; have NB360_366 := n13_; have NB366_360 := n14_; clear n0_ n1_ n2_ n3_ n4_ n5_ n6_ n7_ n8_ n9_ n10_ n11_ n12_ n13_ n14_; clear hb hbox hg; have hnb33 := NB366_342.out; have hnc33 := NB342_366.out; have hnb34 := NB366_360.out; have hnc34 := NB360_366.out; have hcz35_0 : w32.cell? ⟨gb366, 0, none⟩ = some (.int .i64 0) := (blk_cell BK366.out 0).trans rfl; have hcz35_1 : w32.cell? ⟨gb366, 1, none⟩ = some (.int .i64 0) := (blk_cell BK366.out 1).trans rfl; have hcz35_2 : w32.cell? ⟨gb366, 2, none⟩ = some (.slice none 0 0) := (blk_cell BK366.out 2).trans rfl; have hfz35_0 := blk_frozen BK366.out 0; have hfz35_1 := blk_frozen BK366.out 1; have hfz35_2 := blk_frozen BK366.out 2; obtain ⟨Ao36, co36, eo36⟩ := Kd.R_slice HO365.out; subst eo36) | ((with_reducible refine gate_callee (f := 43) rfl ?_); refine goesL_ (some 36) rfl rfl Try.func43 (by kernel_rfl) rfl #[.slice A1 l1.length c1] rfl (by (try simp only [List.map_toArray, List.map_cons, List.map_nil]); first | done | rfl | (simp only [List.length_drop, List.length_take]; rfl)) ?_; (with_reducible refine (laws_toIntS.calls k _ _ l1 t367 _ ?side1 ?side2 A14.out).mono ?_); (case side1 => exact Kd.C_below HR1.out (by repeat (first | (with_reducible first | exact HB.out | apply below_alloc | apply pw_below_drewN | apply below_drew1 | refine below_set ?_ GE342.out | refine below_set ?_ GE360.out | refine below_set ?_ GE366.out) | exact HB.out))); (case side2 => exact HC1.out); rintro e w37 ⟨v368, rfl, ho0, hb⟩; refine ⟨_, rfl, ?_⟩; have n0_ := Aside0.mk (Kd.R_elder' (by (with_reducible repeat (first | apply Kd.R_alloc | apply Kd.R_drewN | apply Kd.R_drew)); exact (Kd.R_mono (Kd.R_far (p := ⟨gb366, 2, none⟩) (Kd.R_far (p := ⟨gb366, 1, none⟩) (Kd.R_far (p := ⟨gb366, 0, none⟩) (Kd.R_types HO348.out BK366.out (by decide)) (fun _ hk => hk.2) (.int .i64 t361)) (fun _ hk => hk.2) (.int .i64 t362)) (fun _ hk => hk.2) (.slice Ao36 t363.length co36)) (fun _ h_ => h_.1))) (Kd.R_base ho0) hb); have n1_ := Aside0.mk (Kd.R_elder' (by (with_reducible repeat (first | apply Kd.R_alloc | apply Kd.R_drewN | apply Kd.R_drew)); exact (Kd.R_mono (Kd.R_far (p := ⟨gb366, 2, none⟩) (Kd.R_far (p := ⟨gb366, 1, none⟩) (Kd.R_far (p := ⟨gb366, 0, none⟩) (Kd.R_types HO351.out BK366.out (by decide)) (fun _ hk => hk.2) (.int .i64 t361)) (fun _ hk => hk.2) (.int .i64 t362)) (fun _ hk => hk.2) (.slice Ao36 t363.length co36)) (fun _ h_ => h_.1))) (Kd.R_base ho0) hb); have n2_ := Aside0.mk (Kd.R_elder' (by (with_reducible repeat (first | apply Kd.R_alloc | apply Kd.R_drewN | apply Kd.R_drew)); exact (Kd.R_mono (Kd.R_far (p := ⟨gb366, 2, none⟩) (Kd.R_far (p := ⟨gb366, 1, none⟩) (Kd.R_far (p := ⟨gb366, 0, none⟩) (Kd.R_types HO356.out BK366.out (by decide)) (fun _ hk => hk.2) (.int .i64 t361)) (fun _ hk => hk.2) (.int .i64 t362)) (fun _ hk => hk.2) (.slice Ao36 t363.length co36)) (fun _ h_ => h_.1))) (Kd.R_base ho0) hb); have n3_ := Aside0.mk (Kd.R_elder' (by (with_reducible repeat (first | apply Kd.R_alloc | apply Kd.R_drewN | apply Kd.R_drew)); exact (Kd.R_mono (Kd.R_far (p := ⟨gb366, 2, none⟩) (Kd.R_far (p := ⟨gb366, 1, none⟩) (Kd.R_far (p := ⟨gb366, 0, none⟩) (Kd.R_types HO359.out BK366.out (by decide)) (fun _ hk => hk.2) (.int .i64 t361)) (fun _ hk => hk.2) (.int .i64 t362)) (fun _ hk => hk.2) (.slice Ao36 t363.length co36)) (fun _ h_ => h_.1))) (Kd.R_base ho0) hb); have n4_ := Aside0.mk (Kd.R_elder' (by (with_reducible repeat (first | apply Kd.R_alloc | apply Kd.R_drewN | apply Kd.R_drew)); exact (Kd.R_mono (Kd.R_far (p := ⟨gb366, 2, none⟩) (Kd.R_far (p := ⟨gb366, 1, none⟩) (Kd.R_far (p := ⟨gb366, 0, none⟩) (Kd.R_types HO365.out BK366.out (by decide)) (fun _ hk => hk.2) (.int .i64 t361)) (fun _ hk => hk.2) (.int .i64 t362)) (fun _ hk => hk.2) (.slice Ao36 t363.length co36)) (fun _ h_ => h_.1))) (Kd.R_base ho0) hb); have n5_ := Aside0.mk (Kd.R_lower (Kd.R_new' (Kd.R_new' (Kd.R_new' (Kd.R_new' (Kd.R_new' ho0 (Kd.R_lt (by (with_reducible repeat (first | apply Kd.R_alloc | apply Kd.R_drewN | apply Kd.R_drew)); exact (Kd.R_mono (Kd.R_far (p := ⟨gb366, 2, none⟩) (Kd.R_far (p := ⟨gb366, 1, none⟩) (Kd.R_far (p := ⟨gb366, 0, none⟩) (Kd.R_types HO348.out BK366.out (by decide)) (fun _ hk => hk.2) (.int .i64 t361)) (fun _ hk => hk.2) (.int .i64 t362)) (fun _ hk => hk.2) (.slice Ao36 t363.length co36)) (fun _ h_ => h_.1))))) (Kd.R_lt (by (with_reducible repeat (first | apply Kd.R_alloc | apply Kd.R_drewN | apply Kd.R_drew)); exact (Kd.R_mono (Kd.R_far (p := ⟨gb366, 2, none⟩) (Kd.R_far (p := ⟨gb366, 1, none⟩) (Kd.R_far (p := ⟨gb366, 0, none⟩) (Kd.R_types HO351.out BK366.out (by decide)) (fun _ hk => hk.2) (.int .i64 t361)) (fun _ hk => hk.2) (.int .i64 t362)) (fun _ hk => hk.2) (.slice Ao36 t363.length co36)) (fun _ h_ => h_.1))))) (Kd.R_lt (by (with_reducible repeat (first | apply Kd.R_alloc | apply Kd.R_drewN | apply Kd.R_drew)); exact (Kd.R_mono (Kd.R_far (p := ⟨gb366, 2, none⟩) (Kd.R_far (p := ⟨gb366, 1, none⟩) (Kd.R_far (p := ⟨gb366, 0, none⟩) (Kd.R_types HO356.out BK366.out (by decide)) (fun _ hk => hk.2) (.int .i64 t361)) (fun _ hk => hk.2) (.int .i64 t362)) (fun _ hk => hk.2) (.slice Ao36 t363.length co36)) (fun _ h_ => h_.1))))) (Kd.R_lt (by (with_reducible repeat (first | apply Kd.R_alloc | apply Kd.R_drewN | apply Kd.R_drew)); exact (Kd.R_mono (Kd.R_far (p := ⟨gb366, 2, none⟩) (Kd.R_far (p := ⟨gb366, 1, none⟩) (Kd.R_far (p := ⟨gb366, 0, none⟩) (Kd.R_types HO359.out BK366.out (by decide)) (fun _ hk => hk.2) (.int .i64 t361)) (fun _ hk => hk.2) (.int .i64 t362)) (fun _ hk => hk.2) (.slice Ao36 t363.length co36)) (fun _ h_ => h_.1))))) (Kd.R_lt (by (with_reducible repeat (first | apply Kd.R_alloc | apply Kd.R_drewN | apply Kd.R_drew)); exact (Kd.R_mono (Kd.R_far (p := ⟨gb366, 2, none⟩) (Kd.R_far (p := ⟨gb366, 1, none⟩) (Kd.R_far (p := ⟨gb366, 0, none⟩) (Kd.R_types HO365.out BK366.out (by decide)) (fun _ hk => hk.2) (.int .i64 t361)) (fun _ hk => hk.2) (.int .i64 t362)) (fun _ hk => hk.2) (.slice Ao36 t363.length co36)) (fun _ h_ => h_.1))))) (below_size (by repeat (first | (with_reducible first | exact HB.out | apply below_alloc | apply pw_below_drewN | apply below_drew1 | refine below_set ?_ GE342.out | refine below_set ?_ GE360.out | refine below_set ?_ GE366.out) | exact HB.out)))); have n6_ := Aside0.mk (blk_below (g := gb342) (o := .cells #[.int .i64 a0_0, .int .i64 a0_1, .slice A0_2 l0_2.length c0_2] 53 (0, 0)) (by (with_reducible repeat (first | refine blk_drewN ?_ _ | refine blk_drew ?_ | refine blk_alloc ?_ _)); refine blk_far ?_ NB342_366.out _; (with_reducible repeat (first | refine blk_drewN ?_ _ | refine blk_drew ?_ | refine blk_alloc ?_ _)); refine blk_far ?_ NB342_366.out _; (with_reducible repeat (first | refine blk_drewN ?_ _ | refine blk_drew ?_ | refine blk_alloc ?_ _)); refine blk_far ?_ NB342_366.out _; (with_reducible repeat (first | refine blk_drewN ?_ _ | refine blk_drew ?_ | refine blk_alloc ?_ _)); exact BK342.out) hb); have n7_ := Aside0.mk (blk_below (g := gb360) (o := .cells #[.int .i64 t352, .int .i64 t353, .slice Ao29 t354.length co29] 45 (0, 0)) (by (with_reducible repeat (first | refine blk_drewN ?_ _ | refine blk_drew ?_ | refine blk_alloc ?_ _)); refine blk_far ?_ NB360_366.out _; (with_reducible repeat (first | refine blk_drewN ?_ _ | refine blk_drew ?_ | refine blk_alloc ?_ _)); refine blk_far ?_ NB360_366.out _; (with_reducible repeat (first | refine blk_drewN ?_ _ | refine blk_drew ?_ | refine blk_alloc ?_ _)); refine blk_far ?_ NB360_366.out _; (with_reducible repeat (first | refine blk_drewN ?_ _ | refine blk_drew ?_ | refine blk_alloc ?_ _)); exact BK360.out) hb); have n8_ := Aside0.mk (blk_below (g := gb366) (o := .cells #[.int .i64 t361, .int .i64 t362, .slice Ao36 t363.length co36] 45 (0, 0)) (by (with_reducible repeat (first | refine blk_drewN ?_ _ | refine blk_drew ?_ | refine blk_alloc ?_ _)); refine blk_put (cs := #[.int .i64 t361, .int .i64 t362, .slice none 0 0]) ?_ 2 _ rfl; (with_reducible repeat (first | refine blk_drewN ?_ _ | refine blk_drew ?_ | refine blk_alloc ?_ _)); refine blk_put (cs := #[.int .i64 t361, .int .i64 0, .slice none 0 0]) ?_ 1 _ rfl; (with_reducible repeat (first | refine blk_drewN ?_ _ | refine blk_drew ?_ | refine blk_alloc ?_ _)); refine blk_put (cs := #[.int .i64 0, .int .i64 0, .slice none 0 0]) ?_ 0 _ rfl; (with_reducible repeat (first | refine blk_drewN ?_ _ | refine blk_drew ?_ | refine blk_alloc ?_ _)); exact BK366.out) hb); have n9_ := Aside0.mk (below_step (by repeat (first | (with_reducible first | exact HB.out | apply below_alloc | apply pw_below_drewN | apply below_drew1 | refine below_set ?_ GE342.out | refine below_set ?_ GE360.out | refine below_set ?_ GE366.out) | exact HB.out)) hb); clear HO348; clear HO351; clear HO356; clear HO359; clear HO365; clear BK342; clear BK360; clear BK366; clear HB; have HO348 := n0_; have HO351 := n1_; have HO356 := n2_; have HO359 := n3_; have HO365 := n4_; have HO369 := n5_; have BK342 := n6_; have BK360 := n7_; have BK366 := n8_; have HB := n9_; clear n0_ n1_ n2_ n3_ n4_ n5_ n6_ n7_ n8_ n9_; (try clear hb); (try clear hb2); (try clear hk); (try clear hi); (try clear ho0); have hcz38_0 : w37.cell? ⟨gb366, 0, none⟩ = some (.int .i64 t361) := (blk_cell BK366.out 0).trans rfl; have hcz38_1 : w37.cell? ⟨gb366, 1, none⟩ = some (.int .i64 t362) := (blk_cell BK366.out 1).trans rfl; have hcz38_2 : w37.cell? ⟨gb366, 2, none⟩ = some (.slice Ao36 t363.length co36) := (blk_cell BK366.out 2).trans rfl; have hfz38_0 := blk_frozen BK366.out 0; have hfz38_1 := blk_frozen BK366.out 1; have hfz38_2 := blk_frozen BK366.out 2; obtain ⟨Ao39, co39, eo39⟩ := Kd.R_slice HO369.out; subst eo39) | ((with_reducible refine gate_callee (f := 27) rfl ?_); refine goesL_ (some 40) rfl rfl Try.func27 (by kernel_rfl) rfl #[.agg #[.int .i64 t361, .int .i64 t362, .slice Ao36 t363.length co36], .slice Ao39 t367.length co39] rfl (by (try simp only [List.map_toArray, List.map_cons, List.map_nil]); first | done | rfl | (simp only [List.length_drop, List.length_take]; rfl)) ?_; (with_reducible refine (impl_AcceptAll.calls k t361 t362 _ _ t363 _ _ t367 t370 t371 t372 t375 _ ?side1 ?side2 ?side3 ?side4 A15.out).mono ?_); (case side1 => repeat (first | exact (Kd.R_reads' HO365.out).2.2 | (with_reducible refine Kd.C_alloc ?_ _) | (with_reducible refine Kd.C_drewN ?_ _) | (with_reducible refine Kd.C_drew ?_))); (case side2 => exact (Kd.R_reads' HO365.out).2.1); (case side3 => repeat (first | exact (Kd.R_reads' HO369.out).2.2 | (with_reducible refine Kd.C_alloc ?_ _) | (with_reducible refine Kd.C_drewN ?_ _) | (with_reducible refine Kd.C_drew ?_))); (case side4 => exact (Kd.R_reads' HO369.out).2.1); rintro e w40 ⟨v373, v376, rfl, ho0, ho1, hb⟩; refine ⟨_, rfl, ?_⟩; have n0_ := Aside0.mk (Kd.R_mono (Kd.R_told (Kd.R_told (Kd.R_old (by (with_reducible repeat (first | apply Kd.R_alloc | apply Kd.R_drewN | apply Kd.R_drew)); exact HO348.out) hb) (Kd.Q_base ho0)) (Kd.R_base ho1)) (fun _ h_ => h_.1)); have n1_ := Aside0.mk (Kd.R_mono (Kd.R_told (Kd.R_told (Kd.R_old (by (with_reducible repeat (first | apply Kd.R_alloc | apply Kd.R_drewN | apply Kd.R_drew)); exact HO351.out) hb) (Kd.Q_base ho0)) (Kd.R_base ho1)) (fun _ h_ => h_.1)); have n2_ := Aside0.mk (Kd.R_mono (Kd.R_told (Kd.R_told (Kd.R_old (by (with_reducible repeat (first | apply Kd.R_alloc | apply Kd.R_drewN | apply Kd.R_drew)); exact HO356.out) hb) (Kd.Q_base ho0)) (Kd.R_base ho1)) (fun _ h_ => h_.1)); have n3_ := Aside0.mk (Kd.R_mono (Kd.R_told (Kd.R_told (Kd.R_old (by (with_reducible repeat (first | apply Kd.R_alloc | apply Kd.R_drewN | apply Kd.R_drew)); exact HO359.out) hb) (Kd.Q_base ho0)) (Kd.R_base ho1)) (fun _ h_ => h_.1)); have n4_ := Aside0.mk (Kd.R_mono (Kd.R_told (Kd.R_told (Kd.R_old (by (with_reducible repeat (first | apply Kd.R_alloc | apply Kd.R_drewN | apply Kd.R_drew)); exact HO365.out) hb) (Kd.Q_base ho0)) (Kd.R_base ho1)) (fun _ h_ => h_.1)); have n5_ := Aside0.mk (Kd.R_mono (Kd.R_told (Kd.R_told (Kd.R_old (by (with_reducible repeat (first | apply Kd.R_alloc | apply Kd.R_drewN | apply Kd.R_drew)); exact HO369.out) hb) (Kd.Q_base ho0)) (Kd.R_base ho1)) (fun _ h_ => h_.1)); have n6_ := Aside0.mk (Kd.Q_lower (Kd.Q_new' (Kd.Q_new' (Kd.Q_new' (Kd.Q_new' (Kd.Q_new' (Kd.Q_new' ho0 (Kd.R_lt (by (with_reducible repeat (first | apply Kd.R_alloc | apply Kd.R_drewN | apply Kd.R_drew)); exact HO348.out))) (Kd.R_lt (by (with_reducible repeat (first | apply Kd.R_alloc | apply Kd.R_drewN | apply Kd.R_drew)); exact HO351.out))) (Kd.R_lt (by (with_reducible repeat (first | apply Kd.R_alloc | apply Kd.R_drewN | apply Kd.R_drew)); exact HO356.out))) (Kd.R_lt (by (with_reducible repeat (first | apply Kd.R_alloc | apply Kd.R_drewN | apply Kd.R_drew)); exact HO359.out))) (Kd.R_lt (by (with_reducible repeat (first | apply Kd.R_alloc | apply Kd.R_drewN | apply Kd.R_drew)); exact HO365.out))) (Kd.R_lt (by (with_reducible repeat (first | apply Kd.R_alloc | apply Kd.R_drewN | apply Kd.R_drew)); exact HO369.out))) (below_size (by repeat (first | (with_reducible first | exact HB.out | apply below_alloc | apply pw_below_drewN | apply below_drew1 | refine below_set ?_ GE342.out | refine below_set ?_ GE360.out | refine below_set ?_ GE366.out) | exact HB.out)))); have n7_ := Aside0.mk (Kd.R_lower (Kd.R_new' (Kd.R_new' (Kd.R_new' (Kd.R_new' (Kd.R_new' (Kd.R_new' ho1 (Kd.R_lt (by (with_reducible repeat (first | apply Kd.R_alloc | apply Kd.R_drewN | apply Kd.R_drew)); exact HO348.out))) (Kd.R_lt (by (with_reducible repeat (first | apply Kd.R_alloc | apply Kd.R_drewN | apply Kd.R_drew)); exact HO351.out))) (Kd.R_lt (by (with_reducible repeat (first | apply Kd.R_alloc | apply Kd.R_drewN | apply Kd.R_drew)); exact HO356.out))) (Kd.R_lt (by (with_reducible repeat (first | apply Kd.R_alloc | apply Kd.R_drewN | apply Kd.R_drew)); exact HO359.out))) (Kd.R_lt (by (with_reducible repeat (first | apply Kd.R_alloc | apply Kd.R_drewN | apply Kd.R_drew)); exact HO365.out))) (Kd.R_lt (by (with_reducible repeat (first | apply Kd.R_alloc | apply Kd.R_drewN | apply Kd.R_drew)); exact HO369.out))) (below_size (by repeat (first | (with_reducible first | exact HB.out | apply below_alloc | apply pw_below_drewN | apply below_drew1 | refine below_set ?_ GE342.out | refine below_set ?_ GE360.out | refine below_set ?_ GE366.out) | exact HB.out)))); have n8_ := Aside0.mk (blk_below (g := gb342) (o := .cells #[.int .i64 a0_0, .int .i64 a0_1, .slice A0_2 l0_2.length c0_2] 53 (0, 0)) (by (with_reducible repeat (first | refine blk_drewN ?_ _ | refine blk_drew ?_ | refine blk_alloc ?_ _)); exact BK342.out) hb); have n9_ := Aside0.mk (blk_below (g := gb360) (o := .cells #[.int .i64 t352, .int .i64 t353, .slice Ao29 t354.length co29] 45 (0, 0)) (by (with_reducible repeat (first | refine blk_drewN ?_ _ | refine blk_drew ?_ | refine blk_alloc ?_ _)); exact BK360.out) hb); have n10_ := Aside0.mk (blk_below (g := gb366) (o := .cells #[.int .i64 t361, .int .i64 t362, .slice Ao36 t363.length co36] 45 (0, 0)) (by (with_reducible repeat (first | refine blk_drewN ?_ _ | refine blk_drew ?_ | refine blk_alloc ?_ _)); exact BK366.out) hb); have n11_ := Aside0.mk (below_step (by repeat (first | (with_reducible first | exact HB.out | apply below_alloc | apply pw_below_drewN | apply below_drew1 | refine below_set ?_ GE342.out | refine below_set ?_ GE360.out | refine below_set ?_ GE366.out) | exact HB.out)) hb); clear HO348; clear HO351; clear HO356; clear HO359; clear HO365; clear HO369; clear BK342; clear BK360; clear BK366; clear HB; have HO348 := n0_; have HO351 := n1_; have HO356 := n2_; have HO359 := n3_; have HO365 := n4_; have HO369 := n5_; have HO374 := n6_; have HO377 := n7_; have BK342 := n8_; have BK360 := n9_; have BK366 := n10_; have HB := n11_; clear n0_ n1_ n2_ n3_ n4_ n5_ n6_ n7_ n8_ n9_ n10_ n11_; (try clear hb); (try clear hb2); (try clear hk); (try clear hi); (try clear ho0); (try clear ho1)) | ((with_reducible refine gate_dst (N := 10) rfl ?_); refine box_event ?hg (N := 10) ?hd (cs := #[.int .i64 0, .int .i64 0, .slice none 0 0]) (t := 45) ?hr ?_; (case hd => rfl); (case hg => rfl); (case hr => first | (go_simp; done) | (go_simp; rfl)); intro gb378 hg w41 hbox hb; have n0_ := Aside0.mk (Kd.R_below (by (with_reducible repeat (first | apply Kd.R_alloc | apply Kd.R_drewN | apply Kd.R_drew)); exact HO348.out) hb); have n1_ := Aside0.mk (Kd.R_below (by (with_reducible repeat (first | apply Kd.R_alloc | apply Kd.R_drewN | apply Kd.R_drew)); exact HO351.out) hb); have n2_ := Aside0.mk (Kd.R_below (by (with_reducible repeat (first | apply Kd.R_alloc | apply Kd.R_drewN | apply Kd.R_drew)); exact HO356.out) hb); have n3_ := Aside0.mk (Kd.R_below (by (with_reducible repeat (first | apply Kd.R_alloc | apply Kd.R_drewN | apply Kd.R_drew)); exact HO359.out) hb); have n4_ := Aside0.mk (Kd.R_below (by (with_reducible repeat (first | apply Kd.R_alloc | apply Kd.R_drewN | apply Kd.R_drew)); exact HO365.out) hb); have n5_ := Aside0.mk (Kd.R_below (by (with_reducible repeat (first | apply Kd.R_alloc | apply Kd.R_drewN | apply Kd.R_drew)); exact HO369.out) hb); have n6_ := Aside0.mk (Kd.Q_below (by (with_reducible repeat (first | apply Kd.Q_alloc | apply Kd.Q_drewN | apply Kd.Q_drew)); exact HO374.out) hb); have n7_ := Aside0.mk (Kd.R_below (by (with_reducible repeat (first | apply Kd.R_alloc | apply Kd.R_drewN | apply Kd.R_drew)); exact HO377.out) hb); have n8_ := Aside0.mk (blk_below (g := gb342) (o := .cells #[.int .i64 a0_0, .int .i64 a0_1, .slice A0_2 l0_2.length c0_2] 53 (0, 0)) (by (with_reducible repeat (first | refine blk_drewN ?_ _ | refine blk_drew ?_ | refine blk_alloc ?_ _)); exact BK342.out) hb); have n9_ := Aside0.mk (blk_below (g := gb360) (o := .cells #[.int .i64 t352, .int .i64 t353, .slice Ao29 t354.length co29] 45 (0, 0)) (by (with_reducible repeat (first | refine blk_drewN ?_ _ | refine blk_drew ?_ | refine blk_alloc ?_ _)); exact BK360.out) hb); have n10_ := Aside0.mk (blk_below (g := gb366) (o := .cells #[.int .i64 t361, .int .i64 t362, .slice Ao36 t363.length co36] 45 (0, 0)) (by (with_reducible repeat (first | refine blk_drewN ?_ _ | refine blk_drew ?_ | refine blk_alloc ?_ _)); exact BK366.out) hb); have n11_ := Aside0.mk (below_step (by repeat (first | (with_reducible first | exact HB.out | apply below_alloc | apply pw_below_drewN | apply below_drew1 | refine below_set ?_ GE342.out | refine below_set ?_ GE360.out | refine below_set ?_ GE366.out) | exact HB.out)) hb); have n12_ := Aside0.mk (hbox); have n13_ := Aside0.mk ((by rw [hg]; exact (below_size (by repeat (first | (with_reducible first | exact HB.out | apply below_alloc | apply pw_below_drewN | apply below_drew1 | refine below_set ?_ GE342.out | refine below_set ?_ GE360.out | refine below_set ?_ GE366.out) | exact HB.out))) : w.heap.size ≤ gb378)); have n14_ := Aside0.mk ((by rw [hg]; exact (below_size (by repeat (first | (with_reducible first | exact HB.out | apply below_alloc | apply pw_below_drewN | apply below_drew1 | refine below_set ?_ GE342.out | refine below_set ?_ GE360.out | refine below_set ?_ GE366.out) | exact HB.out))) : w.heap.size ≤ gb378)); have n15_ := Aside0.mk ((by rw [hg]; exact Nat.ne_of_lt (blk_lt (g := gb342) (o := .cells #[.int .i64 a0_0, .int .i64 a0_1, .slice A0_2 l0_2.length c0_2] 53 (0, 0)) (by (with_reducible repeat (first | refine blk_drewN ?_ _ | refine blk_drew ?_ | refine blk_alloc ?_ _)); exact BK342.out)) : gb342 ≠ gb378)); have n16_ := Aside0.mk ((by rw [hg]; exact Nat.ne_of_gt (blk_lt (g := gb342) (o := .cells #[.int .i64 a0_0, .int .i64 a0_1, .slice A0_2 l0_2.length c0_2] 53 (0, 0)) (by (with_reducible repeat (first | refine blk_drewN ?_ _ | refine blk_drew ?_ | refine blk_alloc ?_ _)); exact BK342.out)) : gb378 ≠ gb342)); have n17_ := Aside0.mk ((by rw [hg]; exact Nat.ne_of_lt (blk_lt (g := gb360) (o := .cells #[.int .i64 t352, .int .i64 t353, .slice Ao29 t354.length co29] 45 (0, 0)) (by (with_reducible repeat (first | refine blk_drewN ?_ _ | refine blk_drew ?_ | refine blk_alloc ?_ _)); exact BK360.out)) : gb360 ≠ gb378)); have n18_ := Aside0.mk ((by rw [hg]; exact Nat.ne_of_gt (blk_lt (g := gb360) (o := .cells #[.int .i64 t352, .int .i64 t353, .slice Ao29 t354.length co29] 45 (0, 0)) (by (with_reducible repeat (first | refine blk_drewN ?_ _ | refine blk_drew ?_ | refine blk_alloc ?_ _)); exact BK360.out)) : gb378 ≠ gb360)); have n19_ := Aside0.mk ((by rw [hg]; exact Nat.ne_of_lt (blk_lt (g := gb366) (o := .cells #[.int .i64 t361, .int .i64 t362, .slice Ao36 t363.length co36] 45 (0, 0)) (by (with_reducible repeat (first | refine blk_drewN ?_ _ | refine blk_drew ?_ | refine blk_alloc ?_ _)); exact BK366.out)) : gb366 ≠ gb378)); have n20_ := Aside0.mk ((by rw [hg]; exact Nat.ne_of_gt (blk_lt (g := gb366) (o := .cells #[.int .i64 t361, .int .i64 t362, .slice Ao36 t363.length co36] 45 (0, 0)) (by (with_reducible repeat (first | refine blk_drewN ?_ _ | refine blk_drew ?_ | refine blk_alloc ?_ _)); exact BK366.out)) : gb378 ≠ gb366)); clear HO348; clear HO351; clear HO356; clear HO359; clear HO365; clear HO369; clear HO374; clear HO377; clear BK342; clear BK360; clear BK366; clear HB; have HO348 := n0_; have HO351 := n1_; have HO356 := n2_; have HO359 := n3_; have HO365 := n4_; have HO369 := n5_; have HO374 := n6_; have HO377 := n7_; have BK342 := n8_; have BK360 := n9_; have BK366 := n10_; have HB := n11_; have BK378 := n12_; have GW378 := n13_; have GE378 := n14_; have NB342_378 := n15_; have NB378_342 := n16_; have NB360_378 := n17_; have NB378_360 := n18_; have NB366_378 := n19_; have NB378_366 := n20_; clear n0_ n1_ n2_ n3_ n4_ n5_ n6_ n7_ n8_ n9_ n10_ n11_ n12_ n13_ n14_ n15_ n16_ n17_ n18_ n19_ n20_; clear hb hbox hg; have hnb42 := NB378_342.out; have hnc42 := NB342_378.out; have hnb43 := NB378_360.out; have hnc43 := NB360_378.out; have hnb44 := NB378_366.out; have hnc44 := NB366_378.out; have hcz45_0 : w41.cell? ⟨gb378, 0, none⟩ = some (.int .i64 0) := (blk_cell BK378.out 0).trans rfl; have hcz45_1 : w41.cell? ⟨gb378, 1, none⟩ = some (.int .i64 0) := (blk_cell BK378.out 1).trans rfl; have hcz45_2 : w41.cell? ⟨gb378, 2, none⟩ = some (.slice none 0 0) := (blk_cell BK378.out 2).trans rfl; have hfz45_0 := blk_frozen BK378.out 0; have hfz45_1 := blk_frozen BK378.out 1; have hfz45_2 := blk_frozen BK378.out 2; obtain ⟨Ao46, co46, eo46, _⟩ := Kd.Q_slice HO374.out; subst eo46))
      (try simp only [Act.put, List.setIfInBounds_toArray, List.set_cons_zero, List.set_cons_succ])
      go_cut [52] (fun v52 wc => ∃ (kq : Nat) (x52_15 : Bool), v52 = .bool x52_15 ∧ Aside0 (laws_FnExactAcceptAll.j0 kq l1 t357 t367 t375 x52_15 a0_0 a0_1 l0_2 t352 t353 t354 t361 t362 t363 t370 t371 t372 = some r) ∧ Aside0 (kq ≤ k) ∧ Aside0 (Kd.R (Kd.int .i64) 3 wc w.heap.size (fun k_ => some k_ ≠ ((.slice Ao39 t367.length co39) : Value).ownBlock ∧ some k_ ≠ (v376 : Value).ownBlock ∧ some k_ ≠ ((.slice Ao29 t354.length co29) : Value).ownBlock ∧ some k_ ≠ ((.slice Ao36 t363.length co36) : Value).ownBlock ∧ some k_ ≠ ((.slice Ao46 t372.length co46) : Value).ownBlock) v358 t357) ∧ Aside0 (Kd.R (Kd.int .i64) 3 wc w.heap.size (fun k_ => some k_ ≠ (v358 : Value).ownBlock ∧ some k_ ≠ (v376 : Value).ownBlock ∧ some k_ ≠ ((.slice Ao29 t354.length co29) : Value).ownBlock ∧ some k_ ≠ ((.slice Ao36 t363.length co36) : Value).ownBlock ∧ some k_ ≠ ((.slice Ao46 t372.length co46) : Value).ownBlock) (.slice Ao39 t367.length co39) t367) ∧ Aside0 (Kd.R (Kd.int .i64) 3 wc w.heap.size (fun k_ => some k_ ≠ (v358 : Value).ownBlock ∧ some k_ ≠ ((.slice Ao39 t367.length co39) : Value).ownBlock ∧ some k_ ≠ ((.slice Ao29 t354.length co29) : Value).ownBlock ∧ some k_ ≠ ((.slice Ao36 t363.length co36) : Value).ownBlock ∧ some k_ ≠ ((.slice Ao46 t372.length co46) : Value).ownBlock) v376 t375) ∧ Aside0 (Kd.Q (Kd.int .i64) 3 wc w.heap.size (fun k_ => some k_ ≠ (v358 : Value).ownBlock ∧ some k_ ≠ ((.slice Ao39 t367.length co39) : Value).ownBlock ∧ some k_ ≠ (v376 : Value).ownBlock ∧ some k_ ≠ ((.slice Ao36 t363.length co36) : Value).ownBlock ∧ some k_ ≠ ((.slice Ao46 t372.length co46) : Value).ownBlock) (.slice Ao29 t354.length co29) t354) ∧ Aside0 (Kd.Q (Kd.int .i64) 3 wc w.heap.size (fun k_ => some k_ ≠ (v358 : Value).ownBlock ∧ some k_ ≠ ((.slice Ao39 t367.length co39) : Value).ownBlock ∧ some k_ ≠ (v376 : Value).ownBlock ∧ some k_ ≠ ((.slice Ao29 t354.length co29) : Value).ownBlock ∧ some k_ ≠ ((.slice Ao46 t372.length co46) : Value).ownBlock) (.slice Ao36 t363.length co36) t363) ∧ Aside0 (Kd.Q (Kd.int .i64) 3 wc w.heap.size (fun k_ => some k_ ≠ (v358 : Value).ownBlock ∧ some k_ ≠ ((.slice Ao39 t367.length co39) : Value).ownBlock ∧ some k_ ≠ (v376 : Value).ownBlock ∧ some k_ ≠ ((.slice Ao29 t354.length co29) : Value).ownBlock ∧ some k_ ≠ ((.slice Ao36 t363.length co36) : Value).ownBlock) (.slice Ao46 t372.length co46) t372) ∧ Aside0 (wc.heap[gb342]? = some (.cells #[.int .i64 a0_0, .int .i64 a0_1, (.slice A0_2 l0_2.length c0_2)] 53 (0, 0))) ∧ Aside0 (wc.heap[gb360]? = some (.cells #[.int .i64 t352, .int .i64 t353, (.slice Ao29 t354.length co29)] 45 (0, 0))) ∧ Aside0 (wc.heap[gb366]? = some (.cells #[.int .i64 t361, .int .i64 t362, (.slice Ao36 t363.length co36)] 45 (0, 0))) ∧ Aside0 (wc.heap[gb378]? = some (.cells #[.int .i64 t370, .int .i64 t371, (.slice Ao46 t372.length co46)] 45 (0, 0))) ∧ Aside0 (Below w.heap.size w wc))
      case first =>
        have H := HC16.out
        clear HC16
        replace H := Option.bind_eq_some_iff.mp H
        obtain ⟨t379, A470, H⟩ := H
        replace H : (if t379 = true then ((laws_eqIntS.f k t375 t357).bind fun t380 => (laws_FnExactAcceptAll.j0 k l1 t357 t367 t375 (!t380) a0_0 a0_1 l0_2 t352 t353 t354 t361 t362 t363 t370 t371 t372)) else (laws_FnExactAcceptAll.j0 k l1 t357 t367 t375 true a0_0 a0_1 l0_2 t352 t353 t354 t361 t362 t363 t370 t371 t372)) = some r := H
        have A47 := Aside0.mk A470
        clear A470
        by_cases c48 : t379 = true
        · subst c48
          have H1 : ((laws_eqIntS.f k t375 t357).bind fun t380 => (laws_FnExactAcceptAll.j0 k l1 t357 t367 t375 (!t380) a0_0 a0_1 l0_2 t352 t353 t354 t361 t362 t363 t370 t371 t372)) = some r := by rw [if_pos rfl] at H; exact H
          clear H
          have H := H1
          clear H1
          replace H := Option.bind_eq_some_iff.mp H
          obtain ⟨t380, A490, H⟩ := H
          replace H : (laws_FnExactAcceptAll.j0 k l1 t357 t367 t375 (!t380) a0_0 a0_1 l0_2 t352 t353 t354 t361 t362 t363 t370 t371 t372) = some r := H
          have A49 := Aside0.mk A490
          clear A490
          have H' := Aside0.mk H
          clear H
          have hnb50 := NB378_342.out
          have hnc50 := NB342_378.out
          have hnb51 := NB378_360.out
          have hnc51 := NB360_378.out
          have hnb52 := NB378_366.out
          have hnc52 := NB366_378.out
          have hcz53_0 : w41.cell? ⟨gb378, 0, none⟩ = some (.int .i64 0) := (blk_cell BK378.out 0).trans rfl
          have hcz53_1 : w41.cell? ⟨gb378, 1, none⟩ = some (.int .i64 0) := (blk_cell BK378.out 1).trans rfl
          have hcz53_2 : w41.cell? ⟨gb378, 2, none⟩ = some (.slice none 0 0) := (blk_cell BK378.out 2).trans rfl
          have hfz53_0 := blk_frozen BK378.out 0
          have hfz53_1 := blk_frozen BK378.out 1
          have hfz53_2 := blk_frozen BK378.out 2
          have hnb54 := NB360_342.out
          have hnc54 := NB342_360.out
          have hnb55 := NB360_366.out
          have hnc55 := NB366_360.out
          have hcz56_0 : w41.cell? ⟨gb360, 0, none⟩ = some (.int .i64 t352) := (blk_cell BK360.out 0).trans rfl
          have hcz56_1 : w41.cell? ⟨gb360, 1, none⟩ = some (.int .i64 t353) := (blk_cell BK360.out 1).trans rfl
          have hcz56_2 : w41.cell? ⟨gb360, 2, none⟩ = some (.slice Ao29 t354.length co29) := (blk_cell BK360.out 2).trans rfl
          have hfz56_0 := blk_frozen BK360.out 0
          have hfz56_1 := blk_frozen BK360.out 1
          have hfz56_2 := blk_frozen BK360.out 2
          go_wp2_with (first | ((with_reducible refine gate_callee (f := 36) rfl ?_); refine goesL_ (some 45) rfl rfl Try.func36 (by kernel_rfl) rfl #[.agg #[.int .i64 t370, .int .i64 t371, .slice Ao46 t372.length co46], .agg #[.int .i64 t352, .int .i64 t353, .slice Ao29 t354.length co29]] rfl (by (try simp only [List.map_toArray, List.map_cons, List.map_nil]); first | done | rfl | (simp only [List.length_drop, List.length_take]; rfl)) ?_; (with_reducible refine (laws_eqStream.calls k t370 t371 _ _ t372 t352 t353 _ _ t354 true _ ?side1 ?side2 ?side3 ?side4 A47.out).mono ?_); (case side1 => refine (Kd.Q_reads' (e := 3) (base := w.heap.size) (ok := fun k_ => ((((((some k_ ≠ (v376 : Value).ownBlock ∧ some k_ ≠ (.slice Ao23 t346.length co23 : Value).ownBlock) ∧ some k_ ≠ (.slice Ao24 t349.length co24 : Value).ownBlock) ∧ some k_ ≠ (.slice Ao29 t354.length co29 : Value).ownBlock) ∧ some k_ ≠ (v358 : Value).ownBlock) ∧ some k_ ≠ (.slice Ao36 t363.length co36 : Value).ownBlock) ∧ some k_ ≠ (.slice Ao39 t367.length co39 : Value).ownBlock)) (n := t372.length) (c := co46) ?_).2.2; exact (by (with_reducible repeat (first | apply Kd.Q_alloc | apply Kd.Q_drewN | apply Kd.Q_drew)); exact (Kd.Q_mono (Kd.Q_far (p := ⟨gb378, 2, none⟩) (Kd.Q_far (p := ⟨gb378, 1, none⟩) (Kd.Q_far (p := ⟨gb378, 0, none⟩) (Kd.Q_types HO374.out BK378.out (by decide)) (fun _ hk => hk.2) (.int .i64 t370)) (fun _ hk => hk.2) (.int .i64 t371)) (fun _ hk => hk.2) (.slice Ao46 t372.length co46)) (fun _ h_ => h_.1)))); (case side2 => exact (Kd.Q_reads' HO374.out).2.1); (case side3 => refine (Kd.R_reads' (e := 3) (base := w.heap.size) (ok := fun k_ => ((((((some k_ ≠ (v358 : Value).ownBlock ∧ some k_ ≠ (.slice Ao23 t346.length co23 : Value).ownBlock) ∧ some k_ ≠ (.slice Ao24 t349.length co24 : Value).ownBlock) ∧ some k_ ≠ (.slice Ao36 t363.length co36 : Value).ownBlock) ∧ some k_ ≠ (.slice Ao39 t367.length co39 : Value).ownBlock) ∧ some k_ ≠ (.slice Ao46 t372.length co46 : Value).ownBlock) ∧ some k_ ≠ (v376 : Value).ownBlock)) (n := t354.length) (c := co29) ?_).2.2; exact (by (with_reducible repeat (first | apply Kd.R_alloc | apply Kd.R_drewN | apply Kd.R_drew)); exact (Kd.R_mono (Kd.R_far (p := ⟨gb378, 2, none⟩) (Kd.R_far (p := ⟨gb378, 1, none⟩) (Kd.R_far (p := ⟨gb378, 0, none⟩) (Kd.R_types HO356.out BK378.out (by decide)) (fun _ hk => hk.2) (.int .i64 t370)) (fun _ hk => hk.2) (.int .i64 t371)) (fun _ hk => hk.2) (.slice Ao46 t372.length co46)) (fun _ h_ => h_.1)))); (case side4 => exact (Kd.R_reads' HO356.out).2.1); rintro e w57 ⟨rfl, hb⟩; refine ⟨_, rfl, ?_⟩; have n0_ := Aside0.mk (Kd.R_below (by (with_reducible repeat (first | apply Kd.R_alloc | apply Kd.R_drewN | apply Kd.R_drew)); exact (Kd.R_mono (Kd.R_far (p := ⟨gb378, 2, none⟩) (Kd.R_far (p := ⟨gb378, 1, none⟩) (Kd.R_far (p := ⟨gb378, 0, none⟩) (Kd.R_types HO348.out BK378.out (by decide)) (fun _ hk => hk.2) (.int .i64 t370)) (fun _ hk => hk.2) (.int .i64 t371)) (fun _ hk => hk.2) (.slice Ao46 t372.length co46)) (fun _ h_ => h_.1))) hb); have n1_ := Aside0.mk (Kd.R_below (by (with_reducible repeat (first | apply Kd.R_alloc | apply Kd.R_drewN | apply Kd.R_drew)); exact (Kd.R_mono (Kd.R_far (p := ⟨gb378, 2, none⟩) (Kd.R_far (p := ⟨gb378, 1, none⟩) (Kd.R_far (p := ⟨gb378, 0, none⟩) (Kd.R_types HO351.out BK378.out (by decide)) (fun _ hk => hk.2) (.int .i64 t370)) (fun _ hk => hk.2) (.int .i64 t371)) (fun _ hk => hk.2) (.slice Ao46 t372.length co46)) (fun _ h_ => h_.1))) hb); have n2_ := Aside0.mk (Kd.R_below (by (with_reducible repeat (first | apply Kd.R_alloc | apply Kd.R_drewN | apply Kd.R_drew)); exact (Kd.R_mono (Kd.R_far (p := ⟨gb378, 2, none⟩) (Kd.R_far (p := ⟨gb378, 1, none⟩) (Kd.R_far (p := ⟨gb378, 0, none⟩) (Kd.R_types HO356.out BK378.out (by decide)) (fun _ hk => hk.2) (.int .i64 t370)) (fun _ hk => hk.2) (.int .i64 t371)) (fun _ hk => hk.2) (.slice Ao46 t372.length co46)) (fun _ h_ => h_.1))) hb); have n3_ := Aside0.mk (Kd.R_below (by (with_reducible repeat (first | apply Kd.R_alloc | apply Kd.R_drewN | apply Kd.R_drew)); exact (Kd.R_mono (Kd.R_far (p := ⟨gb378, 2, none⟩) (Kd.R_far (p := ⟨gb378, 1, none⟩) (Kd.R_far (p := ⟨gb378, 0, none⟩) (Kd.R_types HO359.out BK378.out (by decide)) (fun _ hk => hk.2) (.int .i64 t370)) (fun _ hk => hk.2) (.int .i64 t371)) (fun _ hk => hk.2) (.slice Ao46 t372.length co46)) (fun _ h_ => h_.1))) hb); have n4_ := Aside0.mk (Kd.R_below (by (with_reducible repeat (first | apply Kd.R_alloc | apply Kd.R_drewN | apply Kd.R_drew)); exact (Kd.R_mono (Kd.R_far (p := ⟨gb378, 2, none⟩) (Kd.R_far (p := ⟨gb378, 1, none⟩) (Kd.R_far (p := ⟨gb378, 0, none⟩) (Kd.R_types HO365.out BK378.out (by decide)) (fun _ hk => hk.2) (.int .i64 t370)) (fun _ hk => hk.2) (.int .i64 t371)) (fun _ hk => hk.2) (.slice Ao46 t372.length co46)) (fun _ h_ => h_.1))) hb); have n5_ := Aside0.mk (Kd.R_below (by (with_reducible repeat (first | apply Kd.R_alloc | apply Kd.R_drewN | apply Kd.R_drew)); exact (Kd.R_mono (Kd.R_far (p := ⟨gb378, 2, none⟩) (Kd.R_far (p := ⟨gb378, 1, none⟩) (Kd.R_far (p := ⟨gb378, 0, none⟩) (Kd.R_types HO369.out BK378.out (by decide)) (fun _ hk => hk.2) (.int .i64 t370)) (fun _ hk => hk.2) (.int .i64 t371)) (fun _ hk => hk.2) (.slice Ao46 t372.length co46)) (fun _ h_ => h_.1))) hb); have n6_ := Aside0.mk (Kd.Q_below (by (with_reducible repeat (first | apply Kd.Q_alloc | apply Kd.Q_drewN | apply Kd.Q_drew)); exact (Kd.Q_mono (Kd.Q_far (p := ⟨gb378, 2, none⟩) (Kd.Q_far (p := ⟨gb378, 1, none⟩) (Kd.Q_far (p := ⟨gb378, 0, none⟩) (Kd.Q_types HO374.out BK378.out (by decide)) (fun _ hk => hk.2) (.int .i64 t370)) (fun _ hk => hk.2) (.int .i64 t371)) (fun _ hk => hk.2) (.slice Ao46 t372.length co46)) (fun _ h_ => h_.1))) hb); have n7_ := Aside0.mk (Kd.R_below (by (with_reducible repeat (first | apply Kd.R_alloc | apply Kd.R_drewN | apply Kd.R_drew)); exact (Kd.R_mono (Kd.R_far (p := ⟨gb378, 2, none⟩) (Kd.R_far (p := ⟨gb378, 1, none⟩) (Kd.R_far (p := ⟨gb378, 0, none⟩) (Kd.R_types HO377.out BK378.out (by decide)) (fun _ hk => hk.2) (.int .i64 t370)) (fun _ hk => hk.2) (.int .i64 t371)) (fun _ hk => hk.2) (.slice Ao46 t372.length co46)) (fun _ h_ => h_.1))) hb); have n8_ := Aside0.mk (blk_below (g := gb342) (o := .cells #[.int .i64 a0_0, .int .i64 a0_1, .slice A0_2 l0_2.length c0_2] 53 (0, 0)) (by (with_reducible repeat (first | refine blk_drewN ?_ _ | refine blk_drew ?_ | refine blk_alloc ?_ _)); refine blk_far ?_ NB342_378.out _; (with_reducible repeat (first | refine blk_drewN ?_ _ | refine blk_drew ?_ | refine blk_alloc ?_ _)); refine blk_far ?_ NB342_378.out _; (with_reducible repeat (first | refine blk_drewN ?_ _ | refine blk_drew ?_ | refine blk_alloc ?_ _)); refine blk_far ?_ NB342_378.out _; (with_reducible repeat (first | refine blk_drewN ?_ _ | refine blk_drew ?_ | refine blk_alloc ?_ _)); exact BK342.out) hb); have n9_ := Aside0.mk (blk_below (g := gb360) (o := .cells #[.int .i64 t352, .int .i64 t353, .slice Ao29 t354.length co29] 45 (0, 0)) (by (with_reducible repeat (first | refine blk_drewN ?_ _ | refine blk_drew ?_ | refine blk_alloc ?_ _)); refine blk_far ?_ NB360_378.out _; (with_reducible repeat (first | refine blk_drewN ?_ _ | refine blk_drew ?_ | refine blk_alloc ?_ _)); refine blk_far ?_ NB360_378.out _; (with_reducible repeat (first | refine blk_drewN ?_ _ | refine blk_drew ?_ | refine blk_alloc ?_ _)); refine blk_far ?_ NB360_378.out _; (with_reducible repeat (first | refine blk_drewN ?_ _ | refine blk_drew ?_ | refine blk_alloc ?_ _)); exact BK360.out) hb); have n10_ := Aside0.mk (blk_below (g := gb366) (o := .cells #[.int .i64 t361, .int .i64 t362, .slice Ao36 t363.length co36] 45 (0, 0)) (by (with_reducible repeat (first | refine blk_drewN ?_ _ | refine blk_drew ?_ | refine blk_alloc ?_ _)); refine blk_far ?_ NB366_378.out _; (with_reducible repeat (first | refine blk_drewN ?_ _ | refine blk_drew ?_ | refine blk_alloc ?_ _)); refine blk_far ?_ NB366_378.out _; (with_reducible repeat (first | refine blk_drewN ?_ _ | refine blk_drew ?_ | refine blk_alloc ?_ _)); refine blk_far ?_ NB366_378.out _; (with_reducible repeat (first | refine blk_drewN ?_ _ | refine blk_drew ?_ | refine blk_alloc ?_ _)); exact BK366.out) hb); have n11_ := Aside0.mk (blk_below (g := gb378) (o := .cells #[.int .i64 t370, .int .i64 t371, .slice Ao46 t372.length co46] 45 (0, 0)) (by (with_reducible repeat (first | refine blk_drewN ?_ _ | refine blk_drew ?_ | refine blk_alloc ?_ _)); refine blk_put (cs := #[.int .i64 t370, .int .i64 t371, .slice none 0 0]) ?_ 2 _ rfl; (with_reducible repeat (first | refine blk_drewN ?_ _ | refine blk_drew ?_ | refine blk_alloc ?_ _)); refine blk_put (cs := #[.int .i64 t370, .int .i64 0, .slice none 0 0]) ?_ 1 _ rfl; (with_reducible repeat (first | refine blk_drewN ?_ _ | refine blk_drew ?_ | refine blk_alloc ?_ _)); refine blk_put (cs := #[.int .i64 0, .int .i64 0, .slice none 0 0]) ?_ 0 _ rfl; (with_reducible repeat (first | refine blk_drewN ?_ _ | refine blk_drew ?_ | refine blk_alloc ?_ _)); exact BK378.out) hb); have n12_ := Aside0.mk (below_step (by repeat (first | (with_reducible first | exact HB.out | apply below_alloc | apply pw_below_drewN | apply below_drew1 | refine below_set ?_ GE342.out | refine below_set ?_ GE360.out | refine below_set ?_ GE366.out | refine below_set ?_ GE378.out) | exact HB.out)) hb); clear HO348; clear HO351; clear HO356; clear HO359; clear HO365; clear HO369; clear HO374; clear HO377; clear BK342; clear BK360; clear BK366; clear BK378; clear HB; have HO348 := n0_; have HO351 := n1_; have HO356 := n2_; have HO359 := n3_; have HO365 := n4_; have HO369 := n5_; have HO374 := n6_; have HO377 := n7_; have BK342 := n8_; have BK360 := n9_; have BK366 := n10_; have BK378 := n11_; have HB := n12_; clear n0_ n1_ n2_ n3_ n4_ n5_ n6_ n7_ n8_ n9_ n10_ n11_ n12_; (try clear hb); (try clear hb2); (try clear hk); (try clear hi); obtain ⟨Ao58, co58, eo58⟩ := Kd.R_slice HO377.out; subst eo58; obtain ⟨Ao59, co59, eo59⟩ := Kd.R_slice HO359.out; subst eo59) | (go_at_call 37; (with_reducible refine (laws_eqIntS.calls k _ _ t375 _ _ t357 t380 _ ?side1 ?side2 ?side3 ?side4 A49.out).mono ?_); (case side1 => repeat (first | exact (Kd.R_reads' HO377.out).2.2 | (with_reducible refine Kd.C_alloc ?_ _) | (with_reducible refine Kd.C_drewN ?_ _) | (with_reducible refine Kd.C_drew ?_))); (case side2 => exact (Kd.R_reads' HO377.out).2.1); (case side3 => repeat (first | exact (Kd.R_reads' HO359.out).2.2 | (with_reducible refine Kd.C_alloc ?_ _) | (with_reducible refine Kd.C_drewN ?_ _) | (with_reducible refine Kd.C_drew ?_))); (case side4 => exact (Kd.R_reads' HO359.out).2.1); rintro e w' ⟨rfl, ⟨nd, rfl⟩⟩))
          go_meet
          case rel => exact ⟨_, (!t380), (by first | rfl | (simp; done) | (simp [*]; done)), H', ⟨by first | omega | exact Nat.le_refl _⟩, ⟨by (with_reducible repeat (first | apply Kd.R_alloc | apply Kd.R_drewN | apply Kd.R_drew)); exact Kd.R_mono HO359.out (fun _ hk => ⟨hk.1.1.2, ⟨hk.2, ⟨hk.1.1.1.1.1.1, ⟨hk.1.1.1.2, hk.1.2⟩⟩⟩⟩)⟩, ⟨by (with_reducible repeat (first | apply Kd.R_alloc | apply Kd.R_drewN | apply Kd.R_drew)); exact Kd.R_mono HO369.out (fun _ hk => ⟨hk.1.1.1.2, ⟨hk.2, ⟨hk.1.1.1.1.2, ⟨hk.1.1.2, hk.1.2⟩⟩⟩⟩)⟩, ⟨by (with_reducible repeat (first | apply Kd.R_alloc | apply Kd.R_drewN | apply Kd.R_drew)); exact Kd.R_mono HO377.out (fun _ hk => ⟨hk.1.1.2, ⟨hk.2, ⟨hk.1.1.1.2, ⟨hk.1.2, hk.1.1.1.1.1.1⟩⟩⟩⟩)⟩, ⟨Kd.Q_of_R (by (with_reducible repeat (first | apply Kd.R_alloc | apply Kd.R_drewN | apply Kd.R_drew)); exact Kd.R_mono HO356.out (fun _ hk => ⟨hk.1.1.1.1.1.1, ⟨hk.1.1.2, ⟨hk.2, ⟨hk.1.1.1.2, hk.1.2⟩⟩⟩⟩))⟩, ⟨Kd.Q_of_R (by (with_reducible repeat (first | apply Kd.R_alloc | apply Kd.R_drewN | apply Kd.R_drew)); exact Kd.R_mono HO365.out (fun _ hk => ⟨hk.1.1.1.2, ⟨hk.1.1.2, ⟨hk.2, ⟨hk.1.1.1.1.2, hk.1.2⟩⟩⟩⟩))⟩, ⟨by (with_reducible repeat (first | apply Kd.Q_alloc | apply Kd.Q_drewN | apply Kd.Q_drew)); exact Kd.Q_mono HO374.out (fun _ hk => ⟨hk.1.1.2, ⟨hk.2, ⟨hk.1.1.1.1.1.1, ⟨hk.1.1.1.2, hk.1.2⟩⟩⟩⟩)⟩, ⟨by (with_reducible repeat (first | refine blk_drewN ?_ _ | refine blk_drew ?_ | refine blk_alloc ?_ _)); exact BK342.out⟩, ⟨by (with_reducible repeat (first | refine blk_drewN ?_ _ | refine blk_drew ?_ | refine blk_alloc ?_ _)); exact BK360.out⟩, ⟨by (with_reducible repeat (first | refine blk_drewN ?_ _ | refine blk_drew ?_ | refine blk_alloc ?_ _)); exact BK366.out⟩, ⟨by (with_reducible repeat (first | refine blk_drewN ?_ _ | refine blk_drew ?_ | refine blk_alloc ?_ _)); exact BK378.out⟩, ⟨by repeat (first | (with_reducible first | exact HB.out | apply below_alloc | apply pw_below_drewN | apply below_drew1 | refine below_set ?_ GE342.out | refine below_set ?_ GE360.out | refine below_set ?_ GE366.out | refine below_set ?_ GE378.out) | exact HB.out)⟩⟩
        · replace c48 := Bool.eq_false_iff.mpr c48
          subst c48
          have H1 : (laws_FnExactAcceptAll.j0 k l1 t357 t367 t375 true a0_0 a0_1 l0_2 t352 t353 t354 t361 t362 t363 t370 t371 t372) = some r := by rw [if_neg (show ¬ (false = true) by decide)] at H; exact H
          clear H
          have H := H1
          clear H1
          have H' := Aside0.mk H
          clear H
          have hnb60 := NB378_342.out
          have hnc60 := NB342_378.out
          have hnb61 := NB378_360.out
          have hnc61 := NB360_378.out
          have hnb62 := NB378_366.out
          have hnc62 := NB366_378.out
          have hcz63_0 : w41.cell? ⟨gb378, 0, none⟩ = some (.int .i64 0) := (blk_cell BK378.out 0).trans rfl
          have hcz63_1 : w41.cell? ⟨gb378, 1, none⟩ = some (.int .i64 0) := (blk_cell BK378.out 1).trans rfl
          have hcz63_2 : w41.cell? ⟨gb378, 2, none⟩ = some (.slice none 0 0) := (blk_cell BK378.out 2).trans rfl
          have hfz63_0 := blk_frozen BK378.out 0
          have hfz63_1 := blk_frozen BK378.out 1
          have hfz63_2 := blk_frozen BK378.out 2
          have hnb64 := NB360_342.out
          have hnc64 := NB342_360.out
          have hnb65 := NB360_366.out
          have hnc65 := NB366_360.out
          have hcz66_0 : w41.cell? ⟨gb360, 0, none⟩ = some (.int .i64 t352) := (blk_cell BK360.out 0).trans rfl
          have hcz66_1 : w41.cell? ⟨gb360, 1, none⟩ = some (.int .i64 t353) := (blk_cell BK360.out 1).trans rfl
          have hcz66_2 : w41.cell? ⟨gb360, 2, none⟩ = some (.slice Ao29 t354.length co29) := (blk_cell BK360.out 2).trans rfl
          have hfz66_0 := blk_frozen BK360.out 0
          have hfz66_1 := blk_frozen BK360.out 1
          have hfz66_2 := blk_frozen BK360.out 2
          go_wp2_with (first | ((with_reducible refine gate_callee (f := 36) rfl ?_); refine goesL_ (some 45) rfl rfl Try.func36 (by kernel_rfl) rfl #[.agg #[.int .i64 t370, .int .i64 t371, .slice Ao46 t372.length co46], .agg #[.int .i64 t352, .int .i64 t353, .slice Ao29 t354.length co29]] rfl (by (try simp only [List.map_toArray, List.map_cons, List.map_nil]); first | done | rfl | (simp only [List.length_drop, List.length_take]; rfl)) ?_; (with_reducible refine (laws_eqStream.calls k t370 t371 _ _ t372 t352 t353 _ _ t354 false _ ?side1 ?side2 ?side3 ?side4 A47.out).mono ?_); (case side1 => refine (Kd.Q_reads' (e := 3) (base := w.heap.size) (ok := fun k_ => ((((((some k_ ≠ (v376 : Value).ownBlock ∧ some k_ ≠ (.slice Ao23 t346.length co23 : Value).ownBlock) ∧ some k_ ≠ (.slice Ao24 t349.length co24 : Value).ownBlock) ∧ some k_ ≠ (.slice Ao29 t354.length co29 : Value).ownBlock) ∧ some k_ ≠ (v358 : Value).ownBlock) ∧ some k_ ≠ (.slice Ao36 t363.length co36 : Value).ownBlock) ∧ some k_ ≠ (.slice Ao39 t367.length co39 : Value).ownBlock)) (n := t372.length) (c := co46) ?_).2.2; exact (by (with_reducible repeat (first | apply Kd.Q_alloc | apply Kd.Q_drewN | apply Kd.Q_drew)); exact (Kd.Q_mono (Kd.Q_far (p := ⟨gb378, 2, none⟩) (Kd.Q_far (p := ⟨gb378, 1, none⟩) (Kd.Q_far (p := ⟨gb378, 0, none⟩) (Kd.Q_types HO374.out BK378.out (by decide)) (fun _ hk => hk.2) (.int .i64 t370)) (fun _ hk => hk.2) (.int .i64 t371)) (fun _ hk => hk.2) (.slice Ao46 t372.length co46)) (fun _ h_ => h_.1)))); (case side2 => exact (Kd.Q_reads' HO374.out).2.1); (case side3 => refine (Kd.R_reads' (e := 3) (base := w.heap.size) (ok := fun k_ => ((((((some k_ ≠ (v358 : Value).ownBlock ∧ some k_ ≠ (.slice Ao23 t346.length co23 : Value).ownBlock) ∧ some k_ ≠ (.slice Ao24 t349.length co24 : Value).ownBlock) ∧ some k_ ≠ (.slice Ao36 t363.length co36 : Value).ownBlock) ∧ some k_ ≠ (.slice Ao39 t367.length co39 : Value).ownBlock) ∧ some k_ ≠ (.slice Ao46 t372.length co46 : Value).ownBlock) ∧ some k_ ≠ (v376 : Value).ownBlock)) (n := t354.length) (c := co29) ?_).2.2; exact (by (with_reducible repeat (first | apply Kd.R_alloc | apply Kd.R_drewN | apply Kd.R_drew)); exact (Kd.R_mono (Kd.R_far (p := ⟨gb378, 2, none⟩) (Kd.R_far (p := ⟨gb378, 1, none⟩) (Kd.R_far (p := ⟨gb378, 0, none⟩) (Kd.R_types HO356.out BK378.out (by decide)) (fun _ hk => hk.2) (.int .i64 t370)) (fun _ hk => hk.2) (.int .i64 t371)) (fun _ hk => hk.2) (.slice Ao46 t372.length co46)) (fun _ h_ => h_.1)))); (case side4 => exact (Kd.R_reads' HO356.out).2.1); rintro e w67 ⟨rfl, hb⟩; refine ⟨_, rfl, ?_⟩; have n0_ := Aside0.mk (Kd.R_below (by (with_reducible repeat (first | apply Kd.R_alloc | apply Kd.R_drewN | apply Kd.R_drew)); exact (Kd.R_mono (Kd.R_far (p := ⟨gb378, 2, none⟩) (Kd.R_far (p := ⟨gb378, 1, none⟩) (Kd.R_far (p := ⟨gb378, 0, none⟩) (Kd.R_types HO348.out BK378.out (by decide)) (fun _ hk => hk.2) (.int .i64 t370)) (fun _ hk => hk.2) (.int .i64 t371)) (fun _ hk => hk.2) (.slice Ao46 t372.length co46)) (fun _ h_ => h_.1))) hb); have n1_ := Aside0.mk (Kd.R_below (by (with_reducible repeat (first | apply Kd.R_alloc | apply Kd.R_drewN | apply Kd.R_drew)); exact (Kd.R_mono (Kd.R_far (p := ⟨gb378, 2, none⟩) (Kd.R_far (p := ⟨gb378, 1, none⟩) (Kd.R_far (p := ⟨gb378, 0, none⟩) (Kd.R_types HO351.out BK378.out (by decide)) (fun _ hk => hk.2) (.int .i64 t370)) (fun _ hk => hk.2) (.int .i64 t371)) (fun _ hk => hk.2) (.slice Ao46 t372.length co46)) (fun _ h_ => h_.1))) hb); have n2_ := Aside0.mk (Kd.R_below (by (with_reducible repeat (first | apply Kd.R_alloc | apply Kd.R_drewN | apply Kd.R_drew)); exact (Kd.R_mono (Kd.R_far (p := ⟨gb378, 2, none⟩) (Kd.R_far (p := ⟨gb378, 1, none⟩) (Kd.R_far (p := ⟨gb378, 0, none⟩) (Kd.R_types HO356.out BK378.out (by decide)) (fun _ hk => hk.2) (.int .i64 t370)) (fun _ hk => hk.2) (.int .i64 t371)) (fun _ hk => hk.2) (.slice Ao46 t372.length co46)) (fun _ h_ => h_.1))) hb); have n3_ := Aside0.mk (Kd.R_below (by (with_reducible repeat (first | apply Kd.R_alloc | apply Kd.R_drewN | apply Kd.R_drew)); exact (Kd.R_mono (Kd.R_far (p := ⟨gb378, 2, none⟩) (Kd.R_far (p := ⟨gb378, 1, none⟩) (Kd.R_far (p := ⟨gb378, 0, none⟩) (Kd.R_types HO359.out BK378.out (by decide)) (fun _ hk => hk.2) (.int .i64 t370)) (fun _ hk => hk.2) (.int .i64 t371)) (fun _ hk => hk.2) (.slice Ao46 t372.length co46)) (fun _ h_ => h_.1))) hb); have n4_ := Aside0.mk (Kd.R_below (by (with_reducible repeat (first | apply Kd.R_alloc | apply Kd.R_drewN | apply Kd.R_drew)); exact (Kd.R_mono (Kd.R_far (p := ⟨gb378, 2, none⟩) (Kd.R_far (p := ⟨gb378, 1, none⟩) (Kd.R_far (p := ⟨gb378, 0, none⟩) (Kd.R_types HO365.out BK378.out (by decide)) (fun _ hk => hk.2) (.int .i64 t370)) (fun _ hk => hk.2) (.int .i64 t371)) (fun _ hk => hk.2) (.slice Ao46 t372.length co46)) (fun _ h_ => h_.1))) hb); have n5_ := Aside0.mk (Kd.R_below (by (with_reducible repeat (first | apply Kd.R_alloc | apply Kd.R_drewN | apply Kd.R_drew)); exact (Kd.R_mono (Kd.R_far (p := ⟨gb378, 2, none⟩) (Kd.R_far (p := ⟨gb378, 1, none⟩) (Kd.R_far (p := ⟨gb378, 0, none⟩) (Kd.R_types HO369.out BK378.out (by decide)) (fun _ hk => hk.2) (.int .i64 t370)) (fun _ hk => hk.2) (.int .i64 t371)) (fun _ hk => hk.2) (.slice Ao46 t372.length co46)) (fun _ h_ => h_.1))) hb); have n6_ := Aside0.mk (Kd.Q_below (by (with_reducible repeat (first | apply Kd.Q_alloc | apply Kd.Q_drewN | apply Kd.Q_drew)); exact (Kd.Q_mono (Kd.Q_far (p := ⟨gb378, 2, none⟩) (Kd.Q_far (p := ⟨gb378, 1, none⟩) (Kd.Q_far (p := ⟨gb378, 0, none⟩) (Kd.Q_types HO374.out BK378.out (by decide)) (fun _ hk => hk.2) (.int .i64 t370)) (fun _ hk => hk.2) (.int .i64 t371)) (fun _ hk => hk.2) (.slice Ao46 t372.length co46)) (fun _ h_ => h_.1))) hb); have n7_ := Aside0.mk (Kd.R_below (by (with_reducible repeat (first | apply Kd.R_alloc | apply Kd.R_drewN | apply Kd.R_drew)); exact (Kd.R_mono (Kd.R_far (p := ⟨gb378, 2, none⟩) (Kd.R_far (p := ⟨gb378, 1, none⟩) (Kd.R_far (p := ⟨gb378, 0, none⟩) (Kd.R_types HO377.out BK378.out (by decide)) (fun _ hk => hk.2) (.int .i64 t370)) (fun _ hk => hk.2) (.int .i64 t371)) (fun _ hk => hk.2) (.slice Ao46 t372.length co46)) (fun _ h_ => h_.1))) hb); have n8_ := Aside0.mk (blk_below (g := gb342) (o := .cells #[.int .i64 a0_0, .int .i64 a0_1, .slice A0_2 l0_2.length c0_2] 53 (0, 0)) (by (with_reducible repeat (first | refine blk_drewN ?_ _ | refine blk_drew ?_ | refine blk_alloc ?_ _)); refine blk_far ?_ NB342_378.out _; (with_reducible repeat (first | refine blk_drewN ?_ _ | refine blk_drew ?_ | refine blk_alloc ?_ _)); refine blk_far ?_ NB342_378.out _; (with_reducible repeat (first | refine blk_drewN ?_ _ | refine blk_drew ?_ | refine blk_alloc ?_ _)); refine blk_far ?_ NB342_378.out _; (with_reducible repeat (first | refine blk_drewN ?_ _ | refine blk_drew ?_ | refine blk_alloc ?_ _)); exact BK342.out) hb); have n9_ := Aside0.mk (blk_below (g := gb360) (o := .cells #[.int .i64 t352, .int .i64 t353, .slice Ao29 t354.length co29] 45 (0, 0)) (by (with_reducible repeat (first | refine blk_drewN ?_ _ | refine blk_drew ?_ | refine blk_alloc ?_ _)); refine blk_far ?_ NB360_378.out _; (with_reducible repeat (first | refine blk_drewN ?_ _ | refine blk_drew ?_ | refine blk_alloc ?_ _)); refine blk_far ?_ NB360_378.out _; (with_reducible repeat (first | refine blk_drewN ?_ _ | refine blk_drew ?_ | refine blk_alloc ?_ _)); refine blk_far ?_ NB360_378.out _; (with_reducible repeat (first | refine blk_drewN ?_ _ | refine blk_drew ?_ | refine blk_alloc ?_ _)); exact BK360.out) hb); have n10_ := Aside0.mk (blk_below (g := gb366) (o := .cells #[.int .i64 t361, .int .i64 t362, .slice Ao36 t363.length co36] 45 (0, 0)) (by (with_reducible repeat (first | refine blk_drewN ?_ _ | refine blk_drew ?_ | refine blk_alloc ?_ _)); refine blk_far ?_ NB366_378.out _; (with_reducible repeat (first | refine blk_drewN ?_ _ | refine blk_drew ?_ | refine blk_alloc ?_ _)); refine blk_far ?_ NB366_378.out _; (with_reducible repeat (first | refine blk_drewN ?_ _ | refine blk_drew ?_ | refine blk_alloc ?_ _)); refine blk_far ?_ NB366_378.out _; (with_reducible repeat (first | refine blk_drewN ?_ _ | refine blk_drew ?_ | refine blk_alloc ?_ _)); exact BK366.out) hb); have n11_ := Aside0.mk (blk_below (g := gb378) (o := .cells #[.int .i64 t370, .int .i64 t371, .slice Ao46 t372.length co46] 45 (0, 0)) (by (with_reducible repeat (first | refine blk_drewN ?_ _ | refine blk_drew ?_ | refine blk_alloc ?_ _)); refine blk_put (cs := #[.int .i64 t370, .int .i64 t371, .slice none 0 0]) ?_ 2 _ rfl; (with_reducible repeat (first | refine blk_drewN ?_ _ | refine blk_drew ?_ | refine blk_alloc ?_ _)); refine blk_put (cs := #[.int .i64 t370, .int .i64 0, .slice none 0 0]) ?_ 1 _ rfl; (with_reducible repeat (first | refine blk_drewN ?_ _ | refine blk_drew ?_ | refine blk_alloc ?_ _)); refine blk_put (cs := #[.int .i64 0, .int .i64 0, .slice none 0 0]) ?_ 0 _ rfl; (with_reducible repeat (first | refine blk_drewN ?_ _ | refine blk_drew ?_ | refine blk_alloc ?_ _)); exact BK378.out) hb); have n12_ := Aside0.mk (below_step (by repeat (first | (with_reducible first | exact HB.out | apply below_alloc | apply pw_below_drewN | apply below_drew1 | refine below_set ?_ GE342.out | refine below_set ?_ GE360.out | refine below_set ?_ GE366.out | refine below_set ?_ GE378.out) | exact HB.out)) hb); clear HO348; clear HO351; clear HO356; clear HO359; clear HO365; clear HO369; clear HO374; clear HO377; clear BK342; clear BK360; clear BK366; clear BK378; clear HB; have HO348 := n0_; have HO351 := n1_; have HO356 := n2_; have HO359 := n3_; have HO365 := n4_; have HO369 := n5_; have HO374 := n6_; have HO377 := n7_; have BK342 := n8_; have BK360 := n9_; have BK366 := n10_; have BK378 := n11_; have HB := n12_; clear n0_ n1_ n2_ n3_ n4_ n5_ n6_ n7_ n8_ n9_ n10_ n11_ n12_; (try clear hb); (try clear hb2); (try clear hk); (try clear hi)))
          go_meet
          case rel => exact ⟨_, (true), (by first | rfl | (simp; done) | (simp [*]; done)), H', ⟨by first | omega | exact Nat.le_refl _⟩, ⟨by (with_reducible repeat (first | apply Kd.R_alloc | apply Kd.R_drewN | apply Kd.R_drew)); exact Kd.R_mono HO359.out (fun _ hk => ⟨hk.1.1.2, ⟨hk.2, ⟨hk.1.1.1.1.1.1, ⟨hk.1.1.1.2, hk.1.2⟩⟩⟩⟩)⟩, ⟨by (with_reducible repeat (first | apply Kd.R_alloc | apply Kd.R_drewN | apply Kd.R_drew)); exact Kd.R_mono HO369.out (fun _ hk => ⟨hk.1.1.1.2, ⟨hk.2, ⟨hk.1.1.1.1.2, ⟨hk.1.1.2, hk.1.2⟩⟩⟩⟩)⟩, ⟨by (with_reducible repeat (first | apply Kd.R_alloc | apply Kd.R_drewN | apply Kd.R_drew)); exact Kd.R_mono HO377.out (fun _ hk => ⟨hk.1.1.2, ⟨hk.2, ⟨hk.1.1.1.2, ⟨hk.1.2, hk.1.1.1.1.1.1⟩⟩⟩⟩)⟩, ⟨Kd.Q_of_R (by (with_reducible repeat (first | apply Kd.R_alloc | apply Kd.R_drewN | apply Kd.R_drew)); exact Kd.R_mono HO356.out (fun _ hk => ⟨hk.1.1.1.1.1.1, ⟨hk.1.1.2, ⟨hk.2, ⟨hk.1.1.1.2, hk.1.2⟩⟩⟩⟩))⟩, ⟨Kd.Q_of_R (by (with_reducible repeat (first | apply Kd.R_alloc | apply Kd.R_drewN | apply Kd.R_drew)); exact Kd.R_mono HO365.out (fun _ hk => ⟨hk.1.1.1.2, ⟨hk.1.1.2, ⟨hk.2, ⟨hk.1.1.1.1.2, hk.1.2⟩⟩⟩⟩))⟩, ⟨by (with_reducible repeat (first | apply Kd.Q_alloc | apply Kd.Q_drewN | apply Kd.Q_drew)); exact Kd.Q_mono HO374.out (fun _ hk => ⟨hk.1.1.2, ⟨hk.2, ⟨hk.1.1.1.1.1.1, ⟨hk.1.1.1.2, hk.1.2⟩⟩⟩⟩)⟩, ⟨by (with_reducible repeat (first | refine blk_drewN ?_ _ | refine blk_drew ?_ | refine blk_alloc ?_ _)); exact BK342.out⟩, ⟨by (with_reducible repeat (first | refine blk_drewN ?_ _ | refine blk_drew ?_ | refine blk_alloc ?_ _)); exact BK360.out⟩, ⟨by (with_reducible repeat (first | refine blk_drewN ?_ _ | refine blk_drew ?_ | refine blk_alloc ?_ _)); exact BK366.out⟩, ⟨by (with_reducible repeat (first | refine blk_drewN ?_ _ | refine blk_drew ?_ | refine blk_alloc ?_ _)); exact BK378.out⟩, ⟨by repeat (first | (with_reducible first | exact HB.out | apply below_alloc | apply pw_below_drewN | apply below_drew1 | refine below_set ?_ GE342.out | refine below_set ?_ GE360.out | refine below_set ?_ GE366.out | refine below_set ?_ GE378.out) | exact HB.out)⟩⟩
      case rest =>
        clear HC16
        try clear c1
        try clear c2
        try clear p2
        try clear c3
        try clear c3b0
        try clear c3b1
        try clear c4
        try clear c5
        try clear c6
        try clear c6b0
        try clear c7
        try clear c27
        try clear c32
        try clear c33
        try clear c34
        try clear c36
        try clear c42
        try clear c43
        try clear c44
        try clear c48
        try clear c50
        try clear c51
        try clear c52
        try clear c54
        try clear c55
        try clear c60
        try clear c61
        try clear c62
        try clear c64
        try clear c65
        try clear hcz18_0
        try clear hcz18_1
        try clear hcz18_2
        try clear hcz20_0
        try clear hcz20_1
        try clear hcz20_2
        try clear hcz28_0
        try clear hcz28_1
        try clear hcz28_2
        try clear hcz30_0
        try clear hcz30_1
        try clear hcz30_2
        try clear hcz35_0
        try clear hcz35_1
        try clear hcz35_2
        try clear hcz38_0
        try clear hcz38_1
        try clear hcz38_2
        try clear hcz45_0
        try clear hcz45_1
        try clear hcz45_2
        try clear hcz53_0
        try clear hcz53_1
        try clear hcz53_2
        try clear hcz56_0
        try clear hcz56_1
        try clear hcz56_2
        try clear hcz63_0
        try clear hcz63_1
        try clear hcz63_2
        try clear hcz66_0
        try clear hcz66_1
        try clear hcz66_2
        try clear hcz8_0
        try clear hcz8_1
        try clear hcz8_2
        try clear hfz18_0
        try clear hfz18_1
        try clear hfz18_2
        try clear hfz20_0
        try clear hfz20_1
        try clear hfz20_2
        try clear hfz28_0
        try clear hfz28_1
        try clear hfz28_2
        try clear hfz30_0
        try clear hfz30_1
        try clear hfz30_2
        try clear hfz35_0
        try clear hfz35_1
        try clear hfz35_2
        try clear hfz38_0
        try clear hfz38_1
        try clear hfz38_2
        try clear hfz45_0
        try clear hfz45_1
        try clear hfz45_2
        try clear hfz53_0
        try clear hfz53_1
        try clear hfz53_2
        try clear hfz56_0
        try clear hfz56_1
        try clear hfz56_2
        try clear hfz63_0
        try clear hfz63_1
        try clear hfz63_2
        try clear hfz66_0
        try clear hfz66_1
        try clear hfz66_2
        try clear hfz8_0
        try clear hfz8_1
        try clear hfz8_2
        obtain ⟨kq, x52_15, rfl, HA, HJ15, HO_7, HO_9, HO_11, HO_361002, HO_367002, HO_379002, BK342, BK360, BK366, BK378, HB⟩ := hcut
        cases kq with
        | zero => exact absurd HA.out (by simp [laws_FnExactAcceptAll.j0])
        | succ kj15 =>
          have H := HA.out
          clear HA
          simp only [laws_FnExactAcceptAll.j0] at H
          by_cases c68 : x52_15 = true
          · subst c68
            have H1 : (some false) = some r := by rw [if_pos rfl] at H; exact H
            clear H
            have H := H1
            clear H1
            exact absurd ((Option.some.inj H).trans HTRUE.out) (by decide)
          · replace c68 := Bool.eq_false_iff.mpr c68
            subst c68
            have H1 : ((laws_toStream.f kj15 a0_0 a0_1 l0_2).bind fun bt381 => ((laws_eqStream.f kj15 t361 t362 t363 bt381.1 bt381.2.1 bt381.2.2).bind fun t386 => (if t386 = true then ((laws_toIntS.f kj15 l1).bind fun t387 => ((laws_eqIntS.f kj15 t367 t387).bind fun t390 => (if t390 = true then ((laws_markStream.f kj15 t361 t362 t363 1).bind fun bt391 => ((laws_markIntS.f kj15 t367 bt391.1).bind fun bt393 => (if bt393.1 < 0 then (laws_FnExactAcceptAll.j1 kj15 l1 t357 t375 true a0_0 a0_1 l0_2 t352 t353 t354 t370 t371 t372) else ((laws_eqStream.f kj15 t370 t371 t372 t352 t353 t354).bind fun t395 => (if t395 = true then ((laws_eqIntS.f kj15 t375 t357).bind fun t396 => (laws_FnExactAcceptAll.j1 kj15 l1 t357 t375 (!t396) a0_0 a0_1 l0_2 t352 t353 t354 t370 t371 t372)) else (laws_FnExactAcceptAll.j1 kj15 l1 t357 t375 true a0_0 a0_1 l0_2 t352 t353 t354 t370 t371 t372)))))) else (some false)))) else (some false)))) = some r := by rw [if_neg (show ¬ (false = true) by decide)] at H; exact H
            clear H
            have H := H1
            clear H1
            replace H := Option.bind_eq_some_iff.mp H
            obtain ⟨⟨t381, t382, t383⟩, A690, H⟩ := H
            replace H : ((laws_eqStream.f kj15 t361 t362 t363 t381 t382 t383).bind fun t386 => (if t386 = true then ((laws_toIntS.f kj15 l1).bind fun t387 => ((laws_eqIntS.f kj15 t367 t387).bind fun t390 => (if t390 = true then ((laws_markStream.f kj15 t361 t362 t363 1).bind fun bt391 => ((laws_markIntS.f kj15 t367 bt391.1).bind fun bt393 => (if bt393.1 < 0 then (laws_FnExactAcceptAll.j1 kj15 l1 t357 t375 true a0_0 a0_1 l0_2 t352 t353 t354 t370 t371 t372) else ((laws_eqStream.f kj15 t370 t371 t372 t352 t353 t354).bind fun t395 => (if t395 = true then ((laws_eqIntS.f kj15 t375 t357).bind fun t396 => (laws_FnExactAcceptAll.j1 kj15 l1 t357 t375 (!t396) a0_0 a0_1 l0_2 t352 t353 t354 t370 t371 t372)) else (laws_FnExactAcceptAll.j1 kj15 l1 t357 t375 true a0_0 a0_1 l0_2 t352 t353 t354 t370 t371 t372)))))) else (some false)))) else (some false))) = some r := H
            have A69 := Aside0.mk A690
            clear A690
            replace H := Option.bind_eq_some_iff.mp H
            obtain ⟨t386, A700, H⟩ := H
            replace H : (if t386 = true then ((laws_toIntS.f kj15 l1).bind fun t387 => ((laws_eqIntS.f kj15 t367 t387).bind fun t390 => (if t390 = true then ((laws_markStream.f kj15 t361 t362 t363 1).bind fun bt391 => ((laws_markIntS.f kj15 t367 bt391.1).bind fun bt393 => (if bt393.1 < 0 then (laws_FnExactAcceptAll.j1 kj15 l1 t357 t375 true a0_0 a0_1 l0_2 t352 t353 t354 t370 t371 t372) else ((laws_eqStream.f kj15 t370 t371 t372 t352 t353 t354).bind fun t395 => (if t395 = true then ((laws_eqIntS.f kj15 t375 t357).bind fun t396 => (laws_FnExactAcceptAll.j1 kj15 l1 t357 t375 (!t396) a0_0 a0_1 l0_2 t352 t353 t354 t370 t371 t372)) else (laws_FnExactAcceptAll.j1 kj15 l1 t357 t375 true a0_0 a0_1 l0_2 t352 t353 t354 t370 t371 t372)))))) else (some false)))) else (some false)) = some r := H
            have A70 := Aside0.mk A700
            clear A700
            by_cases c71 : t386 = true
            · subst c71
              have H1 : ((laws_toIntS.f kj15 l1).bind fun t387 => ((laws_eqIntS.f kj15 t367 t387).bind fun t390 => (if t390 = true then ((laws_markStream.f kj15 t361 t362 t363 1).bind fun bt391 => ((laws_markIntS.f kj15 t367 bt391.1).bind fun bt393 => (if bt393.1 < 0 then (laws_FnExactAcceptAll.j1 kj15 l1 t357 t375 true a0_0 a0_1 l0_2 t352 t353 t354 t370 t371 t372) else ((laws_eqStream.f kj15 t370 t371 t372 t352 t353 t354).bind fun t395 => (if t395 = true then ((laws_eqIntS.f kj15 t375 t357).bind fun t396 => (laws_FnExactAcceptAll.j1 kj15 l1 t357 t375 (!t396) a0_0 a0_1 l0_2 t352 t353 t354 t370 t371 t372)) else (laws_FnExactAcceptAll.j1 kj15 l1 t357 t375 true a0_0 a0_1 l0_2 t352 t353 t354 t370 t371 t372)))))) else (some false)))) = some r := by rw [if_pos rfl] at H; exact H
              clear H
              have H := H1
              clear H1
              replace H := Option.bind_eq_some_iff.mp H
              obtain ⟨t387, A720, H⟩ := H
              replace H : ((laws_eqIntS.f kj15 t367 t387).bind fun t390 => (if t390 = true then ((laws_markStream.f kj15 t361 t362 t363 1).bind fun bt391 => ((laws_markIntS.f kj15 t367 bt391.1).bind fun bt393 => (if bt393.1 < 0 then (laws_FnExactAcceptAll.j1 kj15 l1 t357 t375 true a0_0 a0_1 l0_2 t352 t353 t354 t370 t371 t372) else ((laws_eqStream.f kj15 t370 t371 t372 t352 t353 t354).bind fun t395 => (if t395 = true then ((laws_eqIntS.f kj15 t375 t357).bind fun t396 => (laws_FnExactAcceptAll.j1 kj15 l1 t357 t375 (!t396) a0_0 a0_1 l0_2 t352 t353 t354 t370 t371 t372)) else (laws_FnExactAcceptAll.j1 kj15 l1 t357 t375 true a0_0 a0_1 l0_2 t352 t353 t354 t370 t371 t372)))))) else (some false))) = some r := H
              have A72 := Aside0.mk A720
              clear A720
              replace H := Option.bind_eq_some_iff.mp H
              obtain ⟨t390, A730, H⟩ := H
              replace H : (if t390 = true then ((laws_markStream.f kj15 t361 t362 t363 1).bind fun bt391 => ((laws_markIntS.f kj15 t367 bt391.1).bind fun bt393 => (if bt393.1 < 0 then (laws_FnExactAcceptAll.j1 kj15 l1 t357 t375 true a0_0 a0_1 l0_2 t352 t353 t354 t370 t371 t372) else ((laws_eqStream.f kj15 t370 t371 t372 t352 t353 t354).bind fun t395 => (if t395 = true then ((laws_eqIntS.f kj15 t375 t357).bind fun t396 => (laws_FnExactAcceptAll.j1 kj15 l1 t357 t375 (!t396) a0_0 a0_1 l0_2 t352 t353 t354 t370 t371 t372)) else (laws_FnExactAcceptAll.j1 kj15 l1 t357 t375 true a0_0 a0_1 l0_2 t352 t353 t354 t370 t371 t372)))))) else (some false)) = some r := H
              have A73 := Aside0.mk A730
              clear A730
              by_cases c74 : t390 = true
              · subst c74
                have H1 : ((laws_markStream.f kj15 t361 t362 t363 1).bind fun bt391 => ((laws_markIntS.f kj15 t367 bt391.1).bind fun bt393 => (if bt393.1 < 0 then (laws_FnExactAcceptAll.j1 kj15 l1 t357 t375 true a0_0 a0_1 l0_2 t352 t353 t354 t370 t371 t372) else ((laws_eqStream.f kj15 t370 t371 t372 t352 t353 t354).bind fun t395 => (if t395 = true then ((laws_eqIntS.f kj15 t375 t357).bind fun t396 => (laws_FnExactAcceptAll.j1 kj15 l1 t357 t375 (!t396) a0_0 a0_1 l0_2 t352 t353 t354 t370 t371 t372)) else (laws_FnExactAcceptAll.j1 kj15 l1 t357 t375 true a0_0 a0_1 l0_2 t352 t353 t354 t370 t371 t372)))))) = some r := by rw [if_pos rfl] at H; exact H
                clear H
                have H := H1
                clear H1
                replace H := Option.bind_eq_some_iff.mp H
                obtain ⟨⟨t391, t392⟩, A750, H⟩ := H
                replace H : ((laws_markIntS.f kj15 t367 t391).bind fun bt393 => (if bt393.1 < 0 then (laws_FnExactAcceptAll.j1 kj15 l1 t357 t375 true a0_0 a0_1 l0_2 t352 t353 t354 t370 t371 t372) else ((laws_eqStream.f kj15 t370 t371 t372 t352 t353 t354).bind fun t395 => (if t395 = true then ((laws_eqIntS.f kj15 t375 t357).bind fun t396 => (laws_FnExactAcceptAll.j1 kj15 l1 t357 t375 (!t396) a0_0 a0_1 l0_2 t352 t353 t354 t370 t371 t372)) else (laws_FnExactAcceptAll.j1 kj15 l1 t357 t375 true a0_0 a0_1 l0_2 t352 t353 t354 t370 t371 t372))))) = some r := H
                have A75 := Aside0.mk A750
                clear A750
                replace H := Option.bind_eq_some_iff.mp H
                obtain ⟨⟨t393, t394⟩, A760, H⟩ := H
                replace H : (if t393 < 0 then (laws_FnExactAcceptAll.j1 kj15 l1 t357 t375 true a0_0 a0_1 l0_2 t352 t353 t354 t370 t371 t372) else ((laws_eqStream.f kj15 t370 t371 t372 t352 t353 t354).bind fun t395 => (if t395 = true then ((laws_eqIntS.f kj15 t375 t357).bind fun t396 => (laws_FnExactAcceptAll.j1 kj15 l1 t357 t375 (!t396) a0_0 a0_1 l0_2 t352 t353 t354 t370 t371 t372)) else (laws_FnExactAcceptAll.j1 kj15 l1 t357 t375 true a0_0 a0_1 l0_2 t352 t353 t354 t370 t371 t372)))) = some r := H
                have A76 := Aside0.mk A760
                clear A760
                have HC77 := Aside0.mk H
                clear H
                try go_wp2
                have n0_ := Aside0.mk (Kd.R_drew HO_7.out)
                have n1_ := Aside0.mk (Kd.R_drew HO_9.out)
                have n2_ := Aside0.mk (Kd.R_drew HO_11.out)
                have n3_ := Aside0.mk (Kd.Q_drew HO_361002.out)
                have n4_ := Aside0.mk (Kd.Q_drew HO_367002.out)
                have n5_ := Aside0.mk (Kd.Q_drew HO_379002.out)
                have n6_ := Aside0.mk (blk_drew BK342.out)
                have n7_ := Aside0.mk (blk_drew BK360.out)
                have n8_ := Aside0.mk (blk_drew BK366.out)
                have n9_ := Aside0.mk (blk_drew BK378.out)
                have n10_ := Aside0.mk (below_drew1 HB.out)
                clear HO_7
                clear HO_9
                clear HO_11
                clear HO_361002
                clear HO_367002
                clear HO_379002
                clear BK342
                clear BK360
                clear BK366
                clear BK378
                clear HB
                have HO_7 := n0_
                have HO_9 := n1_
                have HO_11 := n2_
                have HO_361002 := n3_
                have HO_367002 := n4_
                have HO_379002 := n5_
                have BK342 := n6_
                have BK360 := n7_
                have BK366 := n8_
                have BK378 := n9_
                have HB := n10_
                clear n0_ n1_ n2_ n3_ n4_ n5_ n6_ n7_ n8_ n9_ n10_
                refine start_ (n := 5) (S := fun w' => w'.cell? ⟨gb366, 0, none⟩ = some (.int .i64 t361) ∧ w'.cell? ⟨gb366, 1, none⟩ = some (.int .i64 t362) ∧ w'.cell? ⟨gb366, 2, none⟩ = some (.slice Ao36 t363.length co36) ∧ w'.cell? ⟨gb342, 0, none⟩ = some (.int .i64 a0_0) ∧ w'.cell? ⟨gb342, 1, none⟩ = some (.int .i64 a0_1) ∧ w'.cell? ⟨gb342, 2, none⟩ = some (.slice A0_2 l0_2.length c0_2)) (ds := []) #[false, false, false, false, false] (by kernel_rfl) rfl rfl ⟨(blk_cell BK366.out 0).trans rfl, (blk_cell BK366.out 1).trans rfl, (blk_cell BK366.out 2).trans rfl, (blk_cell BK342.out 0).trans rfl, (blk_cell BK342.out 1).trans rfl, (blk_cell BK342.out 2).trans rfl⟩ (fun hHeld => ?_)
                generalize wc.drew = w78 at HO_7 HO_9 HO_11 HO_361002 HO_367002 HO_379002 BK342 BK360 BK366 BK378 HB hHeld ⊢
                refine take_ (i := 0) (N := some 53) (v := ?_) (a' := ?_) #[true, false, false, false, false] rfl rfl (by kernel_rfl) (fun _ _ _ h => h) (Or.inl ⟨by rfl, ?_⟩) hHeld ?_ ?_
                rotate_left
                · rintro w' ⟨s0, s1, s2, s3, s4, s5⟩
                  go_simp
                  with_reducible rfl
                rotate_left
                · simp only [Act.put, List.setIfInBounds_toArray, List.set_cons_zero, List.set_cons_succ, i64_w, i32_w]
                  rfl
                refine take_ (i := 1) (N := some 54) (v := ?_) (a' := ?_) #[true, true, false, false, false] rfl rfl (by kernel_rfl) (fun _ _ _ h => h) (Or.inl ⟨by rfl, ?_⟩) hHeld ?_ ?_
                rotate_left
                · rintro w' ⟨s0, s1, s2, s3, s4, s5⟩
                  go_simp
                  with_reducible rfl
                rotate_left
                · simp only [Act.put, List.setIfInBounds_toArray, List.set_cons_zero, List.set_cons_succ, i64_w, i32_w]
                  rfl
                refine one_ (i := 2) (N := some 55) #[true, true, true, false, false] rfl rfl (by kernel_rfl) (by decide) (fun K hK => ?_)
                refine goes_ Try.func34 (by kernel_rfl) rfl #[.agg #[.int .i64 a0_0, .int .i64 a0_1, .slice A0_2 l0_2.length c0_2]] (by rfl) rfl rfl (by (try simp only [List.map_toArray, List.map_cons, List.map_nil]); first | done | rfl | (simp only [List.length_drop, List.length_take]; rfl)) ?_
                with_reducible refine (laws_toStream.calls kj15 a0_0 a0_1 _ _ l0_2 t381 t382 t383 _ ?side1 ?side2 A69.out).mono ?_
                (case side1 => repeat (first | exact (Kd.C_below HR0_2.out HB.out) | (with_reducible refine Kd.C_alloc ?_ _) | (with_reducible refine Kd.C_drewN ?_ _) | (with_reducible refine Kd.C_drew ?_)))
                (case side2 => exact HC0_2.out)
                rintro e w79 ⟨v384, rfl, ho0, hb⟩
                refine ⟨_, rfl, ?_⟩
                have n0_ := Aside0.mk (Kd.R_elder' (by (with_reducible repeat (first | apply Kd.R_alloc | apply Kd.R_drewN | apply Kd.R_drew)); exact HO_7.out) (Kd.R_base ho0) hb)
                have n1_ := Aside0.mk (Kd.R_elder' (by (with_reducible repeat (first | apply Kd.R_alloc | apply Kd.R_drewN | apply Kd.R_drew)); exact HO_9.out) (Kd.R_base ho0) hb)
                have n2_ := Aside0.mk (Kd.R_elder' (by (with_reducible repeat (first | apply Kd.R_alloc | apply Kd.R_drewN | apply Kd.R_drew)); exact HO_11.out) (Kd.R_base ho0) hb)
                have n3_ := Aside0.mk (Kd.Q_elder' (by (with_reducible repeat (first | apply Kd.Q_alloc | apply Kd.Q_drewN | apply Kd.Q_drew)); exact HO_361002.out) (Kd.R_base ho0) hb)
                have n4_ := Aside0.mk (Kd.Q_elder' (by (with_reducible repeat (first | apply Kd.Q_alloc | apply Kd.Q_drewN | apply Kd.Q_drew)); exact HO_367002.out) (Kd.R_base ho0) hb)
                have n5_ := Aside0.mk (Kd.Q_elder' (by (with_reducible repeat (first | apply Kd.Q_alloc | apply Kd.Q_drewN | apply Kd.Q_drew)); exact HO_379002.out) (Kd.R_base ho0) hb)
                have n6_ := Aside0.mk (Kd.R_lower (Kd.R_new' (Kd.R_new' (Kd.R_new' (Kd.R_new' (Kd.R_new' (Kd.R_new' ho0 (Kd.R_lt (by (with_reducible repeat (first | apply Kd.R_alloc | apply Kd.R_drewN | apply Kd.R_drew)); exact HO_7.out))) (Kd.R_lt (by (with_reducible repeat (first | apply Kd.R_alloc | apply Kd.R_drewN | apply Kd.R_drew)); exact HO_9.out))) (Kd.R_lt (by (with_reducible repeat (first | apply Kd.R_alloc | apply Kd.R_drewN | apply Kd.R_drew)); exact HO_11.out))) (Kd.Q_lt (by (with_reducible repeat (first | apply Kd.Q_alloc | apply Kd.Q_drewN | apply Kd.Q_drew)); exact HO_361002.out))) (Kd.Q_lt (by (with_reducible repeat (first | apply Kd.Q_alloc | apply Kd.Q_drewN | apply Kd.Q_drew)); exact HO_367002.out))) (Kd.Q_lt (by (with_reducible repeat (first | apply Kd.Q_alloc | apply Kd.Q_drewN | apply Kd.Q_drew)); exact HO_379002.out))) (below_size (by repeat (first | (with_reducible first | exact HB.out | apply below_alloc | apply pw_below_drewN | apply below_drew1 | refine below_set ?_ GE342.out | refine below_set ?_ GE360.out | refine below_set ?_ GE366.out | refine below_set ?_ GE378.out) | exact HB.out))))
                have n7_ := Aside0.mk (blk_below (g := gb342) (o := .cells #[.int .i64 a0_0, .int .i64 a0_1, .slice A0_2 l0_2.length c0_2] 53 (0, 0)) (by (with_reducible repeat (first | refine blk_drewN ?_ _ | refine blk_drew ?_ | refine blk_alloc ?_ _)); exact BK342.out) hb)
                have n8_ := Aside0.mk (blk_below (g := gb360) (o := .cells #[.int .i64 t352, .int .i64 t353, .slice Ao29 t354.length co29] 45 (0, 0)) (by (with_reducible repeat (first | refine blk_drewN ?_ _ | refine blk_drew ?_ | refine blk_alloc ?_ _)); exact BK360.out) hb)
                have n9_ := Aside0.mk (blk_below (g := gb366) (o := .cells #[.int .i64 t361, .int .i64 t362, .slice Ao36 t363.length co36] 45 (0, 0)) (by (with_reducible repeat (first | refine blk_drewN ?_ _ | refine blk_drew ?_ | refine blk_alloc ?_ _)); exact BK366.out) hb)
                have n10_ := Aside0.mk (blk_below (g := gb378) (o := .cells #[.int .i64 t370, .int .i64 t371, .slice Ao46 t372.length co46] 45 (0, 0)) (by (with_reducible repeat (first | refine blk_drewN ?_ _ | refine blk_drew ?_ | refine blk_alloc ?_ _)); exact BK378.out) hb)
                have n11_ := Aside0.mk (below_step (by repeat (first | (with_reducible first | exact HB.out | apply below_alloc | apply pw_below_drewN | apply below_drew1 | refine below_set ?_ GE342.out | refine below_set ?_ GE360.out | refine below_set ?_ GE366.out | refine below_set ?_ GE378.out) | exact HB.out)) hb)
                clear HO_7
                clear HO_9
                clear HO_11
                clear HO_361002
                clear HO_367002
                clear HO_379002
                clear BK342
                clear BK360
                clear BK366
                clear BK378
                clear HB
                have HO_7 := n0_
                have HO_9 := n1_
                have HO_11 := n2_
                have HO_361002 := n3_
                have HO_367002 := n4_
                have HO_379002 := n5_
                have HO385 := n6_
                have BK342 := n7_
                have BK360 := n8_
                have BK366 := n9_
                have BK378 := n10_
                have HB := n11_
                clear n0_ n1_ n2_ n3_ n4_ n5_ n6_ n7_ n8_ n9_ n10_ n11_
                (try clear hb)
                (try clear hb2)
                (try clear hk)
                (try clear hi)
                (try clear ho0)
                obtain ⟨Ao80, co80, eo80⟩ := Kd.R_slice HO385.out
                (first | subst eo80 | (injection eo80 with f1_ f2_ f3_; have f4_ := f1_.symm; have f5_ := f3_.symm; clear f1_ f2_ f3_; subst f4_; subst f5_))
                refine hK.out _ _ ⟨(blk_cell BK366.out 0).trans rfl, (blk_cell BK366.out 1).trans rfl, (blk_cell BK366.out 2).trans rfl, (blk_cell BK342.out 0).trans rfl, (blk_cell BK342.out 1).trans rfl, (blk_cell BK342.out 2).trans rfl⟩ (fun hHeld => ?_)
                clear hK K
                refine norm_ (a' := ?_) ?_ ?_
                rotate_left
                · show Act.put _ (some 55) _ = _
                  simp only [Act.put, List.setIfInBounds_toArray, List.set_cons_zero, List.set_cons_succ, i64_w, i32_w]
                  rfl
                refine one_ (i := 3) (N := some 56) #[true, true, true, true, false] rfl rfl (by kernel_rfl) (by decide) (fun K hK => ?_)
                refine goes_ Try.func36 (by kernel_rfl) rfl #[.agg #[.int .i64 t361, .int .i64 t362, .slice Ao36 t363.length co36], .agg #[.int .i64 t381, .int .i64 t382, .slice Ao80 t383.length co80]] (by rfl) rfl rfl (by (try simp only [List.map_toArray, List.map_cons, List.map_nil]); first | done | rfl | (simp only [List.length_drop, List.length_take]; rfl)) ?_
                with_reducible refine (laws_eqStream.calls kj15 t361 t362 _ _ t363 t381 t382 _ _ t383 true _ ?side1 ?side2 ?side3 ?side4 A70.out).mono ?_
                (case side1 => repeat (first | exact (Kd.Q_reads' HO_367002.out).2.2 | (with_reducible refine Kd.C_alloc ?_ _) | (with_reducible refine Kd.C_drewN ?_ _) | (with_reducible refine Kd.C_drew ?_)))
                (case side2 => exact (Kd.Q_reads' HO_367002.out).2.1)
                (case side3 => repeat (first | exact (Kd.R_reads' HO385.out).2.2 | (with_reducible refine Kd.C_alloc ?_ _) | (with_reducible refine Kd.C_drewN ?_ _) | (with_reducible refine Kd.C_drew ?_)))
                (case side4 => exact (Kd.R_reads' HO385.out).2.1)
                rintro e w81 ⟨rfl, hb⟩
                refine ⟨_, rfl, ?_⟩
                have n0_ := Aside0.mk (Kd.R_below (by (with_reducible repeat (first | apply Kd.R_alloc | apply Kd.R_drewN | apply Kd.R_drew)); exact HO_7.out) hb)
                have n1_ := Aside0.mk (Kd.R_below (by (with_reducible repeat (first | apply Kd.R_alloc | apply Kd.R_drewN | apply Kd.R_drew)); exact HO_9.out) hb)
                have n2_ := Aside0.mk (Kd.R_below (by (with_reducible repeat (first | apply Kd.R_alloc | apply Kd.R_drewN | apply Kd.R_drew)); exact HO_11.out) hb)
                have n3_ := Aside0.mk (Kd.Q_below (by (with_reducible repeat (first | apply Kd.Q_alloc | apply Kd.Q_drewN | apply Kd.Q_drew)); exact HO_361002.out) hb)
                have n4_ := Aside0.mk (Kd.Q_below (by (with_reducible repeat (first | apply Kd.Q_alloc | apply Kd.Q_drewN | apply Kd.Q_drew)); exact HO_367002.out) hb)
                have n5_ := Aside0.mk (Kd.Q_below (by (with_reducible repeat (first | apply Kd.Q_alloc | apply Kd.Q_drewN | apply Kd.Q_drew)); exact HO_379002.out) hb)
                have n6_ := Aside0.mk (Kd.R_below (by (with_reducible repeat (first | apply Kd.R_alloc | apply Kd.R_drewN | apply Kd.R_drew)); exact HO385.out) hb)
                have n7_ := Aside0.mk (blk_below (g := gb342) (o := .cells #[.int .i64 a0_0, .int .i64 a0_1, .slice A0_2 l0_2.length c0_2] 53 (0, 0)) (by (with_reducible repeat (first | refine blk_drewN ?_ _ | refine blk_drew ?_ | refine blk_alloc ?_ _)); exact BK342.out) hb)
                have n8_ := Aside0.mk (blk_below (g := gb360) (o := .cells #[.int .i64 t352, .int .i64 t353, .slice Ao29 t354.length co29] 45 (0, 0)) (by (with_reducible repeat (first | refine blk_drewN ?_ _ | refine blk_drew ?_ | refine blk_alloc ?_ _)); exact BK360.out) hb)
                have n9_ := Aside0.mk (blk_below (g := gb366) (o := .cells #[.int .i64 t361, .int .i64 t362, .slice Ao36 t363.length co36] 45 (0, 0)) (by (with_reducible repeat (first | refine blk_drewN ?_ _ | refine blk_drew ?_ | refine blk_alloc ?_ _)); exact BK366.out) hb)
                have n10_ := Aside0.mk (blk_below (g := gb378) (o := .cells #[.int .i64 t370, .int .i64 t371, .slice Ao46 t372.length co46] 45 (0, 0)) (by (with_reducible repeat (first | refine blk_drewN ?_ _ | refine blk_drew ?_ | refine blk_alloc ?_ _)); exact BK378.out) hb)
                have n11_ := Aside0.mk (below_step (by repeat (first | (with_reducible first | exact HB.out | apply below_alloc | apply pw_below_drewN | apply below_drew1 | refine below_set ?_ GE342.out | refine below_set ?_ GE360.out | refine below_set ?_ GE366.out | refine below_set ?_ GE378.out) | exact HB.out)) hb)
                clear HO_7
                clear HO_9
                clear HO_11
                clear HO_361002
                clear HO_367002
                clear HO_379002
                clear HO385
                clear BK342
                clear BK360
                clear BK366
                clear BK378
                clear HB
                have HO_7 := n0_
                have HO_9 := n1_
                have HO_11 := n2_
                have HO_361002 := n3_
                have HO_367002 := n4_
                have HO_379002 := n5_
                have HO385 := n6_
                have BK342 := n7_
                have BK360 := n8_
                have BK366 := n9_
                have BK378 := n10_
                have HB := n11_
                clear n0_ n1_ n2_ n3_ n4_ n5_ n6_ n7_ n8_ n9_ n10_ n11_
                (try clear hb)
                (try clear hb2)
                (try clear hk)
                (try clear hi)
                refine hK.out _ _ ⟨(blk_cell BK366.out 0).trans rfl, (blk_cell BK366.out 1).trans rfl, (blk_cell BK366.out 2).trans rfl, (blk_cell BK342.out 0).trans rfl, (blk_cell BK342.out 1).trans rfl, (blk_cell BK342.out 2).trans rfl⟩ (fun hHeld => ?_)
                clear hK K
                refine norm_ (a' := ?_) ?_ ?_
                rotate_left
                · show Act.put _ (some 56) _ = _
                  simp only [Act.put, List.setIfInBounds_toArray, List.set_cons_zero, List.set_cons_succ, i64_w, i32_w]
                  rfl
                refine pure_ (i := 4) (N := some 57) (v := ?_) (a' := ?_) #[true, true, true, true, true] rfl rfl (by kernel_rfl) (fun _ _ _ h => h) (Or.inl ⟨by rfl, ?_⟩) ?_ ?_
                rotate_left
                · intro w'
                  go_simp
                  with_reducible rfl
                rotate_left
                · simp only [Act.put, List.setIfInBounds_toArray, List.set_cons_zero, List.set_cons_succ, i64_w, i32_w]
                  rfl
                refine done_ (by kernel_rfl) ?_
                go_upto_region 20 with (first | ((with_reducible refine gate_callee (f := 43) rfl ?_); refine goesL_ (some 60) rfl rfl Try.func43 (by kernel_rfl) rfl #[.slice A1 l1.length c1] rfl (by (try simp only [List.map_toArray, List.map_cons, List.map_nil]); first | done | rfl | (simp only [List.length_drop, List.length_take]; rfl)) ?_; (with_reducible refine (laws_toIntS.calls kj15 _ _ l1 t387 _ ?side1 ?side2 A72.out).mono ?_); (case side1 => repeat (first | exact (Kd.C_below HR1.out HB.out) | (with_reducible refine Kd.C_alloc ?_ _) | (with_reducible refine Kd.C_drewN ?_ _) | (with_reducible refine Kd.C_drew ?_))); (case side2 => exact HC1.out); rintro e w82 ⟨v388, rfl, ho0, hb⟩; refine ⟨_, rfl, ?_⟩; have n0_ := Aside0.mk (Kd.R_elder' (by (with_reducible repeat (first | apply Kd.R_alloc | apply Kd.R_drewN | apply Kd.R_drew)); exact HO_7.out) (Kd.R_base ho0) hb); have n1_ := Aside0.mk (Kd.R_elder' (by (with_reducible repeat (first | apply Kd.R_alloc | apply Kd.R_drewN | apply Kd.R_drew)); exact HO_9.out) (Kd.R_base ho0) hb); have n2_ := Aside0.mk (Kd.R_elder' (by (with_reducible repeat (first | apply Kd.R_alloc | apply Kd.R_drewN | apply Kd.R_drew)); exact HO_11.out) (Kd.R_base ho0) hb); have n3_ := Aside0.mk (Kd.Q_elder' (by (with_reducible repeat (first | apply Kd.Q_alloc | apply Kd.Q_drewN | apply Kd.Q_drew)); exact HO_361002.out) (Kd.R_base ho0) hb); have n4_ := Aside0.mk (Kd.Q_elder' (by (with_reducible repeat (first | apply Kd.Q_alloc | apply Kd.Q_drewN | apply Kd.Q_drew)); exact HO_367002.out) (Kd.R_base ho0) hb); have n5_ := Aside0.mk (Kd.Q_elder' (by (with_reducible repeat (first | apply Kd.Q_alloc | apply Kd.Q_drewN | apply Kd.Q_drew)); exact HO_379002.out) (Kd.R_base ho0) hb); have n6_ := Aside0.mk (Kd.R_elder' (by (with_reducible repeat (first | apply Kd.R_alloc | apply Kd.R_drewN | apply Kd.R_drew)); exact HO385.out) (Kd.R_base ho0) hb); have n7_ := Aside0.mk (Kd.R_lower (Kd.R_new' (Kd.R_new' (Kd.R_new' (Kd.R_new' (Kd.R_new' (Kd.R_new' (Kd.R_new' ho0 (Kd.R_lt (by (with_reducible repeat (first | apply Kd.R_alloc | apply Kd.R_drewN | apply Kd.R_drew)); exact HO_7.out))) (Kd.R_lt (by (with_reducible repeat (first | apply Kd.R_alloc | apply Kd.R_drewN | apply Kd.R_drew)); exact HO_9.out))) (Kd.R_lt (by (with_reducible repeat (first | apply Kd.R_alloc | apply Kd.R_drewN | apply Kd.R_drew)); exact HO_11.out))) (Kd.Q_lt (by (with_reducible repeat (first | apply Kd.Q_alloc | apply Kd.Q_drewN | apply Kd.Q_drew)); exact HO_361002.out))) (Kd.Q_lt (by (with_reducible repeat (first | apply Kd.Q_alloc | apply Kd.Q_drewN | apply Kd.Q_drew)); exact HO_367002.out))) (Kd.Q_lt (by (with_reducible repeat (first | apply Kd.Q_alloc | apply Kd.Q_drewN | apply Kd.Q_drew)); exact HO_379002.out))) (Kd.R_lt (by (with_reducible repeat (first | apply Kd.R_alloc | apply Kd.R_drewN | apply Kd.R_drew)); exact HO385.out))) (below_size (by repeat (first | (with_reducible first | exact HB.out | apply below_alloc | apply pw_below_drewN | apply below_drew1 | refine below_set ?_ GE342.out | refine below_set ?_ GE360.out | refine below_set ?_ GE366.out | refine below_set ?_ GE378.out) | exact HB.out)))); have n8_ := Aside0.mk (blk_below (g := gb342) (o := .cells #[.int .i64 a0_0, .int .i64 a0_1, .slice A0_2 l0_2.length c0_2] 53 (0, 0)) (by (with_reducible repeat (first | refine blk_drewN ?_ _ | refine blk_drew ?_ | refine blk_alloc ?_ _)); exact BK342.out) hb); have n9_ := Aside0.mk (blk_below (g := gb360) (o := .cells #[.int .i64 t352, .int .i64 t353, .slice Ao29 t354.length co29] 45 (0, 0)) (by (with_reducible repeat (first | refine blk_drewN ?_ _ | refine blk_drew ?_ | refine blk_alloc ?_ _)); exact BK360.out) hb); have n10_ := Aside0.mk (blk_below (g := gb366) (o := .cells #[.int .i64 t361, .int .i64 t362, .slice Ao36 t363.length co36] 45 (0, 0)) (by (with_reducible repeat (first | refine blk_drewN ?_ _ | refine blk_drew ?_ | refine blk_alloc ?_ _)); exact BK366.out) hb); have n11_ := Aside0.mk (blk_below (g := gb378) (o := .cells #[.int .i64 t370, .int .i64 t371, .slice Ao46 t372.length co46] 45 (0, 0)) (by (with_reducible repeat (first | refine blk_drewN ?_ _ | refine blk_drew ?_ | refine blk_alloc ?_ _)); exact BK378.out) hb); have n12_ := Aside0.mk (below_step (by repeat (first | (with_reducible first | exact HB.out | apply below_alloc | apply pw_below_drewN | apply below_drew1 | refine below_set ?_ GE342.out | refine below_set ?_ GE360.out | refine below_set ?_ GE366.out | refine below_set ?_ GE378.out) | exact HB.out)) hb); clear HO_7; clear HO_9; clear HO_11; clear HO_361002; clear HO_367002; clear HO_379002; clear HO385; clear BK342; clear BK360; clear BK366; clear BK378; clear HB; have HO_7 := n0_; have HO_9 := n1_; have HO_11 := n2_; have HO_361002 := n3_; have HO_367002 := n4_; have HO_379002 := n5_; have HO385 := n6_; have HO389 := n7_; have BK342 := n8_; have BK360 := n9_; have BK366 := n10_; have BK378 := n11_; have HB := n12_; clear n0_ n1_ n2_ n3_ n4_ n5_ n6_ n7_ n8_ n9_ n10_ n11_ n12_; (try clear hb); (try clear hb2); (try clear hk); (try clear hi); (try clear ho0); obtain ⟨Ao83, co83, eo83⟩ := Kd.R_slice HO389.out; subst eo83) | ((with_reducible refine gate_callee (f := 37) rfl ?_); refine goesL_ (some 61) rfl rfl Try.func37 (by kernel_rfl) rfl #[.slice Ao39 t367.length co39, .slice Ao83 t387.length co83] rfl (by (try simp only [List.map_toArray, List.map_cons, List.map_nil]); first | done | rfl | (simp only [List.length_drop, List.length_take]; rfl)) ?_; (with_reducible refine (laws_eqIntS.calls kj15 _ _ t367 _ _ t387 true _ ?side1 ?side2 ?side3 ?side4 A73.out).mono ?_); (case side1 => repeat (first | exact (Kd.R_reads' HO_9.out).2.2 | (with_reducible refine Kd.C_alloc ?_ _) | (with_reducible refine Kd.C_drewN ?_ _) | (with_reducible refine Kd.C_drew ?_))); (case side2 => exact (Kd.R_reads' HO_9.out).2.1); (case side3 => repeat (first | exact (Kd.R_reads' HO389.out).2.2 | (with_reducible refine Kd.C_alloc ?_ _) | (with_reducible refine Kd.C_drewN ?_ _) | (with_reducible refine Kd.C_drew ?_))); (case side4 => exact (Kd.R_reads' HO389.out).2.1); rintro e w' ⟨rfl, ⟨nd, rfl⟩⟩; refine ⟨_, rfl, ?_⟩; have hnb84 := NB366_342.out; have hnc84 := NB342_366.out; have hnb85 := NB366_360.out; have hnc85 := NB360_366.out; have hnb86 := NB366_378.out; have hnc86 := NB378_366.out; have hcz87_0 : w82.cell? ⟨gb366, 0, none⟩ = some (.int .i64 t361) := (blk_cell BK366.out 0).trans rfl; have hcz87_1 : w82.cell? ⟨gb366, 1, none⟩ = some (.int .i64 t362) := (blk_cell BK366.out 1).trans rfl; have hcz87_2 : w82.cell? ⟨gb366, 2, none⟩ = some (.slice Ao36 t363.length co36) := (blk_cell BK366.out 2).trans rfl; have hfz87_0 := blk_frozen BK366.out 0; have hfz87_1 := blk_frozen BK366.out 1; have hfz87_2 := blk_frozen BK366.out 2) | ((with_reducible refine gate_callee (f := 38) rfl ?_); refine goesL_ (some 65) rfl rfl Try.func38 (by kernel_rfl) rfl #[.agg #[.int .i64 t361, .int .i64 t362, .slice Ao36 t363.length co36], .int .i64 1] rfl (by (try simp only [List.map_toArray, List.map_cons, List.map_nil]); first | done | rfl | (simp only [List.length_drop, List.length_take]; rfl)) ?_; (with_reducible refine (laws_markStream.callsQ kj15 t361 t362 (fun k_ => some k_ = (.slice Ao36 t363.length co36 : Value).ownBlock) (.slice Ao36 t363.length co36) t363 1 t391 t392 w _ ?side1 ?side2 A75.out).mono ?_); (case side1 => repeat (first | (with_reducible first | exact HB.out | apply below_alloc | apply pw_below_drewN | apply below_drew1 | refine below_set ?_ GE342.out | refine below_set ?_ GE360.out | refine below_set ?_ GE366.out | refine below_set ?_ GE378.out) | exact HB.out)); (case side2 => exact Kd.Q_tight rfl HO_367002.out); rintro e w88 ⟨rfl, hy0, hb, hkp⟩; refine ⟨_, rfl, ?_⟩; have n0_ := Aside0.mk (Kd.R_mono (ok' := fun k_ => some k_ ≠ (.slice Ao39 t367.length co39 : Value).ownBlock ∧ some k_ ≠ (v376 : Value).ownBlock ∧ some k_ ≠ (.slice Ao29 t354.length co29 : Value).ownBlock ∧ some k_ ≠ (.slice Ao36 t363.length co36 : Value).ownBlock ∧ some k_ ≠ (.slice Ao46 t372.length co46 : Value).ownBlock ∧ some k_ ≠ (.slice Ao80 t383.length co80 : Value).ownBlock ∧ some k_ ≠ (.slice Ao83 t387.length co83 : Value).ownBlock) (Kd.R_keptB (HO_7.out) hkp (fun k_ hk_ hs_ => (hk_.1.1.2.2.2.1) hs_)) (fun k_ hk_ => ⟨hk_.1.1.1.1, hk_.1.1.1.2.1, hk_.1.1.1.2.2.1, hk_.1.1.1.2.2.2.1, hk_.1.1.1.2.2.2.2, hk_.1.1.2, hk_.1.2⟩)); have n1_ := Aside0.mk (Kd.R_mono (ok' := fun k_ => some k_ ≠ (v358 : Value).ownBlock ∧ some k_ ≠ (v376 : Value).ownBlock ∧ some k_ ≠ (.slice Ao29 t354.length co29 : Value).ownBlock ∧ some k_ ≠ (.slice Ao36 t363.length co36 : Value).ownBlock ∧ some k_ ≠ (.slice Ao46 t372.length co46 : Value).ownBlock ∧ some k_ ≠ (.slice Ao80 t383.length co80 : Value).ownBlock ∧ some k_ ≠ (.slice Ao83 t387.length co83 : Value).ownBlock) (Kd.R_keptB (HO_9.out) hkp (fun k_ hk_ hs_ => (hk_.1.1.2.2.2.1) hs_)) (fun k_ hk_ => ⟨hk_.1.1.1.1, hk_.1.1.1.2.1, hk_.1.1.1.2.2.1, hk_.1.1.1.2.2.2.1, hk_.1.1.1.2.2.2.2, hk_.1.1.2, hk_.1.2⟩)); have n2_ := Aside0.mk (Kd.R_mono (ok' := fun k_ => some k_ ≠ (v358 : Value).ownBlock ∧ some k_ ≠ (.slice Ao39 t367.length co39 : Value).ownBlock ∧ some k_ ≠ (.slice Ao29 t354.length co29 : Value).ownBlock ∧ some k_ ≠ (.slice Ao36 t363.length co36 : Value).ownBlock ∧ some k_ ≠ (.slice Ao46 t372.length co46 : Value).ownBlock ∧ some k_ ≠ (.slice Ao80 t383.length co80 : Value).ownBlock ∧ some k_ ≠ (.slice Ao83 t387.length co83 : Value).ownBlock) (Kd.R_keptB (HO_11.out) hkp (fun k_ hk_ hs_ => (hk_.1.1.2.2.2.1) hs_)) (fun k_ hk_ => ⟨hk_.1.1.1.1, hk_.1.1.1.2.1, hk_.1.1.1.2.2.1, hk_.1.1.1.2.2.2.1, hk_.1.1.1.2.2.2.2, hk_.1.1.2, hk_.1.2⟩)); have n3_ := Aside0.mk (Kd.Q_mono (ok' := fun k_ => some k_ ≠ (v358 : Value).ownBlock ∧ some k_ ≠ (.slice Ao39 t367.length co39 : Value).ownBlock ∧ some k_ ≠ (v376 : Value).ownBlock ∧ some k_ ≠ (.slice Ao36 t363.length co36 : Value).ownBlock ∧ some k_ ≠ (.slice Ao46 t372.length co46 : Value).ownBlock ∧ some k_ ≠ (.slice Ao80 t383.length co80 : Value).ownBlock ∧ some k_ ≠ (.slice Ao83 t387.length co83 : Value).ownBlock) (Kd.Q_keptB (HO_361002.out) hkp (fun k_ hk_ hs_ => (hk_.1.1.2.2.2.1) hs_)) (fun k_ hk_ => ⟨hk_.1.1.1.1, hk_.1.1.1.2.1, hk_.1.1.1.2.2.1, hk_.1.1.1.2.2.2.1, hk_.1.1.1.2.2.2.2, hk_.1.1.2, hk_.1.2⟩)); have n4_ := Aside0.mk (Kd.Q_mono (Kd.Q_tight rfl hy0) (fun k_ e_ => HO_367002.out.1 k_ e_.symm)); have n5_ := Aside0.mk (Kd.Q_mono (ok' := fun k_ => some k_ ≠ (v358 : Value).ownBlock ∧ some k_ ≠ (.slice Ao39 t367.length co39 : Value).ownBlock ∧ some k_ ≠ (v376 : Value).ownBlock ∧ some k_ ≠ (.slice Ao29 t354.length co29 : Value).ownBlock ∧ some k_ ≠ (.slice Ao36 t363.length co36 : Value).ownBlock ∧ some k_ ≠ (.slice Ao80 t383.length co80 : Value).ownBlock ∧ some k_ ≠ (.slice Ao83 t387.length co83 : Value).ownBlock) (Kd.Q_keptB (HO_379002.out) hkp (fun k_ hk_ hs_ => (hk_.1.1.2.2.2.2) hs_)) (fun k_ hk_ => ⟨hk_.1.1.1.1, hk_.1.1.1.2.1, hk_.1.1.1.2.2.1, hk_.1.1.1.2.2.2.1, hk_.1.1.1.2.2.2.2, hk_.1.1.2, hk_.1.2⟩)); have n6_ := Aside0.mk (blk_kept BK342.out hkp (fun hs_ => (fun e_ => (Kd.Q_ne HO_367002.out BK342.out (by decide)) e_) hs_)); have n7_ := Aside0.mk (blk_kept BK360.out hkp (fun hs_ => (fun e_ => (Kd.Q_ne HO_367002.out BK360.out (by decide)) e_) hs_)); have n8_ := Aside0.mk (blk_kept BK366.out hkp (fun hs_ => (fun e_ => (Kd.Q_ne HO_367002.out BK366.out (by decide)) e_) hs_)); have n9_ := Aside0.mk (blk_kept BK378.out hkp (fun hs_ => (fun e_ => (Kd.Q_ne HO_367002.out BK378.out (by decide)) e_) hs_)); have n10_ := Aside0.mk (Kd.R_mono (ok' := fun k_ => some k_ ≠ (v358 : Value).ownBlock ∧ some k_ ≠ (.slice Ao39 t367.length co39 : Value).ownBlock ∧ some k_ ≠ (v376 : Value).ownBlock ∧ some k_ ≠ (.slice Ao29 t354.length co29 : Value).ownBlock ∧ some k_ ≠ (.slice Ao36 t363.length co36 : Value).ownBlock ∧ some k_ ≠ (.slice Ao46 t372.length co46 : Value).ownBlock ∧ some k_ ≠ (.slice Ao83 t387.length co83 : Value).ownBlock) (Kd.R_keptB (HO385.out) hkp (fun k_ hk_ hs_ => (hk_.1.1.2) hs_)) (fun k_ hk_ => ⟨hk_.1.1.1.1.1.1.1.2, hk_.1.1.1.1.1.1.2, hk_.1.1.1.1.1.2, hk_.1.1.1.1.2, hk_.1.1.1.2, hk_.1.1.2, hk_.1.2⟩)); have n11_ := Aside0.mk (Kd.R_mono (ok' := fun k_ => some k_ ≠ (v358 : Value).ownBlock ∧ some k_ ≠ (.slice Ao39 t367.length co39 : Value).ownBlock ∧ some k_ ≠ (v376 : Value).ownBlock ∧ some k_ ≠ (.slice Ao29 t354.length co29 : Value).ownBlock ∧ some k_ ≠ (.slice Ao36 t363.length co36 : Value).ownBlock ∧ some k_ ≠ (.slice Ao46 t372.length co46 : Value).ownBlock ∧ some k_ ≠ (.slice Ao80 t383.length co80 : Value).ownBlock) (Kd.R_keptB (HO389.out) hkp (fun k_ hk_ hs_ => (hk_.1.1.2) hs_)) (fun k_ hk_ => ⟨hk_.1.1.1.1.1.1.1.2, hk_.1.1.1.1.1.1.2, hk_.1.1.1.1.1.2, hk_.1.1.1.1.2, hk_.1.1.1.2, hk_.1.1.2, hk_.1.2⟩)); have n12_ := Aside0.mk (hb); clear HO_7; clear HO_9; clear HO_11; clear HO_361002; clear HO_367002; clear HO_379002; clear BK342; clear BK360; clear BK366; clear BK378; clear HO385; clear HO389; clear HB; have HO_7 := n0_; have HO_9 := n1_; have HO_11 := n2_; have HO_361002 := n3_; have HO_367002 := n4_; have HO_379002 := n5_; have BK342 := n6_; have BK360 := n7_; have BK366 := n8_; have BK378 := n9_; have HO385 := n10_; have HO389 := n11_; have HB := n12_; clear n0_ n1_ n2_ n3_ n4_ n5_ n6_ n7_ n8_ n9_ n10_ n11_ n12_; (try clear hb); (try clear hkp); (try clear hy0)) | ((with_reducible refine gate_callee (f := 39) rfl ?_); refine goesL_ (some 68) rfl rfl Try.func39 (by kernel_rfl) rfl #[.slice Ao39 t367.length co39, .int .i64 t391] rfl (by (try simp only [List.map_toArray, List.map_cons, List.map_nil]); first | done | rfl | (simp only [List.length_drop, List.length_take]; rfl)) ?_; (with_reducible refine (laws_markIntS.calls kj15 (fun k_ => some k_ = (.slice Ao39 t367.length co39 : Value).ownBlock) (.slice Ao39 t367.length co39) t367 t391 t393 t394 w _ ?side1 ?side2 A76.out).mono ?_); (case side1 => repeat (first | (with_reducible first | exact HB.out | apply below_alloc | apply pw_below_drewN | apply below_drew1 | refine below_set ?_ GE342.out | refine below_set ?_ GE360.out | refine below_set ?_ GE366.out | refine below_set ?_ GE378.out) | exact HB.out)); (case side2 => exact Kd.R_tight rfl HO_9.out); rintro e w89 ⟨rfl, hy0, hb, hkp⟩; refine ⟨_, rfl, ?_⟩; have n0_ := Aside0.mk (Kd.R_mono (ok' := fun k_ => some k_ ≠ (.slice Ao39 t367.length co39 : Value).ownBlock ∧ some k_ ≠ (v376 : Value).ownBlock ∧ some k_ ≠ (.slice Ao29 t354.length co29 : Value).ownBlock ∧ some k_ ≠ (.slice Ao36 t363.length co36 : Value).ownBlock ∧ some k_ ≠ (.slice Ao46 t372.length co46 : Value).ownBlock ∧ some k_ ≠ (.slice Ao80 t383.length co80 : Value).ownBlock ∧ some k_ ≠ (.slice Ao83 t387.length co83 : Value).ownBlock) (Kd.R_keptB (HO_7.out) hkp (fun k_ hk_ hs_ => (hk_.1) hs_)) (fun k_ hk_ => ⟨hk_.1.1, hk_.1.2.1, hk_.1.2.2.1, hk_.1.2.2.2.1, hk_.1.2.2.2.2.1, hk_.1.2.2.2.2.2.1, hk_.1.2.2.2.2.2.2⟩)); have n1_ := Aside0.mk (Kd.R_reok rfl hy0 (fun k_ e_ => HO_9.out.1 k_ e_)); have n2_ := Aside0.mk (Kd.R_mono (ok' := fun k_ => some k_ ≠ (v358 : Value).ownBlock ∧ some k_ ≠ (.slice Ao39 t367.length co39 : Value).ownBlock ∧ some k_ ≠ (.slice Ao29 t354.length co29 : Value).ownBlock ∧ some k_ ≠ (.slice Ao36 t363.length co36 : Value).ownBlock ∧ some k_ ≠ (.slice Ao46 t372.length co46 : Value).ownBlock ∧ some k_ ≠ (.slice Ao80 t383.length co80 : Value).ownBlock ∧ some k_ ≠ (.slice Ao83 t387.length co83 : Value).ownBlock) (Kd.R_keptB (HO_11.out) hkp (fun k_ hk_ hs_ => (hk_.2.1) hs_)) (fun k_ hk_ => ⟨hk_.1.1, hk_.1.2.1, hk_.1.2.2.1, hk_.1.2.2.2.1, hk_.1.2.2.2.2.1, hk_.1.2.2.2.2.2.1, hk_.1.2.2.2.2.2.2⟩)); have n3_ := Aside0.mk (Kd.Q_mono (ok' := fun k_ => some k_ ≠ (v358 : Value).ownBlock ∧ some k_ ≠ (.slice Ao39 t367.length co39 : Value).ownBlock ∧ some k_ ≠ (v376 : Value).ownBlock ∧ some k_ ≠ (.slice Ao36 t363.length co36 : Value).ownBlock ∧ some k_ ≠ (.slice Ao46 t372.length co46 : Value).ownBlock ∧ some k_ ≠ (.slice Ao80 t383.length co80 : Value).ownBlock ∧ some k_ ≠ (.slice Ao83 t387.length co83 : Value).ownBlock) (Kd.Q_keptB (HO_361002.out) hkp (fun k_ hk_ hs_ => (hk_.2.1) hs_)) (fun k_ hk_ => ⟨hk_.1.1, hk_.1.2.1, hk_.1.2.2.1, hk_.1.2.2.2.1, hk_.1.2.2.2.2.1, hk_.1.2.2.2.2.2.1, hk_.1.2.2.2.2.2.2⟩)); have n4_ := Aside0.mk (Kd.Q_mono (ok' := fun k_ => some k_ ≠ (v358 : Value).ownBlock ∧ some k_ ≠ (.slice Ao39 t367.length co39 : Value).ownBlock ∧ some k_ ≠ (v376 : Value).ownBlock ∧ some k_ ≠ (.slice Ao29 t354.length co29 : Value).ownBlock ∧ some k_ ≠ (.slice Ao46 t372.length co46 : Value).ownBlock ∧ some k_ ≠ (.slice Ao80 t383.length co80 : Value).ownBlock ∧ some k_ ≠ (.slice Ao83 t387.length co83 : Value).ownBlock) (Kd.Q_keptB (HO_367002.out) hkp (fun k_ hk_ hs_ => (hk_.1.1.2.1) hs_)) (fun k_ hk_ => ⟨hk_.1.1.1.1, hk_.1.1.1.2.1, hk_.1.1.1.2.2.1, hk_.1.1.1.2.2.2.1, hk_.1.1.1.2.2.2.2, hk_.1.1.2, hk_.1.2⟩)); have n5_ := Aside0.mk (Kd.Q_mono (ok' := fun k_ => some k_ ≠ (v358 : Value).ownBlock ∧ some k_ ≠ (.slice Ao39 t367.length co39 : Value).ownBlock ∧ some k_ ≠ (v376 : Value).ownBlock ∧ some k_ ≠ (.slice Ao29 t354.length co29 : Value).ownBlock ∧ some k_ ≠ (.slice Ao36 t363.length co36 : Value).ownBlock ∧ some k_ ≠ (.slice Ao80 t383.length co80 : Value).ownBlock ∧ some k_ ≠ (.slice Ao83 t387.length co83 : Value).ownBlock) (Kd.Q_keptB (HO_379002.out) hkp (fun k_ hk_ hs_ => (hk_.2.1) hs_)) (fun k_ hk_ => ⟨hk_.1.1, hk_.1.2.1, hk_.1.2.2.1, hk_.1.2.2.2.1, hk_.1.2.2.2.2.1, hk_.1.2.2.2.2.2.1, hk_.1.2.2.2.2.2.2⟩)); have n6_ := Aside0.mk (blk_kept BK342.out hkp (fun hs_ => (fun e_ => (Kd.R_ne HO_9.out BK342.out (by decide)) e_) hs_)); have n7_ := Aside0.mk (blk_kept BK360.out hkp (fun hs_ => (fun e_ => (Kd.R_ne HO_9.out BK360.out (by decide)) e_) hs_)); have n8_ := Aside0.mk (blk_kept BK366.out hkp (fun hs_ => (fun e_ => (Kd.R_ne HO_9.out BK366.out (by decide)) e_) hs_)); have n9_ := Aside0.mk (blk_kept BK378.out hkp (fun hs_ => (fun e_ => (Kd.R_ne HO_9.out BK378.out (by decide)) e_) hs_)); have n10_ := Aside0.mk (Kd.R_mono (ok' := fun k_ => some k_ ≠ (v358 : Value).ownBlock ∧ some k_ ≠ (.slice Ao39 t367.length co39 : Value).ownBlock ∧ some k_ ≠ (v376 : Value).ownBlock ∧ some k_ ≠ (.slice Ao29 t354.length co29 : Value).ownBlock ∧ some k_ ≠ (.slice Ao36 t363.length co36 : Value).ownBlock ∧ some k_ ≠ (.slice Ao46 t372.length co46 : Value).ownBlock ∧ some k_ ≠ (.slice Ao83 t387.length co83 : Value).ownBlock) (Kd.R_keptB (HO385.out) hkp (fun k_ hk_ hs_ => (hk_.2.1) hs_)) (fun k_ hk_ => ⟨hk_.1.1, hk_.1.2.1, hk_.1.2.2.1, hk_.1.2.2.2.1, hk_.1.2.2.2.2.1, hk_.1.2.2.2.2.2.1, hk_.1.2.2.2.2.2.2⟩)); have n11_ := Aside0.mk (Kd.R_mono (ok' := fun k_ => some k_ ≠ (v358 : Value).ownBlock ∧ some k_ ≠ (.slice Ao39 t367.length co39 : Value).ownBlock ∧ some k_ ≠ (v376 : Value).ownBlock ∧ some k_ ≠ (.slice Ao29 t354.length co29 : Value).ownBlock ∧ some k_ ≠ (.slice Ao36 t363.length co36 : Value).ownBlock ∧ some k_ ≠ (.slice Ao46 t372.length co46 : Value).ownBlock ∧ some k_ ≠ (.slice Ao80 t383.length co80 : Value).ownBlock) (Kd.R_keptB (HO389.out) hkp (fun k_ hk_ hs_ => (hk_.2.1) hs_)) (fun k_ hk_ => ⟨hk_.1.1, hk_.1.2.1, hk_.1.2.2.1, hk_.1.2.2.2.1, hk_.1.2.2.2.2.1, hk_.1.2.2.2.2.2.1, hk_.1.2.2.2.2.2.2⟩)); have n12_ := Aside0.mk (hb); clear HO_7; clear HO_9; clear HO_11; clear HO_361002; clear HO_367002; clear HO_379002; clear BK342; clear BK360; clear BK366; clear BK378; clear HO385; clear HO389; clear HB; have HO_7 := n0_; have HO_9 := n1_; have HO_11 := n2_; have HO_361002 := n3_; have HO_367002 := n4_; have HO_379002 := n5_; have BK342 := n6_; have BK360 := n7_; have BK366 := n8_; have BK378 := n9_; have HO385 := n10_; have HO389 := n11_; have HB := n12_; clear n0_ n1_ n2_ n3_ n4_ n5_ n6_ n7_ n8_ n9_ n10_ n11_ n12_; (try clear hb); (try clear hkp); (try clear hy0)))
                (try simp only [Act.put, List.setIfInBounds_toArray, List.set_cons_zero, List.set_cons_succ])
                go_cut [82] (fun v82 wc => ∃ (kq : Nat) (x82_76 : Bool), v82 = .bool x82_76 ∧ Aside0 (laws_FnExactAcceptAll.j1 kq l1 t357 t375 x82_76 a0_0 a0_1 l0_2 t352 t353 t354 t370 t371 t372 = some r) ∧ Aside0 (kq ≤ kj15) ∧ Aside0 (Kd.R (Kd.int .i64) 3 wc w.heap.size (fun k_ => some k_ ≠ (v376 : Value).ownBlock ∧ some k_ ≠ ((.slice Ao29 t354.length co29) : Value).ownBlock ∧ some k_ ≠ ((.slice Ao36 t363.length co36) : Value).ownBlock ∧ some k_ ≠ ((.slice Ao46 t372.length co46) : Value).ownBlock) v358 t357) ∧ Aside0 (Kd.R (Kd.int .i64) 3 wc w.heap.size (fun k_ => some k_ ≠ (v358 : Value).ownBlock ∧ some k_ ≠ ((.slice Ao29 t354.length co29) : Value).ownBlock ∧ some k_ ≠ ((.slice Ao36 t363.length co36) : Value).ownBlock ∧ some k_ ≠ ((.slice Ao46 t372.length co46) : Value).ownBlock) v376 t375) ∧ Aside0 (Kd.Q (Kd.int .i64) 3 wc w.heap.size (fun k_ => some k_ ≠ (v358 : Value).ownBlock ∧ some k_ ≠ (v376 : Value).ownBlock ∧ some k_ ≠ ((.slice Ao36 t363.length co36) : Value).ownBlock ∧ some k_ ≠ ((.slice Ao46 t372.length co46) : Value).ownBlock) (.slice Ao29 t354.length co29) t354) ∧ Aside0 (Kd.Q (Kd.int .i64) 3 wc w.heap.size (fun k_ => some k_ ≠ (v358 : Value).ownBlock ∧ some k_ ≠ (v376 : Value).ownBlock ∧ some k_ ≠ ((.slice Ao29 t354.length co29) : Value).ownBlock ∧ some k_ ≠ ((.slice Ao46 t372.length co46) : Value).ownBlock) (.slice Ao36 t363.length co36) t392) ∧ Aside0 (Kd.Q (Kd.int .i64) 3 wc w.heap.size (fun k_ => some k_ ≠ (v358 : Value).ownBlock ∧ some k_ ≠ (v376 : Value).ownBlock ∧ some k_ ≠ ((.slice Ao29 t354.length co29) : Value).ownBlock ∧ some k_ ≠ ((.slice Ao36 t363.length co36) : Value).ownBlock) (.slice Ao46 t372.length co46) t372) ∧ Aside0 (wc.heap[gb342]? = some (.cells #[.int .i64 a0_0, .int .i64 a0_1, (.slice A0_2 l0_2.length c0_2)] 53 (0, 0))) ∧ Aside0 (wc.heap[gb360]? = some (.cells #[.int .i64 t352, .int .i64 t353, (.slice Ao29 t354.length co29)] 45 (0, 0))) ∧ Aside0 (wc.heap[gb366]? = some (.cells #[.int .i64 t361, .int .i64 t362, (.slice Ao36 t363.length co36)] 45 (0, 0))) ∧ Aside0 (wc.heap[gb378]? = some (.cells #[.int .i64 t370, .int .i64 t371, (.slice Ao46 t372.length co46)] 45 (0, 0))) ∧ Aside0 (Below w.heap.size w wc))
                case first =>
                  have H := HC77.out
                  clear HC77
                  by_cases c90 : t393 < 0
                  · rw [if_pos c90] at H
                    have c90b0 : decide (t393 < 0) = true := decide_eq_true c90
                    clear c90
                    (first | rw [c90b0] | (simp only [i64_w, i32_w]; rw [c90b0]) | skip)
                    have H' := Aside0.mk H
                    clear H
                    go_wp2
                    go_meet
                    case rel => exact ⟨_, (true), (by first | rfl | (simp; done) | (simp [*]; done)), H', ⟨by have := HJ15.out; first | omega | exact Nat.le_refl _⟩, ⟨by (with_reducible repeat (first | apply Kd.R_alloc | apply Kd.R_drewN | apply Kd.R_drew)); exact Kd.R_mono HO_7.out (fun _ hk => ⟨hk.2.1, ⟨hk.2.2.1, ⟨hk.2.2.2.1, hk.2.2.2.2.1⟩⟩⟩)⟩, ⟨by (with_reducible repeat (first | apply Kd.R_alloc | apply Kd.R_drewN | apply Kd.R_drew)); exact Kd.R_mono HO_11.out (fun _ hk => ⟨hk.1, ⟨hk.2.2.1, ⟨hk.2.2.2.1, hk.2.2.2.2.1⟩⟩⟩)⟩, ⟨by (with_reducible repeat (first | apply Kd.Q_alloc | apply Kd.Q_drewN | apply Kd.Q_drew)); exact Kd.Q_mono HO_361002.out (fun _ hk => ⟨hk.1, ⟨hk.2.2.1, ⟨hk.2.2.2.1, hk.2.2.2.2.1⟩⟩⟩)⟩, ⟨by (with_reducible repeat (first | apply Kd.Q_alloc | apply Kd.Q_drewN | apply Kd.Q_drew)); exact Kd.Q_mono HO_367002.out (fun _ hk => ⟨hk.1, ⟨hk.2.2.1, ⟨hk.2.2.2.1, hk.2.2.2.2.1⟩⟩⟩)⟩, ⟨by (with_reducible repeat (first | apply Kd.Q_alloc | apply Kd.Q_drewN | apply Kd.Q_drew)); exact Kd.Q_mono HO_379002.out (fun _ hk => ⟨hk.1, ⟨hk.2.2.1, ⟨hk.2.2.2.1, hk.2.2.2.2.1⟩⟩⟩)⟩, ⟨by (with_reducible repeat (first | refine blk_drewN ?_ _ | refine blk_drew ?_ | refine blk_alloc ?_ _)); exact BK342.out⟩, ⟨by (with_reducible repeat (first | refine blk_drewN ?_ _ | refine blk_drew ?_ | refine blk_alloc ?_ _)); exact BK360.out⟩, ⟨by (with_reducible repeat (first | refine blk_drewN ?_ _ | refine blk_drew ?_ | refine blk_alloc ?_ _)); exact BK366.out⟩, ⟨by (with_reducible repeat (first | refine blk_drewN ?_ _ | refine blk_drew ?_ | refine blk_alloc ?_ _)); exact BK378.out⟩, ⟨by repeat (first | (with_reducible first | exact HB.out | apply below_alloc | apply pw_below_drewN | apply below_drew1 | refine below_set ?_ GE342.out | refine below_set ?_ GE360.out | refine below_set ?_ GE366.out | refine below_set ?_ GE378.out) | exact HB.out)⟩⟩
                  · rw [if_neg c90] at H
                    have c90b0 : decide (t393 < 0) = false := decide_eq_false c90
                    clear c90
                    (first | rw [c90b0] | (simp only [i64_w, i32_w]; rw [c90b0]) | skip)
                    replace H := Option.bind_eq_some_iff.mp H
                    obtain ⟨t395, A910, H⟩ := H
                    replace H : (if t395 = true then ((laws_eqIntS.f kj15 t375 t357).bind fun t396 => (laws_FnExactAcceptAll.j1 kj15 l1 t357 t375 (!t396) a0_0 a0_1 l0_2 t352 t353 t354 t370 t371 t372)) else (laws_FnExactAcceptAll.j1 kj15 l1 t357 t375 true a0_0 a0_1 l0_2 t352 t353 t354 t370 t371 t372)) = some r := H
                    have A91 := Aside0.mk A910
                    clear A910
                    by_cases c92 : t395 = true
                    · subst c92
                      have H1 : ((laws_eqIntS.f kj15 t375 t357).bind fun t396 => (laws_FnExactAcceptAll.j1 kj15 l1 t357 t375 (!t396) a0_0 a0_1 l0_2 t352 t353 t354 t370 t371 t372)) = some r := by rw [if_pos rfl] at H; exact H
                      clear H
                      have H := H1
                      clear H1
                      replace H := Option.bind_eq_some_iff.mp H
                      obtain ⟨t396, A930, H⟩ := H
                      replace H : (laws_FnExactAcceptAll.j1 kj15 l1 t357 t375 (!t396) a0_0 a0_1 l0_2 t352 t353 t354 t370 t371 t372) = some r := H
                      have A93 := Aside0.mk A930
                      clear A930
                      have H' := Aside0.mk H
                      clear H
                      have hnb94 := NB378_342.out
                      have hnc94 := NB342_378.out
                      have hnb95 := NB378_360.out
                      have hnc95 := NB360_378.out
                      have hnb96 := NB378_366.out
                      have hnc96 := NB366_378.out
                      have hcz97_0 : w89.cell? ⟨gb378, 0, none⟩ = some (.int .i64 t370) := (blk_cell BK378.out 0).trans rfl
                      have hcz97_1 : w89.cell? ⟨gb378, 1, none⟩ = some (.int .i64 t371) := (blk_cell BK378.out 1).trans rfl
                      have hcz97_2 : w89.cell? ⟨gb378, 2, none⟩ = some (.slice Ao46 t372.length co46) := (blk_cell BK378.out 2).trans rfl
                      have hfz97_0 := blk_frozen BK378.out 0
                      have hfz97_1 := blk_frozen BK378.out 1
                      have hfz97_2 := blk_frozen BK378.out 2
                      have hnb98 := NB360_342.out
                      have hnc98 := NB342_360.out
                      have hnb99 := NB360_366.out
                      have hnc99 := NB366_360.out
                      have hcz100_0 : w89.cell? ⟨gb360, 0, none⟩ = some (.int .i64 t352) := (blk_cell BK360.out 0).trans rfl
                      have hcz100_1 : w89.cell? ⟨gb360, 1, none⟩ = some (.int .i64 t353) := (blk_cell BK360.out 1).trans rfl
                      have hcz100_2 : w89.cell? ⟨gb360, 2, none⟩ = some (.slice Ao29 t354.length co29) := (blk_cell BK360.out 2).trans rfl
                      have hfz100_0 := blk_frozen BK360.out 0
                      have hfz100_1 := blk_frozen BK360.out 1
                      have hfz100_2 := blk_frozen BK360.out 2
                      go_wp2_with (first | (go_at_call 36; (with_reducible refine (laws_eqStream.calls kj15 t370 t371 _ _ t372 t352 t353 _ _ t354 true _ ?side1 ?side2 ?side3 ?side4 A91.out).mono ?_); (case side1 => repeat (first | exact (Kd.Q_reads' HO_379002.out).2.2 | (with_reducible refine Kd.C_alloc ?_ _) | (with_reducible refine Kd.C_drewN ?_ _) | (with_reducible refine Kd.C_drew ?_))); (case side2 => exact (Kd.Q_reads' HO_379002.out).2.1); (case side3 => repeat (first | exact (Kd.Q_reads' HO_361002.out).2.2 | (with_reducible refine Kd.C_alloc ?_ _) | (with_reducible refine Kd.C_drewN ?_ _) | (with_reducible refine Kd.C_drew ?_))); (case side4 => exact (Kd.Q_reads' HO_361002.out).2.1); rintro e w101 ⟨rfl, hb⟩; have n0_ := Aside0.mk (Kd.R_below (by (with_reducible repeat (first | apply Kd.R_alloc | apply Kd.R_drewN | apply Kd.R_drew)); exact HO_7.out) hb); have n1_ := Aside0.mk (Kd.R_below (by (with_reducible repeat (first | apply Kd.R_alloc | apply Kd.R_drewN | apply Kd.R_drew)); exact HO_9.out) hb); have n2_ := Aside0.mk (Kd.R_below (by (with_reducible repeat (first | apply Kd.R_alloc | apply Kd.R_drewN | apply Kd.R_drew)); exact HO_11.out) hb); have n3_ := Aside0.mk (Kd.Q_below (by (with_reducible repeat (first | apply Kd.Q_alloc | apply Kd.Q_drewN | apply Kd.Q_drew)); exact HO_361002.out) hb); have n4_ := Aside0.mk (Kd.Q_below (by (with_reducible repeat (first | apply Kd.Q_alloc | apply Kd.Q_drewN | apply Kd.Q_drew)); exact HO_367002.out) hb); have n5_ := Aside0.mk (Kd.Q_below (by (with_reducible repeat (first | apply Kd.Q_alloc | apply Kd.Q_drewN | apply Kd.Q_drew)); exact HO_379002.out) hb); have n6_ := Aside0.mk (Kd.R_below (by (with_reducible repeat (first | apply Kd.R_alloc | apply Kd.R_drewN | apply Kd.R_drew)); exact HO385.out) hb); have n7_ := Aside0.mk (Kd.R_below (by (with_reducible repeat (first | apply Kd.R_alloc | apply Kd.R_drewN | apply Kd.R_drew)); exact HO389.out) hb); have n8_ := Aside0.mk (blk_below (g := gb342) (o := .cells #[.int .i64 a0_0, .int .i64 a0_1, .slice A0_2 l0_2.length c0_2] 53 (0, 0)) (by (with_reducible repeat (first | refine blk_drewN ?_ _ | refine blk_drew ?_ | refine blk_alloc ?_ _)); exact BK342.out) hb); have n9_ := Aside0.mk (blk_below (g := gb360) (o := .cells #[.int .i64 t352, .int .i64 t353, .slice Ao29 t354.length co29] 45 (0, 0)) (by (with_reducible repeat (first | refine blk_drewN ?_ _ | refine blk_drew ?_ | refine blk_alloc ?_ _)); exact BK360.out) hb); have n10_ := Aside0.mk (blk_below (g := gb366) (o := .cells #[.int .i64 t361, .int .i64 t362, .slice Ao36 t363.length co36] 45 (0, 0)) (by (with_reducible repeat (first | refine blk_drewN ?_ _ | refine blk_drew ?_ | refine blk_alloc ?_ _)); exact BK366.out) hb); have n11_ := Aside0.mk (blk_below (g := gb378) (o := .cells #[.int .i64 t370, .int .i64 t371, .slice Ao46 t372.length co46] 45 (0, 0)) (by (with_reducible repeat (first | refine blk_drewN ?_ _ | refine blk_drew ?_ | refine blk_alloc ?_ _)); exact BK378.out) hb); have n12_ := Aside0.mk (below_step (by repeat (first | (with_reducible first | exact HB.out | apply below_alloc | apply pw_below_drewN | apply below_drew1 | refine below_set ?_ GE342.out | refine below_set ?_ GE360.out | refine below_set ?_ GE366.out | refine below_set ?_ GE378.out) | exact HB.out)) hb); clear HO_7; clear HO_9; clear HO_11; clear HO_361002; clear HO_367002; clear HO_379002; clear HO385; clear HO389; clear BK342; clear BK360; clear BK366; clear BK378; clear HB; have HO_7 := n0_; have HO_9 := n1_; have HO_11 := n2_; have HO_361002 := n3_; have HO_367002 := n4_; have HO_379002 := n5_; have HO385 := n6_; have HO389 := n7_; have BK342 := n8_; have BK360 := n9_; have BK366 := n10_; have BK378 := n11_; have HB := n12_; clear n0_ n1_ n2_ n3_ n4_ n5_ n6_ n7_ n8_ n9_ n10_ n11_ n12_; (try clear hb); (try clear hb2); (try clear hk); (try clear hi); obtain ⟨Ao102, co102, eo102⟩ := Kd.R_slice HO_11.out; subst eo102; obtain ⟨Ao103, co103, eo103⟩ := Kd.R_slice HO_7.out; subst eo103) | (go_at_call 37; (with_reducible refine (laws_eqIntS.calls kj15 _ _ t375 _ _ t357 t396 _ ?side1 ?side2 ?side3 ?side4 A93.out).mono ?_); (case side1 => repeat (first | exact (Kd.R_reads' HO_11.out).2.2 | (with_reducible refine Kd.C_alloc ?_ _) | (with_reducible refine Kd.C_drewN ?_ _) | (with_reducible refine Kd.C_drew ?_))); (case side2 => exact (Kd.R_reads' HO_11.out).2.1); (case side3 => repeat (first | exact (Kd.R_reads' HO_7.out).2.2 | (with_reducible refine Kd.C_alloc ?_ _) | (with_reducible refine Kd.C_drewN ?_ _) | (with_reducible refine Kd.C_drew ?_))); (case side4 => exact (Kd.R_reads' HO_7.out).2.1); rintro e w' ⟨rfl, ⟨nd, rfl⟩⟩))
                      go_meet
                      case rel => exact ⟨_, (!t396), (by first | rfl | (simp; done) | (simp [*]; done)), H', ⟨by have := HJ15.out; first | omega | exact Nat.le_refl _⟩, ⟨by (with_reducible repeat (first | apply Kd.R_alloc | apply Kd.R_drewN | apply Kd.R_drew)); exact Kd.R_mono HO_7.out (fun _ hk => ⟨hk.2.1, ⟨hk.2.2.1, ⟨hk.2.2.2.1, hk.2.2.2.2.1⟩⟩⟩)⟩, ⟨by (with_reducible repeat (first | apply Kd.R_alloc | apply Kd.R_drewN | apply Kd.R_drew)); exact Kd.R_mono HO_11.out (fun _ hk => ⟨hk.1, ⟨hk.2.2.1, ⟨hk.2.2.2.1, hk.2.2.2.2.1⟩⟩⟩)⟩, ⟨by (with_reducible repeat (first | apply Kd.Q_alloc | apply Kd.Q_drewN | apply Kd.Q_drew)); exact Kd.Q_mono HO_361002.out (fun _ hk => ⟨hk.1, ⟨hk.2.2.1, ⟨hk.2.2.2.1, hk.2.2.2.2.1⟩⟩⟩)⟩, ⟨by (with_reducible repeat (first | apply Kd.Q_alloc | apply Kd.Q_drewN | apply Kd.Q_drew)); exact Kd.Q_mono HO_367002.out (fun _ hk => ⟨hk.1, ⟨hk.2.2.1, ⟨hk.2.2.2.1, hk.2.2.2.2.1⟩⟩⟩)⟩, ⟨by (with_reducible repeat (first | apply Kd.Q_alloc | apply Kd.Q_drewN | apply Kd.Q_drew)); exact Kd.Q_mono HO_379002.out (fun _ hk => ⟨hk.1, ⟨hk.2.2.1, ⟨hk.2.2.2.1, hk.2.2.2.2.1⟩⟩⟩)⟩, ⟨by (with_reducible repeat (first | refine blk_drewN ?_ _ | refine blk_drew ?_ | refine blk_alloc ?_ _)); exact BK342.out⟩, ⟨by (with_reducible repeat (first | refine blk_drewN ?_ _ | refine blk_drew ?_ | refine blk_alloc ?_ _)); exact BK360.out⟩, ⟨by (with_reducible repeat (first | refine blk_drewN ?_ _ | refine blk_drew ?_ | refine blk_alloc ?_ _)); exact BK366.out⟩, ⟨by (with_reducible repeat (first | refine blk_drewN ?_ _ | refine blk_drew ?_ | refine blk_alloc ?_ _)); exact BK378.out⟩, ⟨by repeat (first | (with_reducible first | exact HB.out | apply below_alloc | apply pw_below_drewN | apply below_drew1 | refine below_set ?_ GE342.out | refine below_set ?_ GE360.out | refine below_set ?_ GE366.out | refine below_set ?_ GE378.out) | exact HB.out)⟩⟩
                    · replace c92 := Bool.eq_false_iff.mpr c92
                      subst c92
                      have H1 : (laws_FnExactAcceptAll.j1 kj15 l1 t357 t375 true a0_0 a0_1 l0_2 t352 t353 t354 t370 t371 t372) = some r := by rw [if_neg (show ¬ (false = true) by decide)] at H; exact H
                      clear H
                      have H := H1
                      clear H1
                      have H' := Aside0.mk H
                      clear H
                      have hnb104 := NB378_342.out
                      have hnc104 := NB342_378.out
                      have hnb105 := NB378_360.out
                      have hnc105 := NB360_378.out
                      have hnb106 := NB378_366.out
                      have hnc106 := NB366_378.out
                      have hcz107_0 : w89.cell? ⟨gb378, 0, none⟩ = some (.int .i64 t370) := (blk_cell BK378.out 0).trans rfl
                      have hcz107_1 : w89.cell? ⟨gb378, 1, none⟩ = some (.int .i64 t371) := (blk_cell BK378.out 1).trans rfl
                      have hcz107_2 : w89.cell? ⟨gb378, 2, none⟩ = some (.slice Ao46 t372.length co46) := (blk_cell BK378.out 2).trans rfl
                      have hfz107_0 := blk_frozen BK378.out 0
                      have hfz107_1 := blk_frozen BK378.out 1
                      have hfz107_2 := blk_frozen BK378.out 2
                      have hnb108 := NB360_342.out
                      have hnc108 := NB342_360.out
                      have hnb109 := NB360_366.out
                      have hnc109 := NB366_360.out
                      have hcz110_0 : w89.cell? ⟨gb360, 0, none⟩ = some (.int .i64 t352) := (blk_cell BK360.out 0).trans rfl
                      have hcz110_1 : w89.cell? ⟨gb360, 1, none⟩ = some (.int .i64 t353) := (blk_cell BK360.out 1).trans rfl
                      have hcz110_2 : w89.cell? ⟨gb360, 2, none⟩ = some (.slice Ao29 t354.length co29) := (blk_cell BK360.out 2).trans rfl
                      have hfz110_0 := blk_frozen BK360.out 0
                      have hfz110_1 := blk_frozen BK360.out 1
                      have hfz110_2 := blk_frozen BK360.out 2
                      go_wp2_with (first | (go_at_call 36; (with_reducible refine (laws_eqStream.calls kj15 t370 t371 _ _ t372 t352 t353 _ _ t354 false _ ?side1 ?side2 ?side3 ?side4 A91.out).mono ?_); (case side1 => repeat (first | exact (Kd.Q_reads' HO_379002.out).2.2 | (with_reducible refine Kd.C_alloc ?_ _) | (with_reducible refine Kd.C_drewN ?_ _) | (with_reducible refine Kd.C_drew ?_))); (case side2 => exact (Kd.Q_reads' HO_379002.out).2.1); (case side3 => repeat (first | exact (Kd.Q_reads' HO_361002.out).2.2 | (with_reducible refine Kd.C_alloc ?_ _) | (with_reducible refine Kd.C_drewN ?_ _) | (with_reducible refine Kd.C_drew ?_))); (case side4 => exact (Kd.Q_reads' HO_361002.out).2.1); rintro e w111 ⟨rfl, hb⟩; have n0_ := Aside0.mk (Kd.R_below (by (with_reducible repeat (first | apply Kd.R_alloc | apply Kd.R_drewN | apply Kd.R_drew)); exact HO_7.out) hb); have n1_ := Aside0.mk (Kd.R_below (by (with_reducible repeat (first | apply Kd.R_alloc | apply Kd.R_drewN | apply Kd.R_drew)); exact HO_9.out) hb); have n2_ := Aside0.mk (Kd.R_below (by (with_reducible repeat (first | apply Kd.R_alloc | apply Kd.R_drewN | apply Kd.R_drew)); exact HO_11.out) hb); have n3_ := Aside0.mk (Kd.Q_below (by (with_reducible repeat (first | apply Kd.Q_alloc | apply Kd.Q_drewN | apply Kd.Q_drew)); exact HO_361002.out) hb); have n4_ := Aside0.mk (Kd.Q_below (by (with_reducible repeat (first | apply Kd.Q_alloc | apply Kd.Q_drewN | apply Kd.Q_drew)); exact HO_367002.out) hb); have n5_ := Aside0.mk (Kd.Q_below (by (with_reducible repeat (first | apply Kd.Q_alloc | apply Kd.Q_drewN | apply Kd.Q_drew)); exact HO_379002.out) hb); have n6_ := Aside0.mk (Kd.R_below (by (with_reducible repeat (first | apply Kd.R_alloc | apply Kd.R_drewN | apply Kd.R_drew)); exact HO385.out) hb); have n7_ := Aside0.mk (Kd.R_below (by (with_reducible repeat (first | apply Kd.R_alloc | apply Kd.R_drewN | apply Kd.R_drew)); exact HO389.out) hb); have n8_ := Aside0.mk (blk_below (g := gb342) (o := .cells #[.int .i64 a0_0, .int .i64 a0_1, .slice A0_2 l0_2.length c0_2] 53 (0, 0)) (by (with_reducible repeat (first | refine blk_drewN ?_ _ | refine blk_drew ?_ | refine blk_alloc ?_ _)); exact BK342.out) hb); have n9_ := Aside0.mk (blk_below (g := gb360) (o := .cells #[.int .i64 t352, .int .i64 t353, .slice Ao29 t354.length co29] 45 (0, 0)) (by (with_reducible repeat (first | refine blk_drewN ?_ _ | refine blk_drew ?_ | refine blk_alloc ?_ _)); exact BK360.out) hb); have n10_ := Aside0.mk (blk_below (g := gb366) (o := .cells #[.int .i64 t361, .int .i64 t362, .slice Ao36 t363.length co36] 45 (0, 0)) (by (with_reducible repeat (first | refine blk_drewN ?_ _ | refine blk_drew ?_ | refine blk_alloc ?_ _)); exact BK366.out) hb); have n11_ := Aside0.mk (blk_below (g := gb378) (o := .cells #[.int .i64 t370, .int .i64 t371, .slice Ao46 t372.length co46] 45 (0, 0)) (by (with_reducible repeat (first | refine blk_drewN ?_ _ | refine blk_drew ?_ | refine blk_alloc ?_ _)); exact BK378.out) hb); have n12_ := Aside0.mk (below_step (by repeat (first | (with_reducible first | exact HB.out | apply below_alloc | apply pw_below_drewN | apply below_drew1 | refine below_set ?_ GE342.out | refine below_set ?_ GE360.out | refine below_set ?_ GE366.out | refine below_set ?_ GE378.out) | exact HB.out)) hb); clear HO_7; clear HO_9; clear HO_11; clear HO_361002; clear HO_367002; clear HO_379002; clear HO385; clear HO389; clear BK342; clear BK360; clear BK366; clear BK378; clear HB; have HO_7 := n0_; have HO_9 := n1_; have HO_11 := n2_; have HO_361002 := n3_; have HO_367002 := n4_; have HO_379002 := n5_; have HO385 := n6_; have HO389 := n7_; have BK342 := n8_; have BK360 := n9_; have BK366 := n10_; have BK378 := n11_; have HB := n12_; clear n0_ n1_ n2_ n3_ n4_ n5_ n6_ n7_ n8_ n9_ n10_ n11_ n12_; (try clear hb); (try clear hb2); (try clear hk); (try clear hi)))
                      go_meet
                      case rel => exact ⟨_, (true), (by first | rfl | (simp; done) | (simp [*]; done)), H', ⟨by have := HJ15.out; first | omega | exact Nat.le_refl _⟩, ⟨by (with_reducible repeat (first | apply Kd.R_alloc | apply Kd.R_drewN | apply Kd.R_drew)); exact Kd.R_mono HO_7.out (fun _ hk => ⟨hk.2.1, ⟨hk.2.2.1, ⟨hk.2.2.2.1, hk.2.2.2.2.1⟩⟩⟩)⟩, ⟨by (with_reducible repeat (first | apply Kd.R_alloc | apply Kd.R_drewN | apply Kd.R_drew)); exact Kd.R_mono HO_11.out (fun _ hk => ⟨hk.1, ⟨hk.2.2.1, ⟨hk.2.2.2.1, hk.2.2.2.2.1⟩⟩⟩)⟩, ⟨by (with_reducible repeat (first | apply Kd.Q_alloc | apply Kd.Q_drewN | apply Kd.Q_drew)); exact Kd.Q_mono HO_361002.out (fun _ hk => ⟨hk.1, ⟨hk.2.2.1, ⟨hk.2.2.2.1, hk.2.2.2.2.1⟩⟩⟩)⟩, ⟨by (with_reducible repeat (first | apply Kd.Q_alloc | apply Kd.Q_drewN | apply Kd.Q_drew)); exact Kd.Q_mono HO_367002.out (fun _ hk => ⟨hk.1, ⟨hk.2.2.1, ⟨hk.2.2.2.1, hk.2.2.2.2.1⟩⟩⟩)⟩, ⟨by (with_reducible repeat (first | apply Kd.Q_alloc | apply Kd.Q_drewN | apply Kd.Q_drew)); exact Kd.Q_mono HO_379002.out (fun _ hk => ⟨hk.1, ⟨hk.2.2.1, ⟨hk.2.2.2.1, hk.2.2.2.2.1⟩⟩⟩)⟩, ⟨by (with_reducible repeat (first | refine blk_drewN ?_ _ | refine blk_drew ?_ | refine blk_alloc ?_ _)); exact BK342.out⟩, ⟨by (with_reducible repeat (first | refine blk_drewN ?_ _ | refine blk_drew ?_ | refine blk_alloc ?_ _)); exact BK360.out⟩, ⟨by (with_reducible repeat (first | refine blk_drewN ?_ _ | refine blk_drew ?_ | refine blk_alloc ?_ _)); exact BK366.out⟩, ⟨by (with_reducible repeat (first | refine blk_drewN ?_ _ | refine blk_drew ?_ | refine blk_alloc ?_ _)); exact BK378.out⟩, ⟨by repeat (first | (with_reducible first | exact HB.out | apply below_alloc | apply pw_below_drewN | apply below_drew1 | refine below_set ?_ GE342.out | refine below_set ?_ GE360.out | refine below_set ?_ GE366.out | refine below_set ?_ GE378.out) | exact HB.out)⟩⟩
                case rest =>
                  clear HC77
                  try clear c1
                  try clear c2
                  try clear p2
                  try clear c3
                  try clear c3b0
                  try clear c3b1
                  try clear c4
                  try clear c5
                  try clear c6
                  try clear c6b0
                  try clear c7
                  try clear c8
                  try clear c9
                  try clear c10
                  try clear c27
                  try clear c32
                  try clear c33
                  try clear c34
                  try clear c36
                  try clear c37
                  try clear c38
                  try clear c39
                  try clear c42
                  try clear c43
                  try clear c44
                  try clear c48
                  try clear c50
                  try clear c51
                  try clear c52
                  try clear c54
                  try clear c55
                  try clear c60
                  try clear c61
                  try clear c62
                  try clear c64
                  try clear c65
                  try clear c68
                  try clear c71
                  try clear c74
                  try clear c84
                  try clear c85
                  try clear c86
                  try clear c90
                  try clear c90b0
                  try clear c92
                  try clear c94
                  try clear c95
                  try clear c96
                  try clear c98
                  try clear c99
                  try clear c104
                  try clear c105
                  try clear c106
                  try clear c108
                  try clear c109
                  try clear hcz100_0
                  try clear hcz100_1
                  try clear hcz100_2
                  try clear hcz107_0
                  try clear hcz107_1
                  try clear hcz107_2
                  try clear hcz110_0
                  try clear hcz110_1
                  try clear hcz110_2
                  try clear hcz18_0
                  try clear hcz18_1
                  try clear hcz18_2
                  try clear hcz20_0
                  try clear hcz20_1
                  try clear hcz20_2
                  try clear hcz28_0
                  try clear hcz28_1
                  try clear hcz28_2
                  try clear hcz30_0
                  try clear hcz30_1
                  try clear hcz30_2
                  try clear hcz35_0
                  try clear hcz35_1
                  try clear hcz35_2
                  try clear hcz38_0
                  try clear hcz38_1
                  try clear hcz38_2
                  try clear hcz45_0
                  try clear hcz45_1
                  try clear hcz45_2
                  try clear hcz53_0
                  try clear hcz53_1
                  try clear hcz53_2
                  try clear hcz56_0
                  try clear hcz56_1
                  try clear hcz56_2
                  try clear hcz63_0
                  try clear hcz63_1
                  try clear hcz63_2
                  try clear hcz66_0
                  try clear hcz66_1
                  try clear hcz66_2
                  try clear hcz87_0
                  try clear hcz87_1
                  try clear hcz87_2
                  try clear hcz8_0
                  try clear hcz8_1
                  try clear hcz8_2
                  try clear hcz97_0
                  try clear hcz97_1
                  try clear hcz97_2
                  try clear hfz100_0
                  try clear hfz100_1
                  try clear hfz100_2
                  try clear hfz107_0
                  try clear hfz107_1
                  try clear hfz107_2
                  try clear hfz110_0
                  try clear hfz110_1
                  try clear hfz110_2
                  try clear hfz18_0
                  try clear hfz18_1
                  try clear hfz18_2
                  try clear hfz20_0
                  try clear hfz20_1
                  try clear hfz20_2
                  try clear hfz28_0
                  try clear hfz28_1
                  try clear hfz28_2
                  try clear hfz30_0
                  try clear hfz30_1
                  try clear hfz30_2
                  try clear hfz35_0
                  try clear hfz35_1
                  try clear hfz35_2
                  try clear hfz38_0
                  try clear hfz38_1
                  try clear hfz38_2
                  try clear hfz45_0
                  try clear hfz45_1
                  try clear hfz45_2
                  try clear hfz53_0
                  try clear hfz53_1
                  try clear hfz53_2
                  try clear hfz56_0
                  try clear hfz56_1
                  try clear hfz56_2
                  try clear hfz63_0
                  try clear hfz63_1
                  try clear hfz63_2
                  try clear hfz66_0
                  try clear hfz66_1
                  try clear hfz66_2
                  try clear hfz87_0
                  try clear hfz87_1
                  try clear hfz87_2
                  try clear hfz8_0
                  try clear hfz8_1
                  try clear hfz8_2
                  try clear hfz97_0
                  try clear hfz97_1
                  try clear hfz97_2
                  try clear p2
                  obtain ⟨kq, x82_76, rfl, HA, HJ76, HO_7, HO_11, HO_361002, HO_367002, HO_379002, BK342, BK360, BK366, BK378, HB⟩ := hcut
                  have hl367002_76 := (Kd.Q_reads' HO_367002.out).1
                  rw [hl367002_76] at HO_367002
                  (try simp only [hl367002_76])
                  (try simp only [hl367002_76] at BK342)
                  (try simp only [hl367002_76] at BK360)
                  (try simp only [hl367002_76] at BK366)
                  (try simp only [hl367002_76] at BK378)
                  (try simp only [hl367002_76] at HO_7)
                  (try simp only [hl367002_76] at HO_11)
                  (try simp only [hl367002_76] at HO_361002)
                  (try simp only [hl367002_76] at HO_379002)
                  cases kq with
                  | zero => exact absurd HA.out (by simp [laws_FnExactAcceptAll.j1])
                  | succ kj76 =>
                    have H := HA.out
                    clear HA
                    simp only [laws_FnExactAcceptAll.j1] at H
                    by_cases c112 : x82_76 = true
                    · subst c112
                      have H1 : (some false) = some r := by rw [if_pos rfl] at H; exact H
                      clear H
                      have H := H1
                      clear H1
                      exact absurd ((Option.some.inj H).trans HTRUE.out) (by decide)
                    · replace c112 := Bool.eq_false_iff.mpr c112
                      subst c112
                      have H1 : ((laws_markStream.f kj76 t370 t371 t372 1).bind fun bt397 => ((laws_markIntS.f kj76 t375 bt397.1).bind fun bt399 => ((laws_heldStream.f kj76 t370 t371 bt397.2 1).bind fun t401 => (if t401 < 0 then (some false) else ((laws_heldIntS.f kj76 bt399.2 t401).bind fun t402 => (if t402 < 0 then (some false) else (if t402 = bt399.1 then ((laws_toStream.f kj76 a0_0 a0_1 l0_2).bind fun bt403 => ((laws_toIntS.f kj76 l1).bind fun t408 => ((impl_AcceptAll.f kj76 bt403.1 bt403.2.1 bt403.2.2 t408).bind fun bt411 => ((laws_eqStream.f kj76 bt411.1 bt411.2.1 bt411.2.2.1 t352 t353 t354).bind fun t420 => (if t420 = true then ((laws_eqIntS.f kj76 bt411.2.2.2 t357).bind fun t421 => (laws_FnExactAcceptAll.j2 kj76 bt399.2 bt399.1 (!t421) t370 t371 bt397.2)) else (laws_FnExactAcceptAll.j2 kj76 bt399.2 bt399.1 true t370 t371 bt397.2)))))) else (some false)))))))) = some r := by rw [if_neg (show ¬ (false = true) by decide)] at H; exact H
                      clear H
                      have H := H1
                      clear H1
                      replace H := Option.bind_eq_some_iff.mp H
                      obtain ⟨⟨t397, t398⟩, A1130, H⟩ := H
                      replace H : ((laws_markIntS.f kj76 t375 t397).bind fun bt399 => ((laws_heldStream.f kj76 t370 t371 t398 1).bind fun t401 => (if t401 < 0 then (some false) else ((laws_heldIntS.f kj76 bt399.2 t401).bind fun t402 => (if t402 < 0 then (some false) else (if t402 = bt399.1 then ((laws_toStream.f kj76 a0_0 a0_1 l0_2).bind fun bt403 => ((laws_toIntS.f kj76 l1).bind fun t408 => ((impl_AcceptAll.f kj76 bt403.1 bt403.2.1 bt403.2.2 t408).bind fun bt411 => ((laws_eqStream.f kj76 bt411.1 bt411.2.1 bt411.2.2.1 t352 t353 t354).bind fun t420 => (if t420 = true then ((laws_eqIntS.f kj76 bt411.2.2.2 t357).bind fun t421 => (laws_FnExactAcceptAll.j2 kj76 bt399.2 bt399.1 (!t421) t370 t371 t398)) else (laws_FnExactAcceptAll.j2 kj76 bt399.2 bt399.1 true t370 t371 t398)))))) else (some false))))))) = some r := H
                      have A113 := Aside0.mk A1130
                      clear A1130
                      replace H := Option.bind_eq_some_iff.mp H
                      obtain ⟨⟨t399, t400⟩, A1140, H⟩ := H
                      replace H : ((laws_heldStream.f kj76 t370 t371 t398 1).bind fun t401 => (if t401 < 0 then (some false) else ((laws_heldIntS.f kj76 t400 t401).bind fun t402 => (if t402 < 0 then (some false) else (if t402 = t399 then ((laws_toStream.f kj76 a0_0 a0_1 l0_2).bind fun bt403 => ((laws_toIntS.f kj76 l1).bind fun t408 => ((impl_AcceptAll.f kj76 bt403.1 bt403.2.1 bt403.2.2 t408).bind fun bt411 => ((laws_eqStream.f kj76 bt411.1 bt411.2.1 bt411.2.2.1 t352 t353 t354).bind fun t420 => (if t420 = true then ((laws_eqIntS.f kj76 bt411.2.2.2 t357).bind fun t421 => (laws_FnExactAcceptAll.j2 kj76 t400 t399 (!t421) t370 t371 t398)) else (laws_FnExactAcceptAll.j2 kj76 t400 t399 true t370 t371 t398)))))) else (some false)))))) = some r := H
                      have A114 := Aside0.mk A1140
                      clear A1140
                      replace H := Option.bind_eq_some_iff.mp H
                      obtain ⟨t401, A1150, H⟩ := H
                      replace H : (if t401 < 0 then (some false) else ((laws_heldIntS.f kj76 t400 t401).bind fun t402 => (if t402 < 0 then (some false) else (if t402 = t399 then ((laws_toStream.f kj76 a0_0 a0_1 l0_2).bind fun bt403 => ((laws_toIntS.f kj76 l1).bind fun t408 => ((impl_AcceptAll.f kj76 bt403.1 bt403.2.1 bt403.2.2 t408).bind fun bt411 => ((laws_eqStream.f kj76 bt411.1 bt411.2.1 bt411.2.2.1 t352 t353 t354).bind fun t420 => (if t420 = true then ((laws_eqIntS.f kj76 bt411.2.2.2 t357).bind fun t421 => (laws_FnExactAcceptAll.j2 kj76 t400 t399 (!t421) t370 t371 t398)) else (laws_FnExactAcceptAll.j2 kj76 t400 t399 true t370 t371 t398)))))) else (some false))))) = some r := H
                      have A115 := Aside0.mk A1150
                      clear A1150
                      by_cases c116 : t401 < 0
                      · rw [if_pos c116] at H
                        have c116b0 : decide (t401 < 0) = true := decide_eq_true c116
                        clear c116
                        exact absurd ((Option.some.inj H).trans HTRUE.out) (by decide)
                      · rw [if_neg c116] at H
                        have c116b0 : decide (t401 < 0) = false := decide_eq_false c116
                        clear c116
                        replace H := Option.bind_eq_some_iff.mp H
                        obtain ⟨t402, A1170, H⟩ := H
                        replace H : (if t402 < 0 then (some false) else (if t402 = t399 then ((laws_toStream.f kj76 a0_0 a0_1 l0_2).bind fun bt403 => ((laws_toIntS.f kj76 l1).bind fun t408 => ((impl_AcceptAll.f kj76 bt403.1 bt403.2.1 bt403.2.2 t408).bind fun bt411 => ((laws_eqStream.f kj76 bt411.1 bt411.2.1 bt411.2.2.1 t352 t353 t354).bind fun t420 => (if t420 = true then ((laws_eqIntS.f kj76 bt411.2.2.2 t357).bind fun t421 => (laws_FnExactAcceptAll.j2 kj76 t400 t399 (!t421) t370 t371 t398)) else (laws_FnExactAcceptAll.j2 kj76 t400 t399 true t370 t371 t398)))))) else (some false))) = some r := H
                        have A117 := Aside0.mk A1170
                        clear A1170
                        by_cases c118 : t402 < 0
                        · rw [if_pos c118] at H
                          have c118b0 : decide (t402 < 0) = true := decide_eq_true c118
                          clear c118
                          exact absurd ((Option.some.inj H).trans HTRUE.out) (by decide)
                        · rw [if_neg c118] at H
                          have c118b0 : decide (t402 < 0) = false := decide_eq_false c118
                          clear c118
                          by_cases c119 : t402 = t399
                          · rw [if_pos c119] at H
                            have c119b0 : (t402 == t399) = true := beq_iff_eq.mpr c119
                            have c119b1 : (t402 != t399) = false := bne_eq_false_iff_eq.mpr c119
                            clear c119
                            replace H := Option.bind_eq_some_iff.mp H
                            obtain ⟨⟨t403, t404, t405⟩, A1200, H⟩ := H
                            replace H : ((laws_toIntS.f kj76 l1).bind fun t408 => ((impl_AcceptAll.f kj76 t403 t404 t405 t408).bind fun bt411 => ((laws_eqStream.f kj76 bt411.1 bt411.2.1 bt411.2.2.1 t352 t353 t354).bind fun t420 => (if t420 = true then ((laws_eqIntS.f kj76 bt411.2.2.2 t357).bind fun t421 => (laws_FnExactAcceptAll.j2 kj76 t400 t399 (!t421) t370 t371 t398)) else (laws_FnExactAcceptAll.j2 kj76 t400 t399 true t370 t371 t398))))) = some r := H
                            have A120 := Aside0.mk A1200
                            clear A1200
                            replace H := Option.bind_eq_some_iff.mp H
                            obtain ⟨t408, A1210, H⟩ := H
                            replace H : ((impl_AcceptAll.f kj76 t403 t404 t405 t408).bind fun bt411 => ((laws_eqStream.f kj76 bt411.1 bt411.2.1 bt411.2.2.1 t352 t353 t354).bind fun t420 => (if t420 = true then ((laws_eqIntS.f kj76 bt411.2.2.2 t357).bind fun t421 => (laws_FnExactAcceptAll.j2 kj76 t400 t399 (!t421) t370 t371 t398)) else (laws_FnExactAcceptAll.j2 kj76 t400 t399 true t370 t371 t398)))) = some r := H
                            have A121 := Aside0.mk A1210
                            clear A1210
                            replace H := Option.bind_eq_some_iff.mp H
                            obtain ⟨⟨t411, t412, t413, t416⟩, A1220, H⟩ := H
                            replace H : ((laws_eqStream.f kj76 t411 t412 t413 t352 t353 t354).bind fun t420 => (if t420 = true then ((laws_eqIntS.f kj76 t416 t357).bind fun t421 => (laws_FnExactAcceptAll.j2 kj76 t400 t399 (!t421) t370 t371 t398)) else (laws_FnExactAcceptAll.j2 kj76 t400 t399 true t370 t371 t398))) = some r := H
                            have A122 := Aside0.mk A1220
                            clear A1220
                            have HC123 := Aside0.mk H
                            clear H
                            have hnb124 := NB378_342.out
                            have hnc124 := NB342_378.out
                            have hnb125 := NB378_360.out
                            have hnc125 := NB360_378.out
                            have hnb126 := NB378_366.out
                            have hnc126 := NB366_378.out
                            have hcz127_0 : wc.cell? ⟨gb378, 0, none⟩ = some (.int .i64 t370) := (blk_cell BK378.out 0).trans rfl
                            have hcz127_1 : wc.cell? ⟨gb378, 1, none⟩ = some (.int .i64 t371) := (blk_cell BK378.out 1).trans rfl
                            have hcz127_2 : wc.cell? ⟨gb378, 2, none⟩ = some (.slice Ao46 t372.length co46) := (blk_cell BK378.out 2).trans rfl
                            have hfz127_0 := blk_frozen BK378.out 0
                            have hfz127_1 := blk_frozen BK378.out 1
                            have hfz127_2 := blk_frozen BK378.out 2
                            go_upto_region 35 with (first | ((with_reducible refine gate_callee (f := 38) rfl ?_); refine goesL_ (some 85) rfl rfl Try.func38 (by kernel_rfl) rfl #[.agg #[.int .i64 t370, .int .i64 t371, .slice Ao46 t372.length co46], .int .i64 1] rfl (by (try simp only [List.map_toArray, List.map_cons, List.map_nil]); first | done | rfl | (simp only [List.length_drop, List.length_take]; rfl)) ?_; (with_reducible refine (laws_markStream.callsQ kj76 t370 t371 (fun k_ => some k_ = (.slice Ao46 t372.length co46 : Value).ownBlock) (.slice Ao46 t372.length co46) t372 1 t397 t398 w _ ?side1 ?side2 A113.out).mono ?_); (case side1 => repeat (first | (with_reducible first | exact HB.out | apply below_alloc | apply pw_below_drewN | apply below_drew1 | refine below_set ?_ GE342.out | refine below_set ?_ GE360.out | refine below_set ?_ GE366.out | refine below_set ?_ GE378.out) | exact HB.out)); (case side2 => exact Kd.Q_tight rfl HO_379002.out); rintro e w128 ⟨rfl, hy0, hb, hkp⟩; refine ⟨_, rfl, ?_⟩; have n0_ := Aside0.mk (Kd.R_mono (ok' := fun k_ => some k_ ≠ (v376 : Value).ownBlock ∧ some k_ ≠ (.slice Ao29 t354.length co29 : Value).ownBlock ∧ some k_ ≠ (.slice Ao36 t392.length co36 : Value).ownBlock ∧ some k_ ≠ (.slice Ao46 t372.length co46 : Value).ownBlock) (Kd.R_keptB (HO_7.out) hkp (fun k_ hk_ hs_ => (hk_.2.2.2) hs_)) (fun k_ hk_ => ⟨hk_.1.1, hk_.1.2.1, hk_.1.2.2.1, hk_.1.2.2.2⟩)); have n1_ := Aside0.mk (Kd.R_mono (ok' := fun k_ => some k_ ≠ (v358 : Value).ownBlock ∧ some k_ ≠ (.slice Ao29 t354.length co29 : Value).ownBlock ∧ some k_ ≠ (.slice Ao36 t392.length co36 : Value).ownBlock ∧ some k_ ≠ (.slice Ao46 t372.length co46 : Value).ownBlock) (Kd.R_keptB (HO_11.out) hkp (fun k_ hk_ hs_ => (hk_.2.2.2) hs_)) (fun k_ hk_ => ⟨hk_.1.1, hk_.1.2.1, hk_.1.2.2.1, hk_.1.2.2.2⟩)); have n2_ := Aside0.mk (Kd.Q_mono (ok' := fun k_ => some k_ ≠ (v358 : Value).ownBlock ∧ some k_ ≠ (v376 : Value).ownBlock ∧ some k_ ≠ (.slice Ao36 t392.length co36 : Value).ownBlock ∧ some k_ ≠ (.slice Ao46 t372.length co46 : Value).ownBlock) (Kd.Q_keptB (HO_361002.out) hkp (fun k_ hk_ hs_ => (hk_.2.2.2) hs_)) (fun k_ hk_ => ⟨hk_.1.1, hk_.1.2.1, hk_.1.2.2.1, hk_.1.2.2.2⟩)); have n3_ := Aside0.mk (Kd.Q_mono (ok' := fun k_ => some k_ ≠ (v358 : Value).ownBlock ∧ some k_ ≠ (v376 : Value).ownBlock ∧ some k_ ≠ (.slice Ao29 t354.length co29 : Value).ownBlock ∧ some k_ ≠ (.slice Ao46 t372.length co46 : Value).ownBlock) (Kd.Q_keptB (HO_367002.out) hkp (fun k_ hk_ hs_ => (hk_.2.2.2) hs_)) (fun k_ hk_ => ⟨hk_.1.1, hk_.1.2.1, hk_.1.2.2.1, hk_.1.2.2.2⟩)); have n4_ := Aside0.mk (Kd.Q_mono (Kd.Q_tight rfl hy0) (fun k_ e_ => HO_379002.out.1 k_ e_.symm)); have n5_ := Aside0.mk (blk_kept BK342.out hkp (fun hs_ => (fun e_ => (Kd.Q_ne HO_379002.out BK342.out (by decide)) e_) hs_)); have n6_ := Aside0.mk (blk_kept BK360.out hkp (fun hs_ => (fun e_ => (Kd.Q_ne HO_379002.out BK360.out (by decide)) e_) hs_)); have n7_ := Aside0.mk (blk_kept BK366.out hkp (fun hs_ => (fun e_ => (Kd.Q_ne HO_379002.out BK366.out (by decide)) e_) hs_)); have n8_ := Aside0.mk (blk_kept BK378.out hkp (fun hs_ => (fun e_ => (Kd.Q_ne HO_379002.out BK378.out (by decide)) e_) hs_)); have n9_ := Aside0.mk (hb); clear HO_7; clear HO_11; clear HO_361002; clear HO_367002; clear HO_379002; clear BK342; clear BK360; clear BK366; clear BK378; clear HB; have HO_7 := n0_; have HO_11 := n1_; have HO_361002 := n2_; have HO_367002 := n3_; have HO_379002 := n4_; have BK342 := n5_; have BK360 := n6_; have BK366 := n7_; have BK378 := n8_; have HB := n9_; clear n0_ n1_ n2_ n3_ n4_ n5_ n6_ n7_ n8_ n9_; (try clear hb); (try clear hkp); (try clear hy0); obtain ⟨Ao129, co129, eo129⟩ := Kd.R_slice HO_11.out; subst eo129) | ((with_reducible refine gate_callee (f := 39) rfl ?_); refine goesL_ (some 88) rfl rfl Try.func39 (by kernel_rfl) rfl #[.slice Ao129 t375.length co129, .int .i64 t397] rfl (by (try simp only [List.map_toArray, List.map_cons, List.map_nil]); first | done | rfl | (simp only [List.length_drop, List.length_take]; rfl)) ?_; (with_reducible refine (laws_markIntS.calls kj76 (fun k_ => some k_ = (.slice Ao129 t375.length co129 : Value).ownBlock) (.slice Ao129 t375.length co129) t375 t397 t399 t400 w _ ?side1 ?side2 A114.out).mono ?_); (case side1 => repeat (first | (with_reducible first | exact HB.out | apply below_alloc | apply pw_below_drewN | apply below_drew1 | refine below_set ?_ GE342.out | refine below_set ?_ GE360.out | refine below_set ?_ GE366.out | refine below_set ?_ GE378.out) | exact HB.out)); (case side2 => exact Kd.R_tight rfl HO_11.out); rintro e w130 ⟨rfl, hy0, hb, hkp⟩; refine ⟨_, rfl, ?_⟩; have n0_ := Aside0.mk (Kd.R_mono (ok' := fun k_ => some k_ ≠ (.slice Ao129 t375.length co129 : Value).ownBlock ∧ some k_ ≠ (.slice Ao29 t354.length co29 : Value).ownBlock ∧ some k_ ≠ (.slice Ao36 t392.length co36 : Value).ownBlock ∧ some k_ ≠ (.slice Ao46 t372.length co46 : Value).ownBlock) (Kd.R_keptB (HO_7.out) hkp (fun k_ hk_ hs_ => (hk_.1) hs_)) (fun k_ hk_ => ⟨hk_.1.1, hk_.1.2.1, hk_.1.2.2.1, hk_.1.2.2.2⟩)); have n1_ := Aside0.mk (Kd.R_reok rfl hy0 (fun k_ e_ => HO_11.out.1 k_ e_)); have n2_ := Aside0.mk (Kd.Q_mono (ok' := fun k_ => some k_ ≠ (v358 : Value).ownBlock ∧ some k_ ≠ (.slice Ao129 t375.length co129 : Value).ownBlock ∧ some k_ ≠ (.slice Ao36 t392.length co36 : Value).ownBlock ∧ some k_ ≠ (.slice Ao46 t372.length co46 : Value).ownBlock) (Kd.Q_keptB (HO_361002.out) hkp (fun k_ hk_ hs_ => (hk_.2.1) hs_)) (fun k_ hk_ => ⟨hk_.1.1, hk_.1.2.1, hk_.1.2.2.1, hk_.1.2.2.2⟩)); have n3_ := Aside0.mk (Kd.Q_mono (ok' := fun k_ => some k_ ≠ (v358 : Value).ownBlock ∧ some k_ ≠ (.slice Ao129 t375.length co129 : Value).ownBlock ∧ some k_ ≠ (.slice Ao29 t354.length co29 : Value).ownBlock ∧ some k_ ≠ (.slice Ao46 t372.length co46 : Value).ownBlock) (Kd.Q_keptB (HO_367002.out) hkp (fun k_ hk_ hs_ => (hk_.2.1) hs_)) (fun k_ hk_ => ⟨hk_.1.1, hk_.1.2.1, hk_.1.2.2.1, hk_.1.2.2.2⟩)); have n4_ := Aside0.mk (Kd.Q_mono (ok' := fun k_ => some k_ ≠ (v358 : Value).ownBlock ∧ some k_ ≠ (.slice Ao129 t375.length co129 : Value).ownBlock ∧ some k_ ≠ (.slice Ao29 t354.length co29 : Value).ownBlock ∧ some k_ ≠ (.slice Ao36 t392.length co36 : Value).ownBlock) (Kd.Q_keptB (HO_379002.out) hkp (fun k_ hk_ hs_ => (hk_.2.1) hs_)) (fun k_ hk_ => ⟨hk_.1.1, hk_.1.2.1, hk_.1.2.2.1, hk_.1.2.2.2⟩)); have n5_ := Aside0.mk (blk_kept BK342.out hkp (fun hs_ => (fun e_ => (Kd.R_ne HO_11.out BK342.out (by decide)) e_) hs_)); have n6_ := Aside0.mk (blk_kept BK360.out hkp (fun hs_ => (fun e_ => (Kd.R_ne HO_11.out BK360.out (by decide)) e_) hs_)); have n7_ := Aside0.mk (blk_kept BK366.out hkp (fun hs_ => (fun e_ => (Kd.R_ne HO_11.out BK366.out (by decide)) e_) hs_)); have n8_ := Aside0.mk (blk_kept BK378.out hkp (fun hs_ => (fun e_ => (Kd.R_ne HO_11.out BK378.out (by decide)) e_) hs_)); have n9_ := Aside0.mk (hb); clear HO_7; clear HO_11; clear HO_361002; clear HO_367002; clear HO_379002; clear BK342; clear BK360; clear BK366; clear BK378; clear HB; have HO_7 := n0_; have HO_11 := n1_; have HO_361002 := n2_; have HO_367002 := n3_; have HO_379002 := n4_; have BK342 := n5_; have BK360 := n6_; have BK366 := n7_; have BK378 := n8_; have HB := n9_; clear n0_ n1_ n2_ n3_ n4_ n5_ n6_ n7_ n8_ n9_; (try clear hb); (try clear hkp); (try clear hy0); have hcz131_0 : w130.cell? ⟨gb378, 0, none⟩ = some (.int .i64 t370) := (blk_cell BK378.out 0).trans rfl; have hcz131_1 : w130.cell? ⟨gb378, 1, none⟩ = some (.int .i64 t371) := (blk_cell BK378.out 1).trans rfl; have hcz131_2 : w130.cell? ⟨gb378, 2, none⟩ = some (.slice Ao46 t372.length co46) := (blk_cell BK378.out 2).trans rfl; have hfz131_0 := blk_frozen BK378.out 0; have hfz131_1 := blk_frozen BK378.out 1; have hfz131_2 := blk_frozen BK378.out 2) | ((with_reducible refine gate_callee (f := 40) rfl ?_); refine goesL_ (some 91) rfl rfl Try.func40 (by kernel_rfl) rfl #[.agg #[.int .i64 t370, .int .i64 t371, .slice Ao46 t398.length co46], .int .i64 1] rfl (by (try simp only [List.map_toArray, List.map_cons, List.map_nil]); first | done | (rw [show t398.length = t372.length from (Kd.Q_reads' HO_379002.out).1.symm] <;> rfl) | rfl | (simp only [List.length_drop, List.length_take]; rfl)) ?_; (with_reducible refine (laws_heldStream.calls kj76 t370 t371 _ _ t398 1 t401 _ ?side1 ?side2 A115.out).mono ?_); (case side1 => repeat (first | exact (Kd.Q_reads' HO_379002.out).2.2 | (with_reducible refine Kd.C_alloc ?_ _) | (with_reducible refine Kd.C_drewN ?_ _) | (with_reducible refine Kd.C_drew ?_))); (case side2 => rw [show t398.length = t372.length from (Kd.Q_reads' HO_379002.out).1.symm]; exact (Kd.Q_reads' HO_379002.out).2.1); rintro e w132 ⟨rfl, hb⟩; refine ⟨_, rfl, ?_⟩; have n0_ := Aside0.mk (Kd.R_below (by (with_reducible repeat (first | apply Kd.R_alloc | apply Kd.R_drewN | apply Kd.R_drew)); exact HO_7.out) hb); have n1_ := Aside0.mk (Kd.R_below (by (with_reducible repeat (first | apply Kd.R_alloc | apply Kd.R_drewN | apply Kd.R_drew)); exact HO_11.out) hb); have n2_ := Aside0.mk (Kd.Q_below (by (with_reducible repeat (first | apply Kd.Q_alloc | apply Kd.Q_drewN | apply Kd.Q_drew)); exact HO_361002.out) hb); have n3_ := Aside0.mk (Kd.Q_below (by (with_reducible repeat (first | apply Kd.Q_alloc | apply Kd.Q_drewN | apply Kd.Q_drew)); exact HO_367002.out) hb); have n4_ := Aside0.mk (Kd.Q_below (by (with_reducible repeat (first | apply Kd.Q_alloc | apply Kd.Q_drewN | apply Kd.Q_drew)); exact HO_379002.out) hb); have n5_ := Aside0.mk (blk_below (g := gb342) (o := .cells #[.int .i64 a0_0, .int .i64 a0_1, .slice A0_2 l0_2.length c0_2] 53 (0, 0)) (by (with_reducible repeat (first | refine blk_drewN ?_ _ | refine blk_drew ?_ | refine blk_alloc ?_ _)); exact BK342.out) hb); have n6_ := Aside0.mk (blk_below (g := gb360) (o := .cells #[.int .i64 t352, .int .i64 t353, .slice Ao29 t354.length co29] 45 (0, 0)) (by (with_reducible repeat (first | refine blk_drewN ?_ _ | refine blk_drew ?_ | refine blk_alloc ?_ _)); exact BK360.out) hb); have n7_ := Aside0.mk (blk_below (g := gb366) (o := .cells #[.int .i64 t361, .int .i64 t362, .slice Ao36 t392.length co36] 45 (0, 0)) (by (with_reducible repeat (first | refine blk_drewN ?_ _ | refine blk_drew ?_ | refine blk_alloc ?_ _)); exact BK366.out) hb); have n8_ := Aside0.mk (blk_below (g := gb378) (o := .cells #[.int .i64 t370, .int .i64 t371, .slice Ao46 t372.length co46] 45 (0, 0)) (by (with_reducible repeat (first | refine blk_drewN ?_ _ | refine blk_drew ?_ | refine blk_alloc ?_ _)); exact BK378.out) hb); have n9_ := Aside0.mk (below_step (by repeat (first | (with_reducible first | exact HB.out | apply below_alloc | apply pw_below_drewN | apply below_drew1 | refine below_set ?_ GE342.out | refine below_set ?_ GE360.out | refine below_set ?_ GE366.out | refine below_set ?_ GE378.out) | exact HB.out)) hb); clear HO_7; clear HO_11; clear HO_361002; clear HO_367002; clear HO_379002; clear BK342; clear BK360; clear BK366; clear BK378; clear HB; have HO_7 := n0_; have HO_11 := n1_; have HO_361002 := n2_; have HO_367002 := n3_; have HO_379002 := n4_; have BK342 := n5_; have BK360 := n6_; have BK366 := n7_; have BK378 := n8_; have HB := n9_; clear n0_ n1_ n2_ n3_ n4_ n5_ n6_ n7_ n8_ n9_; (try clear hb); (try clear hb2); (try clear hk); (try clear hi)) | ((with_reducible refine gate_callee (f := 41) rfl ?_); refine goesL_ (some 96) rfl rfl Try.func41 (by kernel_rfl) rfl #[.slice Ao129 t400.length co129, .int .i64 t401] rfl (by (try simp only [List.map_toArray, List.map_cons, List.map_nil]); first | done | (rw [show t400.length = t375.length from (Kd.R_reads' HO_11.out).1.symm] <;> rfl) | rfl | (simp only [List.length_drop, List.length_take]; rfl)) ?_; (with_reducible refine (laws_heldIntS.calls kj76 _ _ t400 t401 t402 _ ?side1 ?side2 A117.out).mono ?_); (case side1 => repeat (first | exact (Kd.R_reads' HO_11.out).2.2 | (with_reducible refine Kd.C_alloc ?_ _) | (with_reducible refine Kd.C_drewN ?_ _) | (with_reducible refine Kd.C_drew ?_))); (case side2 => rw [show t400.length = t375.length from (Kd.R_reads' HO_11.out).1.symm]; exact (Kd.R_reads' HO_11.out).2.1); rintro e w' ⟨rfl, ⟨nd, rfl⟩⟩; refine ⟨_, rfl, ?_⟩; (try (rw [drewN_self w132]; generalize hq_ : World.drewN w132 _ = w132; have n0_ : Aside0 (Kd.R (Kd.int .i64) 3 w132 w.heap.size (fun k_ => (some k_ ≠ (v358 : Value).ownBlock ∧ (some k_ ≠ (.slice Ao29 t354.length co29 : Value).ownBlock ∧ (some k_ ≠ (.slice Ao36 t392.length co36 : Value).ownBlock ∧ some k_ ≠ (.slice Ao46 t372.length co46 : Value).ownBlock)))) (.slice Ao129 t375.length co129) t400) := ⟨by rw [← hq_]; exact (by (with_reducible repeat (first | apply Kd.R_alloc | apply Kd.R_drewN | apply Kd.R_drew)); exact HO_11.out)⟩; have n1_ : Aside0 (Kd.Q (Kd.int .i64) 3 w132 w.heap.size (fun k_ => (some k_ ≠ (v358 : Value).ownBlock ∧ (some k_ ≠ (.slice Ao129 t375.length co129 : Value).ownBlock ∧ (some k_ ≠ (.slice Ao36 t392.length co36 : Value).ownBlock ∧ some k_ ≠ (.slice Ao46 t372.length co46 : Value).ownBlock)))) (.slice Ao29 t354.length co29) t354) := ⟨by rw [← hq_]; exact (by (with_reducible repeat (first | apply Kd.Q_alloc | apply Kd.Q_drewN | apply Kd.Q_drew)); exact HO_361002.out)⟩; have n2_ : Aside0 (Kd.Q (Kd.int .i64) 3 w132 w.heap.size (fun k_ => (some k_ ≠ (v358 : Value).ownBlock ∧ (some k_ ≠ (.slice Ao129 t375.length co129 : Value).ownBlock ∧ (some k_ ≠ (.slice Ao29 t354.length co29 : Value).ownBlock ∧ some k_ ≠ (.slice Ao46 t372.length co46 : Value).ownBlock)))) (.slice Ao36 t392.length co36) t392) := ⟨by rw [← hq_]; exact (by (with_reducible repeat (first | apply Kd.Q_alloc | apply Kd.Q_drewN | apply Kd.Q_drew)); exact HO_367002.out)⟩; have n3_ : Aside0 (Kd.Q (Kd.int .i64) 3 w132 w.heap.size (fun k_ => (some k_ ≠ (v358 : Value).ownBlock ∧ (some k_ ≠ (.slice Ao129 t375.length co129 : Value).ownBlock ∧ (some k_ ≠ (.slice Ao29 t354.length co29 : Value).ownBlock ∧ some k_ ≠ (.slice Ao36 t392.length co36 : Value).ownBlock)))) (.slice Ao46 t372.length co46) t398) := ⟨by rw [← hq_]; exact (by (with_reducible repeat (first | apply Kd.Q_alloc | apply Kd.Q_drewN | apply Kd.Q_drew)); exact HO_379002.out)⟩; have n4_ : Aside0 (Kd.R (Kd.int .i64) 3 w132 w.heap.size (fun k_ => (some k_ ≠ (.slice Ao129 t375.length co129 : Value).ownBlock ∧ (some k_ ≠ (.slice Ao29 t354.length co29 : Value).ownBlock ∧ (some k_ ≠ (.slice Ao36 t392.length co36 : Value).ownBlock ∧ some k_ ≠ (.slice Ao46 t372.length co46 : Value).ownBlock)))) v358 t357) := ⟨by rw [← hq_]; exact (by (with_reducible repeat (first | apply Kd.R_alloc | apply Kd.R_drewN | apply Kd.R_drew)); exact HO_7.out)⟩; have n5_ : Aside0 (w132.heap[gb342]? = some (.cells #[.int .i64 a0_0, .int .i64 a0_1, .slice A0_2 l0_2.length c0_2] 53 (0, 0))) := ⟨by rw [← hq_]; exact (by (with_reducible repeat (first | refine blk_drewN ?_ _ | refine blk_drew ?_ | refine blk_alloc ?_ _)); exact BK342.out)⟩; have n6_ : Aside0 (w132.heap[gb360]? = some (.cells #[.int .i64 t352, .int .i64 t353, .slice Ao29 t354.length co29] 45 (0, 0))) := ⟨by rw [← hq_]; exact (by (with_reducible repeat (first | refine blk_drewN ?_ _ | refine blk_drew ?_ | refine blk_alloc ?_ _)); exact BK360.out)⟩; have n7_ : Aside0 (w132.heap[gb366]? = some (.cells #[.int .i64 t361, .int .i64 t362, .slice Ao36 t392.length co36] 45 (0, 0))) := ⟨by rw [← hq_]; exact (by (with_reducible repeat (first | refine blk_drewN ?_ _ | refine blk_drew ?_ | refine blk_alloc ?_ _)); exact BK366.out)⟩; have n8_ : Aside0 (w132.heap[gb378]? = some (.cells #[.int .i64 t370, .int .i64 t371, .slice Ao46 t372.length co46] 45 (0, 0))) := ⟨by rw [← hq_]; exact (by (with_reducible repeat (first | refine blk_drewN ?_ _ | refine blk_drew ?_ | refine blk_alloc ?_ _)); exact BK378.out)⟩; have n9_ : Aside0 (Below w.heap.size w w132) := ⟨by rw [← hq_]; exact (by repeat (first | (with_reducible first | exact HB.out | apply below_alloc | apply pw_below_drewN | apply below_drew1 | refine below_set ?_ GE342.out | refine below_set ?_ GE360.out | refine below_set ?_ GE366.out | refine below_set ?_ GE378.out) | exact HB.out))⟩; clear HO_11 HO_361002 HO_367002 HO_379002 HO_7 BK342 BK360 BK366 BK378 HB hq_; have HO_11 := n0_; have HO_361002 := n1_; have HO_367002 := n2_; have HO_379002 := n3_; have HO_7 := n4_; have BK342 := n5_; have BK360 := n6_; have BK366 := n7_; have BK378 := n8_; have HB := n9_; clear n0_ n1_ n2_ n3_ n4_ n5_ n6_ n7_ n8_ n9_)); have hnb133 := NB342_360.out; have hnc133 := NB360_342.out; have hnb134 := NB342_366.out; have hnc134 := NB366_342.out; have hcz135_0 : w132.cell? ⟨gb342, 0, none⟩ = some (.int .i64 a0_0) := (blk_cell BK342.out 0).trans rfl; have hcz135_1 : w132.cell? ⟨gb342, 1, none⟩ = some (.int .i64 a0_1) := (blk_cell BK342.out 1).trans rfl; have hcz135_2 : w132.cell? ⟨gb342, 2, none⟩ = some (.slice A0_2 l0_2.length c0_2) := (blk_cell BK342.out 2).trans rfl; have hfz135_0 := blk_frozen BK342.out 0; have hfz135_1 := blk_frozen BK342.out 1; have hfz135_2 := blk_frozen BK342.out 2) | ((with_reducible refine gate_callee (f := 34) rfl ?_); refine goesL_ (some 104) rfl rfl Try.func34 (by kernel_rfl) rfl #[.agg #[.int .i64 a0_0, .int .i64 a0_1, .slice A0_2 l0_2.length c0_2]] rfl (by (try simp only [List.map_toArray, List.map_cons, List.map_nil]); first | done | rfl | (simp only [List.length_drop, List.length_take]; rfl)) ?_; (with_reducible refine (laws_toStream.calls kj76 a0_0 a0_1 _ _ l0_2 t403 t404 t405 _ ?side1 ?side2 A120.out).mono ?_); (case side1 => repeat (first | exact (Kd.C_below HR0_2.out HB.out) | (with_reducible refine Kd.C_alloc ?_ _) | (with_reducible refine Kd.C_drewN ?_ _) | (with_reducible refine Kd.C_drew ?_))); (case side2 => exact HC0_2.out); rintro e w136 ⟨v406, rfl, ho0, hb⟩; refine ⟨_, rfl, ?_⟩; have n0_ := Aside0.mk (Kd.R_elder' (by (with_reducible repeat (first | apply Kd.R_alloc | apply Kd.R_drewN | apply Kd.R_drew)); exact HO_7.out) (Kd.R_base ho0) hb); have n1_ := Aside0.mk (Kd.R_elder' (by (with_reducible repeat (first | apply Kd.R_alloc | apply Kd.R_drewN | apply Kd.R_drew)); exact HO_11.out) (Kd.R_base ho0) hb); have n2_ := Aside0.mk (Kd.Q_elder' (by (with_reducible repeat (first | apply Kd.Q_alloc | apply Kd.Q_drewN | apply Kd.Q_drew)); exact HO_361002.out) (Kd.R_base ho0) hb); have n3_ := Aside0.mk (Kd.Q_elder' (by (with_reducible repeat (first | apply Kd.Q_alloc | apply Kd.Q_drewN | apply Kd.Q_drew)); exact HO_367002.out) (Kd.R_base ho0) hb); have n4_ := Aside0.mk (Kd.Q_elder' (by (with_reducible repeat (first | apply Kd.Q_alloc | apply Kd.Q_drewN | apply Kd.Q_drew)); exact HO_379002.out) (Kd.R_base ho0) hb); have n5_ := Aside0.mk (Kd.R_lower (Kd.R_new' (Kd.R_new' (Kd.R_new' (Kd.R_new' (Kd.R_new' ho0 (Kd.R_lt (by (with_reducible repeat (first | apply Kd.R_alloc | apply Kd.R_drewN | apply Kd.R_drew)); exact HO_7.out))) (Kd.R_lt (by (with_reducible repeat (first | apply Kd.R_alloc | apply Kd.R_drewN | apply Kd.R_drew)); exact HO_11.out))) (Kd.Q_lt (by (with_reducible repeat (first | apply Kd.Q_alloc | apply Kd.Q_drewN | apply Kd.Q_drew)); exact HO_361002.out))) (Kd.Q_lt (by (with_reducible repeat (first | apply Kd.Q_alloc | apply Kd.Q_drewN | apply Kd.Q_drew)); exact HO_367002.out))) (Kd.Q_lt (by (with_reducible repeat (first | apply Kd.Q_alloc | apply Kd.Q_drewN | apply Kd.Q_drew)); exact HO_379002.out))) (below_size (by repeat (first | (with_reducible first | exact HB.out | apply below_alloc | apply pw_below_drewN | apply below_drew1 | refine below_set ?_ GE342.out | refine below_set ?_ GE360.out | refine below_set ?_ GE366.out | refine below_set ?_ GE378.out) | exact HB.out)))); have n6_ := Aside0.mk (blk_below (g := gb342) (o := .cells #[.int .i64 a0_0, .int .i64 a0_1, .slice A0_2 l0_2.length c0_2] 53 (0, 0)) (by (with_reducible repeat (first | refine blk_drewN ?_ _ | refine blk_drew ?_ | refine blk_alloc ?_ _)); exact BK342.out) hb); have n7_ := Aside0.mk (blk_below (g := gb360) (o := .cells #[.int .i64 t352, .int .i64 t353, .slice Ao29 t354.length co29] 45 (0, 0)) (by (with_reducible repeat (first | refine blk_drewN ?_ _ | refine blk_drew ?_ | refine blk_alloc ?_ _)); exact BK360.out) hb); have n8_ := Aside0.mk (blk_below (g := gb366) (o := .cells #[.int .i64 t361, .int .i64 t362, .slice Ao36 t392.length co36] 45 (0, 0)) (by (with_reducible repeat (first | refine blk_drewN ?_ _ | refine blk_drew ?_ | refine blk_alloc ?_ _)); exact BK366.out) hb); have n9_ := Aside0.mk (blk_below (g := gb378) (o := .cells #[.int .i64 t370, .int .i64 t371, .slice Ao46 t372.length co46] 45 (0, 0)) (by (with_reducible repeat (first | refine blk_drewN ?_ _ | refine blk_drew ?_ | refine blk_alloc ?_ _)); exact BK378.out) hb); have n10_ := Aside0.mk (below_step (by repeat (first | (with_reducible first | exact HB.out | apply below_alloc | apply pw_below_drewN | apply below_drew1 | refine below_set ?_ GE342.out | refine below_set ?_ GE360.out | refine below_set ?_ GE366.out | refine below_set ?_ GE378.out) | exact HB.out)) hb); clear HO_7; clear HO_11; clear HO_361002; clear HO_367002; clear HO_379002; clear BK342; clear BK360; clear BK366; clear BK378; clear HB; have HO_7 := n0_; have HO_11 := n1_; have HO_361002 := n2_; have HO_367002 := n3_; have HO_379002 := n4_; have HO407 := n5_; have BK342 := n6_; have BK360 := n7_; have BK366 := n8_; have BK378 := n9_; have HB := n10_; clear n0_ n1_ n2_ n3_ n4_ n5_ n6_ n7_ n8_ n9_ n10_; (try clear hb); (try clear hb2); (try clear hk); (try clear hi); (try clear ho0)) | ((with_reducible refine gate_callee (f := 43) rfl ?_); refine goesL_ (some 106) rfl rfl Try.func43 (by kernel_rfl) rfl #[.slice A1 l1.length c1] rfl (by (try simp only [List.map_toArray, List.map_cons, List.map_nil]); first | done | rfl | (simp only [List.length_drop, List.length_take]; rfl)) ?_; (with_reducible refine (laws_toIntS.calls kj76 _ _ l1 t408 _ ?side1 ?side2 A121.out).mono ?_); (case side1 => repeat (first | exact (Kd.C_below HR1.out HB.out) | (with_reducible refine Kd.C_alloc ?_ _) | (with_reducible refine Kd.C_drewN ?_ _) | (with_reducible refine Kd.C_drew ?_))); (case side2 => exact HC1.out); rintro e w137 ⟨v409, rfl, ho0, hb⟩; refine ⟨_, rfl, ?_⟩; have n0_ := Aside0.mk (Kd.R_elder' (by (with_reducible repeat (first | apply Kd.R_alloc | apply Kd.R_drewN | apply Kd.R_drew)); exact HO_7.out) (Kd.R_base ho0) hb); have n1_ := Aside0.mk (Kd.R_elder' (by (with_reducible repeat (first | apply Kd.R_alloc | apply Kd.R_drewN | apply Kd.R_drew)); exact HO_11.out) (Kd.R_base ho0) hb); have n2_ := Aside0.mk (Kd.Q_elder' (by (with_reducible repeat (first | apply Kd.Q_alloc | apply Kd.Q_drewN | apply Kd.Q_drew)); exact HO_361002.out) (Kd.R_base ho0) hb); have n3_ := Aside0.mk (Kd.Q_elder' (by (with_reducible repeat (first | apply Kd.Q_alloc | apply Kd.Q_drewN | apply Kd.Q_drew)); exact HO_367002.out) (Kd.R_base ho0) hb); have n4_ := Aside0.mk (Kd.Q_elder' (by (with_reducible repeat (first | apply Kd.Q_alloc | apply Kd.Q_drewN | apply Kd.Q_drew)); exact HO_379002.out) (Kd.R_base ho0) hb); have n5_ := Aside0.mk (Kd.R_elder' (by (with_reducible repeat (first | apply Kd.R_alloc | apply Kd.R_drewN | apply Kd.R_drew)); exact HO407.out) (Kd.R_base ho0) hb); have n6_ := Aside0.mk (Kd.R_lower (Kd.R_new' (Kd.R_new' (Kd.R_new' (Kd.R_new' (Kd.R_new' (Kd.R_new' ho0 (Kd.R_lt (by (with_reducible repeat (first | apply Kd.R_alloc | apply Kd.R_drewN | apply Kd.R_drew)); exact HO_7.out))) (Kd.R_lt (by (with_reducible repeat (first | apply Kd.R_alloc | apply Kd.R_drewN | apply Kd.R_drew)); exact HO_11.out))) (Kd.Q_lt (by (with_reducible repeat (first | apply Kd.Q_alloc | apply Kd.Q_drewN | apply Kd.Q_drew)); exact HO_361002.out))) (Kd.Q_lt (by (with_reducible repeat (first | apply Kd.Q_alloc | apply Kd.Q_drewN | apply Kd.Q_drew)); exact HO_367002.out))) (Kd.Q_lt (by (with_reducible repeat (first | apply Kd.Q_alloc | apply Kd.Q_drewN | apply Kd.Q_drew)); exact HO_379002.out))) (Kd.R_lt (by (with_reducible repeat (first | apply Kd.R_alloc | apply Kd.R_drewN | apply Kd.R_drew)); exact HO407.out))) (below_size (by repeat (first | (with_reducible first | exact HB.out | apply below_alloc | apply pw_below_drewN | apply below_drew1 | refine below_set ?_ GE342.out | refine below_set ?_ GE360.out | refine below_set ?_ GE366.out | refine below_set ?_ GE378.out) | exact HB.out)))); have n7_ := Aside0.mk (blk_below (g := gb342) (o := .cells #[.int .i64 a0_0, .int .i64 a0_1, .slice A0_2 l0_2.length c0_2] 53 (0, 0)) (by (with_reducible repeat (first | refine blk_drewN ?_ _ | refine blk_drew ?_ | refine blk_alloc ?_ _)); exact BK342.out) hb); have n8_ := Aside0.mk (blk_below (g := gb360) (o := .cells #[.int .i64 t352, .int .i64 t353, .slice Ao29 t354.length co29] 45 (0, 0)) (by (with_reducible repeat (first | refine blk_drewN ?_ _ | refine blk_drew ?_ | refine blk_alloc ?_ _)); exact BK360.out) hb); have n9_ := Aside0.mk (blk_below (g := gb366) (o := .cells #[.int .i64 t361, .int .i64 t362, .slice Ao36 t392.length co36] 45 (0, 0)) (by (with_reducible repeat (first | refine blk_drewN ?_ _ | refine blk_drew ?_ | refine blk_alloc ?_ _)); exact BK366.out) hb); have n10_ := Aside0.mk (blk_below (g := gb378) (o := .cells #[.int .i64 t370, .int .i64 t371, .slice Ao46 t372.length co46] 45 (0, 0)) (by (with_reducible repeat (first | refine blk_drewN ?_ _ | refine blk_drew ?_ | refine blk_alloc ?_ _)); exact BK378.out) hb); have n11_ := Aside0.mk (below_step (by repeat (first | (with_reducible first | exact HB.out | apply below_alloc | apply pw_below_drewN | apply below_drew1 | refine below_set ?_ GE342.out | refine below_set ?_ GE360.out | refine below_set ?_ GE366.out | refine below_set ?_ GE378.out) | exact HB.out)) hb); clear HO_7; clear HO_11; clear HO_361002; clear HO_367002; clear HO_379002; clear HO407; clear BK342; clear BK360; clear BK366; clear BK378; clear HB; have HO_7 := n0_; have HO_11 := n1_; have HO_361002 := n2_; have HO_367002 := n3_; have HO_379002 := n4_; have HO407 := n5_; have HO410 := n6_; have BK342 := n7_; have BK360 := n8_; have BK366 := n9_; have BK378 := n10_; have HB := n11_; clear n0_ n1_ n2_ n3_ n4_ n5_ n6_ n7_ n8_ n9_ n10_ n11_; (try clear hb); (try clear hb2); (try clear hk); (try clear hi); (try clear ho0); obtain ⟨Ao138, co138, eo138⟩ := Kd.R_slice HO407.out; subst eo138; obtain ⟨Ao139, co139, eo139⟩ := Kd.R_slice HO410.out; subst eo139) | ((with_reducible refine gate_callee (f := 27) rfl ?_); refine goesL_ (some 107) rfl rfl Try.func27 (by kernel_rfl) rfl #[.agg #[.int .i64 t403, .int .i64 t404, .slice Ao138 t405.length co138], .slice Ao139 t408.length co139] rfl (by (try simp only [List.map_toArray, List.map_cons, List.map_nil]); first | done | rfl | (simp only [List.length_drop, List.length_take]; rfl)) ?_; (with_reducible refine (impl_AcceptAll.calls kj76 t403 t404 _ _ t405 _ _ t408 t411 t412 t413 t416 _ ?side1 ?side2 ?side3 ?side4 A122.out).mono ?_); (case side1 => repeat (first | exact (Kd.R_reads' HO407.out).2.2 | (with_reducible refine Kd.C_alloc ?_ _) | (with_reducible refine Kd.C_drewN ?_ _) | (with_reducible refine Kd.C_drew ?_))); (case side2 => exact (Kd.R_reads' HO407.out).2.1); (case side3 => repeat (first | exact (Kd.R_reads' HO410.out).2.2 | (with_reducible refine Kd.C_alloc ?_ _) | (with_reducible refine Kd.C_drewN ?_ _) | (with_reducible refine Kd.C_drew ?_))); (case side4 => exact (Kd.R_reads' HO410.out).2.1); rintro e w140 ⟨v414, v417, rfl, ho0, ho1, hb⟩; refine ⟨_, rfl, ?_⟩; have n0_ := Aside0.mk (Kd.R_mono (Kd.R_told (Kd.R_told (Kd.R_old (by (with_reducible repeat (first | apply Kd.R_alloc | apply Kd.R_drewN | apply Kd.R_drew)); exact HO_7.out) hb) (Kd.Q_base ho0)) (Kd.R_base ho1)) (fun _ h_ => h_.1)); have n1_ := Aside0.mk (Kd.R_mono (Kd.R_told (Kd.R_told (Kd.R_old (by (with_reducible repeat (first | apply Kd.R_alloc | apply Kd.R_drewN | apply Kd.R_drew)); exact HO_11.out) hb) (Kd.Q_base ho0)) (Kd.R_base ho1)) (fun _ h_ => h_.1)); have n2_ := Aside0.mk (Kd.Q_mono (Kd.Q_told (Kd.Q_told (Kd.Q_old (by (with_reducible repeat (first | apply Kd.Q_alloc | apply Kd.Q_drewN | apply Kd.Q_drew)); exact HO_361002.out) hb) (Kd.Q_base ho0)) (Kd.R_base ho1)) (fun _ h_ => h_.1)); have n3_ := Aside0.mk (Kd.Q_mono (Kd.Q_told (Kd.Q_told (Kd.Q_old (by (with_reducible repeat (first | apply Kd.Q_alloc | apply Kd.Q_drewN | apply Kd.Q_drew)); exact HO_367002.out) hb) (Kd.Q_base ho0)) (Kd.R_base ho1)) (fun _ h_ => h_.1)); have n4_ := Aside0.mk (Kd.Q_mono (Kd.Q_told (Kd.Q_told (Kd.Q_old (by (with_reducible repeat (first | apply Kd.Q_alloc | apply Kd.Q_drewN | apply Kd.Q_drew)); exact HO_379002.out) hb) (Kd.Q_base ho0)) (Kd.R_base ho1)) (fun _ h_ => h_.1)); have n5_ := Aside0.mk (Kd.R_mono (Kd.R_told (Kd.R_told (Kd.R_old (by (with_reducible repeat (first | apply Kd.R_alloc | apply Kd.R_drewN | apply Kd.R_drew)); exact HO407.out) hb) (Kd.Q_base ho0)) (Kd.R_base ho1)) (fun _ h_ => h_.1)); have n6_ := Aside0.mk (Kd.R_mono (Kd.R_told (Kd.R_told (Kd.R_old (by (with_reducible repeat (first | apply Kd.R_alloc | apply Kd.R_drewN | apply Kd.R_drew)); exact HO410.out) hb) (Kd.Q_base ho0)) (Kd.R_base ho1)) (fun _ h_ => h_.1)); have n7_ := Aside0.mk (Kd.Q_lower (Kd.Q_new' (Kd.Q_new' (Kd.Q_new' (Kd.Q_new' (Kd.Q_new' (Kd.Q_new' (Kd.Q_new' ho0 (Kd.R_lt (by (with_reducible repeat (first | apply Kd.R_alloc | apply Kd.R_drewN | apply Kd.R_drew)); exact HO_7.out))) (Kd.R_lt (by (with_reducible repeat (first | apply Kd.R_alloc | apply Kd.R_drewN | apply Kd.R_drew)); exact HO_11.out))) (Kd.Q_lt (by (with_reducible repeat (first | apply Kd.Q_alloc | apply Kd.Q_drewN | apply Kd.Q_drew)); exact HO_361002.out))) (Kd.Q_lt (by (with_reducible repeat (first | apply Kd.Q_alloc | apply Kd.Q_drewN | apply Kd.Q_drew)); exact HO_367002.out))) (Kd.Q_lt (by (with_reducible repeat (first | apply Kd.Q_alloc | apply Kd.Q_drewN | apply Kd.Q_drew)); exact HO_379002.out))) (Kd.R_lt (by (with_reducible repeat (first | apply Kd.R_alloc | apply Kd.R_drewN | apply Kd.R_drew)); exact HO407.out))) (Kd.R_lt (by (with_reducible repeat (first | apply Kd.R_alloc | apply Kd.R_drewN | apply Kd.R_drew)); exact HO410.out))) (below_size (by repeat (first | (with_reducible first | exact HB.out | apply below_alloc | apply pw_below_drewN | apply below_drew1 | refine below_set ?_ GE342.out | refine below_set ?_ GE360.out | refine below_set ?_ GE366.out | refine below_set ?_ GE378.out) | exact HB.out)))); have n8_ := Aside0.mk (Kd.R_lower (Kd.R_new' (Kd.R_new' (Kd.R_new' (Kd.R_new' (Kd.R_new' (Kd.R_new' (Kd.R_new' ho1 (Kd.R_lt (by (with_reducible repeat (first | apply Kd.R_alloc | apply Kd.R_drewN | apply Kd.R_drew)); exact HO_7.out))) (Kd.R_lt (by (with_reducible repeat (first | apply Kd.R_alloc | apply Kd.R_drewN | apply Kd.R_drew)); exact HO_11.out))) (Kd.Q_lt (by (with_reducible repeat (first | apply Kd.Q_alloc | apply Kd.Q_drewN | apply Kd.Q_drew)); exact HO_361002.out))) (Kd.Q_lt (by (with_reducible repeat (first | apply Kd.Q_alloc | apply Kd.Q_drewN | apply Kd.Q_drew)); exact HO_367002.out))) (Kd.Q_lt (by (with_reducible repeat (first | apply Kd.Q_alloc | apply Kd.Q_drewN | apply Kd.Q_drew)); exact HO_379002.out))) (Kd.R_lt (by (with_reducible repeat (first | apply Kd.R_alloc | apply Kd.R_drewN | apply Kd.R_drew)); exact HO407.out))) (Kd.R_lt (by (with_reducible repeat (first | apply Kd.R_alloc | apply Kd.R_drewN | apply Kd.R_drew)); exact HO410.out))) (below_size (by repeat (first | (with_reducible first | exact HB.out | apply below_alloc | apply pw_below_drewN | apply below_drew1 | refine below_set ?_ GE342.out | refine below_set ?_ GE360.out | refine below_set ?_ GE366.out | refine below_set ?_ GE378.out) | exact HB.out)))); have n9_ := Aside0.mk (blk_below (g := gb342) (o := .cells #[.int .i64 a0_0, .int .i64 a0_1, .slice A0_2 l0_2.length c0_2] 53 (0, 0)) (by (with_reducible repeat (first | refine blk_drewN ?_ _ | refine blk_drew ?_ | refine blk_alloc ?_ _)); exact BK342.out) hb); have n10_ := Aside0.mk (blk_below (g := gb360) (o := .cells #[.int .i64 t352, .int .i64 t353, .slice Ao29 t354.length co29] 45 (0, 0)) (by (with_reducible repeat (first | refine blk_drewN ?_ _ | refine blk_drew ?_ | refine blk_alloc ?_ _)); exact BK360.out) hb); have n11_ := Aside0.mk (blk_below (g := gb366) (o := .cells #[.int .i64 t361, .int .i64 t362, .slice Ao36 t392.length co36] 45 (0, 0)) (by (with_reducible repeat (first | refine blk_drewN ?_ _ | refine blk_drew ?_ | refine blk_alloc ?_ _)); exact BK366.out) hb); have n12_ := Aside0.mk (blk_below (g := gb378) (o := .cells #[.int .i64 t370, .int .i64 t371, .slice Ao46 t372.length co46] 45 (0, 0)) (by (with_reducible repeat (first | refine blk_drewN ?_ _ | refine blk_drew ?_ | refine blk_alloc ?_ _)); exact BK378.out) hb); have n13_ := Aside0.mk (below_step (by repeat (first | (with_reducible first | exact HB.out | apply below_alloc | apply pw_below_drewN | apply below_drew1 | refine below_set ?_ GE342.out | refine below_set ?_ GE360.out | refine below_set ?_ GE366.out | refine below_set ?_ GE378.out) | exact HB.out)) hb); clear HO_7; clear HO_11; clear HO_361002; clear HO_367002; clear HO_379002; clear HO407; clear HO410; clear BK342; clear BK360; clear BK366; clear BK378; clear HB; have HO_7 := n0_; have HO_11 := n1_; have HO_361002 := n2_; have HO_367002 := n3_; have HO_379002 := n4_; have HO407 := n5_; have HO410 := n6_; have HO415 := n7_; have HO418 := n8_; have BK342 := n9_; have BK360 := n10_; have BK366 := n11_; have BK378 := n12_; have HB := n13_; clear n0_ n1_ n2_ n3_ n4_ n5_ n6_ n7_ n8_ n9_ n10_ n11_ n12_ n13_; (try clear hb); (try clear hb2); (try clear hk); (try clear hi); (try clear ho0); (try clear ho1)) | ((with_reducible refine gate_dst (N := 15) rfl ?_); refine box_event ?hg (N := 15) ?hd (cs := #[.int .i64 0, .int .i64 0, .slice none 0 0]) (t := 45) ?hr ?_; (case hd => rfl); (case hg => rfl); (case hr => first | (go_simp; done) | (go_simp; rfl)); intro gb419 hg w141 hbox hb; have n0_ := Aside0.mk (Kd.R_below (by (with_reducible repeat (first | apply Kd.R_alloc | apply Kd.R_drewN | apply Kd.R_drew)); exact HO_7.out) hb); have n1_ := Aside0.mk (Kd.R_below (by (with_reducible repeat (first | apply Kd.R_alloc | apply Kd.R_drewN | apply Kd.R_drew)); exact HO_11.out) hb); have n2_ := Aside0.mk (Kd.Q_below (by (with_reducible repeat (first | apply Kd.Q_alloc | apply Kd.Q_drewN | apply Kd.Q_drew)); exact HO_361002.out) hb); have n3_ := Aside0.mk (Kd.Q_below (by (with_reducible repeat (first | apply Kd.Q_alloc | apply Kd.Q_drewN | apply Kd.Q_drew)); exact HO_367002.out) hb); have n4_ := Aside0.mk (Kd.Q_below (by (with_reducible repeat (first | apply Kd.Q_alloc | apply Kd.Q_drewN | apply Kd.Q_drew)); exact HO_379002.out) hb); have n5_ := Aside0.mk (Kd.R_below (by (with_reducible repeat (first | apply Kd.R_alloc | apply Kd.R_drewN | apply Kd.R_drew)); exact HO407.out) hb); have n6_ := Aside0.mk (Kd.R_below (by (with_reducible repeat (first | apply Kd.R_alloc | apply Kd.R_drewN | apply Kd.R_drew)); exact HO410.out) hb); have n7_ := Aside0.mk (Kd.Q_below (by (with_reducible repeat (first | apply Kd.Q_alloc | apply Kd.Q_drewN | apply Kd.Q_drew)); exact HO415.out) hb); have n8_ := Aside0.mk (Kd.R_below (by (with_reducible repeat (first | apply Kd.R_alloc | apply Kd.R_drewN | apply Kd.R_drew)); exact HO418.out) hb); have n9_ := Aside0.mk (blk_below (g := gb342) (o := .cells #[.int .i64 a0_0, .int .i64 a0_1, .slice A0_2 l0_2.length c0_2] 53 (0, 0)) (by (with_reducible repeat (first | refine blk_drewN ?_ _ | refine blk_drew ?_ | refine blk_alloc ?_ _)); exact BK342.out) hb); have n10_ := Aside0.mk (blk_below (g := gb360) (o := .cells #[.int .i64 t352, .int .i64 t353, .slice Ao29 t354.length co29] 45 (0, 0)) (by (with_reducible repeat (first | refine blk_drewN ?_ _ | refine blk_drew ?_ | refine blk_alloc ?_ _)); exact BK360.out) hb); have n11_ := Aside0.mk (blk_below (g := gb366) (o := .cells #[.int .i64 t361, .int .i64 t362, .slice Ao36 t392.length co36] 45 (0, 0)) (by (with_reducible repeat (first | refine blk_drewN ?_ _ | refine blk_drew ?_ | refine blk_alloc ?_ _)); exact BK366.out) hb); have n12_ := Aside0.mk (blk_below (g := gb378) (o := .cells #[.int .i64 t370, .int .i64 t371, .slice Ao46 t372.length co46] 45 (0, 0)) (by (with_reducible repeat (first | refine blk_drewN ?_ _ | refine blk_drew ?_ | refine blk_alloc ?_ _)); exact BK378.out) hb); have n13_ := Aside0.mk (below_step (by repeat (first | (with_reducible first | exact HB.out | apply below_alloc | apply pw_below_drewN | apply below_drew1 | refine below_set ?_ GE342.out | refine below_set ?_ GE360.out | refine below_set ?_ GE366.out | refine below_set ?_ GE378.out) | exact HB.out)) hb); have n14_ := Aside0.mk (hbox); have n15_ := Aside0.mk ((by rw [hg]; exact (below_size (by repeat (first | (with_reducible first | exact HB.out | apply below_alloc | apply pw_below_drewN | apply below_drew1 | refine below_set ?_ GE342.out | refine below_set ?_ GE360.out | refine below_set ?_ GE366.out | refine below_set ?_ GE378.out) | exact HB.out))) : w.heap.size ≤ gb419)); have n16_ := Aside0.mk ((by rw [hg]; exact (below_size (by repeat (first | (with_reducible first | exact HB.out | apply below_alloc | apply pw_below_drewN | apply below_drew1 | refine below_set ?_ GE342.out | refine below_set ?_ GE360.out | refine below_set ?_ GE366.out | refine below_set ?_ GE378.out) | exact HB.out))) : w.heap.size ≤ gb419)); have n17_ := Aside0.mk ((by rw [hg]; exact Nat.ne_of_lt (blk_lt (g := gb342) (o := .cells #[.int .i64 a0_0, .int .i64 a0_1, .slice A0_2 l0_2.length c0_2] 53 (0, 0)) (by (with_reducible repeat (first | refine blk_drewN ?_ _ | refine blk_drew ?_ | refine blk_alloc ?_ _)); exact BK342.out)) : gb342 ≠ gb419)); have n18_ := Aside0.mk ((by rw [hg]; exact Nat.ne_of_gt (blk_lt (g := gb342) (o := .cells #[.int .i64 a0_0, .int .i64 a0_1, .slice A0_2 l0_2.length c0_2] 53 (0, 0)) (by (with_reducible repeat (first | refine blk_drewN ?_ _ | refine blk_drew ?_ | refine blk_alloc ?_ _)); exact BK342.out)) : gb419 ≠ gb342)); have n19_ := Aside0.mk ((by rw [hg]; exact Nat.ne_of_lt (blk_lt (g := gb360) (o := .cells #[.int .i64 t352, .int .i64 t353, .slice Ao29 t354.length co29] 45 (0, 0)) (by (with_reducible repeat (first | refine blk_drewN ?_ _ | refine blk_drew ?_ | refine blk_alloc ?_ _)); exact BK360.out)) : gb360 ≠ gb419)); have n20_ := Aside0.mk ((by rw [hg]; exact Nat.ne_of_gt (blk_lt (g := gb360) (o := .cells #[.int .i64 t352, .int .i64 t353, .slice Ao29 t354.length co29] 45 (0, 0)) (by (with_reducible repeat (first | refine blk_drewN ?_ _ | refine blk_drew ?_ | refine blk_alloc ?_ _)); exact BK360.out)) : gb419 ≠ gb360)); have n21_ := Aside0.mk ((by rw [hg]; exact Nat.ne_of_lt (blk_lt (g := gb366) (o := .cells #[.int .i64 t361, .int .i64 t362, .slice Ao36 t392.length co36] 45 (0, 0)) (by (with_reducible repeat (first | refine blk_drewN ?_ _ | refine blk_drew ?_ | refine blk_alloc ?_ _)); exact BK366.out)) : gb366 ≠ gb419)); have n22_ := Aside0.mk ((by rw [hg]; exact Nat.ne_of_gt (blk_lt (g := gb366) (o := .cells #[.int .i64 t361, .int .i64 t362, .slice Ao36 t392.length co36] 45 (0, 0)) (by (with_reducible repeat (first | refine blk_drewN ?_ _ | refine blk_drew ?_ | refine blk_alloc ?_ _)); exact BK366.out)) : gb419 ≠ gb366)); have n23_ := Aside0.mk ((by rw [hg]; exact Nat.ne_of_lt (blk_lt (g := gb378) (o := .cells #[.int .i64 t370, .int .i64 t371, .slice Ao46 t372.length co46] 45 (0, 0)) (by (with_reducible repeat (first | refine blk_drewN ?_ _ | refine blk_drew ?_ | refine blk_alloc ?_ _)); exact BK378.out)) : gb378 ≠ gb419)); have n24_ := Aside0.mk ((by rw [hg]; exact Nat.ne_of_gt (blk_lt (g := gb378) (o := .cells #[.int .i64 t370, .int .i64 t371, .slice Ao46 t372.length co46] 45 (0, 0)) (by (with_reducible repeat (first | refine blk_drewN ?_ _ | refine blk_drew ?_ | refine blk_alloc ?_ _)); exact BK378.out)) : gb419 ≠ gb378)); clear HO_7; clear HO_11; clear HO_361002; clear HO_367002; clear HO_379002; clear HO407; clear HO410; clear HO415; clear HO418; clear BK342; clear BK360; clear BK366; clear BK378; clear HB; have HO_7 := n0_; have HO_11 := n1_; have HO_361002 := n2_; have HO_367002 := n3_; have HO_379002 := n4_; have HO407 := n5_; have HO410 := n6_; have HO415 := n7_; have HO418 := n8_; have BK342 := n9_; have BK360 := n10_; have BK366 := n11_; have BK378 := n12_; have HB := n13_; have BK419 := n14_; have GW419 := n15_; have GE419 := n16_; have NB342_419 := n17_; have NB419_342 := n18_; have NB360_419 := n19_; have NB419_360 := n20_; have NB366_419 := n21_; have NB419_366 := n22_; have NB378_419 := n23_; have NB419_378 := n24_; clear n0_ n1_ n2_ n3_ n4_ n5_ n6_ n7_ n8_ n9_ n10_ n11_ n12_ n13_ n14_ n15_ n16_ n17_ n18_ n19_ n20_ n21_ n22_ n23_ n24_; clear hb hbox hg; have hnb142 := NB419_342.out; have hnc142 := NB342_419.out; have hnb143 := NB419_360.out; have hnc143 := NB360_419.out; have hnb144 := NB419_366.out; have hnc144 := NB366_419.out; have hnb145 := NB419_378.out; have hnc145 := NB378_419.out; have hcz146_0 : w141.cell? ⟨gb419, 0, none⟩ = some (.int .i64 0) := (blk_cell BK419.out 0).trans rfl; have hcz146_1 : w141.cell? ⟨gb419, 1, none⟩ = some (.int .i64 0) := (blk_cell BK419.out 1).trans rfl; have hcz146_2 : w141.cell? ⟨gb419, 2, none⟩ = some (.slice none 0 0) := (blk_cell BK419.out 2).trans rfl; have hfz146_0 := blk_frozen BK419.out 0; have hfz146_1 := blk_frozen BK419.out 1; have hfz146_2 := blk_frozen BK419.out 2; obtain ⟨Ao147, co147, eo147, _⟩ := Kd.Q_slice HO415.out; subst eo147))
                            (try simp only [Act.put, List.setIfInBounds_toArray, List.set_cons_zero, List.set_cons_succ])
                            go_cut [119] (fun v119 wc => ∃ (kq : Nat) (x119_122 : Bool), v119 = .bool x119_122 ∧ Aside0 (laws_FnExactAcceptAll.j2 kq t400 t399 x119_122 t370 t371 t398 = some r) ∧ Aside0 (kq ≤ kj76) ∧ Aside0 (Kd.R (Kd.int .i64) 3 wc w.heap.size (fun k_ => some k_ ≠ ((.slice Ao29 t354.length co29) : Value).ownBlock ∧ some k_ ≠ ((.slice Ao36 t392.length co36) : Value).ownBlock ∧ some k_ ≠ ((.slice Ao46 t372.length co46) : Value).ownBlock ∧ some k_ ≠ ((.slice Ao147 t413.length co147) : Value).ownBlock) (.slice Ao129 t375.length co129) t400) ∧ Aside0 (Kd.Q (Kd.int .i64) 3 wc w.heap.size (fun k_ => some k_ ≠ ((.slice Ao129 t375.length co129) : Value).ownBlock ∧ some k_ ≠ ((.slice Ao36 t392.length co36) : Value).ownBlock ∧ some k_ ≠ ((.slice Ao46 t372.length co46) : Value).ownBlock ∧ some k_ ≠ ((.slice Ao147 t413.length co147) : Value).ownBlock) (.slice Ao29 t354.length co29) t354) ∧ Aside0 (Kd.Q (Kd.int .i64) 3 wc w.heap.size (fun k_ => some k_ ≠ ((.slice Ao129 t375.length co129) : Value).ownBlock ∧ some k_ ≠ ((.slice Ao29 t354.length co29) : Value).ownBlock ∧ some k_ ≠ ((.slice Ao46 t372.length co46) : Value).ownBlock ∧ some k_ ≠ ((.slice Ao147 t413.length co147) : Value).ownBlock) (.slice Ao36 t392.length co36) t392) ∧ Aside0 (Kd.Q (Kd.int .i64) 3 wc w.heap.size (fun k_ => some k_ ≠ ((.slice Ao129 t375.length co129) : Value).ownBlock ∧ some k_ ≠ ((.slice Ao29 t354.length co29) : Value).ownBlock ∧ some k_ ≠ ((.slice Ao36 t392.length co36) : Value).ownBlock ∧ some k_ ≠ ((.slice Ao147 t413.length co147) : Value).ownBlock) (.slice Ao46 t372.length co46) t398) ∧ Aside0 (Kd.Q (Kd.int .i64) 3 wc w.heap.size (fun k_ => some k_ ≠ ((.slice Ao129 t375.length co129) : Value).ownBlock ∧ some k_ ≠ ((.slice Ao29 t354.length co29) : Value).ownBlock ∧ some k_ ≠ ((.slice Ao36 t392.length co36) : Value).ownBlock ∧ some k_ ≠ ((.slice Ao46 t372.length co46) : Value).ownBlock) (.slice Ao147 t413.length co147) t413) ∧ Aside0 (wc.heap[gb342]? = some (.cells #[.int .i64 a0_0, .int .i64 a0_1, (.slice A0_2 l0_2.length c0_2)] 53 (0, 0))) ∧ Aside0 (wc.heap[gb360]? = some (.cells #[.int .i64 t352, .int .i64 t353, (.slice Ao29 t354.length co29)] 45 (0, 0))) ∧ Aside0 (wc.heap[gb366]? = some (.cells #[.int .i64 t361, .int .i64 t362, (.slice Ao36 t392.length co36)] 45 (0, 0))) ∧ Aside0 (wc.heap[gb378]? = some (.cells #[.int .i64 t370, .int .i64 t371, (.slice Ao46 t372.length co46)] 45 (0, 0))) ∧ Aside0 (wc.heap[gb419]? = some (.cells #[.int .i64 t411, .int .i64 t412, (.slice Ao147 t413.length co147)] 45 (0, 0))) ∧ Aside0 (Below w.heap.size w wc))
                            case first =>
                              have H := HC123.out
                              clear HC123
                              replace H := Option.bind_eq_some_iff.mp H
                              obtain ⟨t420, A1480, H⟩ := H
                              replace H : (if t420 = true then ((laws_eqIntS.f kj76 t416 t357).bind fun t421 => (laws_FnExactAcceptAll.j2 kj76 t400 t399 (!t421) t370 t371 t398)) else (laws_FnExactAcceptAll.j2 kj76 t400 t399 true t370 t371 t398)) = some r := H
                              have A148 := Aside0.mk A1480
                              clear A1480
                              by_cases c149 : t420 = true
                              · subst c149
                                have H1 : ((laws_eqIntS.f kj76 t416 t357).bind fun t421 => (laws_FnExactAcceptAll.j2 kj76 t400 t399 (!t421) t370 t371 t398)) = some r := by rw [if_pos rfl] at H; exact H
                                clear H
                                have H := H1
                                clear H1
                                replace H := Option.bind_eq_some_iff.mp H
                                obtain ⟨t421, A1500, H⟩ := H
                                replace H : (laws_FnExactAcceptAll.j2 kj76 t400 t399 (!t421) t370 t371 t398) = some r := H
                                have A150 := Aside0.mk A1500
                                clear A1500
                                have H' := Aside0.mk H
                                clear H
                                have hnb151 := NB419_342.out
                                have hnc151 := NB342_419.out
                                have hnb152 := NB419_360.out
                                have hnc152 := NB360_419.out
                                have hnb153 := NB419_366.out
                                have hnc153 := NB366_419.out
                                have hnb154 := NB419_378.out
                                have hnc154 := NB378_419.out
                                have hcz155_0 : w141.cell? ⟨gb419, 0, none⟩ = some (.int .i64 0) := (blk_cell BK419.out 0).trans rfl
                                have hcz155_1 : w141.cell? ⟨gb419, 1, none⟩ = some (.int .i64 0) := (blk_cell BK419.out 1).trans rfl
                                have hcz155_2 : w141.cell? ⟨gb419, 2, none⟩ = some (.slice none 0 0) := (blk_cell BK419.out 2).trans rfl
                                have hfz155_0 := blk_frozen BK419.out 0
                                have hfz155_1 := blk_frozen BK419.out 1
                                have hfz155_2 := blk_frozen BK419.out 2
                                have hnb156 := NB360_342.out
                                have hnc156 := NB342_360.out
                                have hnb157 := NB360_366.out
                                have hnc157 := NB366_360.out
                                have hnb158 := NB360_378.out
                                have hnc158 := NB378_360.out
                                have hcz159_0 : w141.cell? ⟨gb360, 0, none⟩ = some (.int .i64 t352) := (blk_cell BK360.out 0).trans rfl
                                have hcz159_1 : w141.cell? ⟨gb360, 1, none⟩ = some (.int .i64 t353) := (blk_cell BK360.out 1).trans rfl
                                have hcz159_2 : w141.cell? ⟨gb360, 2, none⟩ = some (.slice Ao29 t354.length co29) := (blk_cell BK360.out 2).trans rfl
                                have hfz159_0 := blk_frozen BK360.out 0
                                have hfz159_1 := blk_frozen BK360.out 1
                                have hfz159_2 := blk_frozen BK360.out 2
                                go_wp2_with (first | ((with_reducible refine gate_callee (f := 36) rfl ?_); refine goesL_ (some 112) rfl rfl Try.func36 (by kernel_rfl) rfl #[.agg #[.int .i64 t411, .int .i64 t412, .slice Ao147 t413.length co147], .agg #[.int .i64 t352, .int .i64 t353, .slice Ao29 t354.length co29]] rfl (by (try simp only [List.map_toArray, List.map_cons, List.map_nil]); first | done | rfl | (simp only [List.length_drop, List.length_take]; rfl)) ?_; (with_reducible refine (laws_eqStream.calls kj76 t411 t412 _ _ t413 t352 t353 _ _ t354 true _ ?side1 ?side2 ?side3 ?side4 A148.out).mono ?_); (case side1 => refine (Kd.Q_reads' (e := 3) (base := w.heap.size) (ok := fun k_ => (((((((some k_ ≠ (v417 : Value).ownBlock ∧ some k_ ≠ (v358 : Value).ownBlock) ∧ some k_ ≠ (.slice Ao129 t375.length co129 : Value).ownBlock) ∧ some k_ ≠ (.slice Ao29 t354.length co29 : Value).ownBlock) ∧ some k_ ≠ (.slice Ao36 t392.length co36 : Value).ownBlock) ∧ some k_ ≠ (.slice Ao46 t372.length co46 : Value).ownBlock) ∧ some k_ ≠ (.slice Ao138 t405.length co138 : Value).ownBlock) ∧ some k_ ≠ (.slice Ao139 t408.length co139 : Value).ownBlock)) (n := t413.length) (c := co147) ?_).2.2; exact (by (with_reducible repeat (first | apply Kd.Q_alloc | apply Kd.Q_drewN | apply Kd.Q_drew)); exact (Kd.Q_mono (Kd.Q_far (p := ⟨gb419, 2, none⟩) (Kd.Q_far (p := ⟨gb419, 1, none⟩) (Kd.Q_far (p := ⟨gb419, 0, none⟩) (Kd.Q_types HO415.out BK419.out (by decide)) (fun _ hk => hk.2) (.int .i64 t411)) (fun _ hk => hk.2) (.int .i64 t412)) (fun _ hk => hk.2) (.slice Ao147 t413.length co147)) (fun _ h_ => h_.1)))); (case side2 => exact (Kd.Q_reads' HO415.out).2.1); (case side3 => refine (Kd.Q_reads' (e := 3) (base := w.heap.size) (ok := fun k_ => (((((some k_ ≠ (v358 : Value).ownBlock ∧ (some k_ ≠ (.slice Ao129 t375.length co129 : Value).ownBlock ∧ (some k_ ≠ (.slice Ao36 t392.length co36 : Value).ownBlock ∧ some k_ ≠ (.slice Ao46 t372.length co46 : Value).ownBlock))) ∧ some k_ ≠ (.slice Ao138 t405.length co138 : Value).ownBlock) ∧ some k_ ≠ (.slice Ao139 t408.length co139 : Value).ownBlock) ∧ some k_ ≠ (.slice Ao147 t413.length co147 : Value).ownBlock) ∧ some k_ ≠ (v417 : Value).ownBlock)) (n := t354.length) (c := co29) ?_).2.2; exact (by (with_reducible repeat (first | apply Kd.Q_alloc | apply Kd.Q_drewN | apply Kd.Q_drew)); exact (Kd.Q_mono (Kd.Q_far (p := ⟨gb419, 2, none⟩) (Kd.Q_far (p := ⟨gb419, 1, none⟩) (Kd.Q_far (p := ⟨gb419, 0, none⟩) (Kd.Q_types HO_361002.out BK419.out (by decide)) (fun _ hk => hk.2) (.int .i64 t411)) (fun _ hk => hk.2) (.int .i64 t412)) (fun _ hk => hk.2) (.slice Ao147 t413.length co147)) (fun _ h_ => h_.1)))); (case side4 => exact (Kd.Q_reads' HO_361002.out).2.1); rintro e w160 ⟨rfl, hb⟩; refine ⟨_, rfl, ?_⟩; have n0_ := Aside0.mk (Kd.R_below (by (with_reducible repeat (first | apply Kd.R_alloc | apply Kd.R_drewN | apply Kd.R_drew)); exact (Kd.R_mono (Kd.R_far (p := ⟨gb419, 2, none⟩) (Kd.R_far (p := ⟨gb419, 1, none⟩) (Kd.R_far (p := ⟨gb419, 0, none⟩) (Kd.R_types HO_7.out BK419.out (by decide)) (fun _ hk => hk.2) (.int .i64 t411)) (fun _ hk => hk.2) (.int .i64 t412)) (fun _ hk => hk.2) (.slice Ao147 t413.length co147)) (fun _ h_ => h_.1))) hb); have n1_ := Aside0.mk (Kd.R_below (by (with_reducible repeat (first | apply Kd.R_alloc | apply Kd.R_drewN | apply Kd.R_drew)); exact (Kd.R_mono (Kd.R_far (p := ⟨gb419, 2, none⟩) (Kd.R_far (p := ⟨gb419, 1, none⟩) (Kd.R_far (p := ⟨gb419, 0, none⟩) (Kd.R_types HO_11.out BK419.out (by decide)) (fun _ hk => hk.2) (.int .i64 t411)) (fun _ hk => hk.2) (.int .i64 t412)) (fun _ hk => hk.2) (.slice Ao147 t413.length co147)) (fun _ h_ => h_.1))) hb); have n2_ := Aside0.mk (Kd.Q_below (by (with_reducible repeat (first | apply Kd.Q_alloc | apply Kd.Q_drewN | apply Kd.Q_drew)); exact (Kd.Q_mono (Kd.Q_far (p := ⟨gb419, 2, none⟩) (Kd.Q_far (p := ⟨gb419, 1, none⟩) (Kd.Q_far (p := ⟨gb419, 0, none⟩) (Kd.Q_types HO_361002.out BK419.out (by decide)) (fun _ hk => hk.2) (.int .i64 t411)) (fun _ hk => hk.2) (.int .i64 t412)) (fun _ hk => hk.2) (.slice Ao147 t413.length co147)) (fun _ h_ => h_.1))) hb); have n3_ := Aside0.mk (Kd.Q_below (by (with_reducible repeat (first | apply Kd.Q_alloc | apply Kd.Q_drewN | apply Kd.Q_drew)); exact (Kd.Q_mono (Kd.Q_far (p := ⟨gb419, 2, none⟩) (Kd.Q_far (p := ⟨gb419, 1, none⟩) (Kd.Q_far (p := ⟨gb419, 0, none⟩) (Kd.Q_types HO_367002.out BK419.out (by decide)) (fun _ hk => hk.2) (.int .i64 t411)) (fun _ hk => hk.2) (.int .i64 t412)) (fun _ hk => hk.2) (.slice Ao147 t413.length co147)) (fun _ h_ => h_.1))) hb); have n4_ := Aside0.mk (Kd.Q_below (by (with_reducible repeat (first | apply Kd.Q_alloc | apply Kd.Q_drewN | apply Kd.Q_drew)); exact (Kd.Q_mono (Kd.Q_far (p := ⟨gb419, 2, none⟩) (Kd.Q_far (p := ⟨gb419, 1, none⟩) (Kd.Q_far (p := ⟨gb419, 0, none⟩) (Kd.Q_types HO_379002.out BK419.out (by decide)) (fun _ hk => hk.2) (.int .i64 t411)) (fun _ hk => hk.2) (.int .i64 t412)) (fun _ hk => hk.2) (.slice Ao147 t413.length co147)) (fun _ h_ => h_.1))) hb); have n5_ := Aside0.mk (Kd.R_below (by (with_reducible repeat (first | apply Kd.R_alloc | apply Kd.R_drewN | apply Kd.R_drew)); exact (Kd.R_mono (Kd.R_far (p := ⟨gb419, 2, none⟩) (Kd.R_far (p := ⟨gb419, 1, none⟩) (Kd.R_far (p := ⟨gb419, 0, none⟩) (Kd.R_types HO407.out BK419.out (by decide)) (fun _ hk => hk.2) (.int .i64 t411)) (fun _ hk => hk.2) (.int .i64 t412)) (fun _ hk => hk.2) (.slice Ao147 t413.length co147)) (fun _ h_ => h_.1))) hb); have n6_ := Aside0.mk (Kd.R_below (by (with_reducible repeat (first | apply Kd.R_alloc | apply Kd.R_drewN | apply Kd.R_drew)); exact (Kd.R_mono (Kd.R_far (p := ⟨gb419, 2, none⟩) (Kd.R_far (p := ⟨gb419, 1, none⟩) (Kd.R_far (p := ⟨gb419, 0, none⟩) (Kd.R_types HO410.out BK419.out (by decide)) (fun _ hk => hk.2) (.int .i64 t411)) (fun _ hk => hk.2) (.int .i64 t412)) (fun _ hk => hk.2) (.slice Ao147 t413.length co147)) (fun _ h_ => h_.1))) hb); have n7_ := Aside0.mk (Kd.Q_below (by (with_reducible repeat (first | apply Kd.Q_alloc | apply Kd.Q_drewN | apply Kd.Q_drew)); exact (Kd.Q_mono (Kd.Q_far (p := ⟨gb419, 2, none⟩) (Kd.Q_far (p := ⟨gb419, 1, none⟩) (Kd.Q_far (p := ⟨gb419, 0, none⟩) (Kd.Q_types HO415.out BK419.out (by decide)) (fun _ hk => hk.2) (.int .i64 t411)) (fun _ hk => hk.2) (.int .i64 t412)) (fun _ hk => hk.2) (.slice Ao147 t413.length co147)) (fun _ h_ => h_.1))) hb); have n8_ := Aside0.mk (Kd.R_below (by (with_reducible repeat (first | apply Kd.R_alloc | apply Kd.R_drewN | apply Kd.R_drew)); exact (Kd.R_mono (Kd.R_far (p := ⟨gb419, 2, none⟩) (Kd.R_far (p := ⟨gb419, 1, none⟩) (Kd.R_far (p := ⟨gb419, 0, none⟩) (Kd.R_types HO418.out BK419.out (by decide)) (fun _ hk => hk.2) (.int .i64 t411)) (fun _ hk => hk.2) (.int .i64 t412)) (fun _ hk => hk.2) (.slice Ao147 t413.length co147)) (fun _ h_ => h_.1))) hb); have n9_ := Aside0.mk (blk_below (g := gb342) (o := .cells #[.int .i64 a0_0, .int .i64 a0_1, .slice A0_2 l0_2.length c0_2] 53 (0, 0)) (by (with_reducible repeat (first | refine blk_drewN ?_ _ | refine blk_drew ?_ | refine blk_alloc ?_ _)); refine blk_far ?_ NB342_419.out _; (with_reducible repeat (first | refine blk_drewN ?_ _ | refine blk_drew ?_ | refine blk_alloc ?_ _)); refine blk_far ?_ NB342_419.out _; (with_reducible repeat (first | refine blk_drewN ?_ _ | refine blk_drew ?_ | refine blk_alloc ?_ _)); refine blk_far ?_ NB342_419.out _; (with_reducible repeat (first | refine blk_drewN ?_ _ | refine blk_drew ?_ | refine blk_alloc ?_ _)); exact BK342.out) hb); have n10_ := Aside0.mk (blk_below (g := gb360) (o := .cells #[.int .i64 t352, .int .i64 t353, .slice Ao29 t354.length co29] 45 (0, 0)) (by (with_reducible repeat (first | refine blk_drewN ?_ _ | refine blk_drew ?_ | refine blk_alloc ?_ _)); refine blk_far ?_ NB360_419.out _; (with_reducible repeat (first | refine blk_drewN ?_ _ | refine blk_drew ?_ | refine blk_alloc ?_ _)); refine blk_far ?_ NB360_419.out _; (with_reducible repeat (first | refine blk_drewN ?_ _ | refine blk_drew ?_ | refine blk_alloc ?_ _)); refine blk_far ?_ NB360_419.out _; (with_reducible repeat (first | refine blk_drewN ?_ _ | refine blk_drew ?_ | refine blk_alloc ?_ _)); exact BK360.out) hb); have n11_ := Aside0.mk (blk_below (g := gb366) (o := .cells #[.int .i64 t361, .int .i64 t362, .slice Ao36 t392.length co36] 45 (0, 0)) (by (with_reducible repeat (first | refine blk_drewN ?_ _ | refine blk_drew ?_ | refine blk_alloc ?_ _)); refine blk_far ?_ NB366_419.out _; (with_reducible repeat (first | refine blk_drewN ?_ _ | refine blk_drew ?_ | refine blk_alloc ?_ _)); refine blk_far ?_ NB366_419.out _; (with_reducible repeat (first | refine blk_drewN ?_ _ | refine blk_drew ?_ | refine blk_alloc ?_ _)); refine blk_far ?_ NB366_419.out _; (with_reducible repeat (first | refine blk_drewN ?_ _ | refine blk_drew ?_ | refine blk_alloc ?_ _)); exact BK366.out) hb); have n12_ := Aside0.mk (blk_below (g := gb378) (o := .cells #[.int .i64 t370, .int .i64 t371, .slice Ao46 t372.length co46] 45 (0, 0)) (by (with_reducible repeat (first | refine blk_drewN ?_ _ | refine blk_drew ?_ | refine blk_alloc ?_ _)); refine blk_far ?_ NB378_419.out _; (with_reducible repeat (first | refine blk_drewN ?_ _ | refine blk_drew ?_ | refine blk_alloc ?_ _)); refine blk_far ?_ NB378_419.out _; (with_reducible repeat (first | refine blk_drewN ?_ _ | refine blk_drew ?_ | refine blk_alloc ?_ _)); refine blk_far ?_ NB378_419.out _; (with_reducible repeat (first | refine blk_drewN ?_ _ | refine blk_drew ?_ | refine blk_alloc ?_ _)); exact BK378.out) hb); have n13_ := Aside0.mk (blk_below (g := gb419) (o := .cells #[.int .i64 t411, .int .i64 t412, .slice Ao147 t413.length co147] 45 (0, 0)) (by (with_reducible repeat (first | refine blk_drewN ?_ _ | refine blk_drew ?_ | refine blk_alloc ?_ _)); refine blk_put (cs := #[.int .i64 t411, .int .i64 t412, .slice none 0 0]) ?_ 2 _ rfl; (with_reducible repeat (first | refine blk_drewN ?_ _ | refine blk_drew ?_ | refine blk_alloc ?_ _)); refine blk_put (cs := #[.int .i64 t411, .int .i64 0, .slice none 0 0]) ?_ 1 _ rfl; (with_reducible repeat (first | refine blk_drewN ?_ _ | refine blk_drew ?_ | refine blk_alloc ?_ _)); refine blk_put (cs := #[.int .i64 0, .int .i64 0, .slice none 0 0]) ?_ 0 _ rfl; (with_reducible repeat (first | refine blk_drewN ?_ _ | refine blk_drew ?_ | refine blk_alloc ?_ _)); exact BK419.out) hb); have n14_ := Aside0.mk (below_step (by repeat (first | (with_reducible first | exact HB.out | apply below_alloc | apply pw_below_drewN | apply below_drew1 | refine below_set ?_ GE342.out | refine below_set ?_ GE360.out | refine below_set ?_ GE366.out | refine below_set ?_ GE378.out | refine below_set ?_ GE419.out) | exact HB.out)) hb); clear HO_7; clear HO_11; clear HO_361002; clear HO_367002; clear HO_379002; clear HO407; clear HO410; clear HO415; clear HO418; clear BK342; clear BK360; clear BK366; clear BK378; clear BK419; clear HB; have HO_7 := n0_; have HO_11 := n1_; have HO_361002 := n2_; have HO_367002 := n3_; have HO_379002 := n4_; have HO407 := n5_; have HO410 := n6_; have HO415 := n7_; have HO418 := n8_; have BK342 := n9_; have BK360 := n10_; have BK366 := n11_; have BK378 := n12_; have BK419 := n13_; have HB := n14_; clear n0_ n1_ n2_ n3_ n4_ n5_ n6_ n7_ n8_ n9_ n10_ n11_ n12_ n13_ n14_; (try clear hb); (try clear hb2); (try clear hk); (try clear hi); obtain ⟨Ao161, co161, eo161⟩ := Kd.R_slice HO418.out; subst eo161; obtain ⟨Ao162, co162, eo162⟩ := Kd.R_slice HO_7.out; subst eo162) | (go_at_call 37; (with_reducible refine (laws_eqIntS.calls kj76 _ _ t416 _ _ t357 t421 _ ?side1 ?side2 ?side3 ?side4 A150.out).mono ?_); (case side1 => repeat (first | exact (Kd.R_reads' HO418.out).2.2 | (with_reducible refine Kd.C_alloc ?_ _) | (with_reducible refine Kd.C_drewN ?_ _) | (with_reducible refine Kd.C_drew ?_))); (case side2 => exact (Kd.R_reads' HO418.out).2.1); (case side3 => repeat (first | exact (Kd.R_reads' HO_7.out).2.2 | (with_reducible refine Kd.C_alloc ?_ _) | (with_reducible refine Kd.C_drewN ?_ _) | (with_reducible refine Kd.C_drew ?_))); (case side4 => exact (Kd.R_reads' HO_7.out).2.1); rintro e w' ⟨rfl, ⟨nd, rfl⟩⟩))
                                go_meet
                                case rel => exact ⟨_, (!t421), (by first | rfl | (simp; done) | (simp [*]; done)), H', ⟨by have := HJ15.out; have := HJ76.out; first | omega | exact Nat.le_refl _⟩, ⟨by (try simp only [hl367002_76]); (with_reducible repeat (first | apply Kd.R_alloc | apply Kd.R_drewN | apply Kd.R_drew)); exact Kd.R_mono HO_11.out (fun _ hk => ⟨hk.1.1.1.1.2.1, ⟨hk.1.1.1.1.2.2.1, ⟨hk.1.1.1.1.2.2.2, hk.1.2⟩⟩⟩)⟩, ⟨by (try simp only [hl367002_76]); (with_reducible repeat (first | apply Kd.Q_alloc | apply Kd.Q_drewN | apply Kd.Q_drew)); exact Kd.Q_mono HO_361002.out (fun _ hk => ⟨hk.1.1.1.1.2.1, ⟨hk.1.1.1.1.2.2.1, ⟨hk.1.1.1.1.2.2.2, hk.1.2⟩⟩⟩)⟩, ⟨by (try simp only [hl367002_76]); (with_reducible repeat (first | apply Kd.Q_alloc | apply Kd.Q_drewN | apply Kd.Q_drew)); exact Kd.Q_mono HO_367002.out (fun _ hk => ⟨hk.1.1.1.1.2.1, ⟨hk.1.1.1.1.2.2.1, ⟨hk.1.1.1.1.2.2.2, hk.1.2⟩⟩⟩)⟩, ⟨by (try simp only [hl367002_76]); (with_reducible repeat (first | apply Kd.Q_alloc | apply Kd.Q_drewN | apply Kd.Q_drew)); exact Kd.Q_mono HO_379002.out (fun _ hk => ⟨hk.1.1.1.1.2.1, ⟨hk.1.1.1.1.2.2.1, ⟨hk.1.1.1.1.2.2.2, hk.1.2⟩⟩⟩)⟩, ⟨by (try simp only [hl367002_76]); (with_reducible repeat (first | apply Kd.Q_alloc | apply Kd.Q_drewN | apply Kd.Q_drew)); exact Kd.Q_mono HO415.out (fun _ hk => ⟨hk.1.1.1.1.1.2, ⟨hk.1.1.1.1.2, ⟨hk.1.1.1.2, hk.1.1.2⟩⟩⟩)⟩, ⟨by (try simp only [hl367002_76]); (with_reducible repeat (first | refine blk_drewN ?_ _ | refine blk_drew ?_ | refine blk_alloc ?_ _)); exact BK342.out⟩, ⟨by (try simp only [hl367002_76]); (with_reducible repeat (first | refine blk_drewN ?_ _ | refine blk_drew ?_ | refine blk_alloc ?_ _)); exact BK360.out⟩, ⟨by (try simp only [hl367002_76]); (with_reducible repeat (first | refine blk_drewN ?_ _ | refine blk_drew ?_ | refine blk_alloc ?_ _)); exact BK366.out⟩, ⟨by (try simp only [hl367002_76]); (with_reducible repeat (first | refine blk_drewN ?_ _ | refine blk_drew ?_ | refine blk_alloc ?_ _)); exact BK378.out⟩, ⟨by (try simp only [hl367002_76]); (with_reducible repeat (first | refine blk_drewN ?_ _ | refine blk_drew ?_ | refine blk_alloc ?_ _)); exact BK419.out⟩, ⟨by repeat (first | (with_reducible first | exact HB.out | apply below_alloc | apply pw_below_drewN | apply below_drew1 | refine below_set ?_ GE342.out | refine below_set ?_ GE360.out | refine below_set ?_ GE366.out | refine below_set ?_ GE378.out | refine below_set ?_ GE419.out) | exact HB.out)⟩⟩
                              · replace c149 := Bool.eq_false_iff.mpr c149
                                subst c149
                                have H1 : (laws_FnExactAcceptAll.j2 kj76 t400 t399 true t370 t371 t398) = some r := by rw [if_neg (show ¬ (false = true) by decide)] at H; exact H
                                clear H
                                have H := H1
                                clear H1
                                have H' := Aside0.mk H
                                clear H
                                have hnb163 := NB419_342.out
                                have hnc163 := NB342_419.out
                                have hnb164 := NB419_360.out
                                have hnc164 := NB360_419.out
                                have hnb165 := NB419_366.out
                                have hnc165 := NB366_419.out
                                have hnb166 := NB419_378.out
                                have hnc166 := NB378_419.out
                                have hcz167_0 : w141.cell? ⟨gb419, 0, none⟩ = some (.int .i64 0) := (blk_cell BK419.out 0).trans rfl
                                have hcz167_1 : w141.cell? ⟨gb419, 1, none⟩ = some (.int .i64 0) := (blk_cell BK419.out 1).trans rfl
                                have hcz167_2 : w141.cell? ⟨gb419, 2, none⟩ = some (.slice none 0 0) := (blk_cell BK419.out 2).trans rfl
                                have hfz167_0 := blk_frozen BK419.out 0
                                have hfz167_1 := blk_frozen BK419.out 1
                                have hfz167_2 := blk_frozen BK419.out 2
                                have hnb168 := NB360_342.out
                                have hnc168 := NB342_360.out
                                have hnb169 := NB360_366.out
                                have hnc169 := NB366_360.out
                                have hnb170 := NB360_378.out
                                have hnc170 := NB378_360.out
                                have hcz171_0 : w141.cell? ⟨gb360, 0, none⟩ = some (.int .i64 t352) := (blk_cell BK360.out 0).trans rfl
                                have hcz171_1 : w141.cell? ⟨gb360, 1, none⟩ = some (.int .i64 t353) := (blk_cell BK360.out 1).trans rfl
                                have hcz171_2 : w141.cell? ⟨gb360, 2, none⟩ = some (.slice Ao29 t354.length co29) := (blk_cell BK360.out 2).trans rfl
                                have hfz171_0 := blk_frozen BK360.out 0
                                have hfz171_1 := blk_frozen BK360.out 1
                                have hfz171_2 := blk_frozen BK360.out 2
                                go_wp2_with (first | ((with_reducible refine gate_callee (f := 36) rfl ?_); refine goesL_ (some 112) rfl rfl Try.func36 (by kernel_rfl) rfl #[.agg #[.int .i64 t411, .int .i64 t412, .slice Ao147 t413.length co147], .agg #[.int .i64 t352, .int .i64 t353, .slice Ao29 t354.length co29]] rfl (by (try simp only [List.map_toArray, List.map_cons, List.map_nil]); first | done | rfl | (simp only [List.length_drop, List.length_take]; rfl)) ?_; (with_reducible refine (laws_eqStream.calls kj76 t411 t412 _ _ t413 t352 t353 _ _ t354 false _ ?side1 ?side2 ?side3 ?side4 A148.out).mono ?_); (case side1 => refine (Kd.Q_reads' (e := 3) (base := w.heap.size) (ok := fun k_ => (((((((some k_ ≠ (v417 : Value).ownBlock ∧ some k_ ≠ (v358 : Value).ownBlock) ∧ some k_ ≠ (.slice Ao129 t375.length co129 : Value).ownBlock) ∧ some k_ ≠ (.slice Ao29 t354.length co29 : Value).ownBlock) ∧ some k_ ≠ (.slice Ao36 t392.length co36 : Value).ownBlock) ∧ some k_ ≠ (.slice Ao46 t372.length co46 : Value).ownBlock) ∧ some k_ ≠ (.slice Ao138 t405.length co138 : Value).ownBlock) ∧ some k_ ≠ (.slice Ao139 t408.length co139 : Value).ownBlock)) (n := t413.length) (c := co147) ?_).2.2; exact (by (with_reducible repeat (first | apply Kd.Q_alloc | apply Kd.Q_drewN | apply Kd.Q_drew)); exact (Kd.Q_mono (Kd.Q_far (p := ⟨gb419, 2, none⟩) (Kd.Q_far (p := ⟨gb419, 1, none⟩) (Kd.Q_far (p := ⟨gb419, 0, none⟩) (Kd.Q_types HO415.out BK419.out (by decide)) (fun _ hk => hk.2) (.int .i64 t411)) (fun _ hk => hk.2) (.int .i64 t412)) (fun _ hk => hk.2) (.slice Ao147 t413.length co147)) (fun _ h_ => h_.1)))); (case side2 => exact (Kd.Q_reads' HO415.out).2.1); (case side3 => refine (Kd.Q_reads' (e := 3) (base := w.heap.size) (ok := fun k_ => (((((some k_ ≠ (v358 : Value).ownBlock ∧ (some k_ ≠ (.slice Ao129 t375.length co129 : Value).ownBlock ∧ (some k_ ≠ (.slice Ao36 t392.length co36 : Value).ownBlock ∧ some k_ ≠ (.slice Ao46 t372.length co46 : Value).ownBlock))) ∧ some k_ ≠ (.slice Ao138 t405.length co138 : Value).ownBlock) ∧ some k_ ≠ (.slice Ao139 t408.length co139 : Value).ownBlock) ∧ some k_ ≠ (.slice Ao147 t413.length co147 : Value).ownBlock) ∧ some k_ ≠ (v417 : Value).ownBlock)) (n := t354.length) (c := co29) ?_).2.2; exact (by (with_reducible repeat (first | apply Kd.Q_alloc | apply Kd.Q_drewN | apply Kd.Q_drew)); exact (Kd.Q_mono (Kd.Q_far (p := ⟨gb419, 2, none⟩) (Kd.Q_far (p := ⟨gb419, 1, none⟩) (Kd.Q_far (p := ⟨gb419, 0, none⟩) (Kd.Q_types HO_361002.out BK419.out (by decide)) (fun _ hk => hk.2) (.int .i64 t411)) (fun _ hk => hk.2) (.int .i64 t412)) (fun _ hk => hk.2) (.slice Ao147 t413.length co147)) (fun _ h_ => h_.1)))); (case side4 => exact (Kd.Q_reads' HO_361002.out).2.1); rintro e w172 ⟨rfl, hb⟩; refine ⟨_, rfl, ?_⟩; have n0_ := Aside0.mk (Kd.R_below (by (with_reducible repeat (first | apply Kd.R_alloc | apply Kd.R_drewN | apply Kd.R_drew)); exact (Kd.R_mono (Kd.R_far (p := ⟨gb419, 2, none⟩) (Kd.R_far (p := ⟨gb419, 1, none⟩) (Kd.R_far (p := ⟨gb419, 0, none⟩) (Kd.R_types HO_7.out BK419.out (by decide)) (fun _ hk => hk.2) (.int .i64 t411)) (fun _ hk => hk.2) (.int .i64 t412)) (fun _ hk => hk.2) (.slice Ao147 t413.length co147)) (fun _ h_ => h_.1))) hb); have n1_ := Aside0.mk (Kd.R_below (by (with_reducible repeat (first | apply Kd.R_alloc | apply Kd.R_drewN | apply Kd.R_drew)); exact (Kd.R_mono (Kd.R_far (p := ⟨gb419, 2, none⟩) (Kd.R_far (p := ⟨gb419, 1, none⟩) (Kd.R_far (p := ⟨gb419, 0, none⟩) (Kd.R_types HO_11.out BK419.out (by decide)) (fun _ hk => hk.2) (.int .i64 t411)) (fun _ hk => hk.2) (.int .i64 t412)) (fun _ hk => hk.2) (.slice Ao147 t413.length co147)) (fun _ h_ => h_.1))) hb); have n2_ := Aside0.mk (Kd.Q_below (by (with_reducible repeat (first | apply Kd.Q_alloc | apply Kd.Q_drewN | apply Kd.Q_drew)); exact (Kd.Q_mono (Kd.Q_far (p := ⟨gb419, 2, none⟩) (Kd.Q_far (p := ⟨gb419, 1, none⟩) (Kd.Q_far (p := ⟨gb419, 0, none⟩) (Kd.Q_types HO_361002.out BK419.out (by decide)) (fun _ hk => hk.2) (.int .i64 t411)) (fun _ hk => hk.2) (.int .i64 t412)) (fun _ hk => hk.2) (.slice Ao147 t413.length co147)) (fun _ h_ => h_.1))) hb); have n3_ := Aside0.mk (Kd.Q_below (by (with_reducible repeat (first | apply Kd.Q_alloc | apply Kd.Q_drewN | apply Kd.Q_drew)); exact (Kd.Q_mono (Kd.Q_far (p := ⟨gb419, 2, none⟩) (Kd.Q_far (p := ⟨gb419, 1, none⟩) (Kd.Q_far (p := ⟨gb419, 0, none⟩) (Kd.Q_types HO_367002.out BK419.out (by decide)) (fun _ hk => hk.2) (.int .i64 t411)) (fun _ hk => hk.2) (.int .i64 t412)) (fun _ hk => hk.2) (.slice Ao147 t413.length co147)) (fun _ h_ => h_.1))) hb); have n4_ := Aside0.mk (Kd.Q_below (by (with_reducible repeat (first | apply Kd.Q_alloc | apply Kd.Q_drewN | apply Kd.Q_drew)); exact (Kd.Q_mono (Kd.Q_far (p := ⟨gb419, 2, none⟩) (Kd.Q_far (p := ⟨gb419, 1, none⟩) (Kd.Q_far (p := ⟨gb419, 0, none⟩) (Kd.Q_types HO_379002.out BK419.out (by decide)) (fun _ hk => hk.2) (.int .i64 t411)) (fun _ hk => hk.2) (.int .i64 t412)) (fun _ hk => hk.2) (.slice Ao147 t413.length co147)) (fun _ h_ => h_.1))) hb); have n5_ := Aside0.mk (Kd.R_below (by (with_reducible repeat (first | apply Kd.R_alloc | apply Kd.R_drewN | apply Kd.R_drew)); exact (Kd.R_mono (Kd.R_far (p := ⟨gb419, 2, none⟩) (Kd.R_far (p := ⟨gb419, 1, none⟩) (Kd.R_far (p := ⟨gb419, 0, none⟩) (Kd.R_types HO407.out BK419.out (by decide)) (fun _ hk => hk.2) (.int .i64 t411)) (fun _ hk => hk.2) (.int .i64 t412)) (fun _ hk => hk.2) (.slice Ao147 t413.length co147)) (fun _ h_ => h_.1))) hb); have n6_ := Aside0.mk (Kd.R_below (by (with_reducible repeat (first | apply Kd.R_alloc | apply Kd.R_drewN | apply Kd.R_drew)); exact (Kd.R_mono (Kd.R_far (p := ⟨gb419, 2, none⟩) (Kd.R_far (p := ⟨gb419, 1, none⟩) (Kd.R_far (p := ⟨gb419, 0, none⟩) (Kd.R_types HO410.out BK419.out (by decide)) (fun _ hk => hk.2) (.int .i64 t411)) (fun _ hk => hk.2) (.int .i64 t412)) (fun _ hk => hk.2) (.slice Ao147 t413.length co147)) (fun _ h_ => h_.1))) hb); have n7_ := Aside0.mk (Kd.Q_below (by (with_reducible repeat (first | apply Kd.Q_alloc | apply Kd.Q_drewN | apply Kd.Q_drew)); exact (Kd.Q_mono (Kd.Q_far (p := ⟨gb419, 2, none⟩) (Kd.Q_far (p := ⟨gb419, 1, none⟩) (Kd.Q_far (p := ⟨gb419, 0, none⟩) (Kd.Q_types HO415.out BK419.out (by decide)) (fun _ hk => hk.2) (.int .i64 t411)) (fun _ hk => hk.2) (.int .i64 t412)) (fun _ hk => hk.2) (.slice Ao147 t413.length co147)) (fun _ h_ => h_.1))) hb); have n8_ := Aside0.mk (Kd.R_below (by (with_reducible repeat (first | apply Kd.R_alloc | apply Kd.R_drewN | apply Kd.R_drew)); exact (Kd.R_mono (Kd.R_far (p := ⟨gb419, 2, none⟩) (Kd.R_far (p := ⟨gb419, 1, none⟩) (Kd.R_far (p := ⟨gb419, 0, none⟩) (Kd.R_types HO418.out BK419.out (by decide)) (fun _ hk => hk.2) (.int .i64 t411)) (fun _ hk => hk.2) (.int .i64 t412)) (fun _ hk => hk.2) (.slice Ao147 t413.length co147)) (fun _ h_ => h_.1))) hb); have n9_ := Aside0.mk (blk_below (g := gb342) (o := .cells #[.int .i64 a0_0, .int .i64 a0_1, .slice A0_2 l0_2.length c0_2] 53 (0, 0)) (by (with_reducible repeat (first | refine blk_drewN ?_ _ | refine blk_drew ?_ | refine blk_alloc ?_ _)); refine blk_far ?_ NB342_419.out _; (with_reducible repeat (first | refine blk_drewN ?_ _ | refine blk_drew ?_ | refine blk_alloc ?_ _)); refine blk_far ?_ NB342_419.out _; (with_reducible repeat (first | refine blk_drewN ?_ _ | refine blk_drew ?_ | refine blk_alloc ?_ _)); refine blk_far ?_ NB342_419.out _; (with_reducible repeat (first | refine blk_drewN ?_ _ | refine blk_drew ?_ | refine blk_alloc ?_ _)); exact BK342.out) hb); have n10_ := Aside0.mk (blk_below (g := gb360) (o := .cells #[.int .i64 t352, .int .i64 t353, .slice Ao29 t354.length co29] 45 (0, 0)) (by (with_reducible repeat (first | refine blk_drewN ?_ _ | refine blk_drew ?_ | refine blk_alloc ?_ _)); refine blk_far ?_ NB360_419.out _; (with_reducible repeat (first | refine blk_drewN ?_ _ | refine blk_drew ?_ | refine blk_alloc ?_ _)); refine blk_far ?_ NB360_419.out _; (with_reducible repeat (first | refine blk_drewN ?_ _ | refine blk_drew ?_ | refine blk_alloc ?_ _)); refine blk_far ?_ NB360_419.out _; (with_reducible repeat (first | refine blk_drewN ?_ _ | refine blk_drew ?_ | refine blk_alloc ?_ _)); exact BK360.out) hb); have n11_ := Aside0.mk (blk_below (g := gb366) (o := .cells #[.int .i64 t361, .int .i64 t362, .slice Ao36 t392.length co36] 45 (0, 0)) (by (with_reducible repeat (first | refine blk_drewN ?_ _ | refine blk_drew ?_ | refine blk_alloc ?_ _)); refine blk_far ?_ NB366_419.out _; (with_reducible repeat (first | refine blk_drewN ?_ _ | refine blk_drew ?_ | refine blk_alloc ?_ _)); refine blk_far ?_ NB366_419.out _; (with_reducible repeat (first | refine blk_drewN ?_ _ | refine blk_drew ?_ | refine blk_alloc ?_ _)); refine blk_far ?_ NB366_419.out _; (with_reducible repeat (first | refine blk_drewN ?_ _ | refine blk_drew ?_ | refine blk_alloc ?_ _)); exact BK366.out) hb); have n12_ := Aside0.mk (blk_below (g := gb378) (o := .cells #[.int .i64 t370, .int .i64 t371, .slice Ao46 t372.length co46] 45 (0, 0)) (by (with_reducible repeat (first | refine blk_drewN ?_ _ | refine blk_drew ?_ | refine blk_alloc ?_ _)); refine blk_far ?_ NB378_419.out _; (with_reducible repeat (first | refine blk_drewN ?_ _ | refine blk_drew ?_ | refine blk_alloc ?_ _)); refine blk_far ?_ NB378_419.out _; (with_reducible repeat (first | refine blk_drewN ?_ _ | refine blk_drew ?_ | refine blk_alloc ?_ _)); refine blk_far ?_ NB378_419.out _; (with_reducible repeat (first | refine blk_drewN ?_ _ | refine blk_drew ?_ | refine blk_alloc ?_ _)); exact BK378.out) hb); have n13_ := Aside0.mk (blk_below (g := gb419) (o := .cells #[.int .i64 t411, .int .i64 t412, .slice Ao147 t413.length co147] 45 (0, 0)) (by (with_reducible repeat (first | refine blk_drewN ?_ _ | refine blk_drew ?_ | refine blk_alloc ?_ _)); refine blk_put (cs := #[.int .i64 t411, .int .i64 t412, .slice none 0 0]) ?_ 2 _ rfl; (with_reducible repeat (first | refine blk_drewN ?_ _ | refine blk_drew ?_ | refine blk_alloc ?_ _)); refine blk_put (cs := #[.int .i64 t411, .int .i64 0, .slice none 0 0]) ?_ 1 _ rfl; (with_reducible repeat (first | refine blk_drewN ?_ _ | refine blk_drew ?_ | refine blk_alloc ?_ _)); refine blk_put (cs := #[.int .i64 0, .int .i64 0, .slice none 0 0]) ?_ 0 _ rfl; (with_reducible repeat (first | refine blk_drewN ?_ _ | refine blk_drew ?_ | refine blk_alloc ?_ _)); exact BK419.out) hb); have n14_ := Aside0.mk (below_step (by repeat (first | (with_reducible first | exact HB.out | apply below_alloc | apply pw_below_drewN | apply below_drew1 | refine below_set ?_ GE342.out | refine below_set ?_ GE360.out | refine below_set ?_ GE366.out | refine below_set ?_ GE378.out | refine below_set ?_ GE419.out) | exact HB.out)) hb); clear HO_7; clear HO_11; clear HO_361002; clear HO_367002; clear HO_379002; clear HO407; clear HO410; clear HO415; clear HO418; clear BK342; clear BK360; clear BK366; clear BK378; clear BK419; clear HB; have HO_7 := n0_; have HO_11 := n1_; have HO_361002 := n2_; have HO_367002 := n3_; have HO_379002 := n4_; have HO407 := n5_; have HO410 := n6_; have HO415 := n7_; have HO418 := n8_; have BK342 := n9_; have BK360 := n10_; have BK366 := n11_; have BK378 := n12_; have BK419 := n13_; have HB := n14_; clear n0_ n1_ n2_ n3_ n4_ n5_ n6_ n7_ n8_ n9_ n10_ n11_ n12_ n13_ n14_; (try clear hb); (try clear hb2); (try clear hk); (try clear hi)))
                                go_meet
                                case rel => exact ⟨_, (true), (by first | rfl | (simp; done) | (simp [*]; done)), H', ⟨by have := HJ15.out; have := HJ76.out; first | omega | exact Nat.le_refl _⟩, ⟨by (try simp only [hl367002_76]); (with_reducible repeat (first | apply Kd.R_alloc | apply Kd.R_drewN | apply Kd.R_drew)); exact Kd.R_mono HO_11.out (fun _ hk => ⟨hk.1.1.1.1.2.1, ⟨hk.1.1.1.1.2.2.1, ⟨hk.1.1.1.1.2.2.2, hk.1.2⟩⟩⟩)⟩, ⟨by (try simp only [hl367002_76]); (with_reducible repeat (first | apply Kd.Q_alloc | apply Kd.Q_drewN | apply Kd.Q_drew)); exact Kd.Q_mono HO_361002.out (fun _ hk => ⟨hk.1.1.1.1.2.1, ⟨hk.1.1.1.1.2.2.1, ⟨hk.1.1.1.1.2.2.2, hk.1.2⟩⟩⟩)⟩, ⟨by (try simp only [hl367002_76]); (with_reducible repeat (first | apply Kd.Q_alloc | apply Kd.Q_drewN | apply Kd.Q_drew)); exact Kd.Q_mono HO_367002.out (fun _ hk => ⟨hk.1.1.1.1.2.1, ⟨hk.1.1.1.1.2.2.1, ⟨hk.1.1.1.1.2.2.2, hk.1.2⟩⟩⟩)⟩, ⟨by (try simp only [hl367002_76]); (with_reducible repeat (first | apply Kd.Q_alloc | apply Kd.Q_drewN | apply Kd.Q_drew)); exact Kd.Q_mono HO_379002.out (fun _ hk => ⟨hk.1.1.1.1.2.1, ⟨hk.1.1.1.1.2.2.1, ⟨hk.1.1.1.1.2.2.2, hk.1.2⟩⟩⟩)⟩, ⟨by (try simp only [hl367002_76]); (with_reducible repeat (first | apply Kd.Q_alloc | apply Kd.Q_drewN | apply Kd.Q_drew)); exact Kd.Q_mono HO415.out (fun _ hk => ⟨hk.1.1.1.1.1.2, ⟨hk.1.1.1.1.2, ⟨hk.1.1.1.2, hk.1.1.2⟩⟩⟩)⟩, ⟨by (try simp only [hl367002_76]); (with_reducible repeat (first | refine blk_drewN ?_ _ | refine blk_drew ?_ | refine blk_alloc ?_ _)); exact BK342.out⟩, ⟨by (try simp only [hl367002_76]); (with_reducible repeat (first | refine blk_drewN ?_ _ | refine blk_drew ?_ | refine blk_alloc ?_ _)); exact BK360.out⟩, ⟨by (try simp only [hl367002_76]); (with_reducible repeat (first | refine blk_drewN ?_ _ | refine blk_drew ?_ | refine blk_alloc ?_ _)); exact BK366.out⟩, ⟨by (try simp only [hl367002_76]); (with_reducible repeat (first | refine blk_drewN ?_ _ | refine blk_drew ?_ | refine blk_alloc ?_ _)); exact BK378.out⟩, ⟨by (try simp only [hl367002_76]); (with_reducible repeat (first | refine blk_drewN ?_ _ | refine blk_drew ?_ | refine blk_alloc ?_ _)); exact BK419.out⟩, ⟨by repeat (first | (with_reducible first | exact HB.out | apply below_alloc | apply pw_below_drewN | apply below_drew1 | refine below_set ?_ GE342.out | refine below_set ?_ GE360.out | refine below_set ?_ GE366.out | refine below_set ?_ GE378.out | refine below_set ?_ GE419.out) | exact HB.out)⟩⟩
                            case rest =>
                              clear HC123
                              try clear c1
                              try clear c2
                              try clear p2
                              try clear c3
                              try clear c3b0
                              try clear c3b1
                              try clear c4
                              try clear c5
                              try clear c6
                              try clear c6b0
                              try clear c7
                              try clear c8
                              try clear c9
                              try clear c10
                              try clear c11
                              try clear c12
                              try clear c13
                              try clear c14
                              try clear c15
                              try clear c16
                              try clear c17
                              try clear c27
                              try clear c32
                              try clear c33
                              try clear c34
                              try clear c36
                              try clear c37
                              try clear c38
                              try clear c39
                              try clear c40
                              try clear c41
                              try clear c42
                              try clear c43
                              try clear c44
                              try clear c48
                              try clear c50
                              try clear c51
                              try clear c52
                              try clear c54
                              try clear c55
                              try clear c60
                              try clear c61
                              try clear c62
                              try clear c64
                              try clear c65
                              try clear c68
                              try clear c71
                              try clear c74
                              try clear c84
                              try clear c85
                              try clear c86
                              try clear c90
                              try clear c90b0
                              try clear c92
                              try clear c94
                              try clear c95
                              try clear c96
                              try clear c98
                              try clear c99
                              try clear c104
                              try clear c105
                              try clear c106
                              try clear c108
                              try clear c109
                              try clear c112
                              try clear c116
                              try clear c116b0
                              try clear c118
                              try clear c118b0
                              try clear c119
                              try clear c119b0
                              try clear c119b1
                              try clear c124
                              try clear c125
                              try clear c126
                              try clear c133
                              try clear c134
                              try clear c142
                              try clear c143
                              try clear c144
                              try clear c145
                              try clear c149
                              try clear c151
                              try clear c152
                              try clear c153
                              try clear c154
                              try clear c156
                              try clear c157
                              try clear c158
                              try clear c163
                              try clear c164
                              try clear c165
                              try clear c166
                              try clear c168
                              try clear c169
                              try clear c170
                              try clear hcz100_0
                              try clear hcz100_1
                              try clear hcz100_2
                              try clear hcz107_0
                              try clear hcz107_1
                              try clear hcz107_2
                              try clear hcz110_0
                              try clear hcz110_1
                              try clear hcz110_2
                              try clear hcz127_0
                              try clear hcz127_1
                              try clear hcz127_2
                              try clear hcz131_0
                              try clear hcz131_1
                              try clear hcz131_2
                              try clear hcz135_0
                              try clear hcz135_1
                              try clear hcz135_2
                              try clear hcz146_0
                              try clear hcz146_1
                              try clear hcz146_2
                              try clear hcz155_0
                              try clear hcz155_1
                              try clear hcz155_2
                              try clear hcz159_0
                              try clear hcz159_1
                              try clear hcz159_2
                              try clear hcz167_0
                              try clear hcz167_1
                              try clear hcz167_2
                              try clear hcz171_0
                              try clear hcz171_1
                              try clear hcz171_2
                              try clear hcz18_0
                              try clear hcz18_1
                              try clear hcz18_2
                              try clear hcz20_0
                              try clear hcz20_1
                              try clear hcz20_2
                              try clear hcz28_0
                              try clear hcz28_1
                              try clear hcz28_2
                              try clear hcz30_0
                              try clear hcz30_1
                              try clear hcz30_2
                              try clear hcz35_0
                              try clear hcz35_1
                              try clear hcz35_2
                              try clear hcz38_0
                              try clear hcz38_1
                              try clear hcz38_2
                              try clear hcz45_0
                              try clear hcz45_1
                              try clear hcz45_2
                              try clear hcz53_0
                              try clear hcz53_1
                              try clear hcz53_2
                              try clear hcz56_0
                              try clear hcz56_1
                              try clear hcz56_2
                              try clear hcz63_0
                              try clear hcz63_1
                              try clear hcz63_2
                              try clear hcz66_0
                              try clear hcz66_1
                              try clear hcz66_2
                              try clear hcz87_0
                              try clear hcz87_1
                              try clear hcz87_2
                              try clear hcz8_0
                              try clear hcz8_1
                              try clear hcz8_2
                              try clear hcz97_0
                              try clear hcz97_1
                              try clear hcz97_2
                              try clear hfz100_0
                              try clear hfz100_1
                              try clear hfz100_2
                              try clear hfz107_0
                              try clear hfz107_1
                              try clear hfz107_2
                              try clear hfz110_0
                              try clear hfz110_1
                              try clear hfz110_2
                              try clear hfz127_0
                              try clear hfz127_1
                              try clear hfz127_2
                              try clear hfz131_0
                              try clear hfz131_1
                              try clear hfz131_2
                              try clear hfz135_0
                              try clear hfz135_1
                              try clear hfz135_2
                              try clear hfz146_0
                              try clear hfz146_1
                              try clear hfz146_2
                              try clear hfz155_0
                              try clear hfz155_1
                              try clear hfz155_2
                              try clear hfz159_0
                              try clear hfz159_1
                              try clear hfz159_2
                              try clear hfz167_0
                              try clear hfz167_1
                              try clear hfz167_2
                              try clear hfz171_0
                              try clear hfz171_1
                              try clear hfz171_2
                              try clear hfz18_0
                              try clear hfz18_1
                              try clear hfz18_2
                              try clear hfz20_0
                              try clear hfz20_1
                              try clear hfz20_2
                              try clear hfz28_0
                              try clear hfz28_1
                              try clear hfz28_2
                              try clear hfz30_0
                              try clear hfz30_1
                              try clear hfz30_2
                              try clear hfz35_0
                              try clear hfz35_1
                              try clear hfz35_2
                              try clear hfz38_0
                              try clear hfz38_1
                              try clear hfz38_2
                              try clear hfz45_0
                              try clear hfz45_1
                              try clear hfz45_2
                              try clear hfz53_0
                              try clear hfz53_1
                              try clear hfz53_2
                              try clear hfz56_0
                              try clear hfz56_1
                              try clear hfz56_2
                              try clear hfz63_0
                              try clear hfz63_1
                              try clear hfz63_2
                              try clear hfz66_0
                              try clear hfz66_1
                              try clear hfz66_2
                              try clear hfz87_0
                              try clear hfz87_1
                              try clear hfz87_2
                              try clear hfz8_0
                              try clear hfz8_1
                              try clear hfz8_2
                              try clear hfz97_0
                              try clear hfz97_1
                              try clear hfz97_2
                              try clear p2
                              obtain ⟨kq, x119_122, rfl, HA, HJ122, HO_11, HO_361002, HO_367002, HO_379002, HO_420002, BK342, BK360, BK366, BK378, BK419, HB⟩ := hcut
                              have hl11_122 := (Kd.R_reads' HO_11.out).1
                              rw [hl11_122] at HO_11
                              (try simp only [hl11_122])
                              (try simp only [hl11_122] at BK342)
                              (try simp only [hl11_122] at BK360)
                              (try simp only [hl11_122] at BK366)
                              (try simp only [hl11_122] at BK378)
                              (try simp only [hl11_122] at BK419)
                              (try simp only [hl11_122] at HO_361002)
                              (try simp only [hl11_122] at HO_367002)
                              (try simp only [hl11_122] at HO_379002)
                              (try simp only [hl11_122] at HO_420002)
                              have hl379002_122 := (Kd.Q_reads' HO_379002.out).1
                              rw [hl379002_122] at HO_379002
                              (try simp only [hl379002_122])
                              (try simp only [hl379002_122] at BK342)
                              (try simp only [hl379002_122] at BK360)
                              (try simp only [hl379002_122] at BK366)
                              (try simp only [hl379002_122] at BK378)
                              (try simp only [hl379002_122] at BK419)
                              (try simp only [hl379002_122] at HO_11)
                              (try simp only [hl379002_122] at HO_361002)
                              (try simp only [hl379002_122] at HO_367002)
                              (try simp only [hl379002_122] at HO_420002)
                              cases kq with
                              | zero => exact absurd HA.out (by simp [laws_FnExactAcceptAll.j2])
                              | succ kj122 =>
                                have H := HA.out
                                clear HA
                                simp only [laws_FnExactAcceptAll.j2] at H
                                by_cases c173 : x119_122 = true
                                · subst c173
                                  have H1 : (some false) = some r := by rw [if_pos rfl] at H; exact H
                                  clear H
                                  have H := H1
                                  clear H1
                                  exact absurd ((Option.some.inj H).trans HTRUE.out) (by decide)
                                · replace c173 := Bool.eq_false_iff.mpr c173
                                  subst c173
                                  have H1 : ((laws_heldStream.f kj122 t370 t371 t398 1).bind fun t422 => (if t422 < 0 then (some false) else ((laws_heldIntS.f kj122 t400 t422).bind fun t423 => (if t423 < 0 then (some false) else (if t423 = t399 then (some true) else (some false)))))) = some r := by rw [if_neg (show ¬ (false = true) by decide)] at H; exact H
                                  clear H
                                  have H := H1
                                  clear H1
                                  replace H := Option.bind_eq_some_iff.mp H
                                  obtain ⟨t422, A1740, H⟩ := H
                                  replace H : (if t422 < 0 then (some false) else ((laws_heldIntS.f kj122 t400 t422).bind fun t423 => (if t423 < 0 then (some false) else (if t423 = t399 then (some true) else (some false))))) = some r := H
                                  have A174 := Aside0.mk A1740
                                  clear A1740
                                  by_cases c175 : t422 < 0
                                  · rw [if_pos c175] at H
                                    have c175b0 : decide (t422 < 0) = true := decide_eq_true c175
                                    clear c175
                                    exact absurd ((Option.some.inj H).trans HTRUE.out) (by decide)
                                  · rw [if_neg c175] at H
                                    have c175b0 : decide (t422 < 0) = false := decide_eq_false c175
                                    clear c175
                                    replace H := Option.bind_eq_some_iff.mp H
                                    obtain ⟨t423, A1760, H⟩ := H
                                    replace H : (if t423 < 0 then (some false) else (if t423 = t399 then (some true) else (some false))) = some r := H
                                    have A176 := Aside0.mk A1760
                                    clear A1760
                                    by_cases c177 : t423 < 0
                                    · rw [if_pos c177] at H
                                      have c177b0 : decide (t423 < 0) = true := decide_eq_true c177
                                      clear c177
                                      exact absurd ((Option.some.inj H).trans HTRUE.out) (by decide)
                                    · rw [if_neg c177] at H
                                      have c177b0 : decide (t423 < 0) = false := decide_eq_false c177
                                      clear c177
                                      by_cases c178 : t423 = t399
                                      · rw [if_pos c178] at H
                                        have c178b0 : (t423 == t399) = true := beq_iff_eq.mpr c178
                                        have c178b1 : (t423 != t399) = false := bne_eq_false_iff_eq.mpr c178
                                        clear c178
                                        obtain rfl := Option.some.inj H
                                        have hnb179 := NB378_342.out
                                        have hnc179 := NB342_378.out
                                        have hnb180 := NB378_360.out
                                        have hnc180 := NB360_378.out
                                        have hnb181 := NB378_366.out
                                        have hnc181 := NB366_378.out
                                        have hnb182 := NB378_419.out
                                        have hnc182 := NB419_378.out
                                        have hcz183_0 : wc.cell? ⟨gb378, 0, none⟩ = some (.int .i64 t370) := (blk_cell BK378.out 0).trans rfl
                                        have hcz183_1 : wc.cell? ⟨gb378, 1, none⟩ = some (.int .i64 t371) := (blk_cell BK378.out 1).trans rfl
                                        have hcz183_2 : wc.cell? ⟨gb378, 2, none⟩ = some (.slice Ao46 t398.length co46) := (blk_cell BK378.out 2).trans rfl
                                        have hfz183_0 := blk_frozen BK378.out 0
                                        have hfz183_1 := blk_frozen BK378.out 1
                                        have hfz183_2 := blk_frozen BK378.out 2
                                        go_wp2_with (first | ((with_reducible refine gate_callee (f := 40) rfl ?_); refine goesL_ (some 122) rfl rfl Try.func40 (by kernel_rfl) rfl #[.agg #[.int .i64 t370, .int .i64 t371, .slice Ao46 t398.length co46], .int .i64 1] rfl (by (try simp only [List.map_toArray, List.map_cons, List.map_nil]); first | done | rfl | (simp only [List.length_drop, List.length_take]; rfl)) ?_; (with_reducible refine (laws_heldStream.calls kj122 t370 t371 _ _ t398 1 t422 _ ?side1 ?side2 A174.out).mono ?_); (case side1 => repeat (first | exact (Kd.Q_reads' HO_379002.out).2.2 | (with_reducible refine Kd.C_alloc ?_ _) | (with_reducible refine Kd.C_drewN ?_ _) | (with_reducible refine Kd.C_drew ?_))); (case side2 => exact (Kd.Q_reads' HO_379002.out).2.1); rintro e w184 ⟨rfl, hb⟩; refine ⟨_, rfl, ?_⟩; have n0_ := Aside0.mk (Kd.R_below (by (with_reducible repeat (first | apply Kd.R_alloc | apply Kd.R_drewN | apply Kd.R_drew)); exact HO_11.out) hb); have n1_ := Aside0.mk (Kd.Q_below (by (with_reducible repeat (first | apply Kd.Q_alloc | apply Kd.Q_drewN | apply Kd.Q_drew)); exact HO_361002.out) hb); have n2_ := Aside0.mk (Kd.Q_below (by (with_reducible repeat (first | apply Kd.Q_alloc | apply Kd.Q_drewN | apply Kd.Q_drew)); exact HO_367002.out) hb); have n3_ := Aside0.mk (Kd.Q_below (by (with_reducible repeat (first | apply Kd.Q_alloc | apply Kd.Q_drewN | apply Kd.Q_drew)); exact HO_379002.out) hb); have n4_ := Aside0.mk (Kd.Q_below (by (with_reducible repeat (first | apply Kd.Q_alloc | apply Kd.Q_drewN | apply Kd.Q_drew)); exact HO_420002.out) hb); have n5_ := Aside0.mk (blk_below (g := gb342) (o := .cells #[.int .i64 a0_0, .int .i64 a0_1, .slice A0_2 l0_2.length c0_2] 53 (0, 0)) (by (with_reducible repeat (first | refine blk_drewN ?_ _ | refine blk_drew ?_ | refine blk_alloc ?_ _)); exact BK342.out) hb); have n6_ := Aside0.mk (blk_below (g := gb360) (o := .cells #[.int .i64 t352, .int .i64 t353, .slice Ao29 t354.length co29] 45 (0, 0)) (by (with_reducible repeat (first | refine blk_drewN ?_ _ | refine blk_drew ?_ | refine blk_alloc ?_ _)); exact BK360.out) hb); have n7_ := Aside0.mk (blk_below (g := gb366) (o := .cells #[.int .i64 t361, .int .i64 t362, .slice Ao36 t392.length co36] 45 (0, 0)) (by (with_reducible repeat (first | refine blk_drewN ?_ _ | refine blk_drew ?_ | refine blk_alloc ?_ _)); exact BK366.out) hb); have n8_ := Aside0.mk (blk_below (g := gb378) (o := .cells #[.int .i64 t370, .int .i64 t371, .slice Ao46 t398.length co46] 45 (0, 0)) (by (with_reducible repeat (first | refine blk_drewN ?_ _ | refine blk_drew ?_ | refine blk_alloc ?_ _)); exact BK378.out) hb); have n9_ := Aside0.mk (blk_below (g := gb419) (o := .cells #[.int .i64 t411, .int .i64 t412, .slice Ao147 t413.length co147] 45 (0, 0)) (by (with_reducible repeat (first | refine blk_drewN ?_ _ | refine blk_drew ?_ | refine blk_alloc ?_ _)); exact BK419.out) hb); have n10_ := Aside0.mk (below_step (by repeat (first | (with_reducible first | exact HB.out | apply below_alloc | apply pw_below_drewN | apply below_drew1 | refine below_set ?_ GE342.out | refine below_set ?_ GE360.out | refine below_set ?_ GE366.out | refine below_set ?_ GE378.out | refine below_set ?_ GE419.out) | exact HB.out)) hb); clear HO_11; clear HO_361002; clear HO_367002; clear HO_379002; clear HO_420002; clear BK342; clear BK360; clear BK366; clear BK378; clear BK419; clear HB; have HO_11 := n0_; have HO_361002 := n1_; have HO_367002 := n2_; have HO_379002 := n3_; have HO_420002 := n4_; have BK342 := n5_; have BK360 := n6_; have BK366 := n7_; have BK378 := n8_; have BK419 := n9_; have HB := n10_; clear n0_ n1_ n2_ n3_ n4_ n5_ n6_ n7_ n8_ n9_ n10_; (try clear hb); (try clear hb2); (try clear hk); (try clear hi)) | ((with_reducible refine gate_callee (f := 41) rfl ?_); refine goesL_ (some 127) rfl rfl Try.func41 (by kernel_rfl) rfl #[.slice Ao129 t400.length co129, .int .i64 t422] rfl (by (try simp only [List.map_toArray, List.map_cons, List.map_nil]); first | done | rfl | (simp only [List.length_drop, List.length_take]; rfl)) ?_; (with_reducible refine (laws_heldIntS.calls kj122 _ _ t400 t422 t423 _ ?side1 ?side2 A176.out).mono ?_); (case side1 => repeat (first | exact (Kd.R_reads' HO_11.out).2.2 | (with_reducible refine Kd.C_alloc ?_ _) | (with_reducible refine Kd.C_drewN ?_ _) | (with_reducible refine Kd.C_drew ?_))); (case side2 => exact (Kd.R_reads' HO_11.out).2.1); rintro e w' ⟨rfl, ⟨nd, rfl⟩⟩; refine ⟨_, rfl, ?_⟩))
                                        go_ret
                                        exact ⟨by first | rfl | (simp [errW_none, errW_some] <;> rfl) | (simp [*, errW_none, errW_some] <;> rfl), by repeat (first | (with_reducible first | exact HB.out | apply below_alloc | apply pw_below_drewN | apply below_drew1 | refine below_set ?_ GE342.out | refine below_set ?_ GE360.out | refine below_set ?_ GE366.out | refine below_set ?_ GE378.out | refine below_set ?_ GE419.out) | exact HB.out)⟩
                                      · rw [if_neg c178] at H
                                        have c178b0 : (t423 == t399) = false := beq_eq_false_iff_ne.mpr c178
                                        have c178b1 : (t423 != t399) = true := bne_iff_ne.mpr c178
                                        exact absurd ((Option.some.inj H).trans HTRUE.out) (by decide)
                          · rw [if_neg c119] at H
                            have c119b0 : (t402 == t399) = false := beq_eq_false_iff_ne.mpr c119
                            have c119b1 : (t402 != t399) = true := bne_iff_ne.mpr c119
                            exact absurd ((Option.some.inj H).trans HTRUE.out) (by decide)
              · replace c74 := Bool.eq_false_iff.mpr c74
                subst c74
                have H1 : (some false) = some r := by rw [if_neg (show ¬ (false = true) by decide)] at H; exact H
                clear H
                have H := H1
                clear H1
                exact absurd ((Option.some.inj H).trans HTRUE.out) (by decide)
            · replace c71 := Bool.eq_false_iff.mpr c71
              subst c71
              have H1 : (some false) = some r := by rw [if_neg (show ¬ (false = true) by decide)] at H; exact H
              clear H
              have H := H1
              clear H1
              exact absurd ((Option.some.inj H).trans HTRUE.out) (by decide)

end Go.Proofs.Ytegkplalnljgjaa.PFnExactAcceptAll
