/- The functions that the law reaches, as plain Lean functions, each with the proof that the Go code comes to its answers; conditions: those that each theorem names. (printed by a program of this session) -/
import Derived.Test.YtindlpkkapelhaaPFnFaultsx0
import Derived.Test.YtindlpkkapelhaaPFnFaultsx1
import Derived.Test.YtindlpkkapelhaaPFnFaultsx2
import Derived.Test.YtindlpkkapelhaaPFnFaultsx3
import Derived.Test.YtindlpkkapelhaaPFnFaultsx4
namespace Go.Proofs.Ytindlpkkapelhaa.PFnFaults
open Go.RowKit Go.Proofs.YtindlpkkapelhaaW.PrintWords Go.Proofs.YtindlpkkapelhaaW.PrintLast Go.Proofs.YtindlpkkapelhaaW.PrintMore
attribute [local go_sem] max2_int min2_int max_two min_two max_three min_three max_four min_four   -- for this text's walks alone
set_option linter.unusedVariables false
set_option linter.unusedSimpArgs false

/-! ### laws_FnFaults: function 12 -/
mutual
def laws_FnFaults.j0 : Nat → List (S116) → Int → Int → Bool → Option (Bool)
  | 0, _, _, _, _ => none
  | k + 1, x3, x4, x6, x54 => if x54 = true then (some false) else ((impl_LastFault.f k x3).bind fun t285 => ((impl_DeadFor.f k x3 x4 x6 5).bind fun t286 => (laws_FnFaults.l0 k x3 x4 x6 t285 t286 0)))
def laws_FnFaults.l0 : Nat → List (S116) → Int → Int → Int → List Int → Int → Option (Bool)
  | 0, _, _, _, _, _, _ => none
  | k + 1, x3, x4, x6, x7, x8, x9 => if x9 < 5 then ((laws_contains.f k x8 x9).bind fun t291 => (if x9 = x4 then (if (t291 != false) = true then (some false) else ((impl_IsCut.f k x3 x4 x9 x7).bind fun t292 => (if t292 = true then (some false) else (laws_FnFaults.l0 k x3 x4 x6 x7 x8 (wrap64 (x9 + 1)))))) else ((impl_IsCut.f k x3 x4 x9 x6).bind fun t293 => (if (t291 != t293) = true then (some false) else ((impl_IsCut.f k x3 x4 x9 x7).bind fun t294 => (if t294 = true then (some false) else (laws_FnFaults.l0 k x3 x4 x6 x7 x8 (wrap64 (x9 + 1))))))))) else ((impl_CountDown.f k x3 x6 5).bind fun t289 => (if t289 ≤ 5 then ((impl_CountDown.f k x3 x7 5).bind fun t290 => (some (t290 == 0))) else (some false)))
end
def laws_FnFaults.f (k : Nat) (l0 : List Int) : Option (Bool) := (laws_big.f l0).bind fun t272 => (if t272 = true then (some true) else ((spec_DrawIsCut.f k l0).bind fun bt273 => ((impl_IsCut.f k bt273.1 bt273.2.1 bt273.2.2.1 bt273.2.2.2).bind fun t279 => ((spec_IsCut.f k bt273.1 bt273.2.1 bt273.2.2.1 bt273.2.2.2).bind fun t280 => (if (t279 != t280) = true then (some false) else ((impl_IsCut.f k bt273.1 bt273.2.1 bt273.2.2.1 bt273.2.2.2).bind fun t281 => ((impl_IsCut.f k bt273.1 bt273.2.2.1 bt273.2.1 bt273.2.2.2).bind fun t282 => (if (t281 != t282) = true then (laws_FnFaults.j0 k bt273.1 bt273.2.1 bt273.2.2.2 true) else ((impl_IsDown.f k bt273.1 bt273.2.1 bt273.2.2.2).bind fun t283 => (if t283 = true then ((impl_IsCut.f k bt273.1 bt273.2.1 bt273.2.2.1 bt273.2.2.2).bind fun t284 => (laws_FnFaults.j0 k bt273.1 bt273.2.1 bt273.2.2.2 (!t284))) else (laws_FnFaults.j0 k bt273.1 bt273.2.1 bt273.2.2.2 false)))))))))))
theorem laws_FnFaults.mono_l : ∀ k, (∀ y0 y1 y2 y3, LeO (laws_FnFaults.j0 k y0 y1 y2 y3) (laws_FnFaults.j0 (k + 1) y0 y1 y2 y3)) ∧ (∀ y0 y1 y2 y3 y4 y5, LeO (laws_FnFaults.l0 k y0 y1 y2 y3 y4 y5) (laws_FnFaults.l0 (k + 1) y0 y1 y2 y3 y4 y5))
  | 0 => ⟨fun _ _ _ _ r h => by simp [laws_FnFaults.j0] at h, fun _ _ _ _ _ _ r h => by simp [laws_FnFaults.l0] at h⟩
  | k + 1 => by
    obtain ⟨ih0, ih1⟩ := laws_FnFaults.mono_l k
    refine ⟨?_, ?_⟩
    · intro y0 y1 y2 y3
      unfold laws_FnFaults.j0
      repeat' first
      | (with_reducible exact ih0 _ _ _ _)
      | (with_reducible exact ih1 _ _ _ _ _ _)
      | (with_reducible exact impl_CountDown.mono _ _ _ _)
      | (with_reducible exact impl_DeadFor.mono _ _ _ _ _)
      | (with_reducible exact impl_IsCut.mono _ _ _ _ _)
      | (with_reducible exact impl_IsDown.mono _ _ _ _)
      | (with_reducible exact impl_LastFault.mono _ _)
      | (with_reducible exact laws_contains.mono _ _ _)
      | (with_reducible exact spec_DrawIsCut.mono _ _)
      | (with_reducible exact spec_IsCut.mono _ _ _ _ _)
      | (with_reducible exact LeO.refl _)
      | (with_reducible exact LeO.none _)
      | (with_reducible refine LeO.ite ?_ ?_)
      | (with_reducible refine LeO.bind ?_ (fun _ => ?_))
      | exact ih0 _ _ _ _
      | exact ih1 _ _ _ _ _ _
      | exact impl_CountDown.mono _ _ _ _
      | exact impl_DeadFor.mono _ _ _ _ _
      | exact impl_IsCut.mono _ _ _ _ _
      | exact impl_IsDown.mono _ _ _ _
      | exact impl_LastFault.mono _ _
      | exact laws_contains.mono _ _ _
      | exact spec_DrawIsCut.mono _ _
      | exact spec_IsCut.mono _ _ _ _ _
      | exact LeO.none _
      | refine LeO.ite ?_ ?_
      | refine LeO.bind ?_ (fun _ => ?_)
    · intro y0 y1 y2 y3 y4 y5
      unfold laws_FnFaults.l0
      repeat' first
      | (with_reducible exact ih0 _ _ _ _)
      | (with_reducible exact ih1 _ _ _ _ _ _)
      | (with_reducible exact impl_CountDown.mono _ _ _ _)
      | (with_reducible exact impl_DeadFor.mono _ _ _ _ _)
      | (with_reducible exact impl_IsCut.mono _ _ _ _ _)
      | (with_reducible exact impl_IsDown.mono _ _ _ _)
      | (with_reducible exact impl_LastFault.mono _ _)
      | (with_reducible exact laws_contains.mono _ _ _)
      | (with_reducible exact spec_DrawIsCut.mono _ _)
      | (with_reducible exact spec_IsCut.mono _ _ _ _ _)
      | (with_reducible exact LeO.refl _)
      | (with_reducible exact LeO.none _)
      | (with_reducible refine LeO.ite ?_ ?_)
      | (with_reducible refine LeO.bind ?_ (fun _ => ?_))
      | exact ih0 _ _ _ _
      | exact ih1 _ _ _ _ _ _
      | exact impl_CountDown.mono _ _ _ _
      | exact impl_DeadFor.mono _ _ _ _ _
      | exact impl_IsCut.mono _ _ _ _ _
      | exact impl_IsDown.mono _ _ _ _
      | exact impl_LastFault.mono _ _
      | exact laws_contains.mono _ _ _
      | exact spec_DrawIsCut.mono _ _
      | exact spec_IsCut.mono _ _ _ _ _
      | exact LeO.none _
      | refine LeO.ite ?_ ?_
      | refine LeO.bind ?_ (fun _ => ?_)
theorem laws_FnFaults.mono : ∀ a0 k, LeO (laws_FnFaults.f k a0) (laws_FnFaults.f (k + 1) a0) := by
  intro a0 k
  obtain ⟨ih0, ih1⟩ := laws_FnFaults.mono_l k
  unfold laws_FnFaults.f
  repeat' first
      | (with_reducible exact ih0 _ _ _ _)
      | (with_reducible exact ih1 _ _ _ _ _ _)
      | (with_reducible exact impl_CountDown.mono _ _ _ _)
      | (with_reducible exact impl_DeadFor.mono _ _ _ _ _)
      | (with_reducible exact impl_IsCut.mono _ _ _ _ _)
      | (with_reducible exact impl_IsDown.mono _ _ _ _)
      | (with_reducible exact impl_LastFault.mono _ _)
      | (with_reducible exact laws_contains.mono _ _ _)
      | (with_reducible exact spec_DrawIsCut.mono _ _)
      | (with_reducible exact spec_IsCut.mono _ _ _ _ _)
      | (with_reducible exact LeO.refl _)
      | (with_reducible exact LeO.none _)
      | (with_reducible refine LeO.ite ?_ ?_)
      | (with_reducible refine LeO.bind ?_ (fun _ => ?_))
      | exact ih0 _ _ _ _
      | exact ih1 _ _ _ _ _ _
      | exact impl_CountDown.mono _ _ _ _
      | exact impl_DeadFor.mono _ _ _ _ _
      | exact impl_IsCut.mono _ _ _ _ _
      | exact impl_IsDown.mono _ _ _ _
      | exact impl_LastFault.mono _ _
      | exact laws_contains.mono _ _ _
      | exact spec_DrawIsCut.mono _ _
      | exact spec_IsCut.mono _ _ _ _ _
      | exact LeO.none _
      | refine LeO.ite ?_ ?_
      | refine LeO.bind ?_ (fun _ => ?_)
set_option maxHeartbeats 8000000 in
set_option maxRecDepth 100000 in
theorem laws_FnFaults.calls (k : Nat) (A0 : Option Addr) (c0 : Nat) (l0 : List Int) (r : Bool) (w : World) (hr0 : Kd.C (Kd.int .u8) w A0 l0.length l0) (hc0 : l0.length ≤ c0) (hr_ : r = true) (h : laws_FnFaults.f k l0 = some r) :
    Calls Try.prog 12 #[.slice A0 l0.length c0] w fun e w' => e = .returned (.bool r) ∧ Below w.heap.size w w' := by
  have HR0 := Aside0.mk hr0
  have HC0 := Aside0.mk hc0
  clear hr0 hc0
  have HB := Aside0.mk (Below.refl w.heap.size w)
  have H : ((laws_big.f l0).bind fun t272 => (if t272 = true then (some true) else ((spec_DrawIsCut.f k l0).bind fun bt273 => ((impl_IsCut.f k bt273.1 bt273.2.1 bt273.2.2.1 bt273.2.2.2).bind fun t279 => ((spec_IsCut.f k bt273.1 bt273.2.1 bt273.2.2.1 bt273.2.2.2).bind fun t280 => (if (t279 != t280) = true then (some false) else ((impl_IsCut.f k bt273.1 bt273.2.1 bt273.2.2.1 bt273.2.2.2).bind fun t281 => ((impl_IsCut.f k bt273.1 bt273.2.2.1 bt273.2.1 bt273.2.2.2).bind fun t282 => (if (t281 != t282) = true then (laws_FnFaults.j0 k bt273.1 bt273.2.1 bt273.2.2.2 true) else ((impl_IsDown.f k bt273.1 bt273.2.1 bt273.2.2.2).bind fun t283 => (if t283 = true then ((impl_IsCut.f k bt273.1 bt273.2.1 bt273.2.2.1 bt273.2.2.2).bind fun t284 => (laws_FnFaults.j0 k bt273.1 bt273.2.1 bt273.2.2.2 (!t284))) else (laws_FnFaults.j0 k bt273.1 bt273.2.1 bt273.2.2.2 false)))))))))))) = some r := h
  clear h
  have HTRUE := Aside0.mk hr_
  clear hr_
  replace H := Option.bind_eq_some_iff.mp H
  obtain ⟨t272, A20, H⟩ := H
  replace H : (if t272 = true then (some true) else ((spec_DrawIsCut.f k l0).bind fun bt273 => ((impl_IsCut.f k bt273.1 bt273.2.1 bt273.2.2.1 bt273.2.2.2).bind fun t279 => ((spec_IsCut.f k bt273.1 bt273.2.1 bt273.2.2.1 bt273.2.2.2).bind fun t280 => (if (t279 != t280) = true then (some false) else ((impl_IsCut.f k bt273.1 bt273.2.1 bt273.2.2.1 bt273.2.2.2).bind fun t281 => ((impl_IsCut.f k bt273.1 bt273.2.2.1 bt273.2.1 bt273.2.2.2).bind fun t282 => (if (t281 != t282) = true then (laws_FnFaults.j0 k bt273.1 bt273.2.1 bt273.2.2.2 true) else ((impl_IsDown.f k bt273.1 bt273.2.1 bt273.2.2.2).bind fun t283 => (if t283 = true then ((impl_IsCut.f k bt273.1 bt273.2.1 bt273.2.2.1 bt273.2.2.2).bind fun t284 => (laws_FnFaults.j0 k bt273.1 bt273.2.1 bt273.2.2.2 (!t284))) else (laws_FnFaults.j0 k bt273.1 bt273.2.1 bt273.2.2.2 false))))))))))) = some r := H
  have A2 := Aside0.mk A20
  clear A20
  by_cases c3 : t272 = true
  · subst c3
    have H1 : (some true) = some r := by rw [if_pos rfl] at H; exact H
    clear H
    have H := H1
    clear H1
    obtain rfl := Option.some.inj H
    go_enter Try.func12, Try.ntmps12
    go_wp2_with (first | ((with_reducible refine gate_callee (f := 58) rfl ?_); refine goesL_ (some 11) rfl rfl Try.func58 (by kernel_rfl) rfl #[.slice A0 l0.length c0] rfl (by (try simp only [List.map_toArray, List.map_cons, List.map_nil]); first | done | rfl | (simp only [List.length_drop, List.length_take]; rfl)) ?_; (with_reducible refine (laws_big.calls _ _ l0 true _ ?side1 ?side2 A2.out).mono ?_); (case side1 => repeat (first | exact HR0.out | (with_reducible refine Kd.C_alloc ?_ _) | (with_reducible refine Kd.C_drewN ?_ _) | (with_reducible refine Kd.C_drew ?_))); (case side2 => exact HC0.out); rintro e w' ⟨rfl, ⟨nd, rfl⟩⟩; refine ⟨_, rfl, ?_⟩))
    go_ret
    exact ⟨by first | rfl | (simp [errW_none, errW_some] <;> rfl) | (simp [*, errW_none, errW_some] <;> rfl), by repeat (first | (with_reducible first | exact HB.out | apply below_alloc | apply pw_below_drewN | apply below_drew1) | exact HB.out)⟩
  · replace c3 := Bool.eq_false_iff.mpr c3
    subst c3
    have H1 : ((spec_DrawIsCut.f k l0).bind fun bt273 => ((impl_IsCut.f k bt273.1 bt273.2.1 bt273.2.2.1 bt273.2.2.2).bind fun t279 => ((spec_IsCut.f k bt273.1 bt273.2.1 bt273.2.2.1 bt273.2.2.2).bind fun t280 => (if (t279 != t280) = true then (some false) else ((impl_IsCut.f k bt273.1 bt273.2.1 bt273.2.2.1 bt273.2.2.2).bind fun t281 => ((impl_IsCut.f k bt273.1 bt273.2.2.1 bt273.2.1 bt273.2.2.2).bind fun t282 => (if (t281 != t282) = true then (laws_FnFaults.j0 k bt273.1 bt273.2.1 bt273.2.2.2 true) else ((impl_IsDown.f k bt273.1 bt273.2.1 bt273.2.2.2).bind fun t283 => (if t283 = true then ((impl_IsCut.f k bt273.1 bt273.2.1 bt273.2.2.1 bt273.2.2.2).bind fun t284 => (laws_FnFaults.j0 k bt273.1 bt273.2.1 bt273.2.2.2 (!t284))) else (laws_FnFaults.j0 k bt273.1 bt273.2.1 bt273.2.2.2 false)))))))))) = some r := by rw [if_neg (show ¬ (false = true) by decide)] at H; exact H
    clear H
    have H := H1
    clear H1
    replace H := Option.bind_eq_some_iff.mp H
    obtain ⟨⟨t273, t274, t275, t276⟩, A40, H⟩ := H
    replace H : ((impl_IsCut.f k t273 t274 t275 t276).bind fun t279 => ((spec_IsCut.f k t273 t274 t275 t276).bind fun t280 => (if (t279 != t280) = true then (some false) else ((impl_IsCut.f k t273 t274 t275 t276).bind fun t281 => ((impl_IsCut.f k t273 t275 t274 t276).bind fun t282 => (if (t281 != t282) = true then (laws_FnFaults.j0 k t273 t274 t276 true) else ((impl_IsDown.f k t273 t274 t276).bind fun t283 => (if t283 = true then ((impl_IsCut.f k t273 t274 t275 t276).bind fun t284 => (laws_FnFaults.j0 k t273 t274 t276 (!t284))) else (laws_FnFaults.j0 k t273 t274 t276 false))))))))) = some r := H
    have A4 := Aside0.mk A40
    clear A40
    replace H := Option.bind_eq_some_iff.mp H
    obtain ⟨t279, A50, H⟩ := H
    replace H : ((spec_IsCut.f k t273 t274 t275 t276).bind fun t280 => (if (t279 != t280) = true then (some false) else ((impl_IsCut.f k t273 t274 t275 t276).bind fun t281 => ((impl_IsCut.f k t273 t275 t274 t276).bind fun t282 => (if (t281 != t282) = true then (laws_FnFaults.j0 k t273 t274 t276 true) else ((impl_IsDown.f k t273 t274 t276).bind fun t283 => (if t283 = true then ((impl_IsCut.f k t273 t274 t275 t276).bind fun t284 => (laws_FnFaults.j0 k t273 t274 t276 (!t284))) else (laws_FnFaults.j0 k t273 t274 t276 false)))))))) = some r := H
    have A5 := Aside0.mk A50
    clear A50
    replace H := Option.bind_eq_some_iff.mp H
    obtain ⟨t280, A60, H⟩ := H
    replace H : (if (t279 != t280) = true then (some false) else ((impl_IsCut.f k t273 t274 t275 t276).bind fun t281 => ((impl_IsCut.f k t273 t275 t274 t276).bind fun t282 => (if (t281 != t282) = true then (laws_FnFaults.j0 k t273 t274 t276 true) else ((impl_IsDown.f k t273 t274 t276).bind fun t283 => (if t283 = true then ((impl_IsCut.f k t273 t274 t275 t276).bind fun t284 => (laws_FnFaults.j0 k t273 t274 t276 (!t284))) else (laws_FnFaults.j0 k t273 t274 t276 false))))))) = some r := H
    have A6 := Aside0.mk A60
    clear A60
    by_cases c7 : (t279 != t280) = true
    · rw [if_pos c7] at H
      have c7b0 : (t279 != t280) = true := c7
      (try (have c7b1 : decide (t279 = t280) = false := by simpa using c7))
      (try (have c7b2 : (t279 == t280) = false := by simpa using c7))
      (try (have c7b3 : ¬ (t279 = t280) := by simpa using c7))
      clear c7
      exact absurd ((Option.some.inj H).trans HTRUE.out) (by decide)
    · rw [if_neg c7] at H
      have c7b0 : (t279 != t280) = false := by simpa using c7
      (try (have c7b1 : decide (t279 = t280) = true := by simpa using c7))
      (try (have c7b2 : (t279 == t280) = true := by simpa using c7))
      clear c7
      have HC8 := Aside0.mk H
      clear H
      go_enter Try.func12, Try.ntmps12
      go_upto_region 6 with (first | ((with_reducible refine gate_callee (f := 58) rfl ?_); refine goesL_ (some 11) rfl rfl Try.func58 (by kernel_rfl) rfl #[.slice A0 l0.length c0] rfl (by (try simp only [List.map_toArray, List.map_cons, List.map_nil]); first | done | rfl | (simp only [List.length_drop, List.length_take]; rfl)) ?_; (with_reducible refine (laws_big.calls _ _ l0 false _ ?side1 ?side2 A2.out).mono ?_); (case side1 => repeat (first | exact HR0.out | (with_reducible refine Kd.C_alloc ?_ _) | (with_reducible refine Kd.C_drewN ?_ _) | (with_reducible refine Kd.C_drew ?_))); (case side2 => exact HC0.out); rintro e w' ⟨rfl, ⟨nd, rfl⟩⟩; refine ⟨_, rfl, ?_⟩) | ((with_reducible refine gate_callee (f := 59) rfl ?_); refine goesL_ (some 14) rfl rfl Try.func59 (by kernel_rfl) rfl #[.slice A0 l0.length c0] rfl (by (try simp only [List.map_toArray, List.map_cons, List.map_nil]); first | done | rfl | (simp only [List.length_drop, List.length_take]; rfl)) ?_; (with_reducible refine (spec_DrawIsCut.calls k _ _ l0 t273 t274 t275 t276 _ ?side1 ?side2 A4.out).mono ?_); (case side1 => repeat (first | exact HR0.out | (with_reducible refine Kd.C_alloc ?_ _) | (with_reducible refine Kd.C_drewN ?_ _) | (with_reducible refine Kd.C_drew ?_))); (case side2 => exact HC0.out); rintro e w9 ⟨v277, rfl, ho0, hb⟩; refine ⟨_, rfl, ?_⟩; have n0_ := Aside0.mk (Kd.R_lower ho0 (below_size (by repeat (first | (with_reducible first | exact HB.out | apply below_alloc | apply pw_below_drewN | apply below_drew1) | exact HB.out)))); have n1_ := Aside0.mk (below_step (by repeat (first | (with_reducible first | exact HB.out | apply below_alloc | apply pw_below_drewN | apply below_drew1) | exact HB.out)) hb); clear HB; have HO278 := n0_; have HB := n1_; clear n0_ n1_; (try clear hb); (try clear hb2); (try clear hk); (try clear hi); (try clear ho0); obtain ⟨Ao10, co10, eo10⟩ := Kd.R_slice HO278.out; subst eo10) | ((with_reducible refine gate_callee (f := 60) rfl ?_); refine goesL_ (some 23) rfl rfl Try.func60 (by kernel_rfl) rfl #[.slice Ao10 t273.length co10, .int .i64 t274, .int .i64 t275, .int .i64 t276] rfl (by (try simp only [List.map_toArray, List.map_cons, List.map_nil]); first | done | rfl | (simp only [List.length_drop, List.length_take]; rfl)) ?_; (with_reducible refine (impl_IsCut.calls k _ _ t273 t274 t275 t276 t279 _ ?side1 ?side2 A5.out).mono ?_); (case side1 => repeat (first | exact (Kd.R_reads' HO278.out).2.2 | (with_reducible refine Kd.C_alloc ?_ _) | (with_reducible refine Kd.C_drewN ?_ _) | (with_reducible refine Kd.C_drew ?_))); (case side2 => exact (Kd.R_reads' HO278.out).2.1); rintro e w11 ⟨rfl, hb⟩; refine ⟨_, rfl, ?_⟩; have n0_ := Aside0.mk (Kd.R_below (by (with_reducible repeat (first | apply Kd.R_alloc | apply Kd.R_drewN | apply Kd.R_drew)); exact HO278.out) hb); have n1_ := Aside0.mk (below_step (by repeat (first | (with_reducible first | exact HB.out | apply below_alloc | apply pw_below_drewN | apply below_drew1) | exact HB.out)) hb); clear HO278; clear HB; have HO278 := n0_; have HB := n1_; clear n0_ n1_; (try clear hb); (try clear hb2); (try clear hk); (try clear hi)) | ((with_reducible refine gate_callee (f := 61) rfl ?_); refine goesL_ (some 28) rfl rfl Try.func61 (by kernel_rfl) rfl #[.slice Ao10 t273.length co10, .int .i64 t274, .int .i64 t275, .int .i64 t276] rfl (by (try simp only [List.map_toArray, List.map_cons, List.map_nil]); first | done | rfl | (simp only [List.length_drop, List.length_take]; rfl)) ?_; (with_reducible refine (spec_IsCut.calls k _ _ t273 t274 t275 t276 t280 _ ?side1 ?side2 A6.out).mono ?_); (case side1 => repeat (first | exact (Kd.R_reads' HO278.out).2.2 | (with_reducible refine Kd.C_alloc ?_ _) | (with_reducible refine Kd.C_drewN ?_ _) | (with_reducible refine Kd.C_drew ?_))); (case side2 => exact (Kd.R_reads' HO278.out).2.1); rintro e w12 ⟨rfl, hb⟩; refine ⟨_, rfl, ?_⟩; have n0_ := Aside0.mk (Kd.R_below (by (with_reducible repeat (first | apply Kd.R_alloc | apply Kd.R_drewN | apply Kd.R_drew)); exact HO278.out) hb); have n1_ := Aside0.mk (below_step (by repeat (first | (with_reducible first | exact HB.out | apply below_alloc | apply pw_below_drewN | apply below_drew1) | exact HB.out)) hb); clear HO278; clear HB; have HO278 := n0_; have HB := n1_; clear n0_ n1_; (try clear hb); (try clear hb2); (try clear hk); (try clear hi)))
      (try simp only [Act.put, List.setIfInBounds_toArray, List.set_cons_zero, List.set_cons_succ])
      go_cut [54] (fun v54 wc => ∃ (kq : Nat) (x54_7 : Bool), v54 = .bool x54_7 ∧ Aside0 (laws_FnFaults.j0 kq t273 t274 t276 x54_7 = some r) ∧ Aside0 (kq ≤ k) ∧ Aside0 (Kd.R k116 116 wc w.heap.size (fun _ => True) (.slice Ao10 t273.length co10) t273) ∧ Aside0 (Below w.heap.size w wc))
      case first =>
        have H := HC8.out
        clear HC8
        replace H := Option.bind_eq_some_iff.mp H
        obtain ⟨t281, A130, H⟩ := H
        replace H : ((impl_IsCut.f k t273 t275 t274 t276).bind fun t282 => (if (t281 != t282) = true then (laws_FnFaults.j0 k t273 t274 t276 true) else ((impl_IsDown.f k t273 t274 t276).bind fun t283 => (if t283 = true then ((impl_IsCut.f k t273 t274 t275 t276).bind fun t284 => (laws_FnFaults.j0 k t273 t274 t276 (!t284))) else (laws_FnFaults.j0 k t273 t274 t276 false))))) = some r := H
        have A13 := Aside0.mk A130
        clear A130
        replace H := Option.bind_eq_some_iff.mp H
        obtain ⟨t282, A140, H⟩ := H
        replace H : (if (t281 != t282) = true then (laws_FnFaults.j0 k t273 t274 t276 true) else ((impl_IsDown.f k t273 t274 t276).bind fun t283 => (if t283 = true then ((impl_IsCut.f k t273 t274 t275 t276).bind fun t284 => (laws_FnFaults.j0 k t273 t274 t276 (!t284))) else (laws_FnFaults.j0 k t273 t274 t276 false)))) = some r := H
        have A14 := Aside0.mk A140
        clear A140
        by_cases c15 : (t281 != t282) = true
        · rw [if_pos c15] at H
          have c15b0 : (t281 != t282) = true := c15
          (try (have c15b1 : decide (t281 = t282) = false := by simpa using c15))
          (try (have c15b2 : (t281 == t282) = false := by simpa using c15))
          (try (have c15b3 : ¬ (t281 = t282) := by simpa using c15))
          clear c15
          (first | rw [c15b0] | (simp only [i64_w, i32_w]; rw [c15b0]) | skip)
          have H' := Aside0.mk H
          clear H
          go_wp2_with (first | ((with_reducible refine gate_callee (f := 60) rfl ?_); refine goesL_ (some 34) rfl rfl Try.func60 (by kernel_rfl) rfl #[.slice Ao10 t273.length co10, .int .i64 t274, .int .i64 t275, .int .i64 t276] rfl (by (try simp only [List.map_toArray, List.map_cons, List.map_nil]); first | done | rfl | (simp only [List.length_drop, List.length_take]; rfl)) ?_; (with_reducible refine (impl_IsCut.calls k _ _ t273 t274 t275 t276 t281 _ ?side1 ?side2 A13.out).mono ?_); (case side1 => repeat (first | exact (Kd.R_reads' HO278.out).2.2 | (with_reducible refine Kd.C_alloc ?_ _) | (with_reducible refine Kd.C_drewN ?_ _) | (with_reducible refine Kd.C_drew ?_))); (case side2 => exact (Kd.R_reads' HO278.out).2.1); rintro e w16 ⟨rfl, hb⟩; refine ⟨_, rfl, ?_⟩; have n0_ := Aside0.mk (Kd.R_below (by (with_reducible repeat (first | apply Kd.R_alloc | apply Kd.R_drewN | apply Kd.R_drew)); exact HO278.out) hb); have n1_ := Aside0.mk (below_step (by repeat (first | (with_reducible first | exact HB.out | apply below_alloc | apply pw_below_drewN | apply below_drew1) | exact HB.out)) hb); clear HO278; clear HB; have HO278 := n0_; have HB := n1_; clear n0_ n1_; (try clear hb); (try clear hb2); (try clear hk); (try clear hi)) | ((with_reducible refine gate_callee (f := 60) rfl ?_); refine goesL_ (some 39) rfl rfl Try.func60 (by kernel_rfl) rfl #[.slice Ao10 t273.length co10, .int .i64 t275, .int .i64 t274, .int .i64 t276] rfl (by (try simp only [List.map_toArray, List.map_cons, List.map_nil]); first | done | rfl | (simp only [List.length_drop, List.length_take]; rfl)) ?_; (with_reducible refine (impl_IsCut.calls k _ _ t273 t275 t274 t276 t282 _ ?side1 ?side2 A14.out).mono ?_); (case side1 => repeat (first | exact (Kd.R_reads' HO278.out).2.2 | (with_reducible refine Kd.C_alloc ?_ _) | (with_reducible refine Kd.C_drewN ?_ _) | (with_reducible refine Kd.C_drew ?_))); (case side2 => exact (Kd.R_reads' HO278.out).2.1); rintro e w17 ⟨rfl, hb⟩; refine ⟨_, rfl, ?_⟩; have n0_ := Aside0.mk (Kd.R_below (by (with_reducible repeat (first | apply Kd.R_alloc | apply Kd.R_drewN | apply Kd.R_drew)); exact HO278.out) hb); have n1_ := Aside0.mk (below_step (by repeat (first | (with_reducible first | exact HB.out | apply below_alloc | apply pw_below_drewN | apply below_drew1) | exact HB.out)) hb); clear HO278; clear HB; have HO278 := n0_; have HB := n1_; clear n0_ n1_; (try clear hb); (try clear hb2); (try clear hk); (try clear hi)))
          go_meet
          case rel => exact ⟨_, (true), (by first | rfl | (simp; done) | (simp [*]; done)), H', ⟨by first | omega | exact Nat.le_refl _⟩, ⟨by (with_reducible repeat (first | apply Kd.R_alloc | apply Kd.R_drewN | apply Kd.R_drew)); exact HO278.out⟩, ⟨by repeat (first | (with_reducible first | exact HB.out | apply below_alloc | apply pw_below_drewN | apply below_drew1) | exact HB.out)⟩⟩
        · rw [if_neg c15] at H
          have c15b0 : (t281 != t282) = false := by simpa using c15
          (try (have c15b1 : decide (t281 = t282) = true := by simpa using c15))
          (try (have c15b2 : (t281 == t282) = true := by simpa using c15))
          clear c15
          (first | rw [c15b0] | (simp only [i64_w, i32_w]; rw [c15b0]) | skip)
          replace H := Option.bind_eq_some_iff.mp H
          obtain ⟨t283, A180, H⟩ := H
          replace H : (if t283 = true then ((impl_IsCut.f k t273 t274 t275 t276).bind fun t284 => (laws_FnFaults.j0 k t273 t274 t276 (!t284))) else (laws_FnFaults.j0 k t273 t274 t276 false)) = some r := H
          have A18 := Aside0.mk A180
          clear A180
          by_cases c19 : t283 = true
          · subst c19
            have H1 : ((impl_IsCut.f k t273 t274 t275 t276).bind fun t284 => (laws_FnFaults.j0 k t273 t274 t276 (!t284))) = some r := by rw [if_pos rfl] at H; exact H
            clear H
            have H := H1
            clear H1
            replace H := Option.bind_eq_some_iff.mp H
            obtain ⟨t284, A200, H⟩ := H
            replace H : (laws_FnFaults.j0 k t273 t274 t276 (!t284)) = some r := H
            have A20 := Aside0.mk A200
            clear A200
            have H' := Aside0.mk H
            clear H
            go_wp2_with (first | ((with_reducible refine gate_callee (f := 60) rfl ?_); refine goesL_ (some 34) rfl rfl Try.func60 (by kernel_rfl) rfl #[.slice Ao10 t273.length co10, .int .i64 t274, .int .i64 t275, .int .i64 t276] rfl (by (try simp only [List.map_toArray, List.map_cons, List.map_nil]); first | done | rfl | (simp only [List.length_drop, List.length_take]; rfl)) ?_; (with_reducible refine (impl_IsCut.calls k _ _ t273 t274 t275 t276 t281 _ ?side1 ?side2 A13.out).mono ?_); (case side1 => repeat (first | exact (Kd.R_reads' HO278.out).2.2 | (with_reducible refine Kd.C_alloc ?_ _) | (with_reducible refine Kd.C_drewN ?_ _) | (with_reducible refine Kd.C_drew ?_))); (case side2 => exact (Kd.R_reads' HO278.out).2.1); rintro e w21 ⟨rfl, hb⟩; refine ⟨_, rfl, ?_⟩; have n0_ := Aside0.mk (Kd.R_below (by (with_reducible repeat (first | apply Kd.R_alloc | apply Kd.R_drewN | apply Kd.R_drew)); exact HO278.out) hb); have n1_ := Aside0.mk (below_step (by repeat (first | (with_reducible first | exact HB.out | apply below_alloc | apply pw_below_drewN | apply below_drew1) | exact HB.out)) hb); clear HO278; clear HB; have HO278 := n0_; have HB := n1_; clear n0_ n1_; (try clear hb); (try clear hb2); (try clear hk); (try clear hi)) | ((with_reducible refine gate_callee (f := 60) rfl ?_); refine goesL_ (some 39) rfl rfl Try.func60 (by kernel_rfl) rfl #[.slice Ao10 t273.length co10, .int .i64 t275, .int .i64 t274, .int .i64 t276] rfl (by (try simp only [List.map_toArray, List.map_cons, List.map_nil]); first | done | rfl | (simp only [List.length_drop, List.length_take]; rfl)) ?_; (with_reducible refine (impl_IsCut.calls k _ _ t273 t275 t274 t276 t282 _ ?side1 ?side2 A14.out).mono ?_); (case side1 => repeat (first | exact (Kd.R_reads' HO278.out).2.2 | (with_reducible refine Kd.C_alloc ?_ _) | (with_reducible refine Kd.C_drewN ?_ _) | (with_reducible refine Kd.C_drew ?_))); (case side2 => exact (Kd.R_reads' HO278.out).2.1); rintro e w22 ⟨rfl, hb⟩; refine ⟨_, rfl, ?_⟩; have n0_ := Aside0.mk (Kd.R_below (by (with_reducible repeat (first | apply Kd.R_alloc | apply Kd.R_drewN | apply Kd.R_drew)); exact HO278.out) hb); have n1_ := Aside0.mk (below_step (by repeat (first | (with_reducible first | exact HB.out | apply below_alloc | apply pw_below_drewN | apply below_drew1) | exact HB.out)) hb); clear HO278; clear HB; have HO278 := n0_; have HB := n1_; clear n0_ n1_; (try clear hb); (try clear hb2); (try clear hk); (try clear hi)) | (go_at_call 62; (with_reducible refine (impl_IsDown.calls k _ _ t273 t274 t276 true _ ?side1 ?side2 A18.out).mono ?_); (case side1 => repeat (first | exact (Kd.R_reads' HO278.out).2.2 | (with_reducible refine Kd.C_alloc ?_ _) | (with_reducible refine Kd.C_drewN ?_ _) | (with_reducible refine Kd.C_drew ?_))); (case side2 => exact (Kd.R_reads' HO278.out).2.1); rintro e w23 ⟨rfl, hb⟩; have n0_ := Aside0.mk (Kd.R_below (by (with_reducible repeat (first | apply Kd.R_alloc | apply Kd.R_drewN | apply Kd.R_drew)); exact HO278.out) hb); have n1_ := Aside0.mk (below_step (by repeat (first | (with_reducible first | exact HB.out | apply below_alloc | apply pw_below_drewN | apply below_drew1) | exact HB.out)) hb); clear HO278; clear HB; have HO278 := n0_; have HB := n1_; clear n0_ n1_; (try clear hb); (try clear hb2); (try clear hk); (try clear hi)) | (go_at_call 60; (with_reducible refine (impl_IsCut.calls k _ _ t273 t274 t275 t276 t284 _ ?side1 ?side2 A20.out).mono ?_); (case side1 => repeat (first | exact (Kd.R_reads' HO278.out).2.2 | (with_reducible refine Kd.C_alloc ?_ _) | (with_reducible refine Kd.C_drewN ?_ _) | (with_reducible refine Kd.C_drew ?_))); (case side2 => exact (Kd.R_reads' HO278.out).2.1); rintro e w24 ⟨rfl, hb⟩; have n0_ := Aside0.mk (Kd.R_below (by (with_reducible repeat (first | apply Kd.R_alloc | apply Kd.R_drewN | apply Kd.R_drew)); exact HO278.out) hb); have n1_ := Aside0.mk (below_step (by repeat (first | (with_reducible first | exact HB.out | apply below_alloc | apply pw_below_drewN | apply below_drew1) | exact HB.out)) hb); clear HO278; clear HB; have HO278 := n0_; have HB := n1_; clear n0_ n1_; (try clear hb); (try clear hb2); (try clear hk); (try clear hi)))
            go_meet
            case rel => exact ⟨_, (!t284), (by first | rfl | (simp; done) | (simp [*]; done)), H', ⟨by first | omega | exact Nat.le_refl _⟩, ⟨by (with_reducible repeat (first | apply Kd.R_alloc | apply Kd.R_drewN | apply Kd.R_drew)); exact HO278.out⟩, ⟨by repeat (first | (with_reducible first | exact HB.out | apply below_alloc | apply pw_below_drewN | apply below_drew1) | exact HB.out)⟩⟩
          · replace c19 := Bool.eq_false_iff.mpr c19
            subst c19
            have H1 : (laws_FnFaults.j0 k t273 t274 t276 false) = some r := by rw [if_neg (show ¬ (false = true) by decide)] at H; exact H
            clear H
            have H := H1
            clear H1
            have H' := Aside0.mk H
            clear H
            go_wp2_with (first | ((with_reducible refine gate_callee (f := 60) rfl ?_); refine goesL_ (some 34) rfl rfl Try.func60 (by kernel_rfl) rfl #[.slice Ao10 t273.length co10, .int .i64 t274, .int .i64 t275, .int .i64 t276] rfl (by (try simp only [List.map_toArray, List.map_cons, List.map_nil]); first | done | rfl | (simp only [List.length_drop, List.length_take]; rfl)) ?_; (with_reducible refine (impl_IsCut.calls k _ _ t273 t274 t275 t276 t281 _ ?side1 ?side2 A13.out).mono ?_); (case side1 => repeat (first | exact (Kd.R_reads' HO278.out).2.2 | (with_reducible refine Kd.C_alloc ?_ _) | (with_reducible refine Kd.C_drewN ?_ _) | (with_reducible refine Kd.C_drew ?_))); (case side2 => exact (Kd.R_reads' HO278.out).2.1); rintro e w25 ⟨rfl, hb⟩; refine ⟨_, rfl, ?_⟩; have n0_ := Aside0.mk (Kd.R_below (by (with_reducible repeat (first | apply Kd.R_alloc | apply Kd.R_drewN | apply Kd.R_drew)); exact HO278.out) hb); have n1_ := Aside0.mk (below_step (by repeat (first | (with_reducible first | exact HB.out | apply below_alloc | apply pw_below_drewN | apply below_drew1) | exact HB.out)) hb); clear HO278; clear HB; have HO278 := n0_; have HB := n1_; clear n0_ n1_; (try clear hb); (try clear hb2); (try clear hk); (try clear hi)) | ((with_reducible refine gate_callee (f := 60) rfl ?_); refine goesL_ (some 39) rfl rfl Try.func60 (by kernel_rfl) rfl #[.slice Ao10 t273.length co10, .int .i64 t275, .int .i64 t274, .int .i64 t276] rfl (by (try simp only [List.map_toArray, List.map_cons, List.map_nil]); first | done | rfl | (simp only [List.length_drop, List.length_take]; rfl)) ?_; (with_reducible refine (impl_IsCut.calls k _ _ t273 t275 t274 t276 t282 _ ?side1 ?side2 A14.out).mono ?_); (case side1 => repeat (first | exact (Kd.R_reads' HO278.out).2.2 | (with_reducible refine Kd.C_alloc ?_ _) | (with_reducible refine Kd.C_drewN ?_ _) | (with_reducible refine Kd.C_drew ?_))); (case side2 => exact (Kd.R_reads' HO278.out).2.1); rintro e w26 ⟨rfl, hb⟩; refine ⟨_, rfl, ?_⟩; have n0_ := Aside0.mk (Kd.R_below (by (with_reducible repeat (first | apply Kd.R_alloc | apply Kd.R_drewN | apply Kd.R_drew)); exact HO278.out) hb); have n1_ := Aside0.mk (below_step (by repeat (first | (with_reducible first | exact HB.out | apply below_alloc | apply pw_below_drewN | apply below_drew1) | exact HB.out)) hb); clear HO278; clear HB; have HO278 := n0_; have HB := n1_; clear n0_ n1_; (try clear hb); (try clear hb2); (try clear hk); (try clear hi)) | (go_at_call 62; (with_reducible refine (impl_IsDown.calls k _ _ t273 t274 t276 false _ ?side1 ?side2 A18.out).mono ?_); (case side1 => repeat (first | exact (Kd.R_reads' HO278.out).2.2 | (with_reducible refine Kd.C_alloc ?_ _) | (with_reducible refine Kd.C_drewN ?_ _) | (with_reducible refine Kd.C_drew ?_))); (case side2 => exact (Kd.R_reads' HO278.out).2.1); rintro e w27 ⟨rfl, hb⟩; have n0_ := Aside0.mk (Kd.R_below (by (with_reducible repeat (first | apply Kd.R_alloc | apply Kd.R_drewN | apply Kd.R_drew)); exact HO278.out) hb); have n1_ := Aside0.mk (below_step (by repeat (first | (with_reducible first | exact HB.out | apply below_alloc | apply pw_below_drewN | apply below_drew1) | exact HB.out)) hb); clear HO278; clear HB; have HO278 := n0_; have HB := n1_; clear n0_ n1_; (try clear hb); (try clear hb2); (try clear hk); (try clear hi)))
            go_meet
            case rel => exact ⟨_, (false), (by first | rfl | (simp; done) | (simp [*]; done)), H', ⟨by first | omega | exact Nat.le_refl _⟩, ⟨by (with_reducible repeat (first | apply Kd.R_alloc | apply Kd.R_drewN | apply Kd.R_drew)); exact HO278.out⟩, ⟨by repeat (first | (with_reducible first | exact HB.out | apply below_alloc | apply pw_below_drewN | apply below_drew1) | exact HB.out)⟩⟩
      case rest =>
        clear HC8
        try clear c1
        try clear p2
        try clear c3
        try clear c5
        try clear c6
        try clear c7
        try clear c7b0
        try clear c7b1
        try clear c7b2
        try clear c12
        try clear c15
        try clear c15b0
        try clear c15b1
        try clear c15b2
        try clear c19
        obtain ⟨kq, x54_7, rfl, HA, HJ7, HO_3, HB⟩ := hcut
        cases kq with
        | zero => exact absurd HA.out (by simp [laws_FnFaults.j0])
        | succ kj7 =>
          have H := HA.out
          clear HA
          simp only [laws_FnFaults.j0] at H
          by_cases c28 : x54_7 = true
          · subst c28
            have H1 : (some false) = some r := by rw [if_pos rfl] at H; exact H
            clear H
            have H := H1
            clear H1
            exact absurd ((Option.some.inj H).trans HTRUE.out) (by decide)
          · replace c28 := Bool.eq_false_iff.mpr c28
            subst c28
            have H1 : ((impl_LastFault.f kj7 t273).bind fun t285 => ((impl_DeadFor.f kj7 t273 t274 t276 5).bind fun t286 => (laws_FnFaults.l0 kj7 t273 t274 t276 t285 t286 0))) = some r := by rw [if_neg (show ¬ (false = true) by decide)] at H; exact H
            clear H
            have H := H1
            clear H1
            replace H := Option.bind_eq_some_iff.mp H
            obtain ⟨t285, A290, H⟩ := H
            replace H : ((impl_DeadFor.f kj7 t273 t274 t276 5).bind fun t286 => (laws_FnFaults.l0 kj7 t273 t274 t276 t285 t286 0)) = some r := H
            have A29 := Aside0.mk A290
            clear A290
            replace H := Option.bind_eq_some_iff.mp H
            obtain ⟨t286, A300, H⟩ := H
            replace H : (laws_FnFaults.l0 kj7 t273 t274 t276 t285 t286 0) = some r := H
            have A30 := Aside0.mk A300
            clear A300
            have H' := Aside0.mk H
            clear H
            go_wp2_with (first | ((with_reducible refine gate_callee (f := 63) rfl ?_); refine goesL_ (some 56) rfl rfl Try.func63 (by kernel_rfl) rfl #[.slice Ao10 t273.length co10] rfl (by (try simp only [List.map_toArray, List.map_cons, List.map_nil]); first | done | rfl | (simp only [List.length_drop, List.length_take]; rfl)) ?_; (with_reducible refine (impl_LastFault.calls kj7 _ _ t273 t285 _ ?side1 ?side2 A29.out).mono ?_); (case side1 => repeat (first | exact (Kd.R_reads' HO_3.out).2.2 | (with_reducible refine Kd.C_alloc ?_ _) | (with_reducible refine Kd.C_drewN ?_ _) | (with_reducible refine Kd.C_drew ?_))); (case side2 => exact (Kd.R_reads' HO_3.out).2.1); rintro e w31 ⟨rfl, hb⟩; refine ⟨_, rfl, ?_⟩; have n0_ := Aside0.mk (Kd.R_below (by (with_reducible repeat (first | apply Kd.R_alloc | apply Kd.R_drewN | apply Kd.R_drew)); exact HO_3.out) hb); have n1_ := Aside0.mk (below_step (by repeat (first | (with_reducible first | exact HB.out | apply below_alloc | apply pw_below_drewN | apply below_drew1) | exact HB.out)) hb); clear HO_3; clear HB; have HO_3 := n0_; have HB := n1_; clear n0_ n1_; (try clear hb); (try clear hb2); (try clear hk); (try clear hi)) | ((with_reducible refine gate_callee (f := 35) rfl ?_); refine goesL_ (some 60) rfl rfl Try.func35 (by kernel_rfl) rfl #[.slice Ao10 t273.length co10, .int .i64 t274, .int .i64 t276, .int .i64 5] rfl (by (try simp only [List.map_toArray, List.map_cons, List.map_nil]); first | done | rfl | (simp only [List.length_drop, List.length_take]; rfl)) ?_; (with_reducible refine (impl_DeadFor.calls kj7 _ _ t273 t274 t276 5 t286 _ ?side1 ?side2 A30.out).mono ?_); (case side1 => repeat (first | exact (Kd.R_reads' HO_3.out).2.2 | (with_reducible refine Kd.C_alloc ?_ _) | (with_reducible refine Kd.C_drewN ?_ _) | (with_reducible refine Kd.C_drew ?_))); (case side2 => exact (Kd.R_reads' HO_3.out).2.1); rintro e w32 ⟨v287, rfl, ho0, hb⟩; refine ⟨_, rfl, ?_⟩; have n0_ := Aside0.mk (Kd.R_below (by (with_reducible repeat (first | apply Kd.R_alloc | apply Kd.R_drewN | apply Kd.R_drew)); exact HO_3.out) hb); have n1_ := Aside0.mk (Kd.R_lower ho0 (below_size (by repeat (first | (with_reducible first | exact HB.out | apply below_alloc | apply pw_below_drewN | apply below_drew1) | exact HB.out)))); have n2_ := Aside0.mk (below_step (by repeat (first | (with_reducible first | exact HB.out | apply below_alloc | apply pw_below_drewN | apply below_drew1) | exact HB.out)) hb); clear HO_3; clear HB; have HO_3 := n0_; have HO288 := n1_; have HB := n2_; clear n0_ n1_ n2_; (try clear hb); (try clear hb2); (try clear hk); (try clear hi); (try clear ho0)))
            go_loopg [9] kj7 (fun kq v9 w' => ∃ (x9_2 : Int), v9 = .int .i64 x9_2 ∧ Aside0 (laws_FnFaults.l0 kq t273 t274 t276 t285 t286 x9_2 = some r) ∧ Aside0 (kq ≤ kj7) ∧ Aside0 (Kd.R k116 116 w' w.heap.size (fun _ => True) (.slice Ao10 t273.length co10) t273) ∧ Aside0 (Kd.R (Kd.int .i64) 3 w' w.heap.size (fun _ => True) v287 t286) ∧ Aside0 (Below w.heap.size w w'))
            case atStart => exact ⟨(0), (by first | rfl | (simp; done) | (simp [*]; done)), H', ⟨Nat.le_refl _⟩, ⟨by (with_reducible repeat (first | apply Kd.R_alloc | apply Kd.R_drewN | apply Kd.R_drew)); exact HO_3.out⟩, ⟨by (with_reducible repeat (first | apply Kd.R_alloc | apply Kd.R_drewN | apply Kd.R_drew)); exact HO288.out⟩, ⟨by repeat (first | (with_reducible first | exact HB.out | apply below_alloc | apply pw_below_drewN | apply below_drew1) | exact HB.out)⟩⟩
            case round =>
              clear H'
              try clear c1
              try clear c2
              try clear p2
              try clear c3
              try clear c5
              try clear c6
              try clear c7
              try clear c7b0
              try clear c7b1
              try clear c7b2
              try clear c12
              try clear c15
              try clear c15b0
              try clear c15b1
              try clear c15b2
              try clear c19
              try clear c28
              try clear p2
              obtain ⟨x9_2, rfl, HA, HK2, HO_3, HO_8, HB⟩ := hrel
              cases gk with
              | zero => exact absurd HA.out (by simp [laws_FnFaults.l0])
              | succ k2 =>
                have H := HA.out
                clear HA
                simp only [laws_FnFaults.l0] at H
                by_cases c33 : x9_2 < 5
                · rw [if_pos c33] at H
                  have c33b0 : decide (x9_2 < 5) = true := decide_eq_true c33
                  clear c33
                  replace H := Option.bind_eq_some_iff.mp H
                  obtain ⟨t291, A340, H⟩ := H
                  replace H : (if x9_2 = t274 then (if (t291 != false) = true then (some false) else ((impl_IsCut.f k2 t273 t274 x9_2 t285).bind fun t292 => (if t292 = true then (some false) else (laws_FnFaults.l0 k2 t273 t274 t276 t285 t286 (wrap64 (x9_2 + 1)))))) else ((impl_IsCut.f k2 t273 t274 x9_2 t276).bind fun t293 => (if (t291 != t293) = true then (some false) else ((impl_IsCut.f k2 t273 t274 x9_2 t285).bind fun t294 => (if t294 = true then (some false) else (laws_FnFaults.l0 k2 t273 t274 t276 t285 t286 (wrap64 (x9_2 + 1)))))))) = some r := H
                  have A34 := Aside0.mk A340
                  clear A340
                  by_cases c35 : x9_2 = t274
                  · rw [if_pos c35] at H
                    have c35b0 : (x9_2 == t274) = true := beq_iff_eq.mpr c35
                    have c35b1 : (x9_2 != t274) = false := bne_eq_false_iff_eq.mpr c35
                    clear c35
                    by_cases c36 : (t291 != false) = true
                    · rw [if_pos c36] at H
                      have c36b0 : (t291 != false) = true := c36
                      (try (have c36b1 : decide (t291 = false) = false := by simpa using c36))
                      (try (have c36b2 : (t291 == false) = false := by simpa using c36))
                      (try (have c36b3 : ¬ (t291 = false) := by simpa using c36))
                      clear c36
                      exact absurd ((Option.some.inj H).trans HTRUE.out) (by decide)
                    · rw [if_neg c36] at H
                      have c36b0 : (t291 != false) = false := by simpa using c36
                      (try (have c36b1 : decide (t291 = false) = true := by simpa using c36))
                      (try (have c36b2 : (t291 == false) = true := by simpa using c36))
                      clear c36
                      replace H := Option.bind_eq_some_iff.mp H
                      obtain ⟨t292, A370, H⟩ := H
                      replace H : (if t292 = true then (some false) else (laws_FnFaults.l0 k2 t273 t274 t276 t285 t286 (wrap64 (x9_2 + 1)))) = some r := H
                      have A37 := Aside0.mk A370
                      clear A370
                      by_cases c38 : t292 = true
                      · subst c38
                        have H1 : (some false) = some r := by rw [if_pos rfl] at H; exact H
                        clear H
                        have H := H1
                        clear H1
                        exact absurd ((Option.some.inj H).trans HTRUE.out) (by decide)
                      · replace c38 := Bool.eq_false_iff.mpr c38
                        subst c38
                        have H1 : (laws_FnFaults.l0 k2 t273 t274 t276 t285 t286 (wrap64 (x9_2 + 1))) = some r := by rw [if_neg (show ¬ (false = true) by decide)] at H; exact H
                        clear H
                        have H := H1
                        clear H1
                        have H' := Aside0.mk H
                        clear H
                        obtain ⟨Ao39, co39, eo39⟩ := Kd.R_slice HO_8.out
                        subst eo39
                        go_wp2_with (first | ((with_reducible refine gate_callee (f := 64) rfl ?_); refine goesL_ (some 67) rfl rfl Try.func64 (by kernel_rfl) rfl #[.slice Ao39 t286.length co39, .int .i64 x9_2] rfl (by (try simp only [List.map_toArray, List.map_cons, List.map_nil]); first | done | rfl | (simp only [List.length_drop, List.length_take]; rfl)) ?_; (with_reducible refine (laws_contains.calls k2 _ _ t286 x9_2 t291 _ ?side1 ?side2 A34.out).mono ?_); (case side1 => repeat (first | exact (Kd.R_reads' HO_8.out).2.2 | (with_reducible refine Kd.C_alloc ?_ _) | (with_reducible refine Kd.C_drewN ?_ _) | (with_reducible refine Kd.C_drew ?_))); (case side2 => exact (Kd.R_reads' HO_8.out).2.1); rintro e w' ⟨rfl, ⟨nd, rfl⟩⟩; refine ⟨_, rfl, ?_⟩) | (go_at_call 60; (with_reducible refine (impl_IsCut.calls k2 _ _ t273 t274 x9_2 t285 false _ ?side1 ?side2 A37.out).mono ?_); (case side1 => repeat (first | exact (Kd.R_reads' HO_3.out).2.2 | (with_reducible refine Kd.C_alloc ?_ _) | (with_reducible refine Kd.C_drewN ?_ _) | (with_reducible refine Kd.C_drew ?_))); (case side2 => exact (Kd.R_reads' HO_3.out).2.1); rintro e w40 ⟨rfl, hb⟩; have n0_ := Aside0.mk (Kd.R_below (by (with_reducible repeat (first | apply Kd.R_alloc | apply Kd.R_drewN | apply Kd.R_drew)); exact HO_3.out) hb); have n1_ := Aside0.mk (Kd.R_below (by (with_reducible repeat (first | apply Kd.R_alloc | apply Kd.R_drewN | apply Kd.R_drew)); exact HO_8.out) hb); have n2_ := Aside0.mk (below_step (by repeat (first | (with_reducible first | exact HB.out | apply below_alloc | apply pw_below_drewN | apply below_drew1) | exact HB.out)) hb); clear HO_3; clear HO_8; clear HB; have HO_3 := n0_; have HO_8 := n1_; have HB := n2_; clear n0_ n1_ n2_; (try clear hb); (try clear hb2); (try clear hk); (try clear hi)))
                        go_roundg k2
                        case measure => have := HJ7.out; have := HK2.out; omega
                        case rel => exact ⟨(wrap64 (x9_2 + 1)), (by first | rfl | (simp; done) | (simp [*]; done)), H', ⟨by have := HJ7.out; have := HK2.out; omega⟩, ⟨by (with_reducible repeat (first | apply Kd.R_alloc | apply Kd.R_drewN | apply Kd.R_drew)); exact HO_3.out⟩, ⟨by (with_reducible repeat (first | apply Kd.R_alloc | apply Kd.R_drewN | apply Kd.R_drew)); exact HO_8.out⟩, ⟨by repeat (first | (with_reducible first | exact HB.out | apply below_alloc | apply pw_below_drewN | apply below_drew1) | exact HB.out)⟩⟩
                  · rw [if_neg c35] at H
                    have c35b0 : (x9_2 == t274) = false := beq_eq_false_iff_ne.mpr c35
                    have c35b1 : (x9_2 != t274) = true := bne_iff_ne.mpr c35
                    replace H := Option.bind_eq_some_iff.mp H
                    obtain ⟨t293, A410, H⟩ := H
                    replace H : (if (t291 != t293) = true then (some false) else ((impl_IsCut.f k2 t273 t274 x9_2 t285).bind fun t294 => (if t294 = true then (some false) else (laws_FnFaults.l0 k2 t273 t274 t276 t285 t286 (wrap64 (x9_2 + 1)))))) = some r := H
                    have A41 := Aside0.mk A410
                    clear A410
                    by_cases c42 : (t291 != t293) = true
                    · rw [if_pos c42] at H
                      have c42b0 : (t291 != t293) = true := c42
                      (try (have c42b1 : decide (t291 = t293) = false := by simpa using c42))
                      (try (have c42b2 : (t291 == t293) = false := by simpa using c42))
                      (try (have c42b3 : ¬ (t291 = t293) := by simpa using c42))
                      clear c42
                      exact absurd ((Option.some.inj H).trans HTRUE.out) (by decide)
                    · rw [if_neg c42] at H
                      have c42b0 : (t291 != t293) = false := by simpa using c42
                      (try (have c42b1 : decide (t291 = t293) = true := by simpa using c42))
                      (try (have c42b2 : (t291 == t293) = true := by simpa using c42))
                      clear c42
                      replace H := Option.bind_eq_some_iff.mp H
                      obtain ⟨t294, A430, H⟩ := H
                      replace H : (if t294 = true then (some false) else (laws_FnFaults.l0 k2 t273 t274 t276 t285 t286 (wrap64 (x9_2 + 1)))) = some r := H
                      have A43 := Aside0.mk A430
                      clear A430
                      by_cases c44 : t294 = true
                      · subst c44
                        have H1 : (some false) = some r := by rw [if_pos rfl] at H; exact H
                        clear H
                        have H := H1
                        clear H1
                        exact absurd ((Option.some.inj H).trans HTRUE.out) (by decide)
                      · replace c44 := Bool.eq_false_iff.mpr c44
                        subst c44
                        have H1 : (laws_FnFaults.l0 k2 t273 t274 t276 t285 t286 (wrap64 (x9_2 + 1))) = some r := by rw [if_neg (show ¬ (false = true) by decide)] at H; exact H
                        clear H
                        have H := H1
                        clear H1
                        have H' := Aside0.mk H
                        clear H
                        obtain ⟨Ao45, co45, eo45⟩ := Kd.R_slice HO_8.out
                        subst eo45
                        go_wp2_with (first | ((with_reducible refine gate_callee (f := 64) rfl ?_); refine goesL_ (some 67) rfl rfl Try.func64 (by kernel_rfl) rfl #[.slice Ao45 t286.length co45, .int .i64 x9_2] rfl (by (try simp only [List.map_toArray, List.map_cons, List.map_nil]); first | done | rfl | (simp only [List.length_drop, List.length_take]; rfl)) ?_; (with_reducible refine (laws_contains.calls k2 _ _ t286 x9_2 t291 _ ?side1 ?side2 A34.out).mono ?_); (case side1 => repeat (first | exact (Kd.R_reads' HO_8.out).2.2 | (with_reducible refine Kd.C_alloc ?_ _) | (with_reducible refine Kd.C_drewN ?_ _) | (with_reducible refine Kd.C_drew ?_))); (case side2 => exact (Kd.R_reads' HO_8.out).2.1); rintro e w' ⟨rfl, ⟨nd, rfl⟩⟩; refine ⟨_, rfl, ?_⟩) | (go_at_call 60; (with_reducible refine (impl_IsCut.calls k2 _ _ t273 t274 x9_2 t276 t293 _ ?side1 ?side2 A41.out).mono ?_); (case side1 => repeat (first | exact (Kd.R_reads' HO_3.out).2.2 | (with_reducible refine Kd.C_alloc ?_ _) | (with_reducible refine Kd.C_drewN ?_ _) | (with_reducible refine Kd.C_drew ?_))); (case side2 => exact (Kd.R_reads' HO_3.out).2.1); rintro e w46 ⟨rfl, hb⟩; have n0_ := Aside0.mk (Kd.R_below (by (with_reducible repeat (first | apply Kd.R_alloc | apply Kd.R_drewN | apply Kd.R_drew)); exact HO_3.out) hb); have n1_ := Aside0.mk (Kd.R_below (by (with_reducible repeat (first | apply Kd.R_alloc | apply Kd.R_drewN | apply Kd.R_drew)); exact HO_8.out) hb); have n2_ := Aside0.mk (below_step (by repeat (first | (with_reducible first | exact HB.out | apply below_alloc | apply pw_below_drewN | apply below_drew1) | exact HB.out)) hb); clear HO_3; clear HO_8; clear HB; have HO_3 := n0_; have HO_8 := n1_; have HB := n2_; clear n0_ n1_ n2_; (try clear hb); (try clear hb2); (try clear hk); (try clear hi)) | (go_at_call 60; (with_reducible refine (impl_IsCut.calls k2 _ _ t273 t274 x9_2 t285 false _ ?side1 ?side2 A43.out).mono ?_); (case side1 => repeat (first | exact (Kd.R_reads' HO_3.out).2.2 | (with_reducible refine Kd.C_alloc ?_ _) | (with_reducible refine Kd.C_drewN ?_ _) | (with_reducible refine Kd.C_drew ?_))); (case side2 => exact (Kd.R_reads' HO_3.out).2.1); rintro e w47 ⟨rfl, hb⟩; have n0_ := Aside0.mk (Kd.R_below (by (with_reducible repeat (first | apply Kd.R_alloc | apply Kd.R_drewN | apply Kd.R_drew)); exact HO_3.out) hb); have n1_ := Aside0.mk (Kd.R_below (by (with_reducible repeat (first | apply Kd.R_alloc | apply Kd.R_drewN | apply Kd.R_drew)); exact HO_8.out) hb); have n2_ := Aside0.mk (below_step (by repeat (first | (with_reducible first | exact HB.out | apply below_alloc | apply pw_below_drewN | apply below_drew1) | exact HB.out)) hb); clear HO_3; clear HO_8; clear HB; have HO_3 := n0_; have HO_8 := n1_; have HB := n2_; clear n0_ n1_ n2_; (try clear hb); (try clear hb2); (try clear hk); (try clear hi)))
                        go_roundg k2
                        case measure => have := HJ7.out; have := HK2.out; omega
                        case rel => exact ⟨(wrap64 (x9_2 + 1)), (by first | rfl | (simp; done) | (simp [*]; done)), H', ⟨by have := HJ7.out; have := HK2.out; omega⟩, ⟨by (with_reducible repeat (first | apply Kd.R_alloc | apply Kd.R_drewN | apply Kd.R_drew)); exact HO_3.out⟩, ⟨by (with_reducible repeat (first | apply Kd.R_alloc | apply Kd.R_drewN | apply Kd.R_drew)); exact HO_8.out⟩, ⟨by repeat (first | (with_reducible first | exact HB.out | apply below_alloc | apply pw_below_drewN | apply below_drew1) | exact HB.out)⟩⟩
                · rw [if_neg c33] at H
                  have c33b0 : decide (x9_2 < 5) = false := decide_eq_false c33
                  clear c33
                  replace H := Option.bind_eq_some_iff.mp H
                  obtain ⟨t289, A480, H⟩ := H
                  replace H : (if t289 ≤ 5 then ((impl_CountDown.f k2 t273 t285 5).bind fun t290 => (some (t290 == 0))) else (some false)) = some r := H
                  have A48 := Aside0.mk A480
                  clear A480
                  by_cases c49 : t289 ≤ 5
                  · rw [if_pos c49] at H
                    have c49b0 : decide (t289 ≤ 5) = true := decide_eq_true c49
                    clear c49
                    replace H := Option.bind_eq_some_iff.mp H
                    obtain ⟨t290, A500, H⟩ := H
                    replace H : (some (t290 == 0)) = some r := H
                    have A50 := Aside0.mk A500
                    clear A500
                    obtain rfl := Option.some.inj H
                    go_wp2_with (first | ((with_reducible refine gate_callee (f := 32) rfl ?_); refine goesL_ (some 88) rfl rfl Try.func32 (by kernel_rfl) rfl #[.slice Ao10 t273.length co10, .int .i64 t276, .int .i64 5] rfl (by (try simp only [List.map_toArray, List.map_cons, List.map_nil]); first | done | rfl | (simp only [List.length_drop, List.length_take]; rfl)) ?_; (with_reducible refine (impl_CountDown.calls k2 _ _ t273 t276 5 t289 _ ?side1 ?side2 A48.out).mono ?_); (case side1 => repeat (first | exact (Kd.R_reads' HO_3.out).2.2 | (with_reducible refine Kd.C_alloc ?_ _) | (with_reducible refine Kd.C_drewN ?_ _) | (with_reducible refine Kd.C_drew ?_))); (case side2 => exact (Kd.R_reads' HO_3.out).2.1); rintro e w51 ⟨rfl, hb⟩; refine ⟨_, rfl, ?_⟩; have n0_ := Aside0.mk (Kd.R_below (by (with_reducible repeat (first | apply Kd.R_alloc | apply Kd.R_drewN | apply Kd.R_drew)); exact HO_3.out) hb); have n1_ := Aside0.mk (Kd.R_below (by (with_reducible repeat (first | apply Kd.R_alloc | apply Kd.R_drewN | apply Kd.R_drew)); exact HO_8.out) hb); have n2_ := Aside0.mk (below_step (by repeat (first | (with_reducible first | exact HB.out | apply below_alloc | apply pw_below_drewN | apply below_drew1) | exact HB.out)) hb); clear HO_3; clear HO_8; clear HB; have HO_3 := n0_; have HO_8 := n1_; have HB := n2_; clear n0_ n1_ n2_; (try clear hb); (try clear hb2); (try clear hk); (try clear hi)) | (go_at_call 32; (with_reducible refine (impl_CountDown.calls k2 _ _ t273 t285 5 t290 _ ?side1 ?side2 A50.out).mono ?_); (case side1 => repeat (first | exact (Kd.R_reads' HO_3.out).2.2 | (with_reducible refine Kd.C_alloc ?_ _) | (with_reducible refine Kd.C_drewN ?_ _) | (with_reducible refine Kd.C_drew ?_))); (case side2 => exact (Kd.R_reads' HO_3.out).2.1); rintro e w52 ⟨rfl, hb⟩; have n0_ := Aside0.mk (Kd.R_below (by (with_reducible repeat (first | apply Kd.R_alloc | apply Kd.R_drewN | apply Kd.R_drew)); exact HO_3.out) hb); have n1_ := Aside0.mk (Kd.R_below (by (with_reducible repeat (first | apply Kd.R_alloc | apply Kd.R_drewN | apply Kd.R_drew)); exact HO_8.out) hb); have n2_ := Aside0.mk (below_step (by repeat (first | (with_reducible first | exact HB.out | apply below_alloc | apply pw_below_drewN | apply below_drew1) | exact HB.out)) hb); clear HO_3; clear HO_8; clear HB; have HO_3 := n0_; have HO_8 := n1_; have HB := n2_; clear n0_ n1_ n2_; (try clear hb); (try clear hb2); (try clear hk); (try clear hi)))
                    go_ret
                    exact ⟨by first | rfl | (simp [errW_none, errW_some] <;> rfl) | (simp [*, errW_none, errW_some] <;> rfl), by repeat (first | (with_reducible first | exact HB.out | apply below_alloc | apply pw_below_drewN | apply below_drew1) | exact HB.out)⟩
                  · rw [if_neg c49] at H
                    have c49b0 : decide (t289 ≤ 5) = false := decide_eq_false c49
                    clear c49
                    exact absurd ((Option.some.inj H).trans HTRUE.out) (by decide)

/-- THE ONE PURE STATEMENT of laws_FnFaults: yours. -/
def laws_FnFaults.Pure : Prop := ∀ (l0 : List Int), l0.length ≤ maxLen → l0.length * 1 ≤ 140737488351232 → (∀ x ∈ l0, (Lit.int .u8 x).wf = true) → ∃ k, laws_FnFaults.f k l0 = some true
theorem laws_FnFaults.walk (P : laws_FnFaults.Pure) (a0 : Option Addr) (len0 cap0 : Nat) (z0 : List Int) (w : World) (w0 : (a0 = none ∧ len0 = 0 ∧ cap0 = 0 ∧ z0 = []) ∨ ∃ x, a0 = some x ∧ len0 ≤ cap0 ∧ cap0 ≤ maxLen ∧ z0.length = cap0 ∧ (∀ i, i < z0.length → w.cell? (x.add i) = some (.int .u8 (z0.getD i 0))) ∧ ∀ n ∈ z0, (Lit.int .u8 n).wf = true) (y0 : len0 * 1 ≤ 140737488351232) :
    Calls Try.prog 12 #[.slice a0 len0 cap0] w fun e w' => e = .returned (.bool true) ∧ Below w.heap.size w w' := by
  obtain ⟨l0, rfl, hr0, hm0, hw0, hc0⟩ := ReadsInt.ofRowC w0
  obtain ⟨k, h⟩ := P l0 hm0 y0 hw0
  refine (laws_FnFaults.calls k _ _ l0 true w (Kd.C_of_reads (d := (0 : Int)) (h1 := fun _ => rfl) hr0) hc0 rfl h).mono ?_
  rintro e w' ⟨rfl, hd⟩
  exact ⟨rfl, hd⟩

end Go.Proofs.Ytindlpkkapelhaa.PFnFaults
