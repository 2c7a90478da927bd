/- The functions that the law reaches, as plain Lean functions, each with the proof that the Go code comes to its answers; conditions: those that each theorem names. (printed by a program of this session) -/
import Derived.Test.YtegkplalnljgjaaPFnExactAcceptSeqx0
import Derived.Test.YtegkplalnljgjaaPFnExactAcceptSeqx1
import Derived.Test.YtegkplalnljgjaaPFnExactAcceptSeqx2
import Derived.Test.YtegkplalnljgjaaPFnExactAcceptSeqx3
import Derived.Test.YtegkplalnljgjaaPFnExactAcceptSeqx5
import Derived.Test.YtegkplalnljgjaaPFnExactAcceptSeqx6
namespace Go.Proofs.Ytegkplalnljgjaa.PFnExactAcceptSeq
open Go.RowKit Go.Proofs.YtegkplalnljgjaaW.PrintWords Go.Proofs.YtegkplalnljgjaaW.PrintLast Go.Proofs.YtegkplalnljgjaaW.PrintMore
attribute [local go_sem] max2_int min2_int max_two min_two max_three min_three max_four min_four   -- for this text's walks alone
set_option linter.unusedVariables false
set_option linter.unusedSimpArgs false

/-! ### laws_FnExactAcceptSeq: function 6 -/
mutual
def laws_FnExactAcceptSeq.j0 : Nat → Int → List Int → Bool → List Int → Bool → Bool → Int → Int → List Int → Int → Int → List Int → Int → Int → List Int → Int → Int → List Int → Option (Bool)
  | 0, _, _, _, _, _, _, _, _, _, _, _, _, _, _, _, _, _, _ => none
  | k + 1, x1, x7, x8, x11, x12, x55, x291000, x291001, x291002, x307000, x307001, x307002, x313000, x313001, x313002, x323000, x323001, x323002 => if x55 = true then (some false) else ((laws_toStream.f k x291000 x291001 x291002).bind fun bt325 => ((laws_eqStream.f k x313000 x313001 x313002 bt325.1 bt325.2.1 bt325.2.2).bind fun t330 => (if t330 = true then ((laws_markStream.f k x313000 x313001 x313002 1).bind fun bt331 => (if bt331.1 < 0 then (laws_FnExactAcceptSeq.j1 k x1 x7 x8 x11 true x291000 x291001 x291002 x307000 x307001 x307002 x323000 x323001 x323002) else ((laws_eqStream.f k x323000 x323001 x323002 x307000 x307001 x307002).bind fun t333 => (if t333 = true then ((laws_eqIntS.f k x11 x7).bind fun t334 => (if t334 = true then (laws_FnExactAcceptSeq.j1 k x1 x7 x8 x11 (x12 != x8) x291000 x291001 x291002 x307000 x307001 x307002 x323000 x323001 x323002) else (laws_FnExactAcceptSeq.j1 k x1 x7 x8 x11 true x291000 x291001 x291002 x307000 x307001 x307002 x323000 x323001 x323002))) else (laws_FnExactAcceptSeq.j1 k x1 x7 x8 x11 true x291000 x291001 x291002 x307000 x307001 x307002 x323000 x323001 x323002))))) else (some false))))
def laws_FnExactAcceptSeq.j1 : Nat → Int → List Int → Bool → List Int → Bool → Int → Int → List Int → Int → Int → List Int → Int → Int → List Int → Option (Bool)
  | 0, _, _, _, _, _, _, _, _, _, _, _, _, _, _ => none
  | k + 1, x1, x7, x8, x11, x82, x291000, x291001, x291002, x307000, x307001, x307002, x323000, x323001, x323002 => if x82 = true then (some false) else ((laws_markStream.f k x323000 x323001 x323002 1).bind fun bt335 => ((laws_markIntS.f k x11 bt335.1).bind fun bt337 => ((laws_heldStream.f k x323000 x323001 bt335.2 1).bind fun t339 => (if t339 < 0 then (some false) else ((laws_heldIntS.f k bt337.2 t339).bind fun t340 => (if t340 < 0 then (some false) else (if t340 = bt337.1 then ((laws_toStream.f k x291000 x291001 x291002).bind fun bt341 => ((impl_AcceptSeq.f k bt341.1 bt341.2.1 bt341.2.2 x1).bind fun bt346 => ((laws_eqStream.f k bt346.1 bt346.2.1 bt346.2.2.1 x307000 x307001 x307002).bind fun t356 => (if t356 = true then ((laws_eqIntS.f k bt346.2.2.2.1 x7).bind fun t357 => (if t357 = true then (laws_FnExactAcceptSeq.j2 k bt337.2 bt337.1 (bt346.2.2.2.2 != x8) x323000 x323001 bt335.2) else (laws_FnExactAcceptSeq.j2 k bt337.2 bt337.1 true x323000 x323001 bt335.2))) else (laws_FnExactAcceptSeq.j2 k bt337.2 bt337.1 true x323000 x323001 bt335.2))))) else (some false))))))))
def laws_FnExactAcceptSeq.j2 : Nat → List Int → Int → Bool → Int → Int → List Int → Option (Bool)
  | 0, _, _, _, _, _, _ => none
  | k + 1, x11, x14, x124, x323000, x323001, x323002 => if x124 = true then (some false) else ((laws_heldStream.f k x323000 x323001 x323002 1).bind fun t358 => (if t358 < 0 then (some false) else ((laws_heldIntS.f k x11 t358).bind fun t359 => (if t359 < 0 then (some false) else (if t359 = x14 then (some true) else (some false))))))
end
def laws_FnExactAcceptSeq.f (k : Nat) (a0_0 : Int) (a0_1 : Int) (l0_2 : List Int) (a1 : Int) : Option (Bool) := (laws_szStream.f a0_0 a0_1 l0_2 1048576).bind fun t291 => (if t291 < 0 then (some true) else ((laws_toStream.f k a0_0 a0_1 l0_2).bind fun bt292 => ((spec_AcceptSeq.f k bt292.1 bt292.2.1 bt292.2.2 a1).bind fun bt297 => ((laws_toStream.f k a0_0 a0_1 l0_2).bind fun bt307 => ((impl_AcceptSeq.f k bt307.1 bt307.2.1 bt307.2.2 a1).bind fun bt313 => ((laws_eqStream.f k bt313.1 bt313.2.1 bt313.2.2.1 bt297.1 bt297.2.1 bt297.2.2.1).bind fun t323 => (if t323 = true then ((laws_eqIntS.f k bt313.2.2.2.1 bt297.2.2.2.1).bind fun t324 => (if t324 = true then (laws_FnExactAcceptSeq.j0 k a1 bt297.2.2.2.1 bt297.2.2.2.2 bt313.2.2.2.1 bt313.2.2.2.2 (bt313.2.2.2.2 != bt297.2.2.2.2) a0_0 a0_1 l0_2 bt297.1 bt297.2.1 bt297.2.2.1 bt307.1 bt307.2.1 bt307.2.2 bt313.1 bt313.2.1 bt313.2.2.1) else (laws_FnExactAcceptSeq.j0 k a1 bt297.2.2.2.1 bt297.2.2.2.2 bt313.2.2.2.1 bt313.2.2.2.2 true a0_0 a0_1 l0_2 bt297.1 bt297.2.1 bt297.2.2.1 bt307.1 bt307.2.1 bt307.2.2 bt313.1 bt313.2.1 bt313.2.2.1))) else (laws_FnExactAcceptSeq.j0 k a1 bt297.2.2.2.1 bt297.2.2.2.2 bt313.2.2.2.1 bt313.2.2.2.2 true a0_0 a0_1 l0_2 bt297.1 bt297.2.1 bt297.2.2.1 bt307.1 bt307.2.1 bt307.2.2 bt313.1 bt313.2.1 bt313.2.2.1))))))))
theorem laws_FnExactAcceptSeq.mono_l : ∀ k, (∀ y0 y1 y2 y3 y4 y5 y6 y7 y8 y9 y10 y11 y12 y13 y14 y15 y16 y17, LeO (laws_FnExactAcceptSeq.j0 k y0 y1 y2 y3 y4 y5 y6 y7 y8 y9 y10 y11 y12 y13 y14 y15 y16 y17) (laws_FnExactAcceptSeq.j0 (k + 1) y0 y1 y2 y3 y4 y5 y6 y7 y8 y9 y10 y11 y12 y13 y14 y15 y16 y17)) ∧ (∀ y0 y1 y2 y3 y4 y5 y6 y7 y8 y9 y10 y11 y12 y13, LeO (laws_FnExactAcceptSeq.j1 k y0 y1 y2 y3 y4 y5 y6 y7 y8 y9 y10 y11 y12 y13) (laws_FnExactAcceptSeq.j1 (k + 1) y0 y1 y2 y3 y4 y5 y6 y7 y8 y9 y10 y11 y12 y13)) ∧ (∀ y0 y1 y2 y3 y4 y5, LeO (laws_FnExactAcceptSeq.j2 k y0 y1 y2 y3 y4 y5) (laws_FnExactAcceptSeq.j2 (k + 1) y0 y1 y2 y3 y4 y5))
  | 0 => ⟨fun _ _ _ _ _ _ _ _ _ _ _ _ _ _ _ _ _ _ r h => by simp [laws_FnExactAcceptSeq.j0] at h, fun _ _ _ _ _ _ _ _ _ _ _ _ _ _ r h => by simp [laws_FnExactAcceptSeq.j1] at h, fun _ _ _ _ _ _ r h => by simp [laws_FnExactAcceptSeq.j2] at h⟩
  | k + 1 => by
    obtain ⟨ih0, ih1, ih2⟩ := laws_FnExactAcceptSeq.mono_l k
    refine ⟨?_, ?_, ?_⟩
    · intro y0 y1 y2 y3 y4 y5 y6 y7 y8 y9 y10 y11 y12 y13 y14 y15 y16 y17
      unfold laws_FnExactAcceptSeq.j0
      repeat' first
      | (with_reducible exact ih0 _ _ _ _ _ _ _ _ _ _ _ _ _ _ _ _ _ _)
      | (with_reducible exact ih1 _ _ _ _ _ _ _ _ _ _ _ _ _ _)
      | (with_reducible exact ih2 _ _ _ _ _ _)
      | (with_reducible exact impl_AcceptSeq.mono _ _ _ _ _)
      | (with_reducible exact laws_eqIntS.mono _ _ _)
      | (with_reducible exact laws_eqStream.mono _ _ _ _ _ _ _)
      | (with_reducible exact laws_heldIntS.mono _ _ _)
      | (with_reducible exact laws_heldStream.mono _ _ _ _ _)
      | (with_reducible exact laws_markIntS.mono _ _ _)
      | (with_reducible exact laws_markStream.mono _ _ _ _ _)
      | (with_reducible exact laws_toStream.mono _ _ _ _)
      | (with_reducible exact spec_AcceptSeq.mono _ _ _ _ _)
      | (with_reducible exact LeO.refl _)
      | (with_reducible exact LeO.none _)
      | (with_reducible refine LeO.ite ?_ ?_)
      | (with_reducible refine LeO.bind ?_ (fun _ => ?_))
      | exact ih0 _ _ _ _ _ _ _ _ _ _ _ _ _ _ _ _ _ _
      | exact ih1 _ _ _ _ _ _ _ _ _ _ _ _ _ _
      | exact ih2 _ _ _ _ _ _
      | exact impl_AcceptSeq.mono _ _ _ _ _
      | exact laws_eqIntS.mono _ _ _
      | exact laws_eqStream.mono _ _ _ _ _ _ _
      | exact laws_heldIntS.mono _ _ _
      | exact laws_heldStream.mono _ _ _ _ _
      | exact laws_markIntS.mono _ _ _
      | exact laws_markStream.mono _ _ _ _ _
      | exact laws_toStream.mono _ _ _ _
      | exact spec_AcceptSeq.mono _ _ _ _ _
      | exact LeO.none _
      | refine LeO.ite ?_ ?_
      | refine LeO.bind ?_ (fun _ => ?_)
    · intro y0 y1 y2 y3 y4 y5 y6 y7 y8 y9 y10 y11 y12 y13
      unfold laws_FnExactAcceptSeq.j1
      repeat' first
      | (with_reducible exact ih0 _ _ _ _ _ _ _ _ _ _ _ _ _ _ _ _ _ _)
      | (with_reducible exact ih1 _ _ _ _ _ _ _ _ _ _ _ _ _ _)
      | (with_reducible exact ih2 _ _ _ _ _ _)
      | (with_reducible exact impl_AcceptSeq.mono _ _ _ _ _)
      | (with_reducible exact laws_eqIntS.mono _ _ _)
      | (with_reducible exact laws_eqStream.mono _ _ _ _ _ _ _)
      | (with_reducible exact laws_heldIntS.mono _ _ _)
      | (with_reducible exact laws_heldStream.mono _ _ _ _ _)
      | (with_reducible exact laws_markIntS.mono _ _ _)
      | (with_reducible exact laws_markStream.mono _ _ _ _ _)
      | (with_reducible exact laws_toStream.mono _ _ _ _)
      | (with_reducible exact spec_AcceptSeq.mono _ _ _ _ _)
      | (with_reducible exact LeO.refl _)
      | (with_reducible exact LeO.none _)
      | (with_reducible refine LeO.ite ?_ ?_)
      | (with_reducible refine LeO.bind ?_ (fun _ => ?_))
      | exact ih0 _ _ _ _ _ _ _ _ _ _ _ _ _ _ _ _ _ _
      | exact ih1 _ _ _ _ _ _ _ _ _ _ _ _ _ _
      | exact ih2 _ _ _ _ _ _
      | exact impl_AcceptSeq.mono _ _ _ _ _
      | exact laws_eqIntS.mono _ _ _
      | exact laws_eqStream.mono _ _ _ _ _ _ _
      | exact laws_heldIntS.mono _ _ _
      | exact laws_heldStream.mono _ _ _ _ _
      | exact laws_markIntS.mono _ _ _
      | exact laws_markStream.mono _ _ _ _ _
      | exact laws_toStream.mono _ _ _ _
      | exact spec_AcceptSeq.mono _ _ _ _ _
      | exact LeO.none _
      | refine LeO.ite ?_ ?_
      | refine LeO.bind ?_ (fun _ => ?_)
    · intro y0 y1 y2 y3 y4 y5
      unfold laws_FnExactAcceptSeq.j2
      repeat' first
      | (with_reducible exact ih0 _ _ _ _ _ _ _ _ _ _ _ _ _ _ _ _ _ _)
      | (with_reducible exact ih1 _ _ _ _ _ _ _ _ _ _ _ _ _ _)
      | (with_reducible exact ih2 _ _ _ _ _ _)
      | (with_reducible exact impl_AcceptSeq.mono _ _ _ _ _)
      | (with_reducible exact laws_eqIntS.mono _ _ _)
      | (with_reducible exact laws_eqStream.mono _ _ _ _ _ _ _)
      | (with_reducible exact laws_heldIntS.mono _ _ _)
      | (with_reducible exact laws_heldStream.mono _ _ _ _ _)
      | (with_reducible exact laws_markIntS.mono _ _ _)
      | (with_reducible exact laws_markStream.mono _ _ _ _ _)
      | (with_reducible exact laws_toStream.mono _ _ _ _)
      | (with_reducible exact spec_AcceptSeq.mono _ _ _ _ _)
      | (with_reducible exact LeO.refl _)
      | (with_reducible exact LeO.none _)
      | (with_reducible refine LeO.ite ?_ ?_)
      | (with_reducible refine LeO.bind ?_ (fun _ => ?_))
      | exact ih0 _ _ _ _ _ _ _ _ _ _ _ _ _ _ _ _ _ _
      | exact ih1 _ _ _ _ _ _ _ _ _ _ _ _ _ _
      | exact ih2 _ _ _ _ _ _
      | exact impl_AcceptSeq.mono _ _ _ _ _
      | exact laws_eqIntS.mono _ _ _
      | exact laws_eqStream.mono _ _ _ _ _ _ _
      | exact laws_heldIntS.mono _ _ _
      | exact laws_heldStream.mono _ _ _ _ _
      | exact laws_markIntS.mono _ _ _
      | exact laws_markStream.mono _ _ _ _ _
      | exact laws_toStream.mono _ _ _ _
      | exact spec_AcceptSeq.mono _ _ _ _ _
      | exact LeO.none _
      | refine LeO.ite ?_ ?_
      | refine LeO.bind ?_ (fun _ => ?_)
theorem laws_FnExactAcceptSeq.mono : ∀ a0 a1 a2 a3 k, LeO (laws_FnExactAcceptSeq.f k a0 a1 a2 a3) (laws_FnExactAcceptSeq.f (k + 1) a0 a1 a2 a3) := by
  intro a0 a1 a2 a3 k
  obtain ⟨ih0, ih1, ih2⟩ := laws_FnExactAcceptSeq.mono_l k
  unfold laws_FnExactAcceptSeq.f
  repeat' first
      | (with_reducible exact ih0 _ _ _ _ _ _ _ _ _ _ _ _ _ _ _ _ _ _)
      | (with_reducible exact ih1 _ _ _ _ _ _ _ _ _ _ _ _ _ _)
      | (with_reducible exact ih2 _ _ _ _ _ _)
      | (with_reducible exact impl_AcceptSeq.mono _ _ _ _ _)
      | (with_reducible exact laws_eqIntS.mono _ _ _)
      | (with_reducible exact laws_eqStream.mono _ _ _ _ _ _ _)
      | (with_reducible exact laws_heldIntS.mono _ _ _)
      | (with_reducible exact laws_heldStream.mono _ _ _ _ _)
      | (with_reducible exact laws_markIntS.mono _ _ _)
      | (with_reducible exact laws_markStream.mono _ _ _ _ _)
      | (with_reducible exact laws_toStream.mono _ _ _ _)
      | (with_reducible exact spec_AcceptSeq.mono _ _ _ _ _)
      | (with_reducible exact LeO.refl _)
      | (with_reducible exact LeO.none _)
      | (with_reducible refine LeO.ite ?_ ?_)
      | (with_reducible refine LeO.bind ?_ (fun _ => ?_))
      | exact ih0 _ _ _ _ _ _ _ _ _ _ _ _ _ _ _ _ _ _
      | exact ih1 _ _ _ _ _ _ _ _ _ _ _ _ _ _
      | exact ih2 _ _ _ _ _ _
      | exact impl_AcceptSeq.mono _ _ _ _ _
      | exact laws_eqIntS.mono _ _ _
      | exact laws_eqStream.mono _ _ _ _ _ _ _
      | exact laws_heldIntS.mono _ _ _
      | exact laws_heldStream.mono _ _ _ _ _
      | exact laws_markIntS.mono _ _ _
      | exact laws_markStream.mono _ _ _ _ _
      | exact laws_toStream.mono _ _ _ _
      | exact spec_AcceptSeq.mono _ _ _ _ _
      | exact LeO.none _
      | refine LeO.ite ?_ ?_
      | refine LeO.bind ?_ (fun _ => ?_)
set_option maxHeartbeats 8000000 in
set_option maxRecDepth 100000 in
theorem laws_FnExactAcceptSeq.calls (k : Nat) (a0_0 : Int) (a0_1 : Int) (A0_2 : Option Addr) (c0_2 : Nat) (l0_2 : List Int) (a1 : Int) (r : Bool) (w : World) (hr0_2 : Kd.C (Kd.int .i64) w A0_2 l0_2.length l0_2) (hc0_2 : l0_2.length ≤ c0_2) (hr_ : r = true) (h : laws_FnExactAcceptSeq.f k a0_0 a0_1 l0_2 a1 = some r) :
    Calls Try.prog 6 #[.agg #[.int .i64 a0_0, .int .i64 a0_1, .slice A0_2 l0_2.length c0_2], .int .i64 a1] w fun e w' => e = .returned (.bool r) ∧ Below w.heap.size w w' := by
  have hu53 := Try.underlying53
  have hu45 := Try.underlying45
  have HR0_2 := Aside0.mk hr0_2
  have HC0_2 := Aside0.mk hc0_2
  clear hr0_2 hc0_2
  have HB := Aside0.mk (Below.refl w.heap.size w)
  have H : ((laws_szStream.f a0_0 a0_1 l0_2 1048576).bind fun t291 => (if t291 < 0 then (some true) else ((laws_toStream.f k a0_0 a0_1 l0_2).bind fun bt292 => ((spec_AcceptSeq.f k bt292.1 bt292.2.1 bt292.2.2 a1).bind fun bt297 => ((laws_toStream.f k a0_0 a0_1 l0_2).bind fun bt307 => ((impl_AcceptSeq.f k bt307.1 bt307.2.1 bt307.2.2 a1).bind fun bt313 => ((laws_eqStream.f k bt313.1 bt313.2.1 bt313.2.2.1 bt297.1 bt297.2.1 bt297.2.2.1).bind fun t323 => (if t323 = true then ((laws_eqIntS.f k bt313.2.2.2.1 bt297.2.2.2.1).bind fun t324 => (if t324 = true then (laws_FnExactAcceptSeq.j0 k a1 bt297.2.2.2.1 bt297.2.2.2.2 bt313.2.2.2.1 bt313.2.2.2.2 (bt313.2.2.2.2 != bt297.2.2.2.2) a0_0 a0_1 l0_2 bt297.1 bt297.2.1 bt297.2.2.1 bt307.1 bt307.2.1 bt307.2.2 bt313.1 bt313.2.1 bt313.2.2.1) else (laws_FnExactAcceptSeq.j0 k a1 bt297.2.2.2.1 bt297.2.2.2.2 bt313.2.2.2.1 bt313.2.2.2.2 true a0_0 a0_1 l0_2 bt297.1 bt297.2.1 bt297.2.2.1 bt307.1 bt307.2.1 bt307.2.2 bt313.1 bt313.2.1 bt313.2.2.1))) else (laws_FnExactAcceptSeq.j0 k a1 bt297.2.2.2.1 bt297.2.2.2.2 bt313.2.2.2.1 bt313.2.2.2.2 true a0_0 a0_1 l0_2 bt297.1 bt297.2.1 bt297.2.2.1 bt307.1 bt307.2.1 bt307.2.2 bt313.1 bt313.2.1 bt313.2.2.1))))))))) = some r := h
  clear h
  have HTRUE := Aside0.mk hr_
  clear hr_
  replace H := Option.bind_eq_some_iff.mp H
  obtain ⟨t291, A30, H⟩ := H
  replace H : (if t291 < 0 then (some true) else ((laws_toStream.f k a0_0 a0_1 l0_2).bind fun bt292 => ((spec_AcceptSeq.f k bt292.1 bt292.2.1 bt292.2.2 a1).bind fun bt297 => ((laws_toStream.f k a0_0 a0_1 l0_2).bind fun bt307 => ((impl_AcceptSeq.f k bt307.1 bt307.2.1 bt307.2.2 a1).bind fun bt313 => ((laws_eqStream.f k bt313.1 bt313.2.1 bt313.2.2.1 bt297.1 bt297.2.1 bt297.2.2.1).bind fun t323 => (if t323 = true then ((laws_eqIntS.f k bt313.2.2.2.1 bt297.2.2.2.1).bind fun t324 => (if t324 = true then (laws_FnExactAcceptSeq.j0 k a1 bt297.2.2.2.1 bt297.2.2.2.2 bt313.2.2.2.1 bt313.2.2.2.2 (bt313.2.2.2.2 != bt297.2.2.2.2) a0_0 a0_1 l0_2 bt297.1 bt297.2.1 bt297.2.2.1 bt307.1 bt307.2.1 bt307.2.2 bt313.1 bt313.2.1 bt313.2.2.1) else (laws_FnExactAcceptSeq.j0 k a1 bt297.2.2.2.1 bt297.2.2.2.2 bt313.2.2.2.1 bt313.2.2.2.2 true a0_0 a0_1 l0_2 bt297.1 bt297.2.1 bt297.2.2.1 bt307.1 bt307.2.1 bt307.2.2 bt313.1 bt313.2.1 bt313.2.2.1))) else (laws_FnExactAcceptSeq.j0 k a1 bt297.2.2.2.1 bt297.2.2.2.2 bt313.2.2.2.1 bt313.2.2.2.2 true a0_0 a0_1 l0_2 bt297.1 bt297.2.1 bt297.2.2.1 bt307.1 bt307.2.1 bt307.2.2 bt313.1 bt313.2.1 bt313.2.2.1)))))))) = some r := H
  have A3 := Aside0.mk A30
  clear A30
  by_cases c4 : t291 < 0
  · rw [if_pos c4] at H
    have c4b0 : decide (t291 < 0) = true := decide_eq_true c4
    clear c4
    obtain rfl := Option.some.inj H
    go_enter Try.func6, Try.ntmps6
    go_wp2_with (first | ((with_reducible refine gate_dst (N := 2) rfl ?_); refine box_event ?hg (N := 2) ?hd (cs := #[.int .i64 a0_0, .int .i64 a0_1, .slice A0_2 l0_2.length c0_2]) (t := 53) ?hr ?_; (case hd => rfl); (case hg => rfl); (case hr => first | (go_simp; done) | (go_simp; rfl)); intro gb290 hg w5 hbox hb; have n0_ := Aside0.mk (below_step (by repeat (first | (with_reducible first | exact HB.out | apply below_alloc | apply pw_below_drewN | apply below_drew1) | exact HB.out)) hb); have n1_ := Aside0.mk (hbox); have n2_ := Aside0.mk ((by rw [hg]; exact (below_size (by repeat (first | (with_reducible first | exact HB.out | apply below_alloc | apply pw_below_drewN | apply below_drew1) | exact HB.out))) : w.heap.size ≤ gb290)); have n3_ := Aside0.mk ((by rw [hg]; exact (below_size (by repeat (first | (with_reducible first | exact HB.out | apply below_alloc | apply pw_below_drewN | apply below_drew1) | exact HB.out))) : w.heap.size ≤ gb290)); clear HB; have HB := n0_; have BK290 := n1_; have GW290 := n2_; have GE290 := n3_; clear n0_ n1_ n2_ n3_; clear hb hbox hg; have hcz6_0 : w5.cell? ⟨gb290, 0, none⟩ = some (.int .i64 a0_0) := (blk_cell BK290.out 0).trans rfl; have hcz6_1 : w5.cell? ⟨gb290, 1, none⟩ = some (.int .i64 a0_1) := (blk_cell BK290.out 1).trans rfl; have hcz6_2 : w5.cell? ⟨gb290, 2, none⟩ = some (.slice A0_2 l0_2.length c0_2) := (blk_cell BK290.out 2).trans rfl; have hfz6_0 := blk_frozen BK290.out 0; have hfz6_1 := blk_frozen BK290.out 1; have hfz6_2 := blk_frozen BK290.out 2) | ((with_reducible refine gate_callee (f := 32) rfl ?_); refine goesL_ (some 21) rfl rfl Try.func32 (by kernel_rfl) rfl #[.agg #[.int .i64 a0_0, .int .i64 a0_1, .slice A0_2 l0_2.length c0_2], .int .i64 1048576] rfl (by (try simp only [List.map_toArray, List.map_cons, List.map_nil]); first | done | rfl | (simp only [List.length_drop, List.length_take]; rfl)) ?_; (with_reducible refine (laws_szStream.calls a0_0 a0_1 _ _ l0_2 1048576 t291 _ ?side1 ?side2 A3.out).mono ?_); (case side1 => repeat (first | exact (Kd.C_below HR0_2.out HB.out) | (with_reducible refine Kd.C_alloc ?_ _) | (with_reducible refine Kd.C_drewN ?_ _) | (with_reducible refine Kd.C_drew ?_))); (case side2 => exact HC0_2.out); rintro e w7 ⟨rfl, hb⟩; refine ⟨_, rfl, ?_⟩; have n0_ := Aside0.mk (blk_below (g := gb290) (o := .cells #[.int .i64 a0_0, .int .i64 a0_1, .slice A0_2 l0_2.length c0_2] 53 (0, 0)) (by (with_reducible repeat (first | refine blk_drewN ?_ _ | refine blk_drew ?_ | refine blk_alloc ?_ _)); exact BK290.out) hb); have n1_ := Aside0.mk (below_step (by repeat (first | (with_reducible first | exact HB.out | apply below_alloc | apply pw_below_drewN | apply below_drew1 | refine below_set ?_ GE290.out) | exact HB.out)) hb); clear BK290; clear HB; have BK290 := n0_; have HB := n1_; clear n0_ n1_; (try clear hb); (try clear hb2); (try clear hk); (try clear hi)))
    go_ret
    exact ⟨by first | rfl | (simp [errW_none, errW_some] <;> rfl) | (simp [*, errW_none, errW_some] <;> rfl), by repeat (first | (with_reducible first | exact HB.out | apply below_alloc | apply pw_below_drewN | apply below_drew1 | refine below_set ?_ GE290.out) | exact HB.out)⟩
  · rw [if_neg c4] at H
    have c4b0 : decide (t291 < 0) = false := decide_eq_false c4
    clear c4
    replace H := Option.bind_eq_some_iff.mp H
    obtain ⟨⟨t292, t293, t294⟩, A80, H⟩ := H
    replace H : ((spec_AcceptSeq.f k t292 t293 t294 a1).bind fun bt297 => ((laws_toStream.f k a0_0 a0_1 l0_2).bind fun bt307 => ((impl_AcceptSeq.f k bt307.1 bt307.2.1 bt307.2.2 a1).bind fun bt313 => ((laws_eqStream.f k bt313.1 bt313.2.1 bt313.2.2.1 bt297.1 bt297.2.1 bt297.2.2.1).bind fun t323 => (if t323 = true then ((laws_eqIntS.f k bt313.2.2.2.1 bt297.2.2.2.1).bind fun t324 => (if t324 = true then (laws_FnExactAcceptSeq.j0 k a1 bt297.2.2.2.1 bt297.2.2.2.2 bt313.2.2.2.1 bt313.2.2.2.2 (bt313.2.2.2.2 != bt297.2.2.2.2) a0_0 a0_1 l0_2 bt297.1 bt297.2.1 bt297.2.2.1 bt307.1 bt307.2.1 bt307.2.2 bt313.1 bt313.2.1 bt313.2.2.1) else (laws_FnExactAcceptSeq.j0 k a1 bt297.2.2.2.1 bt297.2.2.2.2 bt313.2.2.2.1 bt313.2.2.2.2 true a0_0 a0_1 l0_2 bt297.1 bt297.2.1 bt297.2.2.1 bt307.1 bt307.2.1 bt307.2.2 bt313.1 bt313.2.1 bt313.2.2.1))) else (laws_FnExactAcceptSeq.j0 k a1 bt297.2.2.2.1 bt297.2.2.2.2 bt313.2.2.2.1 bt313.2.2.2.2 true a0_0 a0_1 l0_2 bt297.1 bt297.2.1 bt297.2.2.1 bt307.1 bt307.2.1 bt307.2.2 bt313.1 bt313.2.1 bt313.2.2.1)))))) = some r := H
    have A8 := Aside0.mk A80
    clear A80
    replace H := Option.bind_eq_some_iff.mp H
    obtain ⟨⟨t297, t298, t299, t302, t305⟩, A90, H⟩ := H
    replace H : ((laws_toStream.f k a0_0 a0_1 l0_2).bind fun bt307 => ((impl_AcceptSeq.f k bt307.1 bt307.2.1 bt307.2.2 a1).bind fun bt313 => ((laws_eqStream.f k bt313.1 bt313.2.1 bt313.2.2.1 t297 t298 t299).bind fun t323 => (if t323 = true then ((laws_eqIntS.f k bt313.2.2.2.1 t302).bind fun t324 => (if t324 = true then (laws_FnExactAcceptSeq.j0 k a1 t302 t305 bt313.2.2.2.1 bt313.2.2.2.2 (bt313.2.2.2.2 != t305) a0_0 a0_1 l0_2 t297 t298 t299 bt307.1 bt307.2.1 bt307.2.2 bt313.1 bt313.2.1 bt313.2.2.1) else (laws_FnExactAcceptSeq.j0 k a1 t302 t305 bt313.2.2.2.1 bt313.2.2.2.2 true a0_0 a0_1 l0_2 t297 t298 t299 bt307.1 bt307.2.1 bt307.2.2 bt313.1 bt313.2.1 bt313.2.2.1))) else (laws_FnExactAcceptSeq.j0 k a1 t302 t305 bt313.2.2.2.1 bt313.2.2.2.2 true a0_0 a0_1 l0_2 t297 t298 t299 bt307.1 bt307.2.1 bt307.2.2 bt313.1 bt313.2.1 bt313.2.2.1))))) = some r := H
    have A9 := Aside0.mk A90
    clear A90
    replace H := Option.bind_eq_some_iff.mp H
    obtain ⟨⟨t307, t308, t309⟩, A100, H⟩ := H
    replace H : ((impl_AcceptSeq.f k t307 t308 t309 a1).bind fun bt313 => ((laws_eqStream.f k bt313.1 bt313.2.1 bt313.2.2.1 t297 t298 t299).bind fun t323 => (if t323 = true then ((laws_eqIntS.f k bt313.2.2.2.1 t302).bind fun t324 => (if t324 = true then (laws_FnExactAcceptSeq.j0 k a1 t302 t305 bt313.2.2.2.1 bt313.2.2.2.2 (bt313.2.2.2.2 != t305) a0_0 a0_1 l0_2 t297 t298 t299 t307 t308 t309 bt313.1 bt313.2.1 bt313.2.2.1) else (laws_FnExactAcceptSeq.j0 k a1 t302 t305 bt313.2.2.2.1 bt313.2.2.2.2 true a0_0 a0_1 l0_2 t297 t298 t299 t307 t308 t309 bt313.1 bt313.2.1 bt313.2.2.1))) else (laws_FnExactAcceptSeq.j0 k a1 t302 t305 bt313.2.2.2.1 bt313.2.2.2.2 true a0_0 a0_1 l0_2 t297 t298 t299 t307 t308 t309 bt313.1 bt313.2.1 bt313.2.2.1)))) = some r := H
    have A10 := Aside0.mk A100
    clear A100
    replace H := Option.bind_eq_some_iff.mp H
    obtain ⟨⟨t313, t314, t315, t318, t321⟩, A110, H⟩ := H
    replace H : ((laws_eqStream.f k t313 t314 t315 t297 t298 t299).bind fun t323 => (if t323 = true then ((laws_eqIntS.f k t318 t302).bind fun t324 => (if t324 = true then (laws_FnExactAcceptSeq.j0 k a1 t302 t305 t318 t321 (t321 != t305) a0_0 a0_1 l0_2 t297 t298 t299 t307 t308 t309 t313 t314 t315) else (laws_FnExactAcceptSeq.j0 k a1 t302 t305 t318 t321 true a0_0 a0_1 l0_2 t297 t298 t299 t307 t308 t309 t313 t314 t315))) else (laws_FnExactAcceptSeq.j0 k a1 t302 t305 t318 t321 true a0_0 a0_1 l0_2 t297 t298 t299 t307 t308 t309 t313 t314 t315))) = some r := H
    have A11 := Aside0.mk A110
    clear A110
    have HC12 := Aside0.mk H
    clear H
    go_enter Try.func6, Try.ntmps6
    go_upto_region 8 with (first | ((with_reducible refine gate_dst (N := 2) rfl ?_); refine box_event ?hg (N := 2) ?hd (cs := #[.int .i64 a0_0, .int .i64 a0_1, .slice A0_2 l0_2.length c0_2]) (t := 53) ?hr ?_; (case hd => rfl); (case hg => rfl); (case hr => first | (go_simp; done) | (go_simp; rfl)); intro gb290 hg w13 hbox hb; have n0_ := Aside0.mk (below_step (by repeat (first | (with_reducible first | exact HB.out | apply below_alloc | apply pw_below_drewN | apply below_drew1) | exact HB.out)) hb); have n1_ := Aside0.mk (hbox); have n2_ := Aside0.mk ((by rw [hg]; exact (below_size (by repeat (first | (with_reducible first | exact HB.out | apply below_alloc | apply pw_below_drewN | apply below_drew1) | exact HB.out))) : w.heap.size ≤ gb290)); have n3_ := Aside0.mk ((by rw [hg]; exact (below_size (by repeat (first | (with_reducible first | exact HB.out | apply below_alloc | apply pw_below_drewN | apply below_drew1) | exact HB.out))) : w.heap.size ≤ gb290)); clear HB; have HB := n0_; have BK290 := n1_; have GW290 := n2_; have GE290 := n3_; clear n0_ n1_ n2_ n3_; clear hb hbox hg; have hcz14_0 : w13.cell? ⟨gb290, 0, none⟩ = some (.int .i64 a0_0) := (blk_cell BK290.out 0).trans rfl; have hcz14_1 : w13.cell? ⟨gb290, 1, none⟩ = some (.int .i64 a0_1) := (blk_cell BK290.out 1).trans rfl; have hcz14_2 : w13.cell? ⟨gb290, 2, none⟩ = some (.slice A0_2 l0_2.length c0_2) := (blk_cell BK290.out 2).trans rfl; have hfz14_0 := blk_frozen BK290.out 0; have hfz14_1 := blk_frozen BK290.out 1; have hfz14_2 := blk_frozen BK290.out 2) | ((with_reducible refine gate_callee (f := 32) rfl ?_); refine goesL_ (some 21) rfl rfl Try.func32 (by kernel_rfl) rfl #[.agg #[.int .i64 a0_0, .int .i64 a0_1, .slice A0_2 l0_2.length c0_2], .int .i64 1048576] rfl (by (try simp only [List.map_toArray, List.map_cons, List.map_nil]); first | done | rfl | (simp only [List.length_drop, List.length_take]; rfl)) ?_; (with_reducible refine (laws_szStream.calls a0_0 a0_1 _ _ l0_2 1048576 t291 _ ?side1 ?side2 A3.out).mono ?_); (case side1 => repeat (first | exact (Kd.C_below HR0_2.out HB.out) | (with_reducible refine Kd.C_alloc ?_ _) | (with_reducible refine Kd.C_drewN ?_ _) | (with_reducible refine Kd.C_drew ?_))); (case side2 => exact HC0_2.out); rintro e w15 ⟨rfl, hb⟩; refine ⟨_, rfl, ?_⟩; have n0_ := Aside0.mk (blk_below (g := gb290) (o := .cells #[.int .i64 a0_0, .int .i64 a0_1, .slice A0_2 l0_2.length c0_2] 53 (0, 0)) (by (with_reducible repeat (first | refine blk_drewN ?_ _ | refine blk_drew ?_ | refine blk_alloc ?_ _)); exact BK290.out) hb); have n1_ := Aside0.mk (below_step (by repeat (first | (with_reducible first | exact HB.out | apply below_alloc | apply pw_below_drewN | apply below_drew1 | refine below_set ?_ GE290.out) | exact HB.out)) hb); clear BK290; clear HB; have BK290 := n0_; have HB := n1_; clear n0_ n1_; (try clear hb); (try clear hb2); (try clear hk); (try clear hi); have hcz16_0 : w15.cell? ⟨gb290, 0, none⟩ = some (.int .i64 a0_0) := (blk_cell BK290.out 0).trans rfl; have hcz16_1 : w15.cell? ⟨gb290, 1, none⟩ = some (.int .i64 a0_1) := (blk_cell BK290.out 1).trans rfl; have hcz16_2 : w15.cell? ⟨gb290, 2, none⟩ = some (.slice A0_2 l0_2.length c0_2) := (blk_cell BK290.out 2).trans rfl; have hfz16_0 := blk_frozen BK290.out 0; have hfz16_1 := blk_frozen BK290.out 1; have hfz16_2 := blk_frozen BK290.out 2) | ((with_reducible refine gate_callee (f := 34) rfl ?_); refine goesL_ (some 26) rfl rfl Try.func34 (by kernel_rfl) rfl #[.agg #[.int .i64 a0_0, .int .i64 a0_1, .slice A0_2 l0_2.length c0_2]] rfl (by (try simp only [List.map_toArray, List.map_cons, List.map_nil]); first | done | rfl | (simp only [List.length_drop, List.length_take]; rfl)) ?_; (with_reducible refine (laws_toStream.calls k a0_0 a0_1 _ _ l0_2 t292 t293 t294 _ ?side1 ?side2 A8.out).mono ?_); (case side1 => repeat (first | exact (Kd.C_below HR0_2.out HB.out) | (with_reducible refine Kd.C_alloc ?_ _) | (with_reducible refine Kd.C_drewN ?_ _) | (with_reducible refine Kd.C_drew ?_))); (case side2 => exact HC0_2.out); rintro e w17 ⟨v295, rfl, ho0, hb⟩; refine ⟨_, rfl, ?_⟩; have n0_ := Aside0.mk (Kd.R_lower ho0 (below_size (by repeat (first | (with_reducible first | exact HB.out | apply below_alloc | apply pw_below_drewN | apply below_drew1 | refine below_set ?_ GE290.out) | exact HB.out)))); have n1_ := Aside0.mk (blk_below (g := gb290) (o := .cells #[.int .i64 a0_0, .int .i64 a0_1, .slice A0_2 l0_2.length c0_2] 53 (0, 0)) (by (with_reducible repeat (first | refine blk_drewN ?_ _ | refine blk_drew ?_ | refine blk_alloc ?_ _)); exact BK290.out) hb); have n2_ := Aside0.mk (below_step (by repeat (first | (with_reducible first | exact HB.out | apply below_alloc | apply pw_below_drewN | apply below_drew1 | refine below_set ?_ GE290.out) | exact HB.out)) hb); clear BK290; clear HB; have HO296 := n0_; have BK290 := n1_; have HB := n2_; clear n0_ n1_ n2_; (try clear hb); (try clear hb2); (try clear hk); (try clear hi); (try clear ho0); obtain ⟨Ao18, co18, eo18⟩ := Kd.R_slice HO296.out; subst eo18) | ((with_reducible refine gate_callee (f := 33) rfl ?_); refine goesL_ (some 28) rfl rfl Try.func33 (by kernel_rfl) rfl #[.agg #[.int .i64 t292, .int .i64 t293, .slice Ao18 t294.length co18], .int .i64 a1] rfl (by (try simp only [List.map_toArray, List.map_cons, List.map_nil]); first | done | rfl | (simp only [List.length_drop, List.length_take]; rfl)) ?_; (with_reducible refine (spec_AcceptSeq.calls k t292 t293 _ _ t294 a1 t297 t298 t299 t302 t305 _ ?side1 ?side2 A9.out).mono ?_); (case side1 => repeat (first | exact (Kd.R_reads' HO296.out).2.2 | (with_reducible refine Kd.C_alloc ?_ _) | (with_reducible refine Kd.C_drewN ?_ _) | (with_reducible refine Kd.C_drew ?_))); (case side2 => exact (Kd.R_reads' HO296.out).2.1); rintro e w19 ⟨v300, v303, rfl, ho0, ho1, hb⟩; refine ⟨_, rfl, ?_⟩; have n0_ := Aside0.mk (Kd.R_mono (Kd.R_told (Kd.R_told (Kd.R_old (by (with_reducible repeat (first | apply Kd.R_alloc | apply Kd.R_drewN | apply Kd.R_drew)); exact HO296.out) hb) (Kd.R_base ho0)) (Kd.R_base ho1)) (fun _ h_ => h_.1)); have n1_ := Aside0.mk (Kd.R_lower (Kd.R_new' ho0 (Kd.R_lt (by (with_reducible repeat (first | apply Kd.R_alloc | apply Kd.R_drewN | apply Kd.R_drew)); exact HO296.out))) (below_size (by repeat (first | (with_reducible first | exact HB.out | apply below_alloc | apply pw_below_drewN | apply below_drew1 | refine below_set ?_ GE290.out) | exact HB.out)))); have n2_ := Aside0.mk (Kd.R_lower (Kd.R_new' ho1 (Kd.R_lt (by (with_reducible repeat (first | apply Kd.R_alloc | apply Kd.R_drewN | apply Kd.R_drew)); exact HO296.out))) (below_size (by repeat (first | (with_reducible first | exact HB.out | apply below_alloc | apply pw_below_drewN | apply below_drew1 | refine below_set ?_ GE290.out) | exact HB.out)))); have n3_ := Aside0.mk (blk_below (g := gb290) (o := .cells #[.int .i64 a0_0, .int .i64 a0_1, .slice A0_2 l0_2.length c0_2] 53 (0, 0)) (by (with_reducible repeat (first | refine blk_drewN ?_ _ | refine blk_drew ?_ | refine blk_alloc ?_ _)); exact BK290.out) hb); have n4_ := Aside0.mk (below_step (by repeat (first | (with_reducible first | exact HB.out | apply below_alloc | apply pw_below_drewN | apply below_drew1 | refine below_set ?_ GE290.out) | exact HB.out)) hb); clear HO296; clear BK290; clear HB; have HO296 := n0_; have HO301 := n1_; have HO304 := n2_; have BK290 := n3_; have HB := n4_; clear n0_ n1_ n2_ n3_ n4_; (try clear hb); (try clear hb2); (try clear hk); (try clear hi); (try clear ho0); (try clear ho1)) | ((with_reducible refine gate_dst (N := 6) rfl ?_); refine box_event ?hg (N := 6) ?hd (cs := #[.int .i64 0, .int .i64 0, .slice none 0 0]) (t := 45) ?hr ?_; (case hd => rfl); (case hg => rfl); (case hr => first | (go_simp; done) | (go_simp; rfl)); intro gb306 hg w20 hbox hb; have n0_ := Aside0.mk (Kd.R_below (by (with_reducible repeat (first | apply Kd.R_alloc | apply Kd.R_drewN | apply Kd.R_drew)); exact HO296.out) hb); have n1_ := Aside0.mk (Kd.R_below (by (with_reducible repeat (first | apply Kd.R_alloc | apply Kd.R_drewN | apply Kd.R_drew)); exact HO301.out) hb); have n2_ := Aside0.mk (Kd.R_below (by (with_reducible repeat (first | apply Kd.R_alloc | apply Kd.R_drewN | apply Kd.R_drew)); exact HO304.out) hb); have n3_ := Aside0.mk (blk_below (g := gb290) (o := .cells #[.int .i64 a0_0, .int .i64 a0_1, .slice A0_2 l0_2.length c0_2] 53 (0, 0)) (by (with_reducible repeat (first | refine blk_drewN ?_ _ | refine blk_drew ?_ | refine blk_alloc ?_ _)); exact BK290.out) hb); have n4_ := Aside0.mk (below_step (by repeat (first | (with_reducible first | exact HB.out | apply below_alloc | apply pw_below_drewN | apply below_drew1 | refine below_set ?_ GE290.out) | exact HB.out)) hb); have n5_ := Aside0.mk (hbox); have n6_ := Aside0.mk ((by rw [hg]; exact (below_size (by repeat (first | (with_reducible first | exact HB.out | apply below_alloc | apply pw_below_drewN | apply below_drew1 | refine below_set ?_ GE290.out) | exact HB.out))) : w.heap.size ≤ gb306)); have n7_ := Aside0.mk ((by rw [hg]; exact (below_size (by repeat (first | (with_reducible first | exact HB.out | apply below_alloc | apply pw_below_drewN | apply below_drew1 | refine below_set ?_ GE290.out) | exact HB.out))) : w.heap.size ≤ gb306)); have n8_ := Aside0.mk ((by rw [hg]; exact Nat.ne_of_lt (blk_lt (g := gb290) (o := .cells #[.int .i64 a0_0, .int .i64 a0_1, .slice A0_2 l0_2.length c0_2] 53 (0, 0)) (by (with_reducible repeat (first | refine blk_drewN ?_ _ | refine blk_drew ?_ | refine blk_alloc ?_ _)); exact BK290.out)) : gb290 ≠ gb306)); have n9_ := Aside0.mk ((by rw [hg]; exact Nat.ne_of_gt (blk_lt (g := gb290) (o := .cells #[.int .i64 a0_0, .int .i64 a0_1, .slice A0_2 l0_2.length c0_2] 53 (0, 0)) (by (with_reducible repeat (first | refine blk_drewN ?_ _ | refine blk_drew ?_ | refine blk_alloc ?_ _)); exact BK290.out)) : gb306 ≠ gb290)); clear HO296; clear HO301; clear HO304; clear BK290; clear HB; have HO296 := n0_; have HO301 := n1_; have HO304 := n2_; have BK290 := n3_; have HB := n4_; have BK306 := n5_; have GW306 := n6_; have GE306 := n7_; have NB290_306 := n8_; have NB306_290 := n9_; clear n0_ n1_ n2_ n3_ n4_ n5_ n6_ n7_ n8_ n9_; clear hb hbox hg; have hnb21 := NB306_290.out; have hnc21 := NB290_306.out; have hcz22_0 : w20.cell? ⟨gb306, 0, none⟩ = some (.int .i64 0) := (blk_cell BK306.out 0).trans rfl; have hcz22_1 : w20.cell? ⟨gb306, 1, none⟩ = some (.int .i64 0) := (blk_cell BK306.out 1).trans rfl; have hcz22_2 : w20.cell? ⟨gb306, 2, none⟩ = some (.slice none 0 0) := (blk_cell BK306.out 2).trans rfl; have hfz22_0 := blk_frozen BK306.out 0; have hfz22_1 := blk_frozen BK306.out 1; have hfz22_2 := blk_frozen BK306.out 2; obtain ⟨Ao23, co23, eo23⟩ := Kd.R_slice HO301.out; subst eo23; have hcz24_0 : w20.cell? ⟨gb290, 0, none⟩ = some (.int .i64 a0_0) := (blk_cell BK290.out 0).trans rfl; have hcz24_1 : w20.cell? ⟨gb290, 1, none⟩ = some (.int .i64 a0_1) := (blk_cell BK290.out 1).trans rfl; have hcz24_2 : w20.cell? ⟨gb290, 2, none⟩ = some (.slice A0_2 l0_2.length c0_2) := (blk_cell BK290.out 2).trans rfl; have hfz24_0 := blk_frozen BK290.out 0; have hfz24_1 := blk_frozen BK290.out 1; have hfz24_2 := blk_frozen BK290.out 2) | ((with_reducible refine gate_callee (f := 34) rfl ?_); refine goesL_ (some 33) rfl rfl Try.func34 (by kernel_rfl) rfl #[.agg #[.int .i64 a0_0, .int .i64 a0_1, .slice A0_2 l0_2.length c0_2]] rfl (by (try simp only [List.map_toArray, List.map_cons, List.map_nil]); first | done | rfl | (simp only [List.length_drop, List.length_take]; rfl)) ?_; (with_reducible refine (laws_toStream.calls k a0_0 a0_1 _ _ l0_2 t307 t308 t309 _ ?side1 ?side2 A10.out).mono ?_); (case side1 => exact Kd.C_below HR0_2.out (by repeat (first | (with_reducible first | exact HB.out | apply below_alloc | apply pw_below_drewN | apply below_drew1 | refine below_set ?_ GE290.out | refine below_set ?_ GE306.out) | exact HB.out))); (case side2 => exact HC0_2.out); rintro e w25 ⟨v310, rfl, ho0, hb⟩; refine ⟨_, rfl, ?_⟩; have n0_ := Aside0.mk (Kd.R_elder' (by (with_reducible repeat (first | apply Kd.R_alloc | apply Kd.R_drewN | apply Kd.R_drew)); exact (Kd.R_mono (Kd.R_far (p := ⟨gb306, 2, none⟩) (Kd.R_far (p := ⟨gb306, 1, none⟩) (Kd.R_far (p := ⟨gb306, 0, none⟩) (Kd.R_types HO296.out BK306.out (by decide)) (fun _ hk => hk.2) (.int .i64 t297)) (fun _ hk => hk.2) (.int .i64 t298)) (fun _ hk => hk.2) (.slice Ao23 t299.length co23)) (fun _ h_ => h_.1))) (Kd.R_base ho0) hb); have n1_ := Aside0.mk (Kd.R_elder' (by (with_reducible repeat (first | apply Kd.R_alloc | apply Kd.R_drewN | apply Kd.R_drew)); exact (Kd.R_mono (Kd.R_far (p := ⟨gb306, 2, none⟩) (Kd.R_far (p := ⟨gb306, 1, none⟩) (Kd.R_far (p := ⟨gb306, 0, none⟩) (Kd.R_types HO301.out BK306.out (by decide)) (fun _ hk => hk.2) (.int .i64 t297)) (fun _ hk => hk.2) (.int .i64 t298)) (fun _ hk => hk.2) (.slice Ao23 t299.length co23)) (fun _ h_ => h_.1))) (Kd.R_base ho0) hb); have n2_ := Aside0.mk (Kd.R_elder' (by (with_reducible repeat (first | apply Kd.R_alloc | apply Kd.R_drewN | apply Kd.R_drew)); exact (Kd.R_mono (Kd.R_far (p := ⟨gb306, 2, none⟩) (Kd.R_far (p := ⟨gb306, 1, none⟩) (Kd.R_far (p := ⟨gb306, 0, none⟩) (Kd.R_types HO304.out BK306.out (by decide)) (fun _ hk => hk.2) (.int .i64 t297)) (fun _ hk => hk.2) (.int .i64 t298)) (fun _ hk => hk.2) (.slice Ao23 t299.length co23)) (fun _ h_ => h_.1))) (Kd.R_base ho0) hb); have n3_ := Aside0.mk (Kd.R_lower (Kd.R_new' (Kd.R_new' (Kd.R_new' ho0 (Kd.R_lt (by (with_reducible repeat (first | apply Kd.R_alloc | apply Kd.R_drewN | apply Kd.R_drew)); exact (Kd.R_mono (Kd.R_far (p := ⟨gb306, 2, none⟩) (Kd.R_far (p := ⟨gb306, 1, none⟩) (Kd.R_far (p := ⟨gb306, 0, none⟩) (Kd.R_types HO296.out BK306.out (by decide)) (fun _ hk => hk.2) (.int .i64 t297)) (fun _ hk => hk.2) (.int .i64 t298)) (fun _ hk => hk.2) (.slice Ao23 t299.length co23)) (fun _ h_ => h_.1))))) (Kd.R_lt (by (with_reducible repeat (first | apply Kd.R_alloc | apply Kd.R_drewN | apply Kd.R_drew)); exact (Kd.R_mono (Kd.R_far (p := ⟨gb306, 2, none⟩) (Kd.R_far (p := ⟨gb306, 1, none⟩) (Kd.R_far (p := ⟨gb306, 0, none⟩) (Kd.R_types HO301.out BK306.out (by decide)) (fun _ hk => hk.2) (.int .i64 t297)) (fun _ hk => hk.2) (.int .i64 t298)) (fun _ hk => hk.2) (.slice Ao23 t299.length co23)) (fun _ h_ => h_.1))))) (Kd.R_lt (by (with_reducible repeat (first | apply Kd.R_alloc | apply Kd.R_drewN | apply Kd.R_drew)); exact (Kd.R_mono (Kd.R_far (p := ⟨gb306, 2, none⟩) (Kd.R_far (p := ⟨gb306, 1, none⟩) (Kd.R_far (p := ⟨gb306, 0, none⟩) (Kd.R_types HO304.out BK306.out (by decide)) (fun _ hk => hk.2) (.int .i64 t297)) (fun _ hk => hk.2) (.int .i64 t298)) (fun _ hk => hk.2) (.slice Ao23 t299.length co23)) (fun _ h_ => h_.1))))) (below_size (by repeat (first | (with_reducible first | exact HB.out | apply below_alloc | apply pw_below_drewN | apply below_drew1 | refine below_set ?_ GE290.out | refine below_set ?_ GE306.out) | exact HB.out)))); have n4_ := Aside0.mk (blk_below (g := gb290) (o := .cells #[.int .i64 a0_0, .int .i64 a0_1, .slice A0_2 l0_2.length c0_2] 53 (0, 0)) (by (with_reducible repeat (first | refine blk_drewN ?_ _ | refine blk_drew ?_ | refine blk_alloc ?_ _)); refine blk_far ?_ NB290_306.out _; (with_reducible repeat (first | refine blk_drewN ?_ _ | refine blk_drew ?_ | refine blk_alloc ?_ _)); refine blk_far ?_ NB290_306.out _; (with_reducible repeat (first | refine blk_drewN ?_ _ | refine blk_drew ?_ | refine blk_alloc ?_ _)); refine blk_far ?_ NB290_306.out _; (with_reducible repeat (first | refine blk_drewN ?_ _ | refine blk_drew ?_ | refine blk_alloc ?_ _)); exact BK290.out) hb); have n5_ := Aside0.mk (blk_below (g := gb306) (o := .cells #[.int .i64 t297, .int .i64 t298, .slice Ao23 t299.length co23] 45 (0, 0)) (by (with_reducible repeat (first | refine blk_drewN ?_ _ | refine blk_drew ?_ | refine blk_alloc ?_ _)); refine blk_put (cs := #[.int .i64 t297, .int .i64 t298, .slice none 0 0]) ?_ 2 _ rfl; (with_reducible repeat (first | refine blk_drewN ?_ _ | refine blk_drew ?_ | refine blk_alloc ?_ _)); refine blk_put (cs := #[.int .i64 t297, .int .i64 0, .slice none 0 0]) ?_ 1 _ rfl; (with_reducible repeat (first | refine blk_drewN ?_ _ | refine blk_drew ?_ | refine blk_alloc ?_ _)); refine blk_put (cs := #[.int .i64 0, .int .i64 0, .slice none 0 0]) ?_ 0 _ rfl; (with_reducible repeat (first | refine blk_drewN ?_ _ | refine blk_drew ?_ | refine blk_alloc ?_ _)); exact BK306.out) hb); have n6_ := Aside0.mk (below_step (by repeat (first | (with_reducible first | exact HB.out | apply below_alloc | apply pw_below_drewN | apply below_drew1 | refine below_set ?_ GE290.out | refine below_set ?_ GE306.out) | exact HB.out)) hb); clear HO296; clear HO301; clear HO304; clear BK290; clear BK306; clear HB; have HO296 := n0_; have HO301 := n1_; have HO304 := n2_; have HO311 := n3_; have BK290 := n4_; have BK306 := n5_; have HB := n6_; clear n0_ n1_ n2_ n3_ n4_ n5_ n6_; (try clear hb); (try clear hb2); (try clear hk); (try clear hi); (try clear ho0)) | ((with_reducible refine gate_dst (N := 9) rfl ?_); refine box_event ?hg (N := 9) ?hd (cs := #[.int .i64 0, .int .i64 0, .slice none 0 0]) (t := 45) ?hr ?_; (case hd => rfl); (case hg => rfl); (case hr => first | (go_simp; done) | (go_simp; rfl)); intro gb312 hg w26 hbox hb; have n0_ := Aside0.mk (Kd.R_below (by (with_reducible repeat (first | apply Kd.R_alloc | apply Kd.R_drewN | apply Kd.R_drew)); exact HO296.out) hb); have n1_ := Aside0.mk (Kd.R_below (by (with_reducible repeat (first | apply Kd.R_alloc | apply Kd.R_drewN | apply Kd.R_drew)); exact HO301.out) hb); have n2_ := Aside0.mk (Kd.R_below (by (with_reducible repeat (first | apply Kd.R_alloc | apply Kd.R_drewN | apply Kd.R_drew)); exact HO304.out) hb); have n3_ := Aside0.mk (Kd.R_below (by (with_reducible repeat (first | apply Kd.R_alloc | apply Kd.R_drewN | apply Kd.R_drew)); exact HO311.out) hb); have n4_ := Aside0.mk (blk_below (g := gb290) (o := .cells #[.int .i64 a0_0, .int .i64 a0_1, .slice A0_2 l0_2.length c0_2] 53 (0, 0)) (by (with_reducible repeat (first | refine blk_drewN ?_ _ | refine blk_drew ?_ | refine blk_alloc ?_ _)); exact BK290.out) hb); have n5_ := Aside0.mk (blk_below (g := gb306) (o := .cells #[.int .i64 t297, .int .i64 t298, .slice Ao23 t299.length co23] 45 (0, 0)) (by (with_reducible repeat (first | refine blk_drewN ?_ _ | refine blk_drew ?_ | refine blk_alloc ?_ _)); exact BK306.out) hb); have n6_ := Aside0.mk (below_step (by repeat (first | (with_reducible first | exact HB.out | apply below_alloc | apply pw_below_drewN | apply below_drew1 | refine below_set ?_ GE290.out | refine below_set ?_ GE306.out) | exact HB.out)) hb); have n7_ := Aside0.mk (hbox); have n8_ := Aside0.mk ((by rw [hg]; exact (below_size (by repeat (first | (with_reducible first | exact HB.out | apply below_alloc | apply pw_below_drewN | apply below_drew1 | refine below_set ?_ GE290.out | refine below_set ?_ GE306.out) | exact HB.out))) : w.heap.size ≤ gb312)); have n9_ := Aside0.mk ((by rw [hg]; exact (below_size (by repeat (first | (with_reducible first | exact HB.out | apply below_alloc | apply pw_below_drewN | apply below_drew1 | refine below_set ?_ GE290.out | refine below_set ?_ GE306.out) | exact HB.out))) : w.heap.size ≤ gb312)); have n10_ := Aside0.mk ((by rw [hg]; exact Nat.ne_of_lt (blk_lt (g := gb290) (o := .cells #[.int .i64 a0_0, .int .i64 a0_1, .slice A0_2 l0_2.length c0_2] 53 (0, 0)) (by (with_reducible repeat (first | refine blk_drewN ?_ _ | refine blk_drew ?_ | refine blk_alloc ?_ _)); exact BK290.out)) : gb290 ≠ gb312)); have n11_ := Aside0.mk ((by rw [hg]; exact Nat.ne_of_gt (blk_lt (g := gb290) (o := .cells #[.int .i64 a0_0, .int .i64 a0_1, .slice A0_2 l0_2.length c0_2] 53 (0, 0)) (by (with_reducible repeat (first | refine blk_drewN ?_ _ | refine blk_drew ?_ | refine blk_alloc ?_ _)); exact BK290.out)) : gb312 ≠ gb290)); have n12_ := Aside0.mk ((by rw [hg]; exact Nat.ne_of_lt (blk_lt (g := gb306) (o := .cells #[.int .i64 t297, .int .i64 t298, .slice Ao23 t299.length co23] 45 (0, 0)) (by (with_reducible repeat (first | refine blk_drewN ?_ _ | refine blk_drew ?_ | refine blk_alloc ?_ _)); exact BK306.out)) : gb306 ≠ gb312)); have n13_ := Aside0.mk ((by rw [hg]; exact Nat.ne_of_gt (blk_lt (g := gb306) (o := .cells #[.int .i64 t297, .int .i64 t298, .slice Ao23 t299.length co23] 45 (0, 0)) (by (with_reducible repeat (first | refine blk_drewN ?_ _ | refine blk_drew ?_ | refine blk_alloc ?_ _)); exact BK306.out)) : gb312 ≠ gb306)); clear HO296; clear HO301; clear HO304; clear HO311; clear BK290; clear BK306; clear HB; have HO296 := n0_; have HO301 := n1_; have HO304 := n2_; have HO311 := n3_; have BK290 := n4_; have BK306 := n5_; have HB := n6_; have BK312 := n7_; have GW312 := n8_; have GE312 := n9_; have NB290_312 := n10_; have NB312_290 := n11_; have NB306_312 := n12_; have NB312_306 := n13_; clear n0_ n1_ n2_ n3_ n4_ n5_ n6_ n7_ n8_ n9_ n10_ n11_ n12_ n13_; clear hb hbox hg; have hnb27 := NB312_290.out; have hnc27 := NB290_312.out; have hnb28 := NB312_306.out; have hnc28 := NB306_312.out; have hcz29_0 : w26.cell? ⟨gb312, 0, none⟩ = some (.int .i64 0) := (blk_cell BK312.out 0).trans rfl; have hcz29_1 : w26.cell? ⟨gb312, 1, none⟩ = some (.int .i64 0) := (blk_cell BK312.out 1).trans rfl; have hcz29_2 : w26.cell? ⟨gb312, 2, none⟩ = some (.slice none 0 0) := (blk_cell BK312.out 2).trans rfl; have hfz29_0 := blk_frozen BK312.out 0; have hfz29_1 := blk_frozen BK312.out 1; have hfz29_2 := blk_frozen BK312.out 2; obtain ⟨Ao30, co30, eo30⟩ := Kd.R_slice HO311.out; subst eo30) | ((with_reducible refine gate_callee (f := 35) rfl ?_); refine goesL_ (some 37) rfl rfl Try.func35 (by kernel_rfl) rfl #[.agg #[.int .i64 t307, .int .i64 t308, .slice Ao30 t309.length co30], .int .i64 a1] rfl (by (try simp only [List.map_toArray, List.map_cons, List.map_nil]); first | done | rfl | (simp only [List.length_drop, List.length_take]; rfl)) ?_; (with_reducible refine (impl_AcceptSeq.calls k t307 t308 _ _ t309 a1 t313 t314 t315 t318 t321 _ ?side1 ?side2 A11.out).mono ?_); (case side1 => refine (Kd.R_reads' (e := 3) (base := w.heap.size) (ok := fun k_ => (((True ∧ some k_ ≠ (.slice Ao18 t294.length co18 : Value).ownBlock) ∧ some k_ ≠ (.slice Ao23 t299.length co23 : Value).ownBlock) ∧ some k_ ≠ (v303 : Value).ownBlock)) (n := t309.length) (c := co30) ?_).2.2; exact (by (with_reducible repeat (first | apply Kd.R_alloc | apply Kd.R_drewN | apply Kd.R_drew)); exact (Kd.R_mono (Kd.R_far (p := ⟨gb312, 2, none⟩) (Kd.R_far (p := ⟨gb312, 1, none⟩) (Kd.R_far (p := ⟨gb312, 0, none⟩) (Kd.R_types HO311.out BK312.out (by decide)) (fun _ hk => hk.2) (.int .i64 t307)) (fun _ hk => hk.2) (.int .i64 t308)) (fun _ hk => hk.2) (.slice Ao30 t309.length co30)) (fun _ h_ => h_.1)))); (case side2 => exact (Kd.R_reads' HO311.out).2.1); rintro e w31 ⟨v316, v319, rfl, ho0, ho1, hb⟩; refine ⟨_, rfl, ?_⟩; have n0_ := Aside0.mk (Kd.R_mono (Kd.R_told (Kd.R_told (Kd.R_old (by (with_reducible repeat (first | apply Kd.R_alloc | apply Kd.R_drewN | apply Kd.R_drew)); exact (Kd.R_mono (Kd.R_far (p := ⟨gb312, 2, none⟩) (Kd.R_far (p := ⟨gb312, 1, none⟩) (Kd.R_far (p := ⟨gb312, 0, none⟩) (Kd.R_types HO296.out BK312.out (by decide)) (fun _ hk => hk.2) (.int .i64 t307)) (fun _ hk => hk.2) (.int .i64 t308)) (fun _ hk => hk.2) (.slice Ao30 t309.length co30)) (fun _ h_ => h_.1))) hb) (Kd.Q_base ho0)) (Kd.R_base ho1)) (fun _ h_ => h_.1)); have n1_ := Aside0.mk (Kd.R_mono (Kd.R_told (Kd.R_told (Kd.R_old (by (with_reducible repeat (first | apply Kd.R_alloc | apply Kd.R_drewN | apply Kd.R_drew)); exact (Kd.R_mono (Kd.R_far (p := ⟨gb312, 2, none⟩) (Kd.R_far (p := ⟨gb312, 1, none⟩) (Kd.R_far (p := ⟨gb312, 0, none⟩) (Kd.R_types HO301.out BK312.out (by decide)) (fun _ hk => hk.2) (.int .i64 t307)) (fun _ hk => hk.2) (.int .i64 t308)) (fun _ hk => hk.2) (.slice Ao30 t309.length co30)) (fun _ h_ => h_.1))) hb) (Kd.Q_base ho0)) (Kd.R_base ho1)) (fun _ h_ => h_.1)); have n2_ := Aside0.mk (Kd.R_mono (Kd.R_told (Kd.R_told (Kd.R_old (by (with_reducible repeat (first | apply Kd.R_alloc | apply Kd.R_drewN | apply Kd.R_drew)); exact (Kd.R_mono (Kd.R_far (p := ⟨gb312, 2, none⟩) (Kd.R_far (p := ⟨gb312, 1, none⟩) (Kd.R_far (p := ⟨gb312, 0, none⟩) (Kd.R_types HO304.out BK312.out (by decide)) (fun _ hk => hk.2) (.int .i64 t307)) (fun _ hk => hk.2) (.int .i64 t308)) (fun _ hk => hk.2) (.slice Ao30 t309.length co30)) (fun _ h_ => h_.1))) hb) (Kd.Q_base ho0)) (Kd.R_base ho1)) (fun _ h_ => h_.1)); have n3_ := Aside0.mk (Kd.R_mono (Kd.R_told (Kd.R_told (Kd.R_old (by (with_reducible repeat (first | apply Kd.R_alloc | apply Kd.R_drewN | apply Kd.R_drew)); exact (Kd.R_mono (Kd.R_far (p := ⟨gb312, 2, none⟩) (Kd.R_far (p := ⟨gb312, 1, none⟩) (Kd.R_far (p := ⟨gb312, 0, none⟩) (Kd.R_types HO311.out BK312.out (by decide)) (fun _ hk => hk.2) (.int .i64 t307)) (fun _ hk => hk.2) (.int .i64 t308)) (fun _ hk => hk.2) (.slice Ao30 t309.length co30)) (fun _ h_ => h_.1))) hb) (Kd.Q_base ho0)) (Kd.R_base ho1)) (fun _ h_ => h_.1)); have n4_ := Aside0.mk (Kd.Q_lower (Kd.Q_new' (Kd.Q_new' (Kd.Q_new' (Kd.Q_new' ho0 (Kd.R_lt (by (with_reducible repeat (first | apply Kd.R_alloc | apply Kd.R_drewN | apply Kd.R_drew)); exact (Kd.R_mono (Kd.R_far (p := ⟨gb312, 2, none⟩) (Kd.R_far (p := ⟨gb312, 1, none⟩) (Kd.R_far (p := ⟨gb312, 0, none⟩) (Kd.R_types HO296.out BK312.out (by decide)) (fun _ hk => hk.2) (.int .i64 t307)) (fun _ hk => hk.2) (.int .i64 t308)) (fun _ hk => hk.2) (.slice Ao30 t309.length co30)) (fun _ h_ => h_.1))))) (Kd.R_lt (by (with_reducible repeat (first | apply Kd.R_alloc | apply Kd.R_drewN | apply Kd.R_drew)); exact (Kd.R_mono (Kd.R_far (p := ⟨gb312, 2, none⟩) (Kd.R_far (p := ⟨gb312, 1, none⟩) (Kd.R_far (p := ⟨gb312, 0, none⟩) (Kd.R_types HO301.out BK312.out (by decide)) (fun _ hk => hk.2) (.int .i64 t307)) (fun _ hk => hk.2) (.int .i64 t308)) (fun _ hk => hk.2) (.slice Ao30 t309.length co30)) (fun _ h_ => h_.1))))) (Kd.R_lt (by (with_reducible repeat (first | apply Kd.R_alloc | apply Kd.R_drewN | apply Kd.R_drew)); exact (Kd.R_mono (Kd.R_far (p := ⟨gb312, 2, none⟩) (Kd.R_far (p := ⟨gb312, 1, none⟩) (Kd.R_far (p := ⟨gb312, 0, none⟩) (Kd.R_types HO304.out BK312.out (by decide)) (fun _ hk => hk.2) (.int .i64 t307)) (fun _ hk => hk.2) (.int .i64 t308)) (fun _ hk => hk.2) (.slice Ao30 t309.length co30)) (fun _ h_ => h_.1))))) (Kd.R_lt (by (with_reducible repeat (first | apply Kd.R_alloc | apply Kd.R_drewN | apply Kd.R_drew)); exact (Kd.R_mono (Kd.R_far (p := ⟨gb312, 2, none⟩) (Kd.R_far (p := ⟨gb312, 1, none⟩) (Kd.R_far (p := ⟨gb312, 0, none⟩) (Kd.R_types HO311.out BK312.out (by decide)) (fun _ hk => hk.2) (.int .i64 t307)) (fun _ hk => hk.2) (.int .i64 t308)) (fun _ hk => hk.2) (.slice Ao30 t309.length co30)) (fun _ h_ => h_.1))))) (below_size (by repeat (first | (with_reducible first | exact HB.out | apply below_alloc | apply pw_below_drewN | apply below_drew1 | refine below_set ?_ GE290.out | refine below_set ?_ GE306.out | refine below_set ?_ GE312.out) | exact HB.out)))); have n5_ := Aside0.mk (Kd.R_lower (Kd.R_new' (Kd.R_new' (Kd.R_new' (Kd.R_new' ho1 (Kd.R_lt (by (with_reducible repeat (first | apply Kd.R_alloc | apply Kd.R_drewN | apply Kd.R_drew)); exact (Kd.R_mono (Kd.R_far (p := ⟨gb312, 2, none⟩) (Kd.R_far (p := ⟨gb312, 1, none⟩) (Kd.R_far (p := ⟨gb312, 0, none⟩) (Kd.R_types HO296.out BK312.out (by decide)) (fun _ hk => hk.2) (.int .i64 t307)) (fun _ hk => hk.2) (.int .i64 t308)) (fun _ hk => hk.2) (.slice Ao30 t309.length co30)) (fun _ h_ => h_.1))))) (Kd.R_lt (by (with_reducible repeat (first | apply Kd.R_alloc | apply Kd.R_drewN | apply Kd.R_drew)); exact (Kd.R_mono (Kd.R_far (p := ⟨gb312, 2, none⟩) (Kd.R_far (p := ⟨gb312, 1, none⟩) (Kd.R_far (p := ⟨gb312, 0, none⟩) (Kd.R_types HO301.out BK312.out (by decide)) (fun _ hk => hk.2) (.int .i64 t307)) (fun _ hk => hk.2) (.int .i64 t308)) (fun _ hk => hk.2) (.slice Ao30 t309.length co30)) (fun _ h_ => h_.1))))) (Kd.R_lt (by (with_reducible repeat (first | apply Kd.R_alloc | apply Kd.R_drewN | apply Kd.R_drew)); exact (Kd.R_mono (Kd.R_far (p := ⟨gb312, 2, none⟩) (Kd.R_far (p := ⟨gb312, 1, none⟩) (Kd.R_far (p := ⟨gb312, 0, none⟩) (Kd.R_types HO304.out BK312.out (by decide)) (fun _ hk => hk.2) (.int .i64 t307)) (fun _ hk => hk.2) (.int .i64 t308)) (fun _ hk => hk.2) (.slice Ao30 t309.length co30)) (fun _ h_ => h_.1))))) (Kd.R_lt (by (with_reducible repeat (first | apply Kd.R_alloc | apply Kd.R_drewN | apply Kd.R_drew)); exact (Kd.R_mono (Kd.R_far (p := ⟨gb312, 2, none⟩) (Kd.R_far (p := ⟨gb312, 1, none⟩) (Kd.R_far (p := ⟨gb312, 0, none⟩) (Kd.R_types HO311.out BK312.out (by decide)) (fun _ hk => hk.2) (.int .i64 t307)) (fun _ hk => hk.2) (.int .i64 t308)) (fun _ hk => hk.2) (.slice Ao30 t309.length co30)) (fun _ h_ => h_.1))))) (below_size (by repeat (first | (with_reducible first | exact HB.out | apply below_alloc | apply pw_below_drewN | apply below_drew1 | refine below_set ?_ GE290.out | refine below_set ?_ GE306.out | refine below_set ?_ GE312.out) | exact HB.out)))); have n6_ := Aside0.mk (blk_below (g := gb290) (o := .cells #[.int .i64 a0_0, .int .i64 a0_1, .slice A0_2 l0_2.length c0_2] 53 (0, 0)) (by (with_reducible repeat (first | refine blk_drewN ?_ _ | refine blk_drew ?_ | refine blk_alloc ?_ _)); refine blk_far ?_ NB290_312.out _; (with_reducible repeat (first | refine blk_drewN ?_ _ | refine blk_drew ?_ | refine blk_alloc ?_ _)); refine blk_far ?_ NB290_312.out _; (with_reducible repeat (first | refine blk_drewN ?_ _ | refine blk_drew ?_ | refine blk_alloc ?_ _)); refine blk_far ?_ NB290_312.out _; (with_reducible repeat (first | refine blk_drewN ?_ _ | refine blk_drew ?_ | refine blk_alloc ?_ _)); exact BK290.out) hb); have n7_ := Aside0.mk (blk_below (g := gb306) (o := .cells #[.int .i64 t297, .int .i64 t298, .slice Ao23 t299.length co23] 45 (0, 0)) (by (with_reducible repeat (first | refine blk_drewN ?_ _ | refine blk_drew ?_ | refine blk_alloc ?_ _)); refine blk_far ?_ NB306_312.out _; (with_reducible repeat (first | refine blk_drewN ?_ _ | refine blk_drew ?_ | refine blk_alloc ?_ _)); refine blk_far ?_ NB306_312.out _; (with_reducible repeat (first | refine blk_drewN ?_ _ | refine blk_drew ?_ | refine blk_alloc ?_ _)); refine blk_far ?_ NB306_312.out _; (with_reducible repeat (first | refine blk_drewN ?_ _ | refine blk_drew ?_ | refine blk_alloc ?_ _)); exact BK306.out) hb); have n8_ := Aside0.mk (blk_below (g := gb312) (o := .cells #[.int .i64 t307, .int .i64 t308, .slice Ao30 t309.length co30] 45 (0, 0)) (by (with_reducible repeat (first | refine blk_drewN ?_ _ | refine blk_drew ?_ | refine blk_alloc ?_ _)); refine blk_put (cs := #[.int .i64 t307, .int .i64 t308, .slice none 0 0]) ?_ 2 _ rfl; (with_reducible repeat (first | refine blk_drewN ?_ _ | refine blk_drew ?_ | refine blk_alloc ?_ _)); refine blk_put (cs := #[.int .i64 t307, .int .i64 0, .slice none 0 0]) ?_ 1 _ rfl; (with_reducible repeat (first | refine blk_drewN ?_ _ | refine blk_drew ?_ | refine blk_alloc ?_ _)); refine blk_put (cs := #[.int .i64 0, .int .i64 0, .slice none 0 0]) ?_ 0 _ rfl; (with_reducible repeat (first | refine blk_drewN ?_ _ | refine blk_drew ?_ | refine blk_alloc ?_ _)); exact BK312.out) hb); have n9_ := Aside0.mk (below_step (by repeat (first | (with_reducible first | exact HB.out | apply below_alloc | apply pw_below_drewN | apply below_drew1 | refine below_set ?_ GE290.out | refine below_set ?_ GE306.out | refine below_set ?_ GE312.out) | exact HB.out)) hb); clear HO296; clear HO301; clear HO304; clear HO311; clear BK290; clear BK306; clear BK312; clear HB; have HO296 := n0_; have HO301 := n1_; have HO304 := n2_; have HO311 := n3_; have HO317 := n4_; have HO320 := n5_; have BK290 := n6_; have BK306 := n7_; have BK312 := n8_; have HB := n9_; clear n0_ n1_ n2_ n3_ n4_ n5_ n6_ n7_ n8_ n9_; (try clear hb); (try clear hb2); (try clear hk); (try clear hi); (try clear ho0); (try clear ho1)) | ((with_reducible refine gate_dst (N := 10) rfl ?_); refine box_event ?hg (N := 10) ?hd (cs := #[.int .i64 0, .int .i64 0, .slice none 0 0]) (t := 45) ?hr ?_; (case hd => rfl); (case hg => rfl); (case hr => first | (go_simp; done) | (go_simp; rfl)); intro gb322 hg w32 hbox hb; have n0_ := Aside0.mk (Kd.R_below (by (with_reducible repeat (first | apply Kd.R_alloc | apply Kd.R_drewN | apply Kd.R_drew)); exact HO296.out) hb); have n1_ := Aside0.mk (Kd.R_below (by (with_reducible repeat (first | apply Kd.R_alloc | apply Kd.R_drewN | apply Kd.R_drew)); exact HO301.out) hb); have n2_ := Aside0.mk (Kd.R_below (by (with_reducible repeat (first | apply Kd.R_alloc | apply Kd.R_drewN | apply Kd.R_drew)); exact HO304.out) hb); have n3_ := Aside0.mk (Kd.R_below (by (with_reducible repeat (first | apply Kd.R_alloc | apply Kd.R_drewN | apply Kd.R_drew)); exact HO311.out) hb); have n4_ := Aside0.mk (Kd.Q_below (by (with_reducible repeat (first | apply Kd.Q_alloc | apply Kd.Q_drewN | apply Kd.Q_drew)); exact HO317.out) hb); have n5_ := Aside0.mk (Kd.R_below (by (with_reducible repeat (first | apply Kd.R_alloc | apply Kd.R_drewN | apply Kd.R_drew)); exact HO320.out) hb); have n6_ := Aside0.mk (blk_below (g := gb290) (o := .cells #[.int .i64 a0_0, .int .i64 a0_1, .slice A0_2 l0_2.length c0_2] 53 (0, 0)) (by (with_reducible repeat (first | refine blk_drewN ?_ _ | refine blk_drew ?_ | refine blk_alloc ?_ _)); exact BK290.out) hb); have n7_ := Aside0.mk (blk_below (g := gb306) (o := .cells #[.int .i64 t297, .int .i64 t298, .slice Ao23 t299.length co23] 45 (0, 0)) (by (with_reducible repeat (first | refine blk_drewN ?_ _ | refine blk_drew ?_ | refine blk_alloc ?_ _)); exact BK306.out) hb); have n8_ := Aside0.mk (blk_below (g := gb312) (o := .cells #[.int .i64 t307, .int .i64 t308, .slice Ao30 t309.length co30] 45 (0, 0)) (by (with_reducible repeat (first | refine blk_drewN ?_ _ | refine blk_drew ?_ | refine blk_alloc ?_ _)); exact BK312.out) hb); have n9_ := Aside0.mk (below_step (by repeat (first | (with_reducible first | exact HB.out | apply below_alloc | apply pw_below_drewN | apply below_drew1 | refine below_set ?_ GE290.out | refine below_set ?_ GE306.out | refine below_set ?_ GE312.out) | exact HB.out)) hb); have n10_ := Aside0.mk (hbox); have n11_ := Aside0.mk ((by rw [hg]; exact (below_size (by repeat (first | (with_reducible first | exact HB.out | apply below_alloc | apply pw_below_drewN | apply below_drew1 | refine below_set ?_ GE290.out | refine below_set ?_ GE306.out | refine below_set ?_ GE312.out) | exact HB.out))) : w.heap.size ≤ gb322)); have n12_ := Aside0.mk ((by rw [hg]; exact (below_size (by repeat (first | (with_reducible first | exact HB.out | apply below_alloc | apply pw_below_drewN | apply below_drew1 | refine below_set ?_ GE290.out | refine below_set ?_ GE306.out | refine below_set ?_ GE312.out) | exact HB.out))) : w.heap.size ≤ gb322)); have n13_ := Aside0.mk ((by rw [hg]; exact Nat.ne_of_lt (blk_lt (g := gb290) (o := .cells #[.int .i64 a0_0, .int .i64 a0_1, .slice A0_2 l0_2.length c0_2] 53 (0, 0)) (by (with_reducible repeat (first | refine blk_drewN ?_ _ | refine blk_drew ?_ | refine blk_alloc ?_ _)); exact BK290.out)) : gb290 ≠ gb322)); have n14_ := Aside0.mk ((by rw [hg]; exact Nat.ne_of_gt (blk_lt (g := gb290) (o := .cells #[.int .i64 a0_0, .int .i64 a0_1, .slice A0_2 l0_2.length c0_2] 53 (0, 0)) (by (with_reducible repeat (first | refine blk_drewN ?_ _ | refine blk_drew ?_ | refine blk_alloc ?_ _)); exact BK290.out)) : gb322 ≠ gb290)); have n15_ := Aside0.mk ((by rw [hg]; exact Nat.ne_of_lt (blk_lt (g := gb306) (o := .cells #[.int .i64 t297, .int .i64 t298, .slice Ao23 t299.length co23] 45 (0, 0)) (by (with_reducible repeat (first | refine blk_drewN ?_ _ | refine blk_drew ?_ | refine blk_alloc ?_ _)); exact BK306.out)) : gb306 ≠ gb322)); have n16_ := Aside0.mk ((by rw [hg]; exact Nat.ne_of_gt (blk_lt (g := gb306) (o := .cells #[.int .i64 t297, .int .i64 t298, .slice Ao23 t299.length co23] 45 (0, 0)) (by (with_reducible repeat (first | refine blk_drewN ?_ _ | refine blk_drew ?_ | refine blk_alloc ?_ _)); exact BK306.out)) : gb322 ≠ gb306)); have n17_ := Aside0.mk ((by rw [hg]; exact Nat.ne_of_lt (blk_lt (g := gb312) (o := .cells #[.int .i64 t307, .int .i64 t308, .slice Ao30 t309.length co30] 45 (0, 0)) (by (with_reducible repeat (first | refine blk_drewN ?_ _ | refine blk_drew ?_ | refine blk_alloc ?_ _)); exact BK312.out)) : gb312 ≠ gb322)); have n18_ := Aside0.mk ((by rw [hg]; exact Nat.ne_of_gt (blk_lt (g := gb312) (o := .cells #[.int .i64 t307, .int .i64 t308, .slice Ao30 t309.length co30] 45 (0, 0)) (by (with_reducible repeat (first | refine blk_drewN ?_ _ | refine blk_drew ?_ | refine blk_alloc ?_ _)); exact BK312.out)) : gb322 ≠ gb312)); clear HO296; clear HO301; clear HO304; clear HO311; clear HO317; clear HO320; clear BK290; clear BK306; clear BK312; clear HB; have HO296 := n0_; have HO301 := n1_; have HO304 := n2_; have HO311 := n3_; have HO317 := n4_; have HO320 := n5_; have BK290 := n6_; have BK306 := n7_; have BK312 := n8_; have HB := n9_; have BK322 := n10_; have GW322 := n11_; have GE322 := n12_; have NB290_322 := n13_; have NB322_290 := n14_; have NB306_322 := n15_; have NB322_306 := n16_; have NB312_322 := n17_; have NB322_312 := n18_; clear n0_ n1_ n2_ n3_ n4_ n5_ n6_ n7_ n8_ n9_ n10_ n11_ n12_ n13_ n14_ n15_ n16_ n17_ n18_; clear hb hbox hg; have hnb33 := NB322_290.out; have hnc33 := NB290_322.out; have hnb34 := NB322_306.out; have hnc34 := NB306_322.out; have hnb35 := NB322_312.out; have hnc35 := NB312_322.out; have hcz36_0 : w32.cell? ⟨gb322, 0, none⟩ = some (.int .i64 0) := (blk_cell BK322.out 0).trans rfl; have hcz36_1 : w32.cell? ⟨gb322, 1, none⟩ = some (.int .i64 0) := (blk_cell BK322.out 1).trans rfl; have hcz36_2 : w32.cell? ⟨gb322, 2, none⟩ = some (.slice none 0 0) := (blk_cell BK322.out 2).trans rfl; have hfz36_0 := blk_frozen BK322.out 0; have hfz36_1 := blk_frozen BK322.out 1; have hfz36_2 := blk_frozen BK322.out 2; obtain ⟨Ao37, co37, eo37, _⟩ := Kd.Q_slice HO317.out; subst eo37))
    (try simp only [Act.put, List.setIfInBounds_toArray, List.set_cons_zero, List.set_cons_succ])
    go_cut [55] (fun v55 wc => ∃ (kq : Nat) (x55_11 : Bool), v55 = .bool x55_11 ∧ Aside0 (laws_FnExactAcceptSeq.j0 kq a1 t302 t305 t318 t321 x55_11 a0_0 a0_1 l0_2 t297 t298 t299 t307 t308 t309 t313 t314 t315 = some r) ∧ Aside0 (kq ≤ k) ∧ Aside0 (Kd.R (Kd.int .i64) 3 wc w.heap.size (fun k_ => some k_ ≠ (v319 : Value).ownBlock ∧ some k_ ≠ ((.slice Ao23 t299.length co23) : Value).ownBlock ∧ some k_ ≠ ((.slice Ao30 t309.length co30) : Value).ownBlock ∧ some k_ ≠ ((.slice Ao37 t315.length co37) : Value).ownBlock) v303 t302) ∧ Aside0 (Kd.R (Kd.int .i64) 3 wc w.heap.size (fun k_ => some k_ ≠ (v303 : Value).ownBlock ∧ some k_ ≠ ((.slice Ao23 t299.length co23) : Value).ownBlock ∧ some k_ ≠ ((.slice Ao30 t309.length co30) : Value).ownBlock ∧ some k_ ≠ ((.slice Ao37 t315.length co37) : Value).ownBlock) v319 t318) ∧ Aside0 (Kd.Q (Kd.int .i64) 3 wc w.heap.size (fun k_ => some k_ ≠ (v303 : Value).ownBlock ∧ some k_ ≠ (v319 : Value).ownBlock ∧ some k_ ≠ ((.slice Ao30 t309.length co30) : Value).ownBlock ∧ some k_ ≠ ((.slice Ao37 t315.length co37) : Value).ownBlock) (.slice Ao23 t299.length co23) t299) ∧ Aside0 (Kd.Q (Kd.int .i64) 3 wc w.heap.size (fun k_ => some k_ ≠ (v303 : Value).ownBlock ∧ some k_ ≠ (v319 : Value).ownBlock ∧ some k_ ≠ ((.slice Ao23 t299.length co23) : Value).ownBlock ∧ some k_ ≠ ((.slice Ao37 t315.length co37) : Value).ownBlock) (.slice Ao30 t309.length co30) t309) ∧ Aside0 (Kd.Q (Kd.int .i64) 3 wc w.heap.size (fun k_ => some k_ ≠ (v303 : Value).ownBlock ∧ some k_ ≠ (v319 : Value).ownBlock ∧ some k_ ≠ ((.slice Ao23 t299.length co23) : Value).ownBlock ∧ some k_ ≠ ((.slice Ao30 t309.length co30) : Value).ownBlock) (.slice Ao37 t315.length co37) t315) ∧ Aside0 (wc.heap[gb290]? = some (.cells #[.int .i64 a0_0, .int .i64 a0_1, (.slice A0_2 l0_2.length c0_2)] 53 (0, 0))) ∧ Aside0 (wc.heap[gb306]? = some (.cells #[.int .i64 t297, .int .i64 t298, (.slice Ao23 t299.length co23)] 45 (0, 0))) ∧ Aside0 (wc.heap[gb312]? = some (.cells #[.int .i64 t307, .int .i64 t308, (.slice Ao30 t309.length co30)] 45 (0, 0))) ∧ Aside0 (wc.heap[gb322]? = some (.cells #[.int .i64 t313, .int .i64 t314, (.slice Ao37 t315.length co37)] 45 (0, 0))) ∧ Aside0 (Below w.heap.size w wc))
    case first =>
      have H := HC12.out
      clear HC12
      replace H := Option.bind_eq_some_iff.mp H
      obtain ⟨t323, A380, H⟩ := H
      replace H : (if t323 = true then ((laws_eqIntS.f k t318 t302).bind fun t324 => (if t324 = true then (laws_FnExactAcceptSeq.j0 k a1 t302 t305 t318 t321 (t321 != t305) a0_0 a0_1 l0_2 t297 t298 t299 t307 t308 t309 t313 t314 t315) else (laws_FnExactAcceptSeq.j0 k a1 t302 t305 t318 t321 true a0_0 a0_1 l0_2 t297 t298 t299 t307 t308 t309 t313 t314 t315))) else (laws_FnExactAcceptSeq.j0 k a1 t302 t305 t318 t321 true a0_0 a0_1 l0_2 t297 t298 t299 t307 t308 t309 t313 t314 t315)) = some r := H
      have A38 := Aside0.mk A380
      clear A380
      by_cases c39 : t323 = true
      · subst c39
        have H1 : ((laws_eqIntS.f k t318 t302).bind fun t324 => (if t324 = true then (laws_FnExactAcceptSeq.j0 k a1 t302 t305 t318 t321 (t321 != t305) a0_0 a0_1 l0_2 t297 t298 t299 t307 t308 t309 t313 t314 t315) else (laws_FnExactAcceptSeq.j0 k a1 t302 t305 t318 t321 true a0_0 a0_1 l0_2 t297 t298 t299 t307 t308 t309 t313 t314 t315))) = some r := by rw [if_pos rfl] at H; exact H
        clear H
        have H := H1
        clear H1
        replace H := Option.bind_eq_some_iff.mp H
        obtain ⟨t324, A400, H⟩ := H
        replace H : (if t324 = true then (laws_FnExactAcceptSeq.j0 k a1 t302 t305 t318 t321 (t321 != t305) a0_0 a0_1 l0_2 t297 t298 t299 t307 t308 t309 t313 t314 t315) else (laws_FnExactAcceptSeq.j0 k a1 t302 t305 t318 t321 true a0_0 a0_1 l0_2 t297 t298 t299 t307 t308 t309 t313 t314 t315)) = some r := H
        have A40 := Aside0.mk A400
        clear A400
        by_cases c41 : t324 = true
        · subst c41
          have H1 : (laws_FnExactAcceptSeq.j0 k a1 t302 t305 t318 t321 (t321 != t305) a0_0 a0_1 l0_2 t297 t298 t299 t307 t308 t309 t313 t314 t315) = some r := by rw [if_pos rfl] at H; exact H
          clear H
          have H := H1
          clear H1
          have H' := Aside0.mk H
          clear H
          have hnb42 := NB322_290.out
          have hnc42 := NB290_322.out
          have hnb43 := NB322_306.out
          have hnc43 := NB306_322.out
          have hnb44 := NB322_312.out
          have hnc44 := NB312_322.out
          have hcz45_0 : w32.cell? ⟨gb322, 0, none⟩ = some (.int .i64 0) := (blk_cell BK322.out 0).trans rfl
          have hcz45_1 : w32.cell? ⟨gb322, 1, none⟩ = some (.int .i64 0) := (blk_cell BK322.out 1).trans rfl
          have hcz45_2 : w32.cell? ⟨gb322, 2, none⟩ = some (.slice none 0 0) := (blk_cell BK322.out 2).trans rfl
          have hfz45_0 := blk_frozen BK322.out 0
          have hfz45_1 := blk_frozen BK322.out 1
          have hfz45_2 := blk_frozen BK322.out 2
          have hnb46 := NB306_290.out
          have hnc46 := NB290_306.out
          have hnb47 := NB306_312.out
          have hnc47 := NB312_306.out
          have hcz48_0 : w32.cell? ⟨gb306, 0, none⟩ = some (.int .i64 t297) := (blk_cell BK306.out 0).trans rfl
          have hcz48_1 : w32.cell? ⟨gb306, 1, none⟩ = some (.int .i64 t298) := (blk_cell BK306.out 1).trans rfl
          have hcz48_2 : w32.cell? ⟨gb306, 2, none⟩ = some (.slice Ao23 t299.length co23) := (blk_cell BK306.out 2).trans rfl
          have hfz48_0 := blk_frozen BK306.out 0
          have hfz48_1 := blk_frozen BK306.out 1
          have hfz48_2 := blk_frozen BK306.out 2
          go_wp2_with (first | ((with_reducible refine gate_callee (f := 36) rfl ?_); refine goesL_ (some 43) rfl rfl Try.func36 (by kernel_rfl) rfl #[.agg #[.int .i64 t313, .int .i64 t314, .slice Ao37 t315.length co37], .agg #[.int .i64 t297, .int .i64 t298, .slice Ao23 t299.length co23]] rfl (by (try simp only [List.map_toArray, List.map_cons, List.map_nil]); first | done | rfl | (simp only [List.length_drop, List.length_take]; rfl)) ?_; (with_reducible refine (laws_eqStream.calls k t313 t314 _ _ t315 t297 t298 _ _ t299 true _ ?side1 ?side2 ?side3 ?side4 A38.out).mono ?_); (case side1 => refine (Kd.Q_reads' (e := 3) (base := w.heap.size) (ok := fun k_ => ((((some k_ ≠ (v319 : Value).ownBlock ∧ some k_ ≠ (.slice Ao18 t294.length co18 : Value).ownBlock) ∧ some k_ ≠ (.slice Ao23 t299.length co23 : Value).ownBlock) ∧ some k_ ≠ (v303 : Value).ownBlock) ∧ some k_ ≠ (.slice Ao30 t309.length co30 : Value).ownBlock)) (n := t315.length) (c := co37) ?_).2.2; exact (by (with_reducible repeat (first | apply Kd.Q_alloc | apply Kd.Q_drewN | apply Kd.Q_drew)); exact (Kd.Q_mono (Kd.Q_far (p := ⟨gb322, 2, none⟩) (Kd.Q_far (p := ⟨gb322, 1, none⟩) (Kd.Q_far (p := ⟨gb322, 0, none⟩) (Kd.Q_types HO317.out BK322.out (by decide)) (fun _ hk => hk.2) (.int .i64 t313)) (fun _ hk => hk.2) (.int .i64 t314)) (fun _ hk => hk.2) (.slice Ao37 t315.length co37)) (fun _ h_ => h_.1)))); (case side2 => exact (Kd.Q_reads' HO317.out).2.1); (case side3 => refine (Kd.R_reads' (e := 3) (base := w.heap.size) (ok := fun k_ => ((((some k_ ≠ (v303 : Value).ownBlock ∧ some k_ ≠ (.slice Ao18 t294.length co18 : Value).ownBlock) ∧ some k_ ≠ (.slice Ao30 t309.length co30 : Value).ownBlock) ∧ some k_ ≠ (.slice Ao37 t315.length co37 : Value).ownBlock) ∧ some k_ ≠ (v319 : Value).ownBlock)) (n := t299.length) (c := co23) ?_).2.2; exact (by (with_reducible repeat (first | apply Kd.R_alloc | apply Kd.R_drewN | apply Kd.R_drew)); exact (Kd.R_mono (Kd.R_far (p := ⟨gb322, 2, none⟩) (Kd.R_far (p := ⟨gb322, 1, none⟩) (Kd.R_far (p := ⟨gb322, 0, none⟩) (Kd.R_types HO301.out BK322.out (by decide)) (fun _ hk => hk.2) (.int .i64 t313)) (fun _ hk => hk.2) (.int .i64 t314)) (fun _ hk => hk.2) (.slice Ao37 t315.length co37)) (fun _ h_ => h_.1)))); (case side4 => exact (Kd.R_reads' HO301.out).2.1); rintro e w49 ⟨rfl, hb⟩; refine ⟨_, rfl, ?_⟩; have n0_ := Aside0.mk (Kd.R_below (by (with_reducible repeat (first | apply Kd.R_alloc | apply Kd.R_drewN | apply Kd.R_drew)); exact (Kd.R_mono (Kd.R_far (p := ⟨gb322, 2, none⟩) (Kd.R_far (p := ⟨gb322, 1, none⟩) (Kd.R_far (p := ⟨gb322, 0, none⟩) (Kd.R_types HO296.out BK322.out (by decide)) (fun _ hk => hk.2) (.int .i64 t313)) (fun _ hk => hk.2) (.int .i64 t314)) (fun _ hk => hk.2) (.slice Ao37 t315.length co37)) (fun _ h_ => h_.1))) hb); have n1_ := Aside0.mk (Kd.R_below (by (with_reducible repeat (first | apply Kd.R_alloc | apply Kd.R_drewN | apply Kd.R_drew)); exact (Kd.R_mono (Kd.R_far (p := ⟨gb322, 2, none⟩) (Kd.R_far (p := ⟨gb322, 1, none⟩) (Kd.R_far (p := ⟨gb322, 0, none⟩) (Kd.R_types HO301.out BK322.out (by decide)) (fun _ hk => hk.2) (.int .i64 t313)) (fun _ hk => hk.2) (.int .i64 t314)) (fun _ hk => hk.2) (.slice Ao37 t315.length co37)) (fun _ h_ => h_.1))) hb); have n2_ := Aside0.mk (Kd.R_below (by (with_reducible repeat (first | apply Kd.R_alloc | apply Kd.R_drewN | apply Kd.R_drew)); exact (Kd.R_mono (Kd.R_far (p := ⟨gb322, 2, none⟩) (Kd.R_far (p := ⟨gb322, 1, none⟩) (Kd.R_far (p := ⟨gb322, 0, none⟩) (Kd.R_types HO304.out BK322.out (by decide)) (fun _ hk => hk.2) (.int .i64 t313)) (fun _ hk => hk.2) (.int .i64 t314)) (fun _ hk => hk.2) (.slice Ao37 t315.length co37)) (fun _ h_ => h_.1))) hb); have n3_ := Aside0.mk (Kd.R_below (by (with_reducible repeat (first | apply Kd.R_alloc | apply Kd.R_drewN | apply Kd.R_drew)); exact (Kd.R_mono (Kd.R_far (p := ⟨gb322, 2, none⟩) (Kd.R_far (p := ⟨gb322, 1, none⟩) (Kd.R_far (p := ⟨gb322, 0, none⟩) (Kd.R_types HO311.out BK322.out (by decide)) (fun _ hk => hk.2) (.int .i64 t313)) (fun _ hk => hk.2) (.int .i64 t314)) (fun _ hk => hk.2) (.slice Ao37 t315.length co37)) (fun _ h_ => h_.1))) hb); have n4_ := Aside0.mk (Kd.Q_below (by (with_reducible repeat (first | apply Kd.Q_alloc | apply Kd.Q_drewN | apply Kd.Q_drew)); exact (Kd.Q_mono (Kd.Q_far (p := ⟨gb322, 2, none⟩) (Kd.Q_far (p := ⟨gb322, 1, none⟩) (Kd.Q_far (p := ⟨gb322, 0, none⟩) (Kd.Q_types HO317.out BK322.out (by decide)) (fun _ hk => hk.2) (.int .i64 t313)) (fun _ hk => hk.2) (.int .i64 t314)) (fun _ hk => hk.2) (.slice Ao37 t315.length co37)) (fun _ h_ => h_.1))) hb); have n5_ := Aside0.mk (Kd.R_below (by (with_reducible repeat (first | apply Kd.R_alloc | apply Kd.R_drewN | apply Kd.R_drew)); exact (Kd.R_mono (Kd.R_far (p := ⟨gb322, 2, none⟩) (Kd.R_far (p := ⟨gb322, 1, none⟩) (Kd.R_far (p := ⟨gb322, 0, none⟩) (Kd.R_types HO320.out BK322.out (by decide)) (fun _ hk => hk.2) (.int .i64 t313)) (fun _ hk => hk.2) (.int .i64 t314)) (fun _ hk => hk.2) (.slice Ao37 t315.length co37)) (fun _ h_ => h_.1))) hb); have n6_ := Aside0.mk (blk_below (g := gb290) (o := .cells #[.int .i64 a0_0, .int .i64 a0_1, .slice A0_2 l0_2.length c0_2] 53 (0, 0)) (by (with_reducible repeat (first | refine blk_drewN ?_ _ | refine blk_drew ?_ | refine blk_alloc ?_ _)); refine blk_far ?_ NB290_322.out _; (with_reducible repeat (first | refine blk_drewN ?_ _ | refine blk_drew ?_ | refine blk_alloc ?_ _)); refine blk_far ?_ NB290_322.out _; (with_reducible repeat (first | refine blk_drewN ?_ _ | refine blk_drew ?_ | refine blk_alloc ?_ _)); refine blk_far ?_ NB290_322.out _; (with_reducible repeat (first | refine blk_drewN ?_ _ | refine blk_drew ?_ | refine blk_alloc ?_ _)); exact BK290.out) hb); have n7_ := Aside0.mk (blk_below (g := gb306) (o := .cells #[.int .i64 t297, .int .i64 t298, .slice Ao23 t299.length co23] 45 (0, 0)) (by (with_reducible repeat (first | refine blk_drewN ?_ _ | refine blk_drew ?_ | refine blk_alloc ?_ _)); refine blk_far ?_ NB306_322.out _; (with_reducible repeat (first | refine blk_drewN ?_ _ | refine blk_drew ?_ | refine blk_alloc ?_ _)); refine blk_far ?_ NB306_322.out _; (with_reducible repeat (first | refine blk_drewN ?_ _ | refine blk_drew ?_ | refine blk_alloc ?_ _)); refine blk_far ?_ NB306_322.out _; (with_reducible repeat (first | refine blk_drewN ?_ _ | refine blk_drew ?_ | refine blk_alloc ?_ _)); exact BK306.out) hb); have n8_ := Aside0.mk (blk_below (g := gb312) (o := .cells #[.int .i64 t307, .int .i64 t308, .slice Ao30 t309.length co30] 45 (0, 0)) (by (with_reducible repeat (first | refine blk_drewN ?_ _ | refine blk_drew ?_ | refine blk_alloc ?_ _)); refine blk_far ?_ NB312_322.out _; (with_reducible repeat (first | refine blk_drewN ?_ _ | refine blk_drew ?_ | refine blk_alloc ?_ _)); refine blk_far ?_ NB312_322.out _; (with_reducible repeat (first | refine blk_drewN ?_ _ | refine blk_drew ?_ | refine blk_alloc ?_ _)); refine blk_far ?_ NB312_322.out _; (with_reducible repeat (first | refine blk_drewN ?_ _ | refine blk_drew ?_ | refine blk_alloc ?_ _)); exact BK312.out) hb); have n9_ := Aside0.mk (blk_below (g := gb322) (o := .cells #[.int .i64 t313, .int .i64 t314, .slice Ao37 t315.length co37] 45 (0, 0)) (by (with_reducible repeat (first | refine blk_drewN ?_ _ | refine blk_drew ?_ | refine blk_alloc ?_ _)); refine blk_put (cs := #[.int .i64 t313, .int .i64 t314, .slice none 0 0]) ?_ 2 _ rfl; (with_reducible repeat (first | refine blk_drewN ?_ _ | refine blk_drew ?_ | refine blk_alloc ?_ _)); refine blk_put (cs := #[.int .i64 t313, .int .i64 0, .slice none 0 0]) ?_ 1 _ rfl; (with_reducible repeat (first | refine blk_drewN ?_ _ | refine blk_drew ?_ | refine blk_alloc ?_ _)); refine blk_put (cs := #[.int .i64 0, .int .i64 0, .slice none 0 0]) ?_ 0 _ rfl; (with_reducible repeat (first | refine blk_drewN ?_ _ | refine blk_drew ?_ | refine blk_alloc ?_ _)); exact BK322.out) hb); have n10_ := Aside0.mk (below_step (by repeat (first | (with_reducible first | exact HB.out | apply below_alloc | apply pw_below_drewN | apply below_drew1 | refine below_set ?_ GE290.out | refine below_set ?_ GE306.out | refine below_set ?_ GE312.out | refine below_set ?_ GE322.out) | exact HB.out)) hb); clear HO296; clear HO301; clear HO304; clear HO311; clear HO317; clear HO320; clear BK290; clear BK306; clear BK312; clear BK322; clear HB; have HO296 := n0_; have HO301 := n1_; have HO304 := n2_; have HO311 := n3_; have HO317 := n4_; have HO320 := n5_; have BK290 := n6_; have BK306 := n7_; have BK312 := n8_; have BK322 := n9_; have HB := n10_; clear n0_ n1_ n2_ n3_ n4_ n5_ n6_ n7_ n8_ n9_ n10_; (try clear hb); (try clear hb2); (try clear hk); (try clear hi); obtain ⟨Ao50, co50, eo50⟩ := Kd.R_slice HO320.out; subst eo50; obtain ⟨Ao51, co51, eo51⟩ := Kd.R_slice HO304.out; subst eo51) | (go_at_call 37; (with_reducible refine (laws_eqIntS.calls k _ _ t318 _ _ t302 true _ ?side1 ?side2 ?side3 ?side4 A40.out).mono ?_); (case side1 => repeat (first | exact (Kd.R_reads' HO320.out).2.2 | (with_reducible refine Kd.C_alloc ?_ _) | (with_reducible refine Kd.C_drewN ?_ _) | (with_reducible refine Kd.C_drew ?_))); (case side2 => exact (Kd.R_reads' HO320.out).2.1); (case side3 => repeat (first | exact (Kd.R_reads' HO304.out).2.2 | (with_reducible refine Kd.C_alloc ?_ _) | (with_reducible refine Kd.C_drewN ?_ _) | (with_reducible refine Kd.C_drew ?_))); (case side4 => exact (Kd.R_reads' HO304.out).2.1); rintro e w' ⟨rfl, ⟨nd, rfl⟩⟩))
          go_meet
          case rel => exact ⟨_, ((t321 != t305)), (by first | rfl | (simp; done) | (simp [*]; done)), H', ⟨by first | omega | exact Nat.le_refl _⟩, ⟨by (with_reducible repeat (first | apply Kd.R_alloc | apply Kd.R_drewN | apply Kd.R_drew)); exact Kd.R_mono HO304.out (fun _ hk => ⟨hk.2, ⟨hk.1.1.1.1, ⟨hk.1.1.2, hk.1.2⟩⟩⟩)⟩, ⟨by (with_reducible repeat (first | apply Kd.R_alloc | apply Kd.R_drewN | apply Kd.R_drew)); exact Kd.R_mono HO320.out (fun _ hk => ⟨hk.1.2, ⟨hk.1.1.2, ⟨hk.2, hk.1.1.1.1⟩⟩⟩)⟩, ⟨Kd.Q_of_R (by (with_reducible repeat (first | apply Kd.R_alloc | apply Kd.R_drewN | apply Kd.R_drew)); exact Kd.R_mono HO301.out (fun _ hk => ⟨hk.1.1.1.1, ⟨hk.2, ⟨hk.1.1.2, hk.1.2⟩⟩⟩))⟩, ⟨Kd.Q_of_R (by (with_reducible repeat (first | apply Kd.R_alloc | apply Kd.R_drewN | apply Kd.R_drew)); exact Kd.R_mono HO311.out (fun _ hk => ⟨hk.1.1.2, ⟨hk.2, ⟨hk.1.1.1.2, hk.1.2⟩⟩⟩))⟩, ⟨by (with_reducible repeat (first | apply Kd.Q_alloc | apply Kd.Q_drewN | apply Kd.Q_drew)); exact Kd.Q_mono HO317.out (fun _ hk => ⟨hk.1.2, ⟨hk.1.1.1.1, ⟨hk.1.1.2, hk.2⟩⟩⟩)⟩, ⟨by (with_reducible repeat (first | refine blk_drewN ?_ _ | refine blk_drew ?_ | refine blk_alloc ?_ _)); exact BK290.out⟩, ⟨by (with_reducible repeat (first | refine blk_drewN ?_ _ | refine blk_drew ?_ | refine blk_alloc ?_ _)); exact BK306.out⟩, ⟨by (with_reducible repeat (first | refine blk_drewN ?_ _ | refine blk_drew ?_ | refine blk_alloc ?_ _)); exact BK312.out⟩, ⟨by (with_reducible repeat (first | refine blk_drewN ?_ _ | refine blk_drew ?_ | refine blk_alloc ?_ _)); exact BK322.out⟩, ⟨by repeat (first | (with_reducible first | exact HB.out | apply below_alloc | apply pw_below_drewN | apply below_drew1 | refine below_set ?_ GE290.out | refine below_set ?_ GE306.out | refine below_set ?_ GE312.out | refine below_set ?_ GE322.out) | exact HB.out)⟩⟩
        · replace c41 := Bool.eq_false_iff.mpr c41
          subst c41
          have H1 : (laws_FnExactAcceptSeq.j0 k a1 t302 t305 t318 t321 true a0_0 a0_1 l0_2 t297 t298 t299 t307 t308 t309 t313 t314 t315) = some r := by rw [if_neg (show ¬ (false = true) by decide)] at H; exact H
          clear H
          have H := H1
          clear H1
          have H' := Aside0.mk H
          clear H
          have hnb52 := NB322_290.out
          have hnc52 := NB290_322.out
          have hnb53 := NB322_306.out
          have hnc53 := NB306_322.out
          have hnb54 := NB322_312.out
          have hnc54 := NB312_322.out
          have hcz55_0 : w32.cell? ⟨gb322, 0, none⟩ = some (.int .i64 0) := (blk_cell BK322.out 0).trans rfl
          have hcz55_1 : w32.cell? ⟨gb322, 1, none⟩ = some (.int .i64 0) := (blk_cell BK322.out 1).trans rfl
          have hcz55_2 : w32.cell? ⟨gb322, 2, none⟩ = some (.slice none 0 0) := (blk_cell BK322.out 2).trans rfl
          have hfz55_0 := blk_frozen BK322.out 0
          have hfz55_1 := blk_frozen BK322.out 1
          have hfz55_2 := blk_frozen BK322.out 2
          have hnb56 := NB306_290.out
          have hnc56 := NB290_306.out
          have hnb57 := NB306_312.out
          have hnc57 := NB312_306.out
          have hcz58_0 : w32.cell? ⟨gb306, 0, none⟩ = some (.int .i64 t297) := (blk_cell BK306.out 0).trans rfl
          have hcz58_1 : w32.cell? ⟨gb306, 1, none⟩ = some (.int .i64 t298) := (blk_cell BK306.out 1).trans rfl
          have hcz58_2 : w32.cell? ⟨gb306, 2, none⟩ = some (.slice Ao23 t299.length co23) := (blk_cell BK306.out 2).trans rfl
          have hfz58_0 := blk_frozen BK306.out 0
          have hfz58_1 := blk_frozen BK306.out 1
          have hfz58_2 := blk_frozen BK306.out 2
          go_wp2_with (first | ((with_reducible refine gate_callee (f := 36) rfl ?_); refine goesL_ (some 43) rfl rfl Try.func36 (by kernel_rfl) rfl #[.agg #[.int .i64 t313, .int .i64 t314, .slice Ao37 t315.length co37], .agg #[.int .i64 t297, .int .i64 t298, .slice Ao23 t299.length co23]] rfl (by (try simp only [List.map_toArray, List.map_cons, List.map_nil]); first | done | rfl | (simp only [List.length_drop, List.length_take]; rfl)) ?_; (with_reducible refine (laws_eqStream.calls k t313 t314 _ _ t315 t297 t298 _ _ t299 true _ ?side1 ?side2 ?side3 ?side4 A38.out).mono ?_); (case side1 => refine (Kd.Q_reads' (e := 3) (base := w.heap.size) (ok := fun k_ => ((((some k_ ≠ (v319 : Value).ownBlock ∧ some k_ ≠ (.slice Ao18 t294.length co18 : Value).ownBlock) ∧ some k_ ≠ (.slice Ao23 t299.length co23 : Value).ownBlock) ∧ some k_ ≠ (v303 : Value).ownBlock) ∧ some k_ ≠ (.slice Ao30 t309.length co30 : Value).ownBlock)) (n := t315.length) (c := co37) ?_).2.2; exact (by (with_reducible repeat (first | apply Kd.Q_alloc | apply Kd.Q_drewN | apply Kd.Q_drew)); exact (Kd.Q_mono (Kd.Q_far (p := ⟨gb322, 2, none⟩) (Kd.Q_far (p := ⟨gb322, 1, none⟩) (Kd.Q_far (p := ⟨gb322, 0, none⟩) (Kd.Q_types HO317.out BK322.out (by decide)) (fun _ hk => hk.2) (.int .i64 t313)) (fun _ hk => hk.2) (.int .i64 t314)) (fun _ hk => hk.2) (.slice Ao37 t315.length co37)) (fun _ h_ => h_.1)))); (case side2 => exact (Kd.Q_reads' HO317.out).2.1); (case side3 => refine (Kd.R_reads' (e := 3) (base := w.heap.size) (ok := fun k_ => ((((some k_ ≠ (v303 : Value).ownBlock ∧ some k_ ≠ (.slice Ao18 t294.length co18 : Value).ownBlock) ∧ some k_ ≠ (.slice Ao30 t309.length co30 : Value).ownBlock) ∧ some k_ ≠ (.slice Ao37 t315.length co37 : Value).ownBlock) ∧ some k_ ≠ (v319 : Value).ownBlock)) (n := t299.length) (c := co23) ?_).2.2; exact (by (with_reducible repeat (first | apply Kd.R_alloc | apply Kd.R_drewN | apply Kd.R_drew)); exact (Kd.R_mono (Kd.R_far (p := ⟨gb322, 2, none⟩) (Kd.R_far (p := ⟨gb322, 1, none⟩) (Kd.R_far (p := ⟨gb322, 0, none⟩) (Kd.R_types HO301.out BK322.out (by decide)) (fun _ hk => hk.2) (.int .i64 t313)) (fun _ hk => hk.2) (.int .i64 t314)) (fun _ hk => hk.2) (.slice Ao37 t315.length co37)) (fun _ h_ => h_.1)))); (case side4 => exact (Kd.R_reads' HO301.out).2.1); rintro e w59 ⟨rfl, hb⟩; refine ⟨_, rfl, ?_⟩; have n0_ := Aside0.mk (Kd.R_below (by (with_reducible repeat (first | apply Kd.R_alloc | apply Kd.R_drewN | apply Kd.R_drew)); exact (Kd.R_mono (Kd.R_far (p := ⟨gb322, 2, none⟩) (Kd.R_far (p := ⟨gb322, 1, none⟩) (Kd.R_far (p := ⟨gb322, 0, none⟩) (Kd.R_types HO296.out BK322.out (by decide)) (fun _ hk => hk.2) (.int .i64 t313)) (fun _ hk => hk.2) (.int .i64 t314)) (fun _ hk => hk.2) (.slice Ao37 t315.length co37)) (fun _ h_ => h_.1))) hb); have n1_ := Aside0.mk (Kd.R_below (by (with_reducible repeat (first | apply Kd.R_alloc | apply Kd.R_drewN | apply Kd.R_drew)); exact (Kd.R_mono (Kd.R_far (p := ⟨gb322, 2, none⟩) (Kd.R_far (p := ⟨gb322, 1, none⟩) (Kd.R_far (p := ⟨gb322, 0, none⟩) (Kd.R_types HO301.out BK322.out (by decide)) (fun _ hk => hk.2) (.int .i64 t313)) (fun _ hk => hk.2) (.int .i64 t314)) (fun _ hk => hk.2) (.slice Ao37 t315.length co37)) (fun _ h_ => h_.1))) hb); have n2_ := Aside0.mk (Kd.R_below (by (with_reducible repeat (first | apply Kd.R_alloc | apply Kd.R_drewN | apply Kd.R_drew)); exact (Kd.R_mono (Kd.R_far (p := ⟨gb322, 2, none⟩) (Kd.R_far (p := ⟨gb322, 1, none⟩) (Kd.R_far (p := ⟨gb322, 0, none⟩) (Kd.R_types HO304.out BK322.out (by decide)) (fun _ hk => hk.2) (.int .i64 t313)) (fun _ hk => hk.2) (.int .i64 t314)) (fun _ hk => hk.2) (.slice Ao37 t315.length co37)) (fun _ h_ => h_.1))) hb); have n3_ := Aside0.mk (Kd.R_below (by (with_reducible repeat (first | apply Kd.R_alloc | apply Kd.R_drewN | apply Kd.R_drew)); exact (Kd.R_mono (Kd.R_far (p := ⟨gb322, 2, none⟩) (Kd.R_far (p := ⟨gb322, 1, none⟩) (Kd.R_far (p := ⟨gb322, 0, none⟩) (Kd.R_types HO311.out BK322.out (by decide)) (fun _ hk => hk.2) (.int .i64 t313)) (fun _ hk => hk.2) (.int .i64 t314)) (fun _ hk => hk.2) (.slice Ao37 t315.length co37)) (fun _ h_ => h_.1))) hb); have n4_ := Aside0.mk (Kd.Q_below (by (with_reducible repeat (first | apply Kd.Q_alloc | apply Kd.Q_drewN | apply Kd.Q_drew)); exact (Kd.Q_mono (Kd.Q_far (p := ⟨gb322, 2, none⟩) (Kd.Q_far (p := ⟨gb322, 1, none⟩) (Kd.Q_far (p := ⟨gb322, 0, none⟩) (Kd.Q_types HO317.out BK322.out (by decide)) (fun _ hk => hk.2) (.int .i64 t313)) (fun _ hk => hk.2) (.int .i64 t314)) (fun _ hk => hk.2) (.slice Ao37 t315.length co37)) (fun _ h_ => h_.1))) hb); have n5_ := Aside0.mk (Kd.R_below (by (with_reducible repeat (first | apply Kd.R_alloc | apply Kd.R_drewN | apply Kd.R_drew)); exact (Kd.R_mono (Kd.R_far (p := ⟨gb322, 2, none⟩) (Kd.R_far (p := ⟨gb322, 1, none⟩) (Kd.R_far (p := ⟨gb322, 0, none⟩) (Kd.R_types HO320.out BK322.out (by decide)) (fun _ hk => hk.2) (.int .i64 t313)) (fun _ hk => hk.2) (.int .i64 t314)) (fun _ hk => hk.2) (.slice Ao37 t315.length co37)) (fun _ h_ => h_.1))) hb); have n6_ := Aside0.mk (blk_below (g := gb290) (o := .cells #[.int .i64 a0_0, .int .i64 a0_1, .slice A0_2 l0_2.length c0_2] 53 (0, 0)) (by (with_reducible repeat (first | refine blk_drewN ?_ _ | refine blk_drew ?_ | refine blk_alloc ?_ _)); refine blk_far ?_ NB290_322.out _; (with_reducible repeat (first | refine blk_drewN ?_ _ | refine blk_drew ?_ | refine blk_alloc ?_ _)); refine blk_far ?_ NB290_322.out _; (with_reducible repeat (first | refine blk_drewN ?_ _ | refine blk_drew ?_ | refine blk_alloc ?_ _)); refine blk_far ?_ NB290_322.out _; (with_reducible repeat (first | refine blk_drewN ?_ _ | refine blk_drew ?_ | refine blk_alloc ?_ _)); exact BK290.out) hb); have n7_ := Aside0.mk (blk_below (g := gb306) (o := .cells #[.int .i64 t297, .int .i64 t298, .slice Ao23 t299.length co23] 45 (0, 0)) (by (with_reducible repeat (first | refine blk_drewN ?_ _ | refine blk_drew ?_ | refine blk_alloc ?_ _)); refine blk_far ?_ NB306_322.out _; (with_reducible repeat (first | refine blk_drewN ?_ _ | refine blk_drew ?_ | refine blk_alloc ?_ _)); refine blk_far ?_ NB306_322.out _; (with_reducible repeat (first | refine blk_drewN ?_ _ | refine blk_drew ?_ | refine blk_alloc ?_ _)); refine blk_far ?_ NB306_322.out _; (with_reducible repeat (first | refine blk_drewN ?_ _ | refine blk_drew ?_ | refine blk_alloc ?_ _)); exact BK306.out) hb); have n8_ := Aside0.mk (blk_below (g := gb312) (o := .cells #[.int .i64 t307, .int .i64 t308, .slice Ao30 t309.length co30] 45 (0, 0)) (by (with_reducible repeat (first | refine blk_drewN ?_ _ | refine blk_drew ?_ | refine blk_alloc ?_ _)); refine blk_far ?_ NB312_322.out _; (with_reducible repeat (first | refine blk_drewN ?_ _ | refine blk_drew ?_ | refine blk_alloc ?_ _)); refine blk_far ?_ NB312_322.out _; (with_reducible repeat (first | refine blk_drewN ?_ _ | refine blk_drew ?_ | refine blk_alloc ?_ _)); refine blk_far ?_ NB312_322.out _; (with_reducible repeat (first | refine blk_drewN ?_ _ | refine blk_drew ?_ | refine blk_alloc ?_ _)); exact BK312.out) hb); have n9_ := Aside0.mk (blk_below (g := gb322) (o := .cells #[.int .i64 t313, .int .i64 t314, .slice Ao37 t315.length co37] 45 (0, 0)) (by (with_reducible repeat (first | refine blk_drewN ?_ _ | refine blk_drew ?_ | refine blk_alloc ?_ _)); refine blk_put (cs := #[.int .i64 t313, .int .i64 t314, .slice none 0 0]) ?_ 2 _ rfl; (with_reducible repeat (first | refine blk_drewN ?_ _ | refine blk_drew ?_ | refine blk_alloc ?_ _)); refine blk_put (cs := #[.int .i64 t313, .int .i64 0, .slice none 0 0]) ?_ 1 _ rfl; (with_reducible repeat (first | refine blk_drewN ?_ _ | refine blk_drew ?_ | refine blk_alloc ?_ _)); refine blk_put (cs := #[.int .i64 0, .int .i64 0, .slice none 0 0]) ?_ 0 _ rfl; (with_reducible repeat (first | refine blk_drewN ?_ _ | refine blk_drew ?_ | refine blk_alloc ?_ _)); exact BK322.out) hb); have n10_ := Aside0.mk (below_step (by repeat (first | (with_reducible first | exact HB.out | apply below_alloc | apply pw_below_drewN | apply below_drew1 | refine below_set ?_ GE290.out | refine below_set ?_ GE306.out | refine below_set ?_ GE312.out | refine below_set ?_ GE322.out) | exact HB.out)) hb); clear HO296; clear HO301; clear HO304; clear HO311; clear HO317; clear HO320; clear BK290; clear BK306; clear BK312; clear BK322; clear HB; have HO296 := n0_; have HO301 := n1_; have HO304 := n2_; have HO311 := n3_; have HO317 := n4_; have HO320 := n5_; have BK290 := n6_; have BK306 := n7_; have BK312 := n8_; have BK322 := n9_; have HB := n10_; clear n0_ n1_ n2_ n3_ n4_ n5_ n6_ n7_ n8_ n9_ n10_; (try clear hb); (try clear hb2); (try clear hk); (try clear hi); obtain ⟨Ao60, co60, eo60⟩ := Kd.R_slice HO320.out; subst eo60; obtain ⟨Ao61, co61, eo61⟩ := Kd.R_slice HO304.out; subst eo61) | (go_at_call 37; (with_reducible refine (laws_eqIntS.calls k _ _ t318 _ _ t302 false _ ?side1 ?side2 ?side3 ?side4 A40.out).mono ?_); (case side1 => repeat (first | exact (Kd.R_reads' HO320.out).2.2 | (with_reducible refine Kd.C_alloc ?_ _) | (with_reducible refine Kd.C_drewN ?_ _) | (with_reducible refine Kd.C_drew ?_))); (case side2 => exact (Kd.R_reads' HO320.out).2.1); (case side3 => repeat (first | exact (Kd.R_reads' HO304.out).2.2 | (with_reducible refine Kd.C_alloc ?_ _) | (with_reducible refine Kd.C_drewN ?_ _) | (with_reducible refine Kd.C_drew ?_))); (case side4 => exact (Kd.R_reads' HO304.out).2.1); rintro e w' ⟨rfl, ⟨nd, rfl⟩⟩))
          go_meet
          case rel => exact ⟨_, (true), (by first | rfl | (simp; done) | (simp [*]; done)), H', ⟨by first | omega | exact Nat.le_refl _⟩, ⟨by (with_reducible repeat (first | apply Kd.R_alloc | apply Kd.R_drewN | apply Kd.R_drew)); exact Kd.R_mono HO304.out (fun _ hk => ⟨hk.2, ⟨hk.1.1.1.1, ⟨hk.1.1.2, hk.1.2⟩⟩⟩)⟩, ⟨by (with_reducible repeat (first | apply Kd.R_alloc | apply Kd.R_drewN | apply Kd.R_drew)); exact Kd.R_mono HO320.out (fun _ hk => ⟨hk.1.2, ⟨hk.1.1.2, ⟨hk.2, hk.1.1.1.1⟩⟩⟩)⟩, ⟨Kd.Q_of_R (by (with_reducible repeat (first | apply Kd.R_alloc | apply Kd.R_drewN | apply Kd.R_drew)); exact Kd.R_mono HO301.out (fun _ hk => ⟨hk.1.1.1.1, ⟨hk.2, ⟨hk.1.1.2, hk.1.2⟩⟩⟩))⟩, ⟨Kd.Q_of_R (by (with_reducible repeat (first | apply Kd.R_alloc | apply Kd.R_drewN | apply Kd.R_drew)); exact Kd.R_mono HO311.out (fun _ hk => ⟨hk.1.1.2, ⟨hk.2, ⟨hk.1.1.1.2, hk.1.2⟩⟩⟩))⟩, ⟨by (with_reducible repeat (first | apply Kd.Q_alloc | apply Kd.Q_drewN | apply Kd.Q_drew)); exact Kd.Q_mono HO317.out (fun _ hk => ⟨hk.1.2, ⟨hk.1.1.1.1, ⟨hk.1.1.2, hk.2⟩⟩⟩)⟩, ⟨by (with_reducible repeat (first | refine blk_drewN ?_ _ | refine blk_drew ?_ | refine blk_alloc ?_ _)); exact BK290.out⟩, ⟨by (with_reducible repeat (first | refine blk_drewN ?_ _ | refine blk_drew ?_ | refine blk_alloc ?_ _)); exact BK306.out⟩, ⟨by (with_reducible repeat (first | refine blk_drewN ?_ _ | refine blk_drew ?_ | refine blk_alloc ?_ _)); exact BK312.out⟩, ⟨by (with_reducible repeat (first | refine blk_drewN ?_ _ | refine blk_drew ?_ | refine blk_alloc ?_ _)); exact BK322.out⟩, ⟨by repeat (first | (with_reducible first | exact HB.out | apply below_alloc | apply pw_below_drewN | apply below_drew1 | refine below_set ?_ GE290.out | refine below_set ?_ GE306.out | refine below_set ?_ GE312.out | refine below_set ?_ GE322.out) | exact HB.out)⟩⟩
      · replace c39 := Bool.eq_false_iff.mpr c39
        subst c39
        have H1 : (laws_FnExactAcceptSeq.j0 k a1 t302 t305 t318 t321 true a0_0 a0_1 l0_2 t297 t298 t299 t307 t308 t309 t313 t314 t315) = some r := by rw [if_neg (show ¬ (false = true) by decide)] at H; exact H
        clear H
        have H := H1
        clear H1
        have H' := Aside0.mk H
        clear H
        have hnb62 := NB322_290.out
        have hnc62 := NB290_322.out
        have hnb63 := NB322_306.out
        have hnc63 := NB306_322.out
        have hnb64 := NB322_312.out
        have hnc64 := NB312_322.out
        have hcz65_0 : w32.cell? ⟨gb322, 0, none⟩ = some (.int .i64 0) := (blk_cell BK322.out 0).trans rfl
        have hcz65_1 : w32.cell? ⟨gb322, 1, none⟩ = some (.int .i64 0) := (blk_cell BK322.out 1).trans rfl
        have hcz65_2 : w32.cell? ⟨gb322, 2, none⟩ = some (.slice none 0 0) := (blk_cell BK322.out 2).trans rfl
        have hfz65_0 := blk_frozen BK322.out 0
        have hfz65_1 := blk_frozen BK322.out 1
        have hfz65_2 := blk_frozen BK322.out 2
        have hnb66 := NB306_290.out
        have hnc66 := NB290_306.out
        have hnb67 := NB306_312.out
        have hnc67 := NB312_306.out
        have hcz68_0 : w32.cell? ⟨gb306, 0, none⟩ = some (.int .i64 t297) := (blk_cell BK306.out 0).trans rfl
        have hcz68_1 : w32.cell? ⟨gb306, 1, none⟩ = some (.int .i64 t298) := (blk_cell BK306.out 1).trans rfl
        have hcz68_2 : w32.cell? ⟨gb306, 2, none⟩ = some (.slice Ao23 t299.length co23) := (blk_cell BK306.out 2).trans rfl
        have hfz68_0 := blk_frozen BK306.out 0
        have hfz68_1 := blk_frozen BK306.out 1
        have hfz68_2 := blk_frozen BK306.out 2
        go_wp2_with (first | ((with_reducible refine gate_callee (f := 36) rfl ?_); refine goesL_ (some 43) rfl rfl Try.func36 (by kernel_rfl) rfl #[.agg #[.int .i64 t313, .int .i64 t314, .slice Ao37 t315.length co37], .agg #[.int .i64 t297, .int .i64 t298, .slice Ao23 t299.length co23]] rfl (by (try simp only [List.map_toArray, List.map_cons, List.map_nil]); first | done | rfl | (simp only [List.length_drop, List.length_take]; rfl)) ?_; (with_reducible refine (laws_eqStream.calls k t313 t314 _ _ t315 t297 t298 _ _ t299 false _ ?side1 ?side2 ?side3 ?side4 A38.out).mono ?_); (case side1 => refine (Kd.Q_reads' (e := 3) (base := w.heap.size) (ok := fun k_ => ((((some k_ ≠ (v319 : Value).ownBlock ∧ some k_ ≠ (.slice Ao18 t294.length co18 : Value).ownBlock) ∧ some k_ ≠ (.slice Ao23 t299.length co23 : Value).ownBlock) ∧ some k_ ≠ (v303 : Value).ownBlock) ∧ some k_ ≠ (.slice Ao30 t309.length co30 : Value).ownBlock)) (n := t315.length) (c := co37) ?_).2.2; exact (by (with_reducible repeat (first | apply Kd.Q_alloc | apply Kd.Q_drewN | apply Kd.Q_drew)); exact (Kd.Q_mono (Kd.Q_far (p := ⟨gb322, 2, none⟩) (Kd.Q_far (p := ⟨gb322, 1, none⟩) (Kd.Q_far (p := ⟨gb322, 0, none⟩) (Kd.Q_types HO317.out BK322.out (by decide)) (fun _ hk => hk.2) (.int .i64 t313)) (fun _ hk => hk.2) (.int .i64 t314)) (fun _ hk => hk.2) (.slice Ao37 t315.length co37)) (fun _ h_ => h_.1)))); (case side2 => exact (Kd.Q_reads' HO317.out).2.1); (case side3 => refine (Kd.R_reads' (e := 3) (base := w.heap.size) (ok := fun k_ => ((((some k_ ≠ (v303 : Value).ownBlock ∧ some k_ ≠ (.slice Ao18 t294.length co18 : Value).ownBlock) ∧ some k_ ≠ (.slice Ao30 t309.length co30 : Value).ownBlock) ∧ some k_ ≠ (.slice Ao37 t315.length co37 : Value).ownBlock) ∧ some k_ ≠ (v319 : Value).ownBlock)) (n := t299.length) (c := co23) ?_).2.2; exact (by (with_reducible repeat (first | apply Kd.R_alloc | apply Kd.R_drewN | apply Kd.R_drew)); exact (Kd.R_mono (Kd.R_far (p := ⟨gb322, 2, none⟩) (Kd.R_far (p := ⟨gb322, 1, none⟩) (Kd.R_far (p := ⟨gb322, 0, none⟩) (Kd.R_types HO301.out BK322.out (by decide)) (fun _ hk => hk.2) (.int .i64 t313)) (fun _ hk => hk.2) (.int .i64 t314)) (fun _ hk => hk.2) (.slice Ao37 t315.length co37)) (fun _ h_ => h_.1)))); (case side4 => exact (Kd.R_reads' HO301.out).2.1); rintro e w69 ⟨rfl, hb⟩; refine ⟨_, rfl, ?_⟩; have n0_ := Aside0.mk (Kd.R_below (by (with_reducible repeat (first | apply Kd.R_alloc | apply Kd.R_drewN | apply Kd.R_drew)); exact (Kd.R_mono (Kd.R_far (p := ⟨gb322, 2, none⟩) (Kd.R_far (p := ⟨gb322, 1, none⟩) (Kd.R_far (p := ⟨gb322, 0, none⟩) (Kd.R_types HO296.out BK322.out (by decide)) (fun _ hk => hk.2) (.int .i64 t313)) (fun _ hk => hk.2) (.int .i64 t314)) (fun _ hk => hk.2) (.slice Ao37 t315.length co37)) (fun _ h_ => h_.1))) hb); have n1_ := Aside0.mk (Kd.R_below (by (with_reducible repeat (first | apply Kd.R_alloc | apply Kd.R_drewN | apply Kd.R_drew)); exact (Kd.R_mono (Kd.R_far (p := ⟨gb322, 2, none⟩) (Kd.R_far (p := ⟨gb322, 1, none⟩) (Kd.R_far (p := ⟨gb322, 0, none⟩) (Kd.R_types HO301.out BK322.out (by decide)) (fun _ hk => hk.2) (.int .i64 t313)) (fun _ hk => hk.2) (.int .i64 t314)) (fun _ hk => hk.2) (.slice Ao37 t315.length co37)) (fun _ h_ => h_.1))) hb); have n2_ := Aside0.mk (Kd.R_below (by (with_reducible repeat (first | apply Kd.R_alloc | apply Kd.R_drewN | apply Kd.R_drew)); exact (Kd.R_mono (Kd.R_far (p := ⟨gb322, 2, none⟩) (Kd.R_far (p := ⟨gb322, 1, none⟩) (Kd.R_far (p := ⟨gb322, 0, none⟩) (Kd.R_types HO304.out BK322.out (by decide)) (fun _ hk => hk.2) (.int .i64 t313)) (fun _ hk => hk.2) (.int .i64 t314)) (fun _ hk => hk.2) (.slice Ao37 t315.length co37)) (fun _ h_ => h_.1))) hb); have n3_ := Aside0.mk (Kd.R_below (by (with_reducible repeat (first | apply Kd.R_alloc | apply Kd.R_drewN | apply Kd.R_drew)); exact (Kd.R_mono (Kd.R_far (p := ⟨gb322, 2, none⟩) (Kd.R_far (p := ⟨gb322, 1, none⟩) (Kd.R_far (p := ⟨gb322, 0, none⟩) (Kd.R_types HO311.out BK322.out (by decide)) (fun _ hk => hk.2) (.int .i64 t313)) (fun _ hk => hk.2) (.int .i64 t314)) (fun _ hk => hk.2) (.slice Ao37 t315.length co37)) (fun _ h_ => h_.1))) hb); have n4_ := Aside0.mk (Kd.Q_below (by (with_reducible repeat (first | apply Kd.Q_alloc | apply Kd.Q_drewN | apply Kd.Q_drew)); exact (Kd.Q_mono (Kd.Q_far (p := ⟨gb322, 2, none⟩) (Kd.Q_far (p := ⟨gb322, 1, none⟩) (Kd.Q_far (p := ⟨gb322, 0, none⟩) (Kd.Q_types HO317.out BK322.out (by decide)) (fun _ hk => hk.2) (.int .i64 t313)) (fun _ hk => hk.2) (.int .i64 t314)) (fun _ hk => hk.2) (.slice Ao37 t315.length co37)) (fun _ h_ => h_.1))) hb); have n5_ := Aside0.mk (Kd.R_below (by (with_reducible repeat (first | apply Kd.R_alloc | apply Kd.R_drewN | apply Kd.R_drew)); exact (Kd.R_mono (Kd.R_far (p := ⟨gb322, 2, none⟩) (Kd.R_far (p := ⟨gb322, 1, none⟩) (Kd.R_far (p := ⟨gb322, 0, none⟩) (Kd.R_types HO320.out BK322.out (by decide)) (fun _ hk => hk.2) (.int .i64 t313)) (fun _ hk => hk.2) (.int .i64 t314)) (fun _ hk => hk.2) (.slice Ao37 t315.length co37)) (fun _ h_ => h_.1))) hb); have n6_ := Aside0.mk (blk_below (g := gb290) (o := .cells #[.int .i64 a0_0, .int .i64 a0_1, .slice A0_2 l0_2.length c0_2] 53 (0, 0)) (by (with_reducible repeat (first | refine blk_drewN ?_ _ | refine blk_drew ?_ | refine blk_alloc ?_ _)); refine blk_far ?_ NB290_322.out _; (with_reducible repeat (first | refine blk_drewN ?_ _ | refine blk_drew ?_ | refine blk_alloc ?_ _)); refine blk_far ?_ NB290_322.out _; (with_reducible repeat (first | refine blk_drewN ?_ _ | refine blk_drew ?_ | refine blk_alloc ?_ _)); refine blk_far ?_ NB290_322.out _; (with_reducible repeat (first | refine blk_drewN ?_ _ | refine blk_drew ?_ | refine blk_alloc ?_ _)); exact BK290.out) hb); have n7_ := Aside0.mk (blk_below (g := gb306) (o := .cells #[.int .i64 t297, .int .i64 t298, .slice Ao23 t299.length co23] 45 (0, 0)) (by (with_reducible repeat (first | refine blk_drewN ?_ _ | refine blk_drew ?_ | refine blk_alloc ?_ _)); refine blk_far ?_ NB306_322.out _; (with_reducible repeat (first | refine blk_drewN ?_ _ | refine blk_drew ?_ | refine blk_alloc ?_ _)); refine blk_far ?_ NB306_322.out _; (with_reducible repeat (first | refine blk_drewN ?_ _ | refine blk_drew ?_ | refine blk_alloc ?_ _)); refine blk_far ?_ NB306_322.out _; (with_reducible repeat (first | refine blk_drewN ?_ _ | refine blk_drew ?_ | refine blk_alloc ?_ _)); exact BK306.out) hb); have n8_ := Aside0.mk (blk_below (g := gb312) (o := .cells #[.int .i64 t307, .int .i64 t308, .slice Ao30 t309.length co30] 45 (0, 0)) (by (with_reducible repeat (first | refine blk_drewN ?_ _ | refine blk_drew ?_ | refine blk_alloc ?_ _)); refine blk_far ?_ NB312_322.out _; (with_reducible repeat (first | refine blk_drewN ?_ _ | refine blk_drew ?_ | refine blk_alloc ?_ _)); refine blk_far ?_ NB312_322.out _; (with_reducible repeat (first | refine blk_drewN ?_ _ | refine blk_drew ?_ | refine blk_alloc ?_ _)); refine blk_far ?_ NB312_322.out _; (with_reducible repeat (first | refine blk_drewN ?_ _ | refine blk_drew ?_ | refine blk_alloc ?_ _)); exact BK312.out) hb); have n9_ := Aside0.mk (blk_below (g := gb322) (o := .cells #[.int .i64 t313, .int .i64 t314, .slice Ao37 t315.length co37] 45 (0, 0)) (by (with_reducible repeat (first | refine blk_drewN ?_ _ | refine blk_drew ?_ | refine blk_alloc ?_ _)); refine blk_put (cs := #[.int .i64 t313, .int .i64 t314, .slice none 0 0]) ?_ 2 _ rfl; (with_reducible repeat (first | refine blk_drewN ?_ _ | refine blk_drew ?_ | refine blk_alloc ?_ _)); refine blk_put (cs := #[.int .i64 t313, .int .i64 0, .slice none 0 0]) ?_ 1 _ rfl; (with_reducible repeat (first | refine blk_drewN ?_ _ | refine blk_drew ?_ | refine blk_alloc ?_ _)); refine blk_put (cs := #[.int .i64 0, .int .i64 0, .slice none 0 0]) ?_ 0 _ rfl; (with_reducible repeat (first | refine blk_drewN ?_ _ | refine blk_drew ?_ | refine blk_alloc ?_ _)); exact BK322.out) hb); have n10_ := Aside0.mk (below_step (by repeat (first | (with_reducible first | exact HB.out | apply below_alloc | apply pw_below_drewN | apply below_drew1 | refine below_set ?_ GE290.out | refine below_set ?_ GE306.out | refine below_set ?_ GE312.out | refine below_set ?_ GE322.out) | exact HB.out)) hb); clear HO296; clear HO301; clear HO304; clear HO311; clear HO317; clear HO320; clear BK290; clear BK306; clear BK312; clear BK322; clear HB; have HO296 := n0_; have HO301 := n1_; have HO304 := n2_; have HO311 := n3_; have HO317 := n4_; have HO320 := n5_; have BK290 := n6_; have BK306 := n7_; have BK312 := n8_; have BK322 := n9_; have HB := n10_; clear n0_ n1_ n2_ n3_ n4_ n5_ n6_ n7_ n8_ n9_ n10_; (try clear hb); (try clear hb2); (try clear hk); (try clear hi)))
        go_meet
        case rel => exact ⟨_, (true), (by first | rfl | (simp; done) | (simp [*]; done)), H', ⟨by first | omega | exact Nat.le_refl _⟩, ⟨by (with_reducible repeat (first | apply Kd.R_alloc | apply Kd.R_drewN | apply Kd.R_drew)); exact Kd.R_mono HO304.out (fun _ hk => ⟨hk.2, ⟨hk.1.1.1.1, ⟨hk.1.1.2, hk.1.2⟩⟩⟩)⟩, ⟨by (with_reducible repeat (first | apply Kd.R_alloc | apply Kd.R_drewN | apply Kd.R_drew)); exact Kd.R_mono HO320.out (fun _ hk => ⟨hk.1.2, ⟨hk.1.1.2, ⟨hk.2, hk.1.1.1.1⟩⟩⟩)⟩, ⟨Kd.Q_of_R (by (with_reducible repeat (first | apply Kd.R_alloc | apply Kd.R_drewN | apply Kd.R_drew)); exact Kd.R_mono HO301.out (fun _ hk => ⟨hk.1.1.1.1, ⟨hk.2, ⟨hk.1.1.2, hk.1.2⟩⟩⟩))⟩, ⟨Kd.Q_of_R (by (with_reducible repeat (first | apply Kd.R_alloc | apply Kd.R_drewN | apply Kd.R_drew)); exact Kd.R_mono HO311.out (fun _ hk => ⟨hk.1.1.2, ⟨hk.2, ⟨hk.1.1.1.2, hk.1.2⟩⟩⟩))⟩, ⟨by (with_reducible repeat (first | apply Kd.Q_alloc | apply Kd.Q_drewN | apply Kd.Q_drew)); exact Kd.Q_mono HO317.out (fun _ hk => ⟨hk.1.2, ⟨hk.1.1.1.1, ⟨hk.1.1.2, hk.2⟩⟩⟩)⟩, ⟨by (with_reducible repeat (first | refine blk_drewN ?_ _ | refine blk_drew ?_ | refine blk_alloc ?_ _)); exact BK290.out⟩, ⟨by (with_reducible repeat (first | refine blk_drewN ?_ _ | refine blk_drew ?_ | refine blk_alloc ?_ _)); exact BK306.out⟩, ⟨by (with_reducible repeat (first | refine blk_drewN ?_ _ | refine blk_drew ?_ | refine blk_alloc ?_ _)); exact BK312.out⟩, ⟨by (with_reducible repeat (first | refine blk_drewN ?_ _ | refine blk_drew ?_ | refine blk_alloc ?_ _)); exact BK322.out⟩, ⟨by repeat (first | (with_reducible first | exact HB.out | apply below_alloc | apply pw_below_drewN | apply below_drew1 | refine below_set ?_ GE290.out | refine below_set ?_ GE306.out | refine below_set ?_ GE312.out | refine below_set ?_ GE322.out) | exact HB.out)⟩⟩
    case rest =>
      clear HC12
      try clear c2
      try clear p2
      try clear c3
      try clear c4
      try clear c4b0
      try clear c5
      try clear c6
      try clear c21
      try clear c27
      try clear c28
      try clear c32
      try clear c33
      try clear c34
      try clear c35
      try clear c36
      try clear c39
      try clear c41
      try clear c42
      try clear c43
      try clear c44
      try clear c46
      try clear c47
      try clear c52
      try clear c53
      try clear c54
      try clear c56
      try clear c57
      try clear c62
      try clear c63
      try clear c64
      try clear c66
      try clear c67
      try clear hcz14_0
      try clear hcz14_1
      try clear hcz14_2
      try clear hcz16_0
      try clear hcz16_1
      try clear hcz16_2
      try clear hcz22_0
      try clear hcz22_1
      try clear hcz22_2
      try clear hcz24_0
      try clear hcz24_1
      try clear hcz24_2
      try clear hcz29_0
      try clear hcz29_1
      try clear hcz29_2
      try clear hcz36_0
      try clear hcz36_1
      try clear hcz36_2
      try clear hcz45_0
      try clear hcz45_1
      try clear hcz45_2
      try clear hcz48_0
      try clear hcz48_1
      try clear hcz48_2
      try clear hcz55_0
      try clear hcz55_1
      try clear hcz55_2
      try clear hcz58_0
      try clear hcz58_1
      try clear hcz58_2
      try clear hcz65_0
      try clear hcz65_1
      try clear hcz65_2
      try clear hcz68_0
      try clear hcz68_1
      try clear hcz68_2
      try clear hcz6_0
      try clear hcz6_1
      try clear hcz6_2
      try clear hfz14_0
      try clear hfz14_1
      try clear hfz14_2
      try clear hfz16_0
      try clear hfz16_1
      try clear hfz16_2
      try clear hfz22_0
      try clear hfz22_1
      try clear hfz22_2
      try clear hfz24_0
      try clear hfz24_1
      try clear hfz24_2
      try clear hfz29_0
      try clear hfz29_1
      try clear hfz29_2
      try clear hfz36_0
      try clear hfz36_1
      try clear hfz36_2
      try clear hfz45_0
      try clear hfz45_1
      try clear hfz45_2
      try clear hfz48_0
      try clear hfz48_1
      try clear hfz48_2
      try clear hfz55_0
      try clear hfz55_1
      try clear hfz55_2
      try clear hfz58_0
      try clear hfz58_1
      try clear hfz58_2
      try clear hfz65_0
      try clear hfz65_1
      try clear hfz65_2
      try clear hfz68_0
      try clear hfz68_1
      try clear hfz68_2
      try clear hfz6_0
      try clear hfz6_1
      try clear hfz6_2
      obtain ⟨kq, x55_11, rfl, HA, HJ11, HO_7, HO_11, HO_307002, HO_313002, HO_323002, BK290, BK306, BK312, BK322, HB⟩ := hcut
      cases kq with
      | zero => exact absurd HA.out (by simp [laws_FnExactAcceptSeq.j0])
      | succ kj11 =>
        have H := HA.out
        clear HA
        simp only [laws_FnExactAcceptSeq.j0] at H
        by_cases c70 : x55_11 = true
        · subst c70
          have H1 : (some false) = some r := by rw [if_pos rfl] at H; exact H
          clear H
          have H := H1
          clear H1
          exact absurd ((Option.some.inj H).trans HTRUE.out) (by decide)
        · replace c70 := Bool.eq_false_iff.mpr c70
          subst c70
          have H1 : ((laws_toStream.f kj11 a0_0 a0_1 l0_2).bind fun bt325 => ((laws_eqStream.f kj11 t307 t308 t309 bt325.1 bt325.2.1 bt325.2.2).bind fun t330 => (if t330 = true then ((laws_markStream.f kj11 t307 t308 t309 1).bind fun bt331 => (if bt331.1 < 0 then (laws_FnExactAcceptSeq.j1 kj11 a1 t302 t305 t318 true a0_0 a0_1 l0_2 t297 t298 t299 t313 t314 t315) else ((laws_eqStream.f kj11 t313 t314 t315 t297 t298 t299).bind fun t333 => (if t333 = true then ((laws_eqIntS.f kj11 t318 t302).bind fun t334 => (if t334 = true then (laws_FnExactAcceptSeq.j1 kj11 a1 t302 t305 t318 (t321 != t305) a0_0 a0_1 l0_2 t297 t298 t299 t313 t314 t315) else (laws_FnExactAcceptSeq.j1 kj11 a1 t302 t305 t318 true a0_0 a0_1 l0_2 t297 t298 t299 t313 t314 t315))) else (laws_FnExactAcceptSeq.j1 kj11 a1 t302 t305 t318 true a0_0 a0_1 l0_2 t297 t298 t299 t313 t314 t315))))) else (some false)))) = some r := by rw [if_neg (show ¬ (false = true) by decide)] at H; exact H
          clear H
          have H := H1
          clear H1
          replace H := Option.bind_eq_some_iff.mp H
          obtain ⟨⟨t325, t326, t327⟩, A710, H⟩ := H
          replace H : ((laws_eqStream.f kj11 t307 t308 t309 t325 t326 t327).bind fun t330 => (if t330 = true then ((laws_markStream.f kj11 t307 t308 t309 1).bind fun bt331 => (if bt331.1 < 0 then (laws_FnExactAcceptSeq.j1 kj11 a1 t302 t305 t318 true a0_0 a0_1 l0_2 t297 t298 t299 t313 t314 t315) else ((laws_eqStream.f kj11 t313 t314 t315 t297 t298 t299).bind fun t333 => (if t333 = true then ((laws_eqIntS.f kj11 t318 t302).bind fun t334 => (if t334 = true then (laws_FnExactAcceptSeq.j1 kj11 a1 t302 t305 t318 (t321 != t305) a0_0 a0_1 l0_2 t297 t298 t299 t313 t314 t315) else (laws_FnExactAcceptSeq.j1 kj11 a1 t302 t305 t318 true a0_0 a0_1 l0_2 t297 t298 t299 t313 t314 t315))) else (laws_FnExactAcceptSeq.j1 kj11 a1 t302 t305 t318 true a0_0 a0_1 l0_2 t297 t298 t299 t313 t314 t315))))) else (some false))) = some r := H
          have A71 := Aside0.mk A710
          clear A710
          replace H := Option.bind_eq_some_iff.mp H
          obtain ⟨t330, A720, H⟩ := H
          replace H : (if t330 = true then ((laws_markStream.f kj11 t307 t308 t309 1).bind fun bt331 => (if bt331.1 < 0 then (laws_FnExactAcceptSeq.j1 kj11 a1 t302 t305 t318 true a0_0 a0_1 l0_2 t297 t298 t299 t313 t314 t315) else ((laws_eqStream.f kj11 t313 t314 t315 t297 t298 t299).bind fun t333 => (if t333 = true then ((laws_eqIntS.f kj11 t318 t302).bind fun t334 => (if t334 = true then (laws_FnExactAcceptSeq.j1 kj11 a1 t302 t305 t318 (t321 != t305) a0_0 a0_1 l0_2 t297 t298 t299 t313 t314 t315) else (laws_FnExactAcceptSeq.j1 kj11 a1 t302 t305 t318 true a0_0 a0_1 l0_2 t297 t298 t299 t313 t314 t315))) else (laws_FnExactAcceptSeq.j1 kj11 a1 t302 t305 t318 true a0_0 a0_1 l0_2 t297 t298 t299 t313 t314 t315))))) else (some false)) = some r := H
          have A72 := Aside0.mk A720
          clear A720
          by_cases c73 : t330 = true
          · subst c73
            have H1 : ((laws_markStream.f kj11 t307 t308 t309 1).bind fun bt331 => (if bt331.1 < 0 then (laws_FnExactAcceptSeq.j1 kj11 a1 t302 t305 t318 true a0_0 a0_1 l0_2 t297 t298 t299 t313 t314 t315) else ((laws_eqStream.f kj11 t313 t314 t315 t297 t298 t299).bind fun t333 => (if t333 = true then ((laws_eqIntS.f kj11 t318 t302).bind fun t334 => (if t334 = true then (laws_FnExactAcceptSeq.j1 kj11 a1 t302 t305 t318 (t321 != t305) a0_0 a0_1 l0_2 t297 t298 t299 t313 t314 t315) else (laws_FnExactAcceptSeq.j1 kj11 a1 t302 t305 t318 true a0_0 a0_1 l0_2 t297 t298 t299 t313 t314 t315))) else (laws_FnExactAcceptSeq.j1 kj11 a1 t302 t305 t318 true a0_0 a0_1 l0_2 t297 t298 t299 t313 t314 t315))))) = some r := by rw [if_pos rfl] at H; exact H
            clear H
            have H := H1
            clear H1
            replace H := Option.bind_eq_some_iff.mp H
            obtain ⟨⟨t331, t332⟩, A740, H⟩ := H
            replace H : (if t331 < 0 then (laws_FnExactAcceptSeq.j1 kj11 a1 t302 t305 t318 true a0_0 a0_1 l0_2 t297 t298 t299 t313 t314 t315) else ((laws_eqStream.f kj11 t313 t314 t315 t297 t298 t299).bind fun t333 => (if t333 = true then ((laws_eqIntS.f kj11 t318 t302).bind fun t334 => (if t334 = true then (laws_FnExactAcceptSeq.j1 kj11 a1 t302 t305 t318 (t321 != t305) a0_0 a0_1 l0_2 t297 t298 t299 t313 t314 t315) else (laws_FnExactAcceptSeq.j1 kj11 a1 t302 t305 t318 true a0_0 a0_1 l0_2 t297 t298 t299 t313 t314 t315))) else (laws_FnExactAcceptSeq.j1 kj11 a1 t302 t305 t318 true a0_0 a0_1 l0_2 t297 t298 t299 t313 t314 t315)))) = some r := H
            have A74 := Aside0.mk A740
            clear A740
            have HC75 := Aside0.mk H
            clear H
            try go_wp2
            have n0_ := Aside0.mk (Kd.R_drew HO_7.out)
            have n1_ := Aside0.mk (Kd.R_drew HO_11.out)
            have n2_ := Aside0.mk (Kd.Q_drew HO_307002.out)
            have n3_ := Aside0.mk (Kd.Q_drew HO_313002.out)
            have n4_ := Aside0.mk (Kd.Q_drew HO_323002.out)
            have n5_ := Aside0.mk (blk_drew BK290.out)
            have n6_ := Aside0.mk (blk_drew BK306.out)
            have n7_ := Aside0.mk (blk_drew BK312.out)
            have n8_ := Aside0.mk (blk_drew BK322.out)
            have n9_ := Aside0.mk (below_drew1 HB.out)
            clear HO_7
            clear HO_11
            clear HO_307002
            clear HO_313002
            clear HO_323002
            clear BK290
            clear BK306
            clear BK312
            clear BK322
            clear HB
            have HO_7 := n0_
            have HO_11 := n1_
            have HO_307002 := n2_
            have HO_313002 := n3_
            have HO_323002 := n4_
            have BK290 := n5_
            have BK306 := n6_
            have BK312 := n7_
            have BK322 := n8_
            have HB := n9_
            clear n0_ n1_ n2_ n3_ n4_ n5_ n6_ n7_ n8_ n9_
            refine start_ (n := 5) (S := fun w' => w'.cell? ⟨gb312, 0, none⟩ = some (.int .i64 t307) ∧ w'.cell? ⟨gb312, 1, none⟩ = some (.int .i64 t308) ∧ w'.cell? ⟨gb312, 2, none⟩ = some (.slice Ao30 t309.length co30) ∧ w'.cell? ⟨gb290, 0, none⟩ = some (.int .i64 a0_0) ∧ w'.cell? ⟨gb290, 1, none⟩ = some (.int .i64 a0_1) ∧ w'.cell? ⟨gb290, 2, none⟩ = some (.slice A0_2 l0_2.length c0_2)) (ds := []) #[false, false, false, false, false] (by kernel_rfl) rfl rfl ⟨(blk_cell BK312.out 0).trans rfl, (blk_cell BK312.out 1).trans rfl, (blk_cell BK312.out 2).trans rfl, (blk_cell BK290.out 0).trans rfl, (blk_cell BK290.out 1).trans rfl, (blk_cell BK290.out 2).trans rfl⟩ (fun hHeld => ?_)
            generalize wc.drew = w76 at HO_7 HO_11 HO_307002 HO_313002 HO_323002 BK290 BK306 BK312 BK322 HB hHeld ⊢
            refine take_ (i := 0) (N := some 56) (v := ?_) (a' := ?_) #[true, false, false, false, false] rfl rfl (by kernel_rfl) (fun _ _ _ h => h) (Or.inl ⟨by rfl, ?_⟩) hHeld ?_ ?_
            rotate_left
            · rintro w' ⟨s0, s1, s2, s3, s4, s5⟩
              go_simp
              with_reducible rfl
            rotate_left
            · simp only [Act.put, List.setIfInBounds_toArray, List.set_cons_zero, List.set_cons_succ, i64_w, i32_w]
              rfl
            refine take_ (i := 1) (N := some 57) (v := ?_) (a' := ?_) #[true, true, false, false, false] rfl rfl (by kernel_rfl) (fun _ _ _ h => h) (Or.inl ⟨by rfl, ?_⟩) hHeld ?_ ?_
            rotate_left
            · rintro w' ⟨s0, s1, s2, s3, s4, s5⟩
              go_simp
              with_reducible rfl
            rotate_left
            · simp only [Act.put, List.setIfInBounds_toArray, List.set_cons_zero, List.set_cons_succ, i64_w, i32_w]
              rfl
            refine one_ (i := 2) (N := some 58) #[true, true, true, false, false] rfl rfl (by kernel_rfl) (by decide) (fun K hK => ?_)
            refine goes_ Try.func34 (by kernel_rfl) rfl #[.agg #[.int .i64 a0_0, .int .i64 a0_1, .slice A0_2 l0_2.length c0_2]] (by rfl) rfl rfl (by (try simp only [List.map_toArray, List.map_cons, List.map_nil]); first | done | rfl | (simp only [List.length_drop, List.length_take]; rfl)) ?_
            with_reducible refine (laws_toStream.calls kj11 a0_0 a0_1 _ _ l0_2 t325 t326 t327 _ ?side1 ?side2 A71.out).mono ?_
            (case side1 => repeat (first | exact (Kd.C_below HR0_2.out HB.out) | (with_reducible refine Kd.C_alloc ?_ _) | (with_reducible refine Kd.C_drewN ?_ _) | (with_reducible refine Kd.C_drew ?_)))
            (case side2 => exact HC0_2.out)
            rintro e w77 ⟨v328, rfl, ho0, hb⟩
            refine ⟨_, rfl, ?_⟩
            have n0_ := Aside0.mk (Kd.R_elder' (by (with_reducible repeat (first | apply Kd.R_alloc | apply Kd.R_drewN | apply Kd.R_drew)); exact HO_7.out) (Kd.R_base ho0) hb)
            have n1_ := Aside0.mk (Kd.R_elder' (by (with_reducible repeat (first | apply Kd.R_alloc | apply Kd.R_drewN | apply Kd.R_drew)); exact HO_11.out) (Kd.R_base ho0) hb)
            have n2_ := Aside0.mk (Kd.Q_elder' (by (with_reducible repeat (first | apply Kd.Q_alloc | apply Kd.Q_drewN | apply Kd.Q_drew)); exact HO_307002.out) (Kd.R_base ho0) hb)
            have n3_ := Aside0.mk (Kd.Q_elder' (by (with_reducible repeat (first | apply Kd.Q_alloc | apply Kd.Q_drewN | apply Kd.Q_drew)); exact HO_313002.out) (Kd.R_base ho0) hb)
            have n4_ := Aside0.mk (Kd.Q_elder' (by (with_reducible repeat (first | apply Kd.Q_alloc | apply Kd.Q_drewN | apply Kd.Q_drew)); exact HO_323002.out) (Kd.R_base ho0) hb)
            have n5_ := Aside0.mk (Kd.R_lower (Kd.R_new' (Kd.R_new' (Kd.R_new' (Kd.R_new' (Kd.R_new' ho0 (Kd.R_lt (by (with_reducible repeat (first | apply Kd.R_alloc | apply Kd.R_drewN | apply Kd.R_drew)); exact HO_7.out))) (Kd.R_lt (by (with_reducible repeat (first | apply Kd.R_alloc | apply Kd.R_drewN | apply Kd.R_drew)); exact HO_11.out))) (Kd.Q_lt (by (with_reducible repeat (first | apply Kd.Q_alloc | apply Kd.Q_drewN | apply Kd.Q_drew)); exact HO_307002.out))) (Kd.Q_lt (by (with_reducible repeat (first | apply Kd.Q_alloc | apply Kd.Q_drewN | apply Kd.Q_drew)); exact HO_313002.out))) (Kd.Q_lt (by (with_reducible repeat (first | apply Kd.Q_alloc | apply Kd.Q_drewN | apply Kd.Q_drew)); exact HO_323002.out))) (below_size (by repeat (first | (with_reducible first | exact HB.out | apply below_alloc | apply pw_below_drewN | apply below_drew1 | refine below_set ?_ GE290.out | refine below_set ?_ GE306.out | refine below_set ?_ GE312.out | refine below_set ?_ GE322.out) | exact HB.out))))
            have n6_ := Aside0.mk (blk_below (g := gb290) (o := .cells #[.int .i64 a0_0, .int .i64 a0_1, .slice A0_2 l0_2.length c0_2] 53 (0, 0)) (by (with_reducible repeat (first | refine blk_drewN ?_ _ | refine blk_drew ?_ | refine blk_alloc ?_ _)); exact BK290.out) hb)
            have n7_ := Aside0.mk (blk_below (g := gb306) (o := .cells #[.int .i64 t297, .int .i64 t298, .slice Ao23 t299.length co23] 45 (0, 0)) (by (with_reducible repeat (first | refine blk_drewN ?_ _ | refine blk_drew ?_ | refine blk_alloc ?_ _)); exact BK306.out) hb)
            have n8_ := Aside0.mk (blk_below (g := gb312) (o := .cells #[.int .i64 t307, .int .i64 t308, .slice Ao30 t309.length co30] 45 (0, 0)) (by (with_reducible repeat (first | refine blk_drewN ?_ _ | refine blk_drew ?_ | refine blk_alloc ?_ _)); exact BK312.out) hb)
            have n9_ := Aside0.mk (blk_below (g := gb322) (o := .cells #[.int .i64 t313, .int .i64 t314, .slice Ao37 t315.length co37] 45 (0, 0)) (by (with_reducible repeat (first | refine blk_drewN ?_ _ | refine blk_drew ?_ | refine blk_alloc ?_ _)); exact BK322.out) hb)
            have n10_ := Aside0.mk (below_step (by repeat (first | (with_reducible first | exact HB.out | apply below_alloc | apply pw_below_drewN | apply below_drew1 | refine below_set ?_ GE290.out | refine below_set ?_ GE306.out | refine below_set ?_ GE312.out | refine below_set ?_ GE322.out) | exact HB.out)) hb)
            clear HO_7
            clear HO_11
            clear HO_307002
            clear HO_313002
            clear HO_323002
            clear BK290
            clear BK306
            clear BK312
            clear BK322
            clear HB
            have HO_7 := n0_
            have HO_11 := n1_
            have HO_307002 := n2_
            have HO_313002 := n3_
            have HO_323002 := n4_
            have HO329 := n5_
            have BK290 := n6_
            have BK306 := n7_
            have BK312 := n8_
            have BK322 := n9_
            have HB := n10_
            clear n0_ n1_ n2_ n3_ n4_ n5_ n6_ n7_ n8_ n9_ n10_
            (try clear hb)
            (try clear hb2)
            (try clear hk)
            (try clear hi)
            (try clear ho0)
            obtain ⟨Ao78, co78, eo78⟩ := Kd.R_slice HO329.out
            (first | subst eo78 | (injection eo78 with f1_ f2_ f3_; have f4_ := f1_.symm; have f5_ := f3_.symm; clear f1_ f2_ f3_; subst f4_; subst f5_))
            refine hK.out _ _ ⟨(blk_cell BK312.out 0).trans rfl, (blk_cell BK312.out 1).trans rfl, (blk_cell BK312.out 2).trans rfl, (blk_cell BK290.out 0).trans rfl, (blk_cell BK290.out 1).trans rfl, (blk_cell BK290.out 2).trans rfl⟩ (fun hHeld => ?_)
            clear hK K
            refine norm_ (a' := ?_) ?_ ?_
            rotate_left
            · show Act.put _ (some 58) _ = _
              simp only [Act.put, List.setIfInBounds_toArray, List.set_cons_zero, List.set_cons_succ, i64_w, i32_w]
              rfl
            refine one_ (i := 3) (N := some 59) #[true, true, true, true, false] rfl rfl (by kernel_rfl) (by decide) (fun K hK => ?_)
            refine goes_ Try.func36 (by kernel_rfl) rfl #[.agg #[.int .i64 t307, .int .i64 t308, .slice Ao30 t309.length co30], .agg #[.int .i64 t325, .int .i64 t326, .slice Ao78 t327.length co78]] (by rfl) rfl rfl (by (try simp only [List.map_toArray, List.map_cons, List.map_nil]); first | done | rfl | (simp only [List.length_drop, List.length_take]; rfl)) ?_
            with_reducible refine (laws_eqStream.calls kj11 t307 t308 _ _ t309 t325 t326 _ _ t327 true _ ?side1 ?side2 ?side3 ?side4 A72.out).mono ?_
            (case side1 => repeat (first | exact (Kd.Q_reads' HO_313002.out).2.2 | (with_reducible refine Kd.C_alloc ?_ _) | (with_reducible refine Kd.C_drewN ?_ _) | (with_reducible refine Kd.C_drew ?_)))
            (case side2 => exact (Kd.Q_reads' HO_313002.out).2.1)
            (case side3 => repeat (first | exact (Kd.R_reads' HO329.out).2.2 | (with_reducible refine Kd.C_alloc ?_ _) | (with_reducible refine Kd.C_drewN ?_ _) | (with_reducible refine Kd.C_drew ?_)))
            (case side4 => exact (Kd.R_reads' HO329.out).2.1)
            rintro e w79 ⟨rfl, hb⟩
            refine ⟨_, rfl, ?_⟩
            have n0_ := Aside0.mk (Kd.R_below (by (with_reducible repeat (first | apply Kd.R_alloc | apply Kd.R_drewN | apply Kd.R_drew)); exact HO_7.out) hb)
            have n1_ := Aside0.mk (Kd.R_below (by (with_reducible repeat (first | apply Kd.R_alloc | apply Kd.R_drewN | apply Kd.R_drew)); exact HO_11.out) hb)
            have n2_ := Aside0.mk (Kd.Q_below (by (with_reducible repeat (first | apply Kd.Q_alloc | apply Kd.Q_drewN | apply Kd.Q_drew)); exact HO_307002.out) hb)
            have n3_ := Aside0.mk (Kd.Q_below (by (with_reducible repeat (first | apply Kd.Q_alloc | apply Kd.Q_drewN | apply Kd.Q_drew)); exact HO_313002.out) hb)
            have n4_ := Aside0.mk (Kd.Q_below (by (with_reducible repeat (first | apply Kd.Q_alloc | apply Kd.Q_drewN | apply Kd.Q_drew)); exact HO_323002.out) hb)
            have n5_ := Aside0.mk (Kd.R_below (by (with_reducible repeat (first | apply Kd.R_alloc | apply Kd.R_drewN | apply Kd.R_drew)); exact HO329.out) hb)
            have n6_ := Aside0.mk (blk_below (g := gb290) (o := .cells #[.int .i64 a0_0, .int .i64 a0_1, .slice A0_2 l0_2.length c0_2] 53 (0, 0)) (by (with_reducible repeat (first | refine blk_drewN ?_ _ | refine blk_drew ?_ | refine blk_alloc ?_ _)); exact BK290.out) hb)
            have n7_ := Aside0.mk (blk_below (g := gb306) (o := .cells #[.int .i64 t297, .int .i64 t298, .slice Ao23 t299.length co23] 45 (0, 0)) (by (with_reducible repeat (first | refine blk_drewN ?_ _ | refine blk_drew ?_ | refine blk_alloc ?_ _)); exact BK306.out) hb)
            have n8_ := Aside0.mk (blk_below (g := gb312) (o := .cells #[.int .i64 t307, .int .i64 t308, .slice Ao30 t309.length co30] 45 (0, 0)) (by (with_reducible repeat (first | refine blk_drewN ?_ _ | refine blk_drew ?_ | refine blk_alloc ?_ _)); exact BK312.out) hb)
            have n9_ := Aside0.mk (blk_below (g := gb322) (o := .cells #[.int .i64 t313, .int .i64 t314, .slice Ao37 t315.length co37] 45 (0, 0)) (by (with_reducible repeat (first | refine blk_drewN ?_ _ | refine blk_drew ?_ | refine blk_alloc ?_ _)); exact BK322.out) hb)
            have n10_ := Aside0.mk (below_step (by repeat (first | (with_reducible first | exact HB.out | apply below_alloc | apply pw_below_drewN | apply below_drew1 | refine below_set ?_ GE290.out | refine below_set ?_ GE306.out | refine below_set ?_ GE312.out | refine below_set ?_ GE322.out) | exact HB.out)) hb)
            clear HO_7
            clear HO_11
            clear HO_307002
            clear HO_313002
            clear HO_323002
            clear HO329
            clear BK290
            clear BK306
            clear BK312
            clear BK322
            clear HB
            have HO_7 := n0_
            have HO_11 := n1_
            have HO_307002 := n2_
            have HO_313002 := n3_
            have HO_323002 := n4_
            have HO329 := n5_
            have BK290 := n6_
            have BK306 := n7_
            have BK312 := n8_
            have BK322 := n9_
            have HB := n10_
            clear n0_ n1_ n2_ n3_ n4_ n5_ n6_ n7_ n8_ n9_ n10_
            (try clear hb)
            (try clear hb2)
            (try clear hk)
            (try clear hi)
            refine hK.out _ _ ⟨(blk_cell BK312.out 0).trans rfl, (blk_cell BK312.out 1).trans rfl, (blk_cell BK312.out 2).trans rfl, (blk_cell BK290.out 0).trans rfl, (blk_cell BK290.out 1).trans rfl, (blk_cell BK290.out 2).trans rfl⟩ (fun hHeld => ?_)
            clear hK K
            refine norm_ (a' := ?_) ?_ ?_
            rotate_left
            · show Act.put _ (some 59) _ = _
              simp only [Act.put, List.setIfInBounds_toArray, List.set_cons_zero, List.set_cons_succ, i64_w, i32_w]
              rfl
            refine pure_ (i := 4) (N := some 60) (v := ?_) (a' := ?_) #[true, true, true, true, true] rfl rfl (by kernel_rfl) (fun _ _ _ h => h) (Or.inl ⟨by rfl, ?_⟩) ?_ ?_
            rotate_left
            · intro w'
              go_simp
              with_reducible rfl
            rotate_left
            · simp only [Act.put, List.setIfInBounds_toArray, List.set_cons_zero, List.set_cons_succ, i64_w, i32_w]
              rfl
            refine done_ (by kernel_rfl) ?_
            have hnb80 := NB312_290.out
            have hnc80 := NB290_312.out
            have hnb81 := NB312_306.out
            have hnc81 := NB306_312.out
            have hnb82 := NB312_322.out
            have hnc82 := NB322_312.out
            have hcz83_0 : w79.cell? ⟨gb312, 0, none⟩ = some (.int .i64 t307) := (blk_cell BK312.out 0).trans rfl
            have hcz83_1 : w79.cell? ⟨gb312, 1, none⟩ = some (.int .i64 t308) := (blk_cell BK312.out 1).trans rfl
            have hcz83_2 : w79.cell? ⟨gb312, 2, none⟩ = some (.slice Ao30 t309.length co30) := (blk_cell BK312.out 2).trans rfl
            have hfz83_0 := blk_frozen BK312.out 0
            have hfz83_1 := blk_frozen BK312.out 1
            have hfz83_2 := blk_frozen BK312.out 2
            go_upto_region 14 with (first | ((with_reducible refine gate_callee (f := 38) rfl ?_); refine goesL_ (some 63) rfl rfl Try.func38 (by kernel_rfl) rfl #[.agg #[.int .i64 t307, .int .i64 t308, .slice Ao30 t309.length co30], .int .i64 1] rfl (by (try simp only [List.map_toArray, List.map_cons, List.map_nil]); first | done | rfl | (simp only [List.length_drop, List.length_take]; rfl)) ?_; (with_reducible refine (laws_markStream.callsQ kj11 t307 t308 (fun k_ => some k_ = (.slice Ao30 t309.length co30 : Value).ownBlock) (.slice Ao30 t309.length co30) t309 1 t331 t332 w _ ?side1 ?side2 A74.out).mono ?_); (case side1 => repeat (first | (with_reducible first | exact HB.out | apply below_alloc | apply pw_below_drewN | apply below_drew1 | refine below_set ?_ GE290.out | refine below_set ?_ GE306.out | refine below_set ?_ GE312.out | refine below_set ?_ GE322.out) | exact HB.out)); (case side2 => exact Kd.Q_tight rfl HO_313002.out); rintro e w84 ⟨rfl, hy0, hb, hkp⟩; refine ⟨_, rfl, ?_⟩; have n0_ := Aside0.mk (Kd.R_mono (ok' := fun k_ => some k_ ≠ (v319 : Value).ownBlock ∧ some k_ ≠ (.slice Ao23 t299.length co23 : Value).ownBlock ∧ some k_ ≠ (.slice Ao30 t309.length co30 : Value).ownBlock ∧ some k_ ≠ (.slice Ao37 t315.length co37 : Value).ownBlock ∧ some k_ ≠ (.slice Ao78 t327.length co78 : Value).ownBlock) (Kd.R_keptB (HO_7.out) hkp (fun k_ hk_ hs_ => (hk_.1.2.2.1) hs_)) (fun k_ hk_ => ⟨hk_.1.1.1, hk_.1.1.2.1, hk_.1.1.2.2.1, hk_.1.1.2.2.2, hk_.1.2⟩)); have n1_ := Aside0.mk (Kd.R_mono (ok' := fun k_ => some k_ ≠ (v303 : Value).ownBlock ∧ some k_ ≠ (.slice Ao23 t299.length co23 : Value).ownBlock ∧ some k_ ≠ (.slice Ao30 t309.length co30 : Value).ownBlock ∧ some k_ ≠ (.slice Ao37 t315.length co37 : Value).ownBlock ∧ some k_ ≠ (.slice Ao78 t327.length co78 : Value).ownBlock) (Kd.R_keptB (HO_11.out) hkp (fun k_ hk_ hs_ => (hk_.1.2.2.1) hs_)) (fun k_ hk_ => ⟨hk_.1.1.1, hk_.1.1.2.1, hk_.1.1.2.2.1, hk_.1.1.2.2.2, hk_.1.2⟩)); have n2_ := Aside0.mk (Kd.Q_mono (ok' := fun k_ => some k_ ≠ (v303 : Value).ownBlock ∧ some k_ ≠ (v319 : Value).ownBlock ∧ some k_ ≠ (.slice Ao30 t309.length co30 : Value).ownBlock ∧ some k_ ≠ (.slice Ao37 t315.length co37 : Value).ownBlock ∧ some k_ ≠ (.slice Ao78 t327.length co78 : Value).ownBlock) (Kd.Q_keptB (HO_307002.out) hkp (fun k_ hk_ hs_ => (hk_.1.2.2.1) hs_)) (fun k_ hk_ => ⟨hk_.1.1.1, hk_.1.1.2.1, hk_.1.1.2.2.1, hk_.1.1.2.2.2, hk_.1.2⟩)); have n3_ := Aside0.mk (Kd.Q_mono (Kd.Q_tight rfl hy0) (fun k_ e_ => HO_313002.out.1 k_ e_.symm)); have n4_ := Aside0.mk (Kd.Q_mono (ok' := fun k_ => some k_ ≠ (v303 : Value).ownBlock ∧ some k_ ≠ (v319 : Value).ownBlock ∧ some k_ ≠ (.slice Ao23 t299.length co23 : Value).ownBlock ∧ some k_ ≠ (.slice Ao30 t309.length co30 : Value).ownBlock ∧ some k_ ≠ (.slice Ao78 t327.length co78 : Value).ownBlock) (Kd.Q_keptB (HO_323002.out) hkp (fun k_ hk_ hs_ => (hk_.1.2.2.2) hs_)) (fun k_ hk_ => ⟨hk_.1.1.1, hk_.1.1.2.1, hk_.1.1.2.2.1, hk_.1.1.2.2.2, hk_.1.2⟩)); have n5_ := Aside0.mk (blk_kept (by (with_reducible repeat (first | refine blk_drewN ?_ _ | refine blk_drew ?_ | refine blk_alloc ?_ _)); exact BK290.out) hkp (fun hs_ => (fun e_ => (Kd.Q_ne HO_313002.out BK290.out (by decide)) e_) hs_)); have n6_ := Aside0.mk (blk_kept (by (with_reducible repeat (first | refine blk_drewN ?_ _ | refine blk_drew ?_ | refine blk_alloc ?_ _)); exact BK306.out) hkp (fun hs_ => (fun e_ => (Kd.Q_ne HO_313002.out BK306.out (by decide)) e_) hs_)); have n7_ := Aside0.mk (blk_kept (by (with_reducible repeat (first | refine blk_drewN ?_ _ | refine blk_drew ?_ | refine blk_alloc ?_ _)); exact BK312.out) hkp (fun hs_ => (fun e_ => (Kd.Q_ne HO_313002.out BK312.out (by decide)) e_) hs_)); have n8_ := Aside0.mk (blk_kept (by (with_reducible repeat (first | refine blk_drewN ?_ _ | refine blk_drew ?_ | refine blk_alloc ?_ _)); exact BK322.out) hkp (fun hs_ => (fun e_ => (Kd.Q_ne HO_313002.out BK322.out (by decide)) e_) hs_)); have n9_ := Aside0.mk (Kd.R_mono (ok' := fun k_ => some k_ ≠ (v303 : Value).ownBlock ∧ some k_ ≠ (v319 : Value).ownBlock ∧ some k_ ≠ (.slice Ao23 t299.length co23 : Value).ownBlock ∧ some k_ ≠ (.slice Ao30 t309.length co30 : Value).ownBlock ∧ some k_ ≠ (.slice Ao37 t315.length co37 : Value).ownBlock) (Kd.R_keptB (HO329.out) hkp (fun k_ hk_ hs_ => (hk_.1.2) hs_)) (fun k_ hk_ => ⟨hk_.1.1.1.1.1.2, hk_.1.1.1.1.2, hk_.1.1.1.2, hk_.1.1.2, hk_.1.2⟩)); have n10_ := Aside0.mk (hb); clear HO_7; clear HO_11; clear HO_307002; clear HO_313002; clear HO_323002; clear BK290; clear BK306; clear BK312; clear BK322; clear HO329; clear HB; have HO_7 := n0_; have HO_11 := n1_; have HO_307002 := n2_; have HO_313002 := n3_; have HO_323002 := n4_; have BK290 := n5_; have BK306 := n6_; have BK312 := n7_; have BK322 := n8_; have HO329 := n9_; have HB := n10_; clear n0_ n1_ n2_ n3_ n4_ n5_ n6_ n7_ n8_ n9_ n10_; (try clear hb); (try clear hkp); (try clear hy0)))
            (try simp only [Act.put, List.setIfInBounds_toArray, List.set_cons_zero, List.set_cons_succ])
            go_cut [82] (fun v82 wc => ∃ (kq : Nat) (x82_74 : Bool), v82 = .bool x82_74 ∧ Aside0 (laws_FnExactAcceptSeq.j1 kq a1 t302 t305 t318 x82_74 a0_0 a0_1 l0_2 t297 t298 t299 t313 t314 t315 = some r) ∧ Aside0 (kq ≤ kj11) ∧ Aside0 (Kd.R (Kd.int .i64) 3 wc w.heap.size (fun k_ => some k_ ≠ (v319 : Value).ownBlock ∧ some k_ ≠ ((.slice Ao23 t299.length co23) : Value).ownBlock ∧ some k_ ≠ ((.slice Ao30 t309.length co30) : Value).ownBlock ∧ some k_ ≠ ((.slice Ao37 t315.length co37) : Value).ownBlock) v303 t302) ∧ Aside0 (Kd.R (Kd.int .i64) 3 wc w.heap.size (fun k_ => some k_ ≠ (v303 : Value).ownBlock ∧ some k_ ≠ ((.slice Ao23 t299.length co23) : Value).ownBlock ∧ some k_ ≠ ((.slice Ao30 t309.length co30) : Value).ownBlock ∧ some k_ ≠ ((.slice Ao37 t315.length co37) : Value).ownBlock) v319 t318) ∧ Aside0 (Kd.Q (Kd.int .i64) 3 wc w.heap.size (fun k_ => some k_ ≠ (v303 : Value).ownBlock ∧ some k_ ≠ (v319 : Value).ownBlock ∧ some k_ ≠ ((.slice Ao30 t309.length co30) : Value).ownBlock ∧ some k_ ≠ ((.slice Ao37 t315.length co37) : Value).ownBlock) (.slice Ao23 t299.length co23) t299) ∧ Aside0 (Kd.Q (Kd.int .i64) 3 wc w.heap.size (fun k_ => some k_ ≠ (v303 : Value).ownBlock ∧ some k_ ≠ (v319 : Value).ownBlock ∧ some k_ ≠ ((.slice Ao23 t299.length co23) : Value).ownBlock ∧ some k_ ≠ ((.slice Ao37 t315.length co37) : Value).ownBlock) (.slice Ao30 t309.length co30) t332) ∧ Aside0 (Kd.Q (Kd.int .i64) 3 wc w.heap.size (fun k_ => some k_ ≠ (v303 : Value).ownBlock ∧ some k_ ≠ (v319 : Value).ownBlock ∧ some k_ ≠ ((.slice Ao23 t299.length co23) : Value).ownBlock ∧ some k_ ≠ ((.slice Ao30 t309.length co30) : Value).ownBlock) (.slice Ao37 t315.length co37) t315) ∧ Aside0 (wc.heap[gb290]? = some (.cells #[.int .i64 a0_0, .int .i64 a0_1, (.slice A0_2 l0_2.length c0_2)] 53 (0, 0))) ∧ Aside0 (wc.heap[gb306]? = some (.cells #[.int .i64 t297, .int .i64 t298, (.slice Ao23 t299.length co23)] 45 (0, 0))) ∧ Aside0 (wc.heap[gb312]? = some (.cells #[.int .i64 t307, .int .i64 t308, (.slice Ao30 t309.length co30)] 45 (0, 0))) ∧ Aside0 (wc.heap[gb322]? = some (.cells #[.int .i64 t313, .int .i64 t314, (.slice Ao37 t315.length co37)] 45 (0, 0))) ∧ Aside0 (Below w.heap.size w wc))
            case first =>
              have H := HC75.out
              clear HC75
              by_cases c85 : t331 < 0
              · rw [if_pos c85] at H
                have c85b0 : decide (t331 < 0) = true := decide_eq_true c85
                clear c85
                (first | rw [c85b0] | (simp only [i64_w, i32_w]; rw [c85b0]) | skip)
                have H' := Aside0.mk H
                clear H
                go_wp2
                go_meet
                case rel => exact ⟨_, (true), (by first | rfl | (simp; done) | (simp [*]; done)), H', ⟨by have := HJ11.out; first | omega | exact Nat.le_refl _⟩, ⟨by (with_reducible repeat (first | apply Kd.R_alloc | apply Kd.R_drewN | apply Kd.R_drew)); exact Kd.R_mono HO_7.out (fun _ hk => ⟨hk.1, ⟨hk.2.1, ⟨hk.2.2.1, hk.2.2.2.1⟩⟩⟩)⟩, ⟨by (with_reducible repeat (first | apply Kd.R_alloc | apply Kd.R_drewN | apply Kd.R_drew)); exact Kd.R_mono HO_11.out (fun _ hk => ⟨hk.1, ⟨hk.2.1, ⟨hk.2.2.1, hk.2.2.2.1⟩⟩⟩)⟩, ⟨by (with_reducible repeat (first | apply Kd.Q_alloc | apply Kd.Q_drewN | apply Kd.Q_drew)); exact Kd.Q_mono HO_307002.out (fun _ hk => ⟨hk.1, ⟨hk.2.1, ⟨hk.2.2.1, hk.2.2.2.1⟩⟩⟩)⟩, ⟨by (with_reducible repeat (first | apply Kd.Q_alloc | apply Kd.Q_drewN | apply Kd.Q_drew)); exact Kd.Q_mono HO_313002.out (fun _ hk => ⟨hk.1.1, ⟨hk.1.2.1, ⟨hk.1.2.2.1, hk.1.2.2.2⟩⟩⟩)⟩, ⟨by (with_reducible repeat (first | apply Kd.Q_alloc | apply Kd.Q_drewN | apply Kd.Q_drew)); exact Kd.Q_mono HO_323002.out (fun _ hk => ⟨hk.1, ⟨hk.2.1, ⟨hk.2.2.1, hk.2.2.2.1⟩⟩⟩)⟩, ⟨by (with_reducible repeat (first | refine blk_drewN ?_ _ | refine blk_drew ?_ | refine blk_alloc ?_ _)); exact BK290.out⟩, ⟨by (with_reducible repeat (first | refine blk_drewN ?_ _ | refine blk_drew ?_ | refine blk_alloc ?_ _)); exact BK306.out⟩, ⟨by (with_reducible repeat (first | refine blk_drewN ?_ _ | refine blk_drew ?_ | refine blk_alloc ?_ _)); exact BK312.out⟩, ⟨by (with_reducible repeat (first | refine blk_drewN ?_ _ | refine blk_drew ?_ | refine blk_alloc ?_ _)); exact BK322.out⟩, ⟨by repeat (first | (with_reducible first | exact HB.out | apply below_alloc | apply pw_below_drewN | apply below_drew1 | refine below_set ?_ GE290.out | refine below_set ?_ GE306.out | refine below_set ?_ GE312.out | refine below_set ?_ GE322.out) | exact HB.out)⟩⟩
              · rw [if_neg c85] at H
                have c85b0 : decide (t331 < 0) = false := decide_eq_false c85
                clear c85
                (first | rw [c85b0] | (simp only [i64_w, i32_w]; rw [c85b0]) | skip)
                replace H := Option.bind_eq_some_iff.mp H
                obtain ⟨t333, A860, H⟩ := H
                replace H : (if t333 = true then ((laws_eqIntS.f kj11 t318 t302).bind fun t334 => (if t334 = true then (laws_FnExactAcceptSeq.j1 kj11 a1 t302 t305 t318 (t321 != t305) a0_0 a0_1 l0_2 t297 t298 t299 t313 t314 t315) else (laws_FnExactAcceptSeq.j1 kj11 a1 t302 t305 t318 true a0_0 a0_1 l0_2 t297 t298 t299 t313 t314 t315))) else (laws_FnExactAcceptSeq.j1 kj11 a1 t302 t305 t318 true a0_0 a0_1 l0_2 t297 t298 t299 t313 t314 t315)) = some r := H
                have A86 := Aside0.mk A860
                clear A860
                by_cases c87 : t333 = true
                · subst c87
                  have H1 : ((laws_eqIntS.f kj11 t318 t302).bind fun t334 => (if t334 = true then (laws_FnExactAcceptSeq.j1 kj11 a1 t302 t305 t318 (t321 != t305) a0_0 a0_1 l0_2 t297 t298 t299 t313 t314 t315) else (laws_FnExactAcceptSeq.j1 kj11 a1 t302 t305 t318 true a0_0 a0_1 l0_2 t297 t298 t299 t313 t314 t315))) = some r := by rw [if_pos rfl] at H; exact H
                  clear H
                  have H := H1
                  clear H1
                  replace H := Option.bind_eq_some_iff.mp H
                  obtain ⟨t334, A880, H⟩ := H
                  replace H : (if t334 = true then (laws_FnExactAcceptSeq.j1 kj11 a1 t302 t305 t318 (t321 != t305) a0_0 a0_1 l0_2 t297 t298 t299 t313 t314 t315) else (laws_FnExactAcceptSeq.j1 kj11 a1 t302 t305 t318 true a0_0 a0_1 l0_2 t297 t298 t299 t313 t314 t315)) = some r := H
                  have A88 := Aside0.mk A880
                  clear A880
                  by_cases c89 : t334 = true
                  · subst c89
                    have H1 : (laws_FnExactAcceptSeq.j1 kj11 a1 t302 t305 t318 (t321 != t305) a0_0 a0_1 l0_2 t297 t298 t299 t313 t314 t315) = some r := by rw [if_pos rfl] at H; exact H
                    clear H
                    have H := H1
                    clear H1
                    have H' := Aside0.mk H
                    clear H
                    have hnb90 := NB322_290.out
                    have hnc90 := NB290_322.out
                    have hnb91 := NB322_306.out
                    have hnc91 := NB306_322.out
                    have hnb92 := NB322_312.out
                    have hnc92 := NB312_322.out
                    have hcz93_0 : w84.cell? ⟨gb322, 0, none⟩ = some (.int .i64 t313) := (blk_cell BK322.out 0).trans rfl
                    have hcz93_1 : w84.cell? ⟨gb322, 1, none⟩ = some (.int .i64 t314) := (blk_cell BK322.out 1).trans rfl
                    have hcz93_2 : w84.cell? ⟨gb322, 2, none⟩ = some (.slice Ao37 t315.length co37) := (blk_cell BK322.out 2).trans rfl
                    have hfz93_0 := blk_frozen BK322.out 0
                    have hfz93_1 := blk_frozen BK322.out 1
                    have hfz93_2 := blk_frozen BK322.out 2
                    have hnb94 := NB306_290.out
                    have hnc94 := NB290_306.out
                    have hnb95 := NB306_312.out
                    have hnc95 := NB312_306.out
                    have hcz96_0 : w84.cell? ⟨gb306, 0, none⟩ = some (.int .i64 t297) := (blk_cell BK306.out 0).trans rfl
                    have hcz96_1 : w84.cell? ⟨gb306, 1, none⟩ = some (.int .i64 t298) := (blk_cell BK306.out 1).trans rfl
                    have hcz96_2 : w84.cell? ⟨gb306, 2, none⟩ = some (.slice Ao23 t299.length co23) := (blk_cell BK306.out 2).trans rfl
                    have hfz96_0 := blk_frozen BK306.out 0
                    have hfz96_1 := blk_frozen BK306.out 1
                    have hfz96_2 := blk_frozen BK306.out 2
                    go_wp2_with (first | (go_at_call 36; (with_reducible refine (laws_eqStream.calls kj11 t313 t314 _ _ t315 t297 t298 _ _ t299 true _ ?side1 ?side2 ?side3 ?side4 A86.out).mono ?_); (case side1 => repeat (first | exact (Kd.Q_reads' HO_323002.out).2.2 | (with_reducible refine Kd.C_alloc ?_ _) | (with_reducible refine Kd.C_drewN ?_ _) | (with_reducible refine Kd.C_drew ?_))); (case side2 => exact (Kd.Q_reads' HO_323002.out).2.1); (case side3 => repeat (first | exact (Kd.Q_reads' HO_307002.out).2.2 | (with_reducible refine Kd.C_alloc ?_ _) | (with_reducible refine Kd.C_drewN ?_ _) | (with_reducible refine Kd.C_drew ?_))); (case side4 => exact (Kd.Q_reads' HO_307002.out).2.1); rintro e w97 ⟨rfl, hb⟩; have n0_ := Aside0.mk (Kd.R_below (by (with_reducible repeat (first | apply Kd.R_alloc | apply Kd.R_drewN | apply Kd.R_drew)); exact HO_7.out) hb); have n1_ := Aside0.mk (Kd.R_below (by (with_reducible repeat (first | apply Kd.R_alloc | apply Kd.R_drewN | apply Kd.R_drew)); exact HO_11.out) hb); have n2_ := Aside0.mk (Kd.Q_below (by (with_reducible repeat (first | apply Kd.Q_alloc | apply Kd.Q_drewN | apply Kd.Q_drew)); exact HO_307002.out) hb); have n3_ := Aside0.mk (Kd.Q_below (by (with_reducible repeat (first | apply Kd.Q_alloc | apply Kd.Q_drewN | apply Kd.Q_drew)); exact HO_313002.out) hb); have n4_ := Aside0.mk (Kd.Q_below (by (with_reducible repeat (first | apply Kd.Q_alloc | apply Kd.Q_drewN | apply Kd.Q_drew)); exact HO_323002.out) hb); have n5_ := Aside0.mk (Kd.R_below (by (with_reducible repeat (first | apply Kd.R_alloc | apply Kd.R_drewN | apply Kd.R_drew)); exact HO329.out) hb); have n6_ := Aside0.mk (blk_below (g := gb290) (o := .cells #[.int .i64 a0_0, .int .i64 a0_1, .slice A0_2 l0_2.length c0_2] 53 (0, 0)) (by (with_reducible repeat (first | refine blk_drewN ?_ _ | refine blk_drew ?_ | refine blk_alloc ?_ _)); exact BK290.out) hb); have n7_ := Aside0.mk (blk_below (g := gb306) (o := .cells #[.int .i64 t297, .int .i64 t298, .slice Ao23 t299.length co23] 45 (0, 0)) (by (with_reducible repeat (first | refine blk_drewN ?_ _ | refine blk_drew ?_ | refine blk_alloc ?_ _)); exact BK306.out) hb); have n8_ := Aside0.mk (blk_below (g := gb312) (o := .cells #[.int .i64 t307, .int .i64 t308, .slice Ao30 t309.length co30] 45 (0, 0)) (by (with_reducible repeat (first | refine blk_drewN ?_ _ | refine blk_drew ?_ | refine blk_alloc ?_ _)); exact BK312.out) hb); have n9_ := Aside0.mk (blk_below (g := gb322) (o := .cells #[.int .i64 t313, .int .i64 t314, .slice Ao37 t315.length co37] 45 (0, 0)) (by (with_reducible repeat (first | refine blk_drewN ?_ _ | refine blk_drew ?_ | refine blk_alloc ?_ _)); exact BK322.out) hb); have n10_ := Aside0.mk (below_step (by repeat (first | (with_reducible first | exact HB.out | apply below_alloc | apply pw_below_drewN | apply below_drew1 | refine below_set ?_ GE290.out | refine below_set ?_ GE306.out | refine below_set ?_ GE312.out | refine below_set ?_ GE322.out) | exact HB.out)) hb); clear HO_7; clear HO_11; clear HO_307002; clear HO_313002; clear HO_323002; clear HO329; clear BK290; clear BK306; clear BK312; clear BK322; clear HB; have HO_7 := n0_; have HO_11 := n1_; have HO_307002 := n2_; have HO_313002 := n3_; have HO_323002 := n4_; have HO329 := n5_; have BK290 := n6_; have BK306 := n7_; have BK312 := n8_; have BK322 := n9_; have HB := n10_; clear n0_ n1_ n2_ n3_ n4_ n5_ n6_ n7_ n8_ n9_ n10_; (try clear hb); (try clear hb2); (try clear hk); (try clear hi); obtain ⟨Ao98, co98, eo98⟩ := Kd.R_slice HO_11.out; subst eo98; obtain ⟨Ao99, co99, eo99⟩ := Kd.R_slice HO_7.out; subst eo99) | (go_at_call 37; (with_reducible refine (laws_eqIntS.calls kj11 _ _ t318 _ _ t302 true _ ?side1 ?side2 ?side3 ?side4 A88.out).mono ?_); (case side1 => repeat (first | exact (Kd.R_reads' HO_11.out).2.2 | (with_reducible refine Kd.C_alloc ?_ _) | (with_reducible refine Kd.C_drewN ?_ _) | (with_reducible refine Kd.C_drew ?_))); (case side2 => exact (Kd.R_reads' HO_11.out).2.1); (case side3 => repeat (first | exact (Kd.R_reads' HO_7.out).2.2 | (with_reducible refine Kd.C_alloc ?_ _) | (with_reducible refine Kd.C_drewN ?_ _) | (with_reducible refine Kd.C_drew ?_))); (case side4 => exact (Kd.R_reads' HO_7.out).2.1); rintro e w' ⟨rfl, ⟨nd, rfl⟩⟩))
                    go_meet
                    case rel => exact ⟨_, ((t321 != t305)), (by first | rfl | (simp; done) | (simp [*]; done)), H', ⟨by have := HJ11.out; first | omega | exact Nat.le_refl _⟩, ⟨by (with_reducible repeat (first | apply Kd.R_alloc | apply Kd.R_drewN | apply Kd.R_drew)); exact Kd.R_mono HO_7.out (fun _ hk => ⟨hk.1, ⟨hk.2.1, ⟨hk.2.2.1, hk.2.2.2.1⟩⟩⟩)⟩, ⟨by (with_reducible repeat (first | apply Kd.R_alloc | apply Kd.R_drewN | apply Kd.R_drew)); exact Kd.R_mono HO_11.out (fun _ hk => ⟨hk.1, ⟨hk.2.1, ⟨hk.2.2.1, hk.2.2.2.1⟩⟩⟩)⟩, ⟨by (with_reducible repeat (first | apply Kd.Q_alloc | apply Kd.Q_drewN | apply Kd.Q_drew)); exact Kd.Q_mono HO_307002.out (fun _ hk => ⟨hk.1, ⟨hk.2.1, ⟨hk.2.2.1, hk.2.2.2.1⟩⟩⟩)⟩, ⟨by (with_reducible repeat (first | apply Kd.Q_alloc | apply Kd.Q_drewN | apply Kd.Q_drew)); exact Kd.Q_mono HO_313002.out (fun _ hk => ⟨hk.1.1, ⟨hk.1.2.1, ⟨hk.1.2.2.1, hk.1.2.2.2⟩⟩⟩)⟩, ⟨by (with_reducible repeat (first | apply Kd.Q_alloc | apply Kd.Q_drewN | apply Kd.Q_drew)); exact Kd.Q_mono HO_323002.out (fun _ hk => ⟨hk.1, ⟨hk.2.1, ⟨hk.2.2.1, hk.2.2.2.1⟩⟩⟩)⟩, ⟨by (with_reducible repeat (first | refine blk_drewN ?_ _ | refine blk_drew ?_ | refine blk_alloc ?_ _)); exact BK290.out⟩, ⟨by (with_reducible repeat (first | refine blk_drewN ?_ _ | refine blk_drew ?_ | refine blk_alloc ?_ _)); exact BK306.out⟩, ⟨by (with_reducible repeat (first | refine blk_drewN ?_ _ | refine blk_drew ?_ | refine blk_alloc ?_ _)); exact BK312.out⟩, ⟨by (with_reducible repeat (first | refine blk_drewN ?_ _ | refine blk_drew ?_ | refine blk_alloc ?_ _)); exact BK322.out⟩, ⟨by repeat (first | (with_reducible first | exact HB.out | apply below_alloc | apply pw_below_drewN | apply below_drew1 | refine below_set ?_ GE290.out | refine below_set ?_ GE306.out | refine below_set ?_ GE312.out | refine below_set ?_ GE322.out) | exact HB.out)⟩⟩
                  · replace c89 := Bool.eq_false_iff.mpr c89
                    subst c89
                    have H1 : (laws_FnExactAcceptSeq.j1 kj11 a1 t302 t305 t318 true a0_0 a0_1 l0_2 t297 t298 t299 t313 t314 t315) = some r := by rw [if_neg (show ¬ (false = true) by decide)] at H; exact H
                    clear H
                    have H := H1
                    clear H1
                    have H' := Aside0.mk H
                    clear H
                    have hnb100 := NB322_290.out
                    have hnc100 := NB290_322.out
                    have hnb101 := NB322_306.out
                    have hnc101 := NB306_322.out
                    have hnb102 := NB322_312.out
                    have hnc102 := NB312_322.out
                    have hcz103_0 : w84.cell? ⟨gb322, 0, none⟩ = some (.int .i64 t313) := (blk_cell BK322.out 0).trans rfl
                    have hcz103_1 : w84.cell? ⟨gb322, 1, none⟩ = some (.int .i64 t314) := (blk_cell BK322.out 1).trans rfl
                    have hcz103_2 : w84.cell? ⟨gb322, 2, none⟩ = some (.slice Ao37 t315.length co37) := (blk_cell BK322.out 2).trans rfl
                    have hfz103_0 := blk_frozen BK322.out 0
                    have hfz103_1 := blk_frozen BK322.out 1
                    have hfz103_2 := blk_frozen BK322.out 2
                    have hnb104 := NB306_290.out
                    have hnc104 := NB290_306.out
                    have hnb105 := NB306_312.out
                    have hnc105 := NB312_306.out
                    have hcz106_0 : w84.cell? ⟨gb306, 0, none⟩ = some (.int .i64 t297) := (blk_cell BK306.out 0).trans rfl
                    have hcz106_1 : w84.cell? ⟨gb306, 1, none⟩ = some (.int .i64 t298) := (blk_cell BK306.out 1).trans rfl
                    have hcz106_2 : w84.cell? ⟨gb306, 2, none⟩ = some (.slice Ao23 t299.length co23) := (blk_cell BK306.out 2).trans rfl
                    have hfz106_0 := blk_frozen BK306.out 0
                    have hfz106_1 := blk_frozen BK306.out 1
                    have hfz106_2 := blk_frozen BK306.out 2
                    go_wp2_with (first | (go_at_call 36; (with_reducible refine (laws_eqStream.calls kj11 t313 t314 _ _ t315 t297 t298 _ _ t299 true _ ?side1 ?side2 ?side3 ?side4 A86.out).mono ?_); (case side1 => repeat (first | exact (Kd.Q_reads' HO_323002.out).2.2 | (with_reducible refine Kd.C_alloc ?_ _) | (with_reducible refine Kd.C_drewN ?_ _) | (with_reducible refine Kd.C_drew ?_))); (case side2 => exact (Kd.Q_reads' HO_323002.out).2.1); (case side3 => repeat (first | exact (Kd.Q_reads' HO_307002.out).2.2 | (with_reducible refine Kd.C_alloc ?_ _) | (with_reducible refine Kd.C_drewN ?_ _) | (with_reducible refine Kd.C_drew ?_))); (case side4 => exact (Kd.Q_reads' HO_307002.out).2.1); rintro e w107 ⟨rfl, hb⟩; have n0_ := Aside0.mk (Kd.R_below (by (with_reducible repeat (first | apply Kd.R_alloc | apply Kd.R_drewN | apply Kd.R_drew)); exact HO_7.out) hb); have n1_ := Aside0.mk (Kd.R_below (by (with_reducible repeat (first | apply Kd.R_alloc | apply Kd.R_drewN | apply Kd.R_drew)); exact HO_11.out) hb); have n2_ := Aside0.mk (Kd.Q_below (by (with_reducible repeat (first | apply Kd.Q_alloc | apply Kd.Q_drewN | apply Kd.Q_drew)); exact HO_307002.out) hb); have n3_ := Aside0.mk (Kd.Q_below (by (with_reducible repeat (first | apply Kd.Q_alloc | apply Kd.Q_drewN | apply Kd.Q_drew)); exact HO_313002.out) hb); have n4_ := Aside0.mk (Kd.Q_below (by (with_reducible repeat (first | apply Kd.Q_alloc | apply Kd.Q_drewN | apply Kd.Q_drew)); exact HO_323002.out) hb); have n5_ := Aside0.mk (Kd.R_below (by (with_reducible repeat (first | apply Kd.R_alloc | apply Kd.R_drewN | apply Kd.R_drew)); exact HO329.out) hb); have n6_ := Aside0.mk (blk_below (g := gb290) (o := .cells #[.int .i64 a0_0, .int .i64 a0_1, .slice A0_2 l0_2.length c0_2] 53 (0, 0)) (by (with_reducible repeat (first | refine blk_drewN ?_ _ | refine blk_drew ?_ | refine blk_alloc ?_ _)); exact BK290.out) hb); have n7_ := Aside0.mk (blk_below (g := gb306) (o := .cells #[.int .i64 t297, .int .i64 t298, .slice Ao23 t299.length co23] 45 (0, 0)) (by (with_reducible repeat (first | refine blk_drewN ?_ _ | refine blk_drew ?_ | refine blk_alloc ?_ _)); exact BK306.out) hb); have n8_ := Aside0.mk (blk_below (g := gb312) (o := .cells #[.int .i64 t307, .int .i64 t308, .slice Ao30 t309.length co30] 45 (0, 0)) (by (with_reducible repeat (first | refine blk_drewN ?_ _ | refine blk_drew ?_ | refine blk_alloc ?_ _)); exact BK312.out) hb); have n9_ := Aside0.mk (blk_below (g := gb322) (o := .cells #[.int .i64 t313, .int .i64 t314, .slice Ao37 t315.length co37] 45 (0, 0)) (by (with_reducible repeat (first | refine blk_drewN ?_ _ | refine blk_drew ?_ | refine blk_alloc ?_ _)); exact BK322.out) hb); have n10_ := Aside0.mk (below_step (by repeat (first | (with_reducible first | exact HB.out | apply below_alloc | apply pw_below_drewN | apply below_drew1 | refine below_set ?_ GE290.out | refine below_set ?_ GE306.out | refine below_set ?_ GE312.out | refine below_set ?_ GE322.out) | exact HB.out)) hb); clear HO_7; clear HO_11; clear HO_307002; clear HO_313002; clear HO_323002; clear HO329; clear BK290; clear BK306; clear BK312; clear BK322; clear HB; have HO_7 := n0_; have HO_11 := n1_; have HO_307002 := n2_; have HO_313002 := n3_; have HO_323002 := n4_; have HO329 := n5_; have BK290 := n6_; have BK306 := n7_; have BK312 := n8_; have BK322 := n9_; have HB := n10_; clear n0_ n1_ n2_ n3_ n4_ n5_ n6_ n7_ n8_ n9_ n10_; (try clear hb); (try clear hb2); (try clear hk); (try clear hi); obtain ⟨Ao108, co108, eo108⟩ := Kd.R_slice HO_11.out; subst eo108; obtain ⟨Ao109, co109, eo109⟩ := Kd.R_slice HO_7.out; subst eo109) | (go_at_call 37; (with_reducible refine (laws_eqIntS.calls kj11 _ _ t318 _ _ t302 false _ ?side1 ?side2 ?side3 ?side4 A88.out).mono ?_); (case side1 => repeat (first | exact (Kd.R_reads' HO_11.out).2.2 | (with_reducible refine Kd.C_alloc ?_ _) | (with_reducible refine Kd.C_drewN ?_ _) | (with_reducible refine Kd.C_drew ?_))); (case side2 => exact (Kd.R_reads' HO_11.out).2.1); (case side3 => repeat (first | exact (Kd.R_reads' HO_7.out).2.2 | (with_reducible refine Kd.C_alloc ?_ _) | (with_reducible refine Kd.C_drewN ?_ _) | (with_reducible refine Kd.C_drew ?_))); (case side4 => exact (Kd.R_reads' HO_7.out).2.1); rintro e w' ⟨rfl, ⟨nd, rfl⟩⟩))
                    go_meet
                    case rel => exact ⟨_, (true), (by first | rfl | (simp; done) | (simp [*]; done)), H', ⟨by have := HJ11.out; first | omega | exact Nat.le_refl _⟩, ⟨by (with_reducible repeat (first | apply Kd.R_alloc | apply Kd.R_drewN | apply Kd.R_drew)); exact Kd.R_mono HO_7.out (fun _ hk => ⟨hk.1, ⟨hk.2.1, ⟨hk.2.2.1, hk.2.2.2.1⟩⟩⟩)⟩, ⟨by (with_reducible repeat (first | apply Kd.R_alloc | apply Kd.R_drewN | apply Kd.R_drew)); exact Kd.R_mono HO_11.out (fun _ hk => ⟨hk.1, ⟨hk.2.1, ⟨hk.2.2.1, hk.2.2.2.1⟩⟩⟩)⟩, ⟨by (with_reducible repeat (first | apply Kd.Q_alloc | apply Kd.Q_drewN | apply Kd.Q_drew)); exact Kd.Q_mono HO_307002.out (fun _ hk => ⟨hk.1, ⟨hk.2.1, ⟨hk.2.2.1, hk.2.2.2.1⟩⟩⟩)⟩, ⟨by (with_reducible repeat (first | apply Kd.Q_alloc | apply Kd.Q_drewN | apply Kd.Q_drew)); exact Kd.Q_mono HO_313002.out (fun _ hk => ⟨hk.1.1, ⟨hk.1.2.1, ⟨hk.1.2.2.1, hk.1.2.2.2⟩⟩⟩)⟩, ⟨by (with_reducible repeat (first | apply Kd.Q_alloc | apply Kd.Q_drewN | apply Kd.Q_drew)); exact Kd.Q_mono HO_323002.out (fun _ hk => ⟨hk.1, ⟨hk.2.1, ⟨hk.2.2.1, hk.2.2.2.1⟩⟩⟩)⟩, ⟨by (with_reducible repeat (first | refine blk_drewN ?_ _ | refine blk_drew ?_ | refine blk_alloc ?_ _)); exact BK290.out⟩, ⟨by (with_reducible repeat (first | refine blk_drewN ?_ _ | refine blk_drew ?_ | refine blk_alloc ?_ _)); exact BK306.out⟩, ⟨by (with_reducible repeat (first | refine blk_drewN ?_ _ | refine blk_drew ?_ | refine blk_alloc ?_ _)); exact BK312.out⟩, ⟨by (with_reducible repeat (first | refine blk_drewN ?_ _ | refine blk_drew ?_ | refine blk_alloc ?_ _)); exact BK322.out⟩, ⟨by repeat (first | (with_reducible first | exact HB.out | apply below_alloc | apply pw_below_drewN | apply below_drew1 | refine below_set ?_ GE290.out | refine below_set ?_ GE306.out | refine below_set ?_ GE312.out | refine below_set ?_ GE322.out) | exact HB.out)⟩⟩
                · replace c87 := Bool.eq_false_iff.mpr c87
                  subst c87
                  have H1 : (laws_FnExactAcceptSeq.j1 kj11 a1 t302 t305 t318 true a0_0 a0_1 l0_2 t297 t298 t299 t313 t314 t315) = some r := by rw [if_neg (show ¬ (false = true) by decide)] at H; exact H
                  clear H
                  have H := H1
                  clear H1
                  have H' := Aside0.mk H
                  clear H
                  have hnb110 := NB322_290.out
                  have hnc110 := NB290_322.out
                  have hnb111 := NB322_306.out
                  have hnc111 := NB306_322.out
                  have hnb112 := NB322_312.out
                  have hnc112 := NB312_322.out
                  have hcz113_0 : w84.cell? ⟨gb322, 0, none⟩ = some (.int .i64 t313) := (blk_cell BK322.out 0).trans rfl
                  have hcz113_1 : w84.cell? ⟨gb322, 1, none⟩ = some (.int .i64 t314) := (blk_cell BK322.out 1).trans rfl
                  have hcz113_2 : w84.cell? ⟨gb322, 2, none⟩ = some (.slice Ao37 t315.length co37) := (blk_cell BK322.out 2).trans rfl
                  have hfz113_0 := blk_frozen BK322.out 0
                  have hfz113_1 := blk_frozen BK322.out 1
                  have hfz113_2 := blk_frozen BK322.out 2
                  have hnb114 := NB306_290.out
                  have hnc114 := NB290_306.out
                  have hnb115 := NB306_312.out
                  have hnc115 := NB312_306.out
                  have hcz116_0 : w84.cell? ⟨gb306, 0, none⟩ = some (.int .i64 t297) := (blk_cell BK306.out 0).trans rfl
                  have hcz116_1 : w84.cell? ⟨gb306, 1, none⟩ = some (.int .i64 t298) := (blk_cell BK306.out 1).trans rfl
                  have hcz116_2 : w84.cell? ⟨gb306, 2, none⟩ = some (.slice Ao23 t299.length co23) := (blk_cell BK306.out 2).trans rfl
                  have hfz116_0 := blk_frozen BK306.out 0
                  have hfz116_1 := blk_frozen BK306.out 1
                  have hfz116_2 := blk_frozen BK306.out 2
                  go_wp2_with (first | (go_at_call 36; (with_reducible refine (laws_eqStream.calls kj11 t313 t314 _ _ t315 t297 t298 _ _ t299 false _ ?side1 ?side2 ?side3 ?side4 A86.out).mono ?_); (case side1 => repeat (first | exact (Kd.Q_reads' HO_323002.out).2.2 | (with_reducible refine Kd.C_alloc ?_ _) | (with_reducible refine Kd.C_drewN ?_ _) | (with_reducible refine Kd.C_drew ?_))); (case side2 => exact (Kd.Q_reads' HO_323002.out).2.1); (case side3 => repeat (first | exact (Kd.Q_reads' HO_307002.out).2.2 | (with_reducible refine Kd.C_alloc ?_ _) | (with_reducible refine Kd.C_drewN ?_ _) | (with_reducible refine Kd.C_drew ?_))); (case side4 => exact (Kd.Q_reads' HO_307002.out).2.1); rintro e w117 ⟨rfl, hb⟩; have n0_ := Aside0.mk (Kd.R_below (by (with_reducible repeat (first | apply Kd.R_alloc | apply Kd.R_drewN | apply Kd.R_drew)); exact HO_7.out) hb); have n1_ := Aside0.mk (Kd.R_below (by (with_reducible repeat (first | apply Kd.R_alloc | apply Kd.R_drewN | apply Kd.R_drew)); exact HO_11.out) hb); have n2_ := Aside0.mk (Kd.Q_below (by (with_reducible repeat (first | apply Kd.Q_alloc | apply Kd.Q_drewN | apply Kd.Q_drew)); exact HO_307002.out) hb); have n3_ := Aside0.mk (Kd.Q_below (by (with_reducible repeat (first | apply Kd.Q_alloc | apply Kd.Q_drewN | apply Kd.Q_drew)); exact HO_313002.out) hb); have n4_ := Aside0.mk (Kd.Q_below (by (with_reducible repeat (first | apply Kd.Q_alloc | apply Kd.Q_drewN | apply Kd.Q_drew)); exact HO_323002.out) hb); have n5_ := Aside0.mk (Kd.R_below (by (with_reducible repeat (first | apply Kd.R_alloc | apply Kd.R_drewN | apply Kd.R_drew)); exact HO329.out) hb); have n6_ := Aside0.mk (blk_below (g := gb290) (o := .cells #[.int .i64 a0_0, .int .i64 a0_1, .slice A0_2 l0_2.length c0_2] 53 (0, 0)) (by (with_reducible repeat (first | refine blk_drewN ?_ _ | refine blk_drew ?_ | refine blk_alloc ?_ _)); exact BK290.out) hb); have n7_ := Aside0.mk (blk_below (g := gb306) (o := .cells #[.int .i64 t297, .int .i64 t298, .slice Ao23 t299.length co23] 45 (0, 0)) (by (with_reducible repeat (first | refine blk_drewN ?_ _ | refine blk_drew ?_ | refine blk_alloc ?_ _)); exact BK306.out) hb); have n8_ := Aside0.mk (blk_below (g := gb312) (o := .cells #[.int .i64 t307, .int .i64 t308, .slice Ao30 t309.length co30] 45 (0, 0)) (by (with_reducible repeat (first | refine blk_drewN ?_ _ | refine blk_drew ?_ | refine blk_alloc ?_ _)); exact BK312.out) hb); have n9_ := Aside0.mk (blk_below (g := gb322) (o := .cells #[.int .i64 t313, .int .i64 t314, .slice Ao37 t315.length co37] 45 (0, 0)) (by (with_reducible repeat (first | refine blk_drewN ?_ _ | refine blk_drew ?_ | refine blk_alloc ?_ _)); exact BK322.out) hb); have n10_ := Aside0.mk (below_step (by repeat (first | (with_reducible first | exact HB.out | apply below_alloc | apply pw_below_drewN | apply below_drew1 | refine below_set ?_ GE290.out | refine below_set ?_ GE306.out | refine below_set ?_ GE312.out | refine below_set ?_ GE322.out) | exact HB.out)) hb); clear HO_7; clear HO_11; clear HO_307002; clear HO_313002; clear HO_323002; clear HO329; clear BK290; clear BK306; clear BK312; clear BK322; clear HB; have HO_7 := n0_; have HO_11 := n1_; have HO_307002 := n2_; have HO_313002 := n3_; have HO_323002 := n4_; have HO329 := n5_; have BK290 := n6_; have BK306 := n7_; have BK312 := n8_; have BK322 := n9_; have HB := n10_; clear n0_ n1_ n2_ n3_ n4_ n5_ n6_ n7_ n8_ n9_ n10_; (try clear hb); (try clear hb2); (try clear hk); (try clear hi)))
                  go_meet
                  case rel => exact ⟨_, (true), (by first | rfl | (simp; done) | (simp [*]; done)), H', ⟨by have := HJ11.out; first | omega | exact Nat.le_refl _⟩, ⟨by (with_reducible repeat (first | apply Kd.R_alloc | apply Kd.R_drewN | apply Kd.R_drew)); exact Kd.R_mono HO_7.out (fun _ hk => ⟨hk.1, ⟨hk.2.1, ⟨hk.2.2.1, hk.2.2.2.1⟩⟩⟩)⟩, ⟨by (with_reducible repeat (first | apply Kd.R_alloc | apply Kd.R_drewN | apply Kd.R_drew)); exact Kd.R_mono HO_11.out (fun _ hk => ⟨hk.1, ⟨hk.2.1, ⟨hk.2.2.1, hk.2.2.2.1⟩⟩⟩)⟩, ⟨by (with_reducible repeat (first | apply Kd.Q_alloc | apply Kd.Q_drewN | apply Kd.Q_drew)); exact Kd.Q_mono HO_307002.out (fun _ hk => ⟨hk.1, ⟨hk.2.1, ⟨hk.2.2.1, hk.2.2.2.1⟩⟩⟩)⟩, ⟨by (with_reducible repeat (first | apply Kd.Q_alloc | apply Kd.Q_drewN | apply Kd.Q_drew)); exact Kd.Q_mono HO_313002.out (fun _ hk => ⟨hk.1.1, ⟨hk.1.2.1, ⟨hk.1.2.2.1, hk.1.2.2.2⟩⟩⟩)⟩, ⟨by (with_reducible repeat (first | apply Kd.Q_alloc | apply Kd.Q_drewN | apply Kd.Q_drew)); exact Kd.Q_mono HO_323002.out (fun _ hk => ⟨hk.1, ⟨hk.2.1, ⟨hk.2.2.1, hk.2.2.2.1⟩⟩⟩)⟩, ⟨by (with_reducible repeat (first | refine blk_drewN ?_ _ | refine blk_drew ?_ | refine blk_alloc ?_ _)); exact BK290.out⟩, ⟨by (with_reducible repeat (first | refine blk_drewN ?_ _ | refine blk_drew ?_ | refine blk_alloc ?_ _)); exact BK306.out⟩, ⟨by (with_reducible repeat (first | refine blk_drewN ?_ _ | refine blk_drew ?_ | refine blk_alloc ?_ _)); exact BK312.out⟩, ⟨by (with_reducible repeat (first | refine blk_drewN ?_ _ | refine blk_drew ?_ | refine blk_alloc ?_ _)); exact BK322.out⟩, ⟨by repeat (first | (with_reducible first | exact HB.out | apply below_alloc | apply pw_below_drewN | apply below_drew1 | refine below_set ?_ GE290.out | refine below_set ?_ GE306.out | refine below_set ?_ GE312.out | refine below_set ?_ GE322.out) | exact HB.out)⟩⟩
            case rest =>
              clear HC75
              try clear c1
              try clear c2
              try clear p2
              try clear c3
              try clear c4
              try clear c4b0
              try clear c5
              try clear c6
              try clear c7
              try clear c8
              try clear c9
              try clear c10
              try clear c11
              try clear c21
              try clear c27
              try clear c28
              try clear c32
              try clear c33
              try clear c34
              try clear c35
              try clear c36
              try clear c38
              try clear c39
              try clear c41
              try clear c42
              try clear c43
              try clear c44
              try clear c46
              try clear c47
              try clear c52
              try clear c53
              try clear c54
              try clear c56
              try clear c57
              try clear c62
              try clear c63
              try clear c64
              try clear c66
              try clear c67
              try clear c70
              try clear c73
              try clear c80
              try clear c81
              try clear c82
              try clear c85
              try clear c85b0
              try clear c87
              try clear c89
              try clear c90
              try clear c91
              try clear c92
              try clear c94
              try clear c95
              try clear c100
              try clear c101
              try clear c102
              try clear c104
              try clear c105
              try clear c110
              try clear c111
              try clear c112
              try clear c114
              try clear c115
              try clear hcz103_0
              try clear hcz103_1
              try clear hcz103_2
              try clear hcz106_0
              try clear hcz106_1
              try clear hcz106_2
              try clear hcz113_0
              try clear hcz113_1
              try clear hcz113_2
              try clear hcz116_0
              try clear hcz116_1
              try clear hcz116_2
              try clear hcz14_0
              try clear hcz14_1
              try clear hcz14_2
              try clear hcz16_0
              try clear hcz16_1
              try clear hcz16_2
              try clear hcz22_0
              try clear hcz22_1
              try clear hcz22_2
              try clear hcz24_0
              try clear hcz24_1
              try clear hcz24_2
              try clear hcz29_0
              try clear hcz29_1
              try clear hcz29_2
              try clear hcz36_0
              try clear hcz36_1
              try clear hcz36_2
              try clear hcz45_0
              try clear hcz45_1
              try clear hcz45_2
              try clear hcz48_0
              try clear hcz48_1
              try clear hcz48_2
              try clear hcz55_0
              try clear hcz55_1
              try clear hcz55_2
              try clear hcz58_0
              try clear hcz58_1
              try clear hcz58_2
              try clear hcz65_0
              try clear hcz65_1
              try clear hcz65_2
              try clear hcz68_0
              try clear hcz68_1
              try clear hcz68_2
              try clear hcz6_0
              try clear hcz6_1
              try clear hcz6_2
              try clear hcz83_0
              try clear hcz83_1
              try clear hcz83_2
              try clear hcz93_0
              try clear hcz93_1
              try clear hcz93_2
              try clear hcz96_0
              try clear hcz96_1
              try clear hcz96_2
              try clear hfz103_0
              try clear hfz103_1
              try clear hfz103_2
              try clear hfz106_0
              try clear hfz106_1
              try clear hfz106_2
              try clear hfz113_0
              try clear hfz113_1
              try clear hfz113_2
              try clear hfz116_0
              try clear hfz116_1
              try clear hfz116_2
              try clear hfz14_0
              try clear hfz14_1
              try clear hfz14_2
              try clear hfz16_0
              try clear hfz16_1
              try clear hfz16_2
              try clear hfz22_0
              try clear hfz22_1
              try clear hfz22_2
              try clear hfz24_0
              try clear hfz24_1
              try clear hfz24_2
              try clear hfz29_0
              try clear hfz29_1
              try clear hfz29_2
              try clear hfz36_0
              try clear hfz36_1
              try clear hfz36_2
              try clear hfz45_0
              try clear hfz45_1
              try clear hfz45_2
              try clear hfz48_0
              try clear hfz48_1
              try clear hfz48_2
              try clear hfz55_0
              try clear hfz55_1
              try clear hfz55_2
              try clear hfz58_0
              try clear hfz58_1
              try clear hfz58_2
              try clear hfz65_0
              try clear hfz65_1
              try clear hfz65_2
              try clear hfz68_0
              try clear hfz68_1
              try clear hfz68_2
              try clear hfz6_0
              try clear hfz6_1
              try clear hfz6_2
              try clear hfz83_0
              try clear hfz83_1
              try clear hfz83_2
              try clear hfz93_0
              try clear hfz93_1
              try clear hfz93_2
              try clear hfz96_0
              try clear hfz96_1
              try clear hfz96_2
              try clear p2
              obtain ⟨kq, x82_74, rfl, HA, HJ74, HO_7, HO_11, HO_307002, HO_313002, HO_323002, BK290, BK306, BK312, BK322, HB⟩ := hcut
              have hl313002_74 := (Kd.Q_reads' HO_313002.out).1
              rw [hl313002_74] at HO_313002
              (try simp only [hl313002_74])
              (try simp only [hl313002_74] at BK290)
              (try simp only [hl313002_74] at BK306)
              (try simp only [hl313002_74] at BK312)
              (try simp only [hl313002_74] at BK322)
              (try simp only [hl313002_74] at HO_7)
              (try simp only [hl313002_74] at HO_11)
              (try simp only [hl313002_74] at HO_307002)
              (try simp only [hl313002_74] at HO_323002)
              cases kq with
              | zero => exact absurd HA.out (by simp [laws_FnExactAcceptSeq.j1])
              | succ kj74 =>
                have H := HA.out
                clear HA
                simp only [laws_FnExactAcceptSeq.j1] at H
                by_cases c118 : x82_74 = true
                · subst c118
                  have H1 : (some false) = some r := by rw [if_pos rfl] at H; exact H
                  clear H
                  have H := H1
                  clear H1
                  exact absurd ((Option.some.inj H).trans HTRUE.out) (by decide)
                · replace c118 := Bool.eq_false_iff.mpr c118
                  subst c118
                  have H1 : ((laws_markStream.f kj74 t313 t314 t315 1).bind fun bt335 => ((laws_markIntS.f kj74 t318 bt335.1).bind fun bt337 => ((laws_heldStream.f kj74 t313 t314 bt335.2 1).bind fun t339 => (if t339 < 0 then (some false) else ((laws_heldIntS.f kj74 bt337.2 t339).bind fun t340 => (if t340 < 0 then (some false) else (if t340 = bt337.1 then ((laws_toStream.f kj74 a0_0 a0_1 l0_2).bind fun bt341 => ((impl_AcceptSeq.f kj74 bt341.1 bt341.2.1 bt341.2.2 a1).bind fun bt346 => ((laws_eqStream.f kj74 bt346.1 bt346.2.1 bt346.2.2.1 t297 t298 t299).bind fun t356 => (if t356 = true then ((laws_eqIntS.f kj74 bt346.2.2.2.1 t302).bind fun t357 => (if t357 = true then (laws_FnExactAcceptSeq.j2 kj74 bt337.2 bt337.1 (bt346.2.2.2.2 != t305) t313 t314 bt335.2) else (laws_FnExactAcceptSeq.j2 kj74 bt337.2 bt337.1 true t313 t314 bt335.2))) else (laws_FnExactAcceptSeq.j2 kj74 bt337.2 bt337.1 true t313 t314 bt335.2))))) else (some false)))))))) = some r := by rw [if_neg (show ¬ (false = true) by decide)] at H; exact H
                  clear H
                  have H := H1
                  clear H1
                  replace H := Option.bind_eq_some_iff.mp H
                  obtain ⟨⟨t335, t336⟩, A1190, H⟩ := H
                  replace H : ((laws_markIntS.f kj74 t318 t335).bind fun bt337 => ((laws_heldStream.f kj74 t313 t314 t336 1).bind fun t339 => (if t339 < 0 then (some false) else ((laws_heldIntS.f kj74 bt337.2 t339).bind fun t340 => (if t340 < 0 then (some false) else (if t340 = bt337.1 then ((laws_toStream.f kj74 a0_0 a0_1 l0_2).bind fun bt341 => ((impl_AcceptSeq.f kj74 bt341.1 bt341.2.1 bt341.2.2 a1).bind fun bt346 => ((laws_eqStream.f kj74 bt346.1 bt346.2.1 bt346.2.2.1 t297 t298 t299).bind fun t356 => (if t356 = true then ((laws_eqIntS.f kj74 bt346.2.2.2.1 t302).bind fun t357 => (if t357 = true then (laws_FnExactAcceptSeq.j2 kj74 bt337.2 bt337.1 (bt346.2.2.2.2 != t305) t313 t314 t336) else (laws_FnExactAcceptSeq.j2 kj74 bt337.2 bt337.1 true t313 t314 t336))) else (laws_FnExactAcceptSeq.j2 kj74 bt337.2 bt337.1 true t313 t314 t336))))) else (some false))))))) = some r := H
                  have A119 := Aside0.mk A1190
                  clear A1190
                  replace H := Option.bind_eq_some_iff.mp H
                  obtain ⟨⟨t337, t338⟩, A1200, H⟩ := H
                  replace H : ((laws_heldStream.f kj74 t313 t314 t336 1).bind fun t339 => (if t339 < 0 then (some false) else ((laws_heldIntS.f kj74 t338 t339).bind fun t340 => (if t340 < 0 then (some false) else (if t340 = t337 then ((laws_toStream.f kj74 a0_0 a0_1 l0_2).bind fun bt341 => ((impl_AcceptSeq.f kj74 bt341.1 bt341.2.1 bt341.2.2 a1).bind fun bt346 => ((laws_eqStream.f kj74 bt346.1 bt346.2.1 bt346.2.2.1 t297 t298 t299).bind fun t356 => (if t356 = true then ((laws_eqIntS.f kj74 bt346.2.2.2.1 t302).bind fun t357 => (if t357 = true then (laws_FnExactAcceptSeq.j2 kj74 t338 t337 (bt346.2.2.2.2 != t305) t313 t314 t336) else (laws_FnExactAcceptSeq.j2 kj74 t338 t337 true t313 t314 t336))) else (laws_FnExactAcceptSeq.j2 kj74 t338 t337 true t313 t314 t336))))) else (some false)))))) = some r := H
                  have A120 := Aside0.mk A1200
                  clear A1200
                  replace H := Option.bind_eq_some_iff.mp H
                  obtain ⟨t339, A1210, H⟩ := H
                  replace H : (if t339 < 0 then (some false) else ((laws_heldIntS.f kj74 t338 t339).bind fun t340 => (if t340 < 0 then (some false) else (if t340 = t337 then ((laws_toStream.f kj74 a0_0 a0_1 l0_2).bind fun bt341 => ((impl_AcceptSeq.f kj74 bt341.1 bt341.2.1 bt341.2.2 a1).bind fun bt346 => ((laws_eqStream.f kj74 bt346.1 bt346.2.1 bt346.2.2.1 t297 t298 t299).bind fun t356 => (if t356 = true then ((laws_eqIntS.f kj74 bt346.2.2.2.1 t302).bind fun t357 => (if t357 = true then (laws_FnExactAcceptSeq.j2 kj74 t338 t337 (bt346.2.2.2.2 != t305) t313 t314 t336) else (laws_FnExactAcceptSeq.j2 kj74 t338 t337 true t313 t314 t336))) else (laws_FnExactAcceptSeq.j2 kj74 t338 t337 true t313 t314 t336))))) else (some false))))) = some r := H
                  have A121 := Aside0.mk A1210
                  clear A1210
                  by_cases c122 : t339 < 0
                  · rw [if_pos c122] at H
                    have c122b0 : decide (t339 < 0) = true := decide_eq_true c122
                    clear c122
                    exact absurd ((Option.some.inj H).trans HTRUE.out) (by decide)
                  · rw [if_neg c122] at H
                    have c122b0 : decide (t339 < 0) = false := decide_eq_false c122
                    clear c122
                    replace H := Option.bind_eq_some_iff.mp H
                    obtain ⟨t340, A1230, H⟩ := H
                    replace H : (if t340 < 0 then (some false) else (if t340 = t337 then ((laws_toStream.f kj74 a0_0 a0_1 l0_2).bind fun bt341 => ((impl_AcceptSeq.f kj74 bt341.1 bt341.2.1 bt341.2.2 a1).bind fun bt346 => ((laws_eqStream.f kj74 bt346.1 bt346.2.1 bt346.2.2.1 t297 t298 t299).bind fun t356 => (if t356 = true then ((laws_eqIntS.f kj74 bt346.2.2.2.1 t302).bind fun t357 => (if t357 = true then (laws_FnExactAcceptSeq.j2 kj74 t338 t337 (bt346.2.2.2.2 != t305) t313 t314 t336) else (laws_FnExactAcceptSeq.j2 kj74 t338 t337 true t313 t314 t336))) else (laws_FnExactAcceptSeq.j2 kj74 t338 t337 true t313 t314 t336))))) else (some false))) = some r := H
                    have A123 := Aside0.mk A1230
                    clear A1230
                    by_cases c124 : t340 < 0
                    · rw [if_pos c124] at H
                      have c124b0 : decide (t340 < 0) = true := decide_eq_true c124
                      clear c124
                      exact absurd ((Option.some.inj H).trans HTRUE.out) (by decide)
                    · rw [if_neg c124] at H
                      have c124b0 : decide (t340 < 0) = false := decide_eq_false c124
                      clear c124
                      by_cases c125 : t340 = t337
                      · rw [if_pos c125] at H
                        have c125b0 : (t340 == t337) = true := beq_iff_eq.mpr c125
                        have c125b1 : (t340 != t337) = false := bne_eq_false_iff_eq.mpr c125
                        clear c125
                        replace H := Option.bind_eq_some_iff.mp H
                        obtain ⟨⟨t341, t342, t343⟩, A1260, H⟩ := H
                        replace H : ((impl_AcceptSeq.f kj74 t341 t342 t343 a1).bind fun bt346 => ((laws_eqStream.f kj74 bt346.1 bt346.2.1 bt346.2.2.1 t297 t298 t299).bind fun t356 => (if t356 = true then ((laws_eqIntS.f kj74 bt346.2.2.2.1 t302).bind fun t357 => (if t357 = true then (laws_FnExactAcceptSeq.j2 kj74 t338 t337 (bt346.2.2.2.2 != t305) t313 t314 t336) else (laws_FnExactAcceptSeq.j2 kj74 t338 t337 true t313 t314 t336))) else (laws_FnExactAcceptSeq.j2 kj74 t338 t337 true t313 t314 t336)))) = some r := H
                        have A126 := Aside0.mk A1260
                        clear A1260
                        replace H := Option.bind_eq_some_iff.mp H
                        obtain ⟨⟨t346, t347, t348, t351, t354⟩, A1270, H⟩ := H
                        replace H : ((laws_eqStream.f kj74 t346 t347 t348 t297 t298 t299).bind fun t356 => (if t356 = true then ((laws_eqIntS.f kj74 t351 t302).bind fun t357 => (if t357 = true then (laws_FnExactAcceptSeq.j2 kj74 t338 t337 (t354 != t305) t313 t314 t336) else (laws_FnExactAcceptSeq.j2 kj74 t338 t337 true t313 t314 t336))) else (laws_FnExactAcceptSeq.j2 kj74 t338 t337 true t313 t314 t336))) = some r := H
                        have A127 := Aside0.mk A1270
                        clear A1270
                        have HC128 := Aside0.mk H
                        clear H
                        have hnb129 := NB322_290.out
                        have hnc129 := NB290_322.out
                        have hnb130 := NB322_306.out
                        have hnc130 := NB306_322.out
                        have hnb131 := NB322_312.out
                        have hnc131 := NB312_322.out
                        have hcz132_0 : wc.cell? ⟨gb322, 0, none⟩ = some (.int .i64 t313) := (blk_cell BK322.out 0).trans rfl
                        have hcz132_1 : wc.cell? ⟨gb322, 1, none⟩ = some (.int .i64 t314) := (blk_cell BK322.out 1).trans rfl
                        have hcz132_2 : wc.cell? ⟨gb322, 2, none⟩ = some (.slice Ao37 t315.length co37) := (blk_cell BK322.out 2).trans rfl
                        have hfz132_0 := blk_frozen BK322.out 0
                        have hfz132_1 := blk_frozen BK322.out 1
                        have hfz132_2 := blk_frozen BK322.out 2
                        go_upto_region 29 with (first | ((with_reducible refine gate_callee (f := 38) rfl ?_); refine goesL_ (some 85) rfl rfl Try.func38 (by kernel_rfl) rfl #[.agg #[.int .i64 t313, .int .i64 t314, .slice Ao37 t315.length co37], .int .i64 1] rfl (by (try simp only [List.map_toArray, List.map_cons, List.map_nil]); first | done | rfl | (simp only [List.length_drop, List.length_take]; rfl)) ?_; (with_reducible refine (laws_markStream.callsQ kj74 t313 t314 (fun k_ => some k_ = (.slice Ao37 t315.length co37 : Value).ownBlock) (.slice Ao37 t315.length co37) t315 1 t335 t336 w _ ?side1 ?side2 A119.out).mono ?_); (case side1 => repeat (first | (with_reducible first | exact HB.out | apply below_alloc | apply pw_below_drewN | apply below_drew1 | refine below_set ?_ GE290.out | refine below_set ?_ GE306.out | refine below_set ?_ GE312.out | refine below_set ?_ GE322.out) | exact HB.out)); (case side2 => exact Kd.Q_tight rfl HO_323002.out); rintro e w133 ⟨rfl, hy0, hb, hkp⟩; refine ⟨_, rfl, ?_⟩; have n0_ := Aside0.mk (Kd.R_mono (ok' := fun k_ => some k_ ≠ (v319 : Value).ownBlock ∧ some k_ ≠ (.slice Ao23 t299.length co23 : Value).ownBlock ∧ some k_ ≠ (.slice Ao30 t332.length co30 : Value).ownBlock ∧ some k_ ≠ (.slice Ao37 t315.length co37 : Value).ownBlock) (Kd.R_keptB (HO_7.out) hkp (fun k_ hk_ hs_ => (hk_.2.2.2) hs_)) (fun k_ hk_ => ⟨hk_.1.1, hk_.1.2.1, hk_.1.2.2.1, hk_.1.2.2.2⟩)); have n1_ := Aside0.mk (Kd.R_mono (ok' := fun k_ => some k_ ≠ (v303 : Value).ownBlock ∧ some k_ ≠ (.slice Ao23 t299.length co23 : Value).ownBlock ∧ some k_ ≠ (.slice Ao30 t332.length co30 : Value).ownBlock ∧ some k_ ≠ (.slice Ao37 t315.length co37 : Value).ownBlock) (Kd.R_keptB (HO_11.out) hkp (fun k_ hk_ hs_ => (hk_.2.2.2) hs_)) (fun k_ hk_ => ⟨hk_.1.1, hk_.1.2.1, hk_.1.2.2.1, hk_.1.2.2.2⟩)); have n2_ := Aside0.mk (Kd.Q_mono (ok' := fun k_ => some k_ ≠ (v303 : Value).ownBlock ∧ some k_ ≠ (v319 : Value).ownBlock ∧ some k_ ≠ (.slice Ao30 t332.length co30 : Value).ownBlock ∧ some k_ ≠ (.slice Ao37 t315.length co37 : Value).ownBlock) (Kd.Q_keptB (HO_307002.out) hkp (fun k_ hk_ hs_ => (hk_.2.2.2) hs_)) (fun k_ hk_ => ⟨hk_.1.1, hk_.1.2.1, hk_.1.2.2.1, hk_.1.2.2.2⟩)); have n3_ := Aside0.mk (Kd.Q_mono (ok' := fun k_ => some k_ ≠ (v303 : Value).ownBlock ∧ some k_ ≠ (v319 : Value).ownBlock ∧ some k_ ≠ (.slice Ao23 t299.length co23 : Value).ownBlock ∧ some k_ ≠ (.slice Ao37 t315.length co37 : Value).ownBlock) (Kd.Q_keptB (HO_313002.out) hkp (fun k_ hk_ hs_ => (hk_.2.2.2) hs_)) (fun k_ hk_ => ⟨hk_.1.1, hk_.1.2.1, hk_.1.2.2.1, hk_.1.2.2.2⟩)); have n4_ := Aside0.mk (Kd.Q_mono (Kd.Q_tight rfl hy0) (fun k_ e_ => HO_323002.out.1 k_ e_.symm)); have n5_ := Aside0.mk (blk_kept (by (with_reducible repeat (first | refine blk_drewN ?_ _ | refine blk_drew ?_ | refine blk_alloc ?_ _)); exact BK290.out) hkp (fun hs_ => (fun e_ => (Kd.Q_ne HO_323002.out BK290.out (by decide)) e_) hs_)); have n6_ := Aside0.mk (blk_kept (by (with_reducible repeat (first | refine blk_drewN ?_ _ | refine blk_drew ?_ | refine blk_alloc ?_ _)); exact BK306.out) hkp (fun hs_ => (fun e_ => (Kd.Q_ne HO_323002.out BK306.out (by decide)) e_) hs_)); have n7_ := Aside0.mk (blk_kept (by (with_reducible repeat (first | refine blk_drewN ?_ _ | refine blk_drew ?_ | refine blk_alloc ?_ _)); exact BK312.out) hkp (fun hs_ => (fun e_ => (Kd.Q_ne HO_323002.out BK312.out (by decide)) e_) hs_)); have n8_ := Aside0.mk (blk_kept (by (with_reducible repeat (first | refine blk_drewN ?_ _ | refine blk_drew ?_ | refine blk_alloc ?_ _)); exact BK322.out) hkp (fun hs_ => (fun e_ => (Kd.Q_ne HO_323002.out BK322.out (by decide)) e_) hs_)); have n9_ := Aside0.mk (hb); clear HO_7; clear HO_11; clear HO_307002; clear HO_313002; clear HO_323002; clear BK290; clear BK306; clear BK312; clear BK322; clear HB; have HO_7 := n0_; have HO_11 := n1_; have HO_307002 := n2_; have HO_313002 := n3_; have HO_323002 := n4_; have BK290 := n5_; have BK306 := n6_; have BK312 := n7_; have BK322 := n8_; have HB := n9_; clear n0_ n1_ n2_ n3_ n4_ n5_ n6_ n7_ n8_ n9_; (try clear hb); (try clear hkp); (try clear hy0); obtain ⟨Ao134, co134, eo134⟩ := Kd.R_slice HO_11.out; subst eo134) | ((with_reducible refine gate_callee (f := 39) rfl ?_); refine goesL_ (some 88) rfl rfl Try.func39 (by kernel_rfl) rfl #[.slice Ao134 t318.length co134, .int .i64 t335] rfl (by (try simp only [List.map_toArray, List.map_cons, List.map_nil]); first | done | rfl | (simp only [List.length_drop, List.length_take]; rfl)) ?_; (with_reducible refine (laws_markIntS.calls kj74 (fun k_ => some k_ = (.slice Ao134 t318.length co134 : Value).ownBlock) (.slice Ao134 t318.length co134) t318 t335 t337 t338 w _ ?side1 ?side2 A120.out).mono ?_); (case side1 => repeat (first | (with_reducible first | exact HB.out | apply below_alloc | apply pw_below_drewN | apply below_drew1 | refine below_set ?_ GE290.out | refine below_set ?_ GE306.out | refine below_set ?_ GE312.out | refine below_set ?_ GE322.out) | exact HB.out)); (case side2 => exact Kd.R_tight rfl HO_11.out); rintro e w135 ⟨rfl, hy0, hb, hkp⟩; refine ⟨_, rfl, ?_⟩; have n0_ := Aside0.mk (Kd.R_mono (ok' := fun k_ => some k_ ≠ (.slice Ao134 t318.length co134 : Value).ownBlock ∧ some k_ ≠ (.slice Ao23 t299.length co23 : Value).ownBlock ∧ some k_ ≠ (.slice Ao30 t332.length co30 : Value).ownBlock ∧ some k_ ≠ (.slice Ao37 t315.length co37 : Value).ownBlock) (Kd.R_keptB (HO_7.out) hkp (fun k_ hk_ hs_ => (hk_.1) hs_)) (fun k_ hk_ => ⟨hk_.1.1, hk_.1.2.1, hk_.1.2.2.1, hk_.1.2.2.2⟩)); have n1_ := Aside0.mk (Kd.R_reok rfl hy0 (fun k_ e_ => HO_11.out.1 k_ e_)); have n2_ := Aside0.mk (Kd.Q_mono (ok' := fun k_ => some k_ ≠ (v303 : Value).ownBlock ∧ some k_ ≠ (.slice Ao134 t318.length co134 : Value).ownBlock ∧ some k_ ≠ (.slice Ao30 t332.length co30 : Value).ownBlock ∧ some k_ ≠ (.slice Ao37 t315.length co37 : Value).ownBlock) (Kd.Q_keptB (HO_307002.out) hkp (fun k_ hk_ hs_ => (hk_.2.1) hs_)) (fun k_ hk_ => ⟨hk_.1.1, hk_.1.2.1, hk_.1.2.2.1, hk_.1.2.2.2⟩)); have n3_ := Aside0.mk (Kd.Q_mono (ok' := fun k_ => some k_ ≠ (v303 : Value).ownBlock ∧ some k_ ≠ (.slice Ao134 t318.length co134 : Value).ownBlock ∧ some k_ ≠ (.slice Ao23 t299.length co23 : Value).ownBlock ∧ some k_ ≠ (.slice Ao37 t315.length co37 : Value).ownBlock) (Kd.Q_keptB (HO_313002.out) hkp (fun k_ hk_ hs_ => (hk_.2.1) hs_)) (fun k_ hk_ => ⟨hk_.1.1, hk_.1.2.1, hk_.1.2.2.1, hk_.1.2.2.2⟩)); have n4_ := Aside0.mk (Kd.Q_mono (ok' := fun k_ => some k_ ≠ (v303 : Value).ownBlock ∧ some k_ ≠ (.slice Ao134 t318.length co134 : Value).ownBlock ∧ some k_ ≠ (.slice Ao23 t299.length co23 : Value).ownBlock ∧ some k_ ≠ (.slice Ao30 t332.length co30 : Value).ownBlock) (Kd.Q_keptB (HO_323002.out) hkp (fun k_ hk_ hs_ => (hk_.2.1) hs_)) (fun k_ hk_ => ⟨hk_.1.1, hk_.1.2.1, hk_.1.2.2.1, hk_.1.2.2.2⟩)); have n5_ := Aside0.mk (blk_kept (by (with_reducible repeat (first | refine blk_drewN ?_ _ | refine blk_drew ?_ | refine blk_alloc ?_ _)); exact BK290.out) hkp (fun hs_ => (fun e_ => (Kd.R_ne HO_11.out BK290.out (by decide)) e_) hs_)); have n6_ := Aside0.mk (blk_kept (by (with_reducible repeat (first | refine blk_drewN ?_ _ | refine blk_drew ?_ | refine blk_alloc ?_ _)); exact BK306.out) hkp (fun hs_ => (fun e_ => (Kd.R_ne HO_11.out BK306.out (by decide)) e_) hs_)); have n7_ := Aside0.mk (blk_kept (by (with_reducible repeat (first | refine blk_drewN ?_ _ | refine blk_drew ?_ | refine blk_alloc ?_ _)); exact BK312.out) hkp (fun hs_ => (fun e_ => (Kd.R_ne HO_11.out BK312.out (by decide)) e_) hs_)); have n8_ := Aside0.mk (blk_kept (by (with_reducible repeat (first | refine blk_drewN ?_ _ | refine blk_drew ?_ | refine blk_alloc ?_ _)); exact BK322.out) hkp (fun hs_ => (fun e_ => (Kd.R_ne HO_11.out BK322.out (by decide)) e_) hs_)); have n9_ := Aside0.mk (hb); clear HO_7; clear HO_11; clear HO_307002; clear HO_313002; clear HO_323002; clear BK290; clear BK306; clear BK312; clear BK322; clear HB; have HO_7 := n0_; have HO_11 := n1_; have HO_307002 := n2_; have HO_313002 := n3_; have HO_323002 := n4_; have BK290 := n5_; have BK306 := n6_; have BK312 := n7_; have BK322 := n8_; have HB := n9_; clear n0_ n1_ n2_ n3_ n4_ n5_ n6_ n7_ n8_ n9_; (try clear hb); (try clear hkp); (try clear hy0); have hcz136_0 : w135.cell? ⟨gb322, 0, none⟩ = some (.int .i64 t313) := (blk_cell BK322.out 0).trans rfl; have hcz136_1 : w135.cell? ⟨gb322, 1, none⟩ = some (.int .i64 t314) := (blk_cell BK322.out 1).trans rfl; have hcz136_2 : w135.cell? ⟨gb322, 2, none⟩ = some (.slice Ao37 t315.length co37) := (blk_cell BK322.out 2).trans rfl; have hfz136_0 := blk_frozen BK322.out 0; have hfz136_1 := blk_frozen BK322.out 1; have hfz136_2 := blk_frozen BK322.out 2) | ((with_reducible refine gate_callee (f := 40) rfl ?_); refine goesL_ (some 91) rfl rfl Try.func40 (by kernel_rfl) rfl #[.agg #[.int .i64 t313, .int .i64 t314, .slice Ao37 t336.length co37], .int .i64 1] rfl (by (try simp only [List.map_toArray, List.map_cons, List.map_nil]); first | done | (rw [show t336.length = t315.length from (Kd.Q_reads' HO_323002.out).1.symm] <;> rfl) | rfl | (simp only [List.length_drop, List.length_take]; rfl)) ?_; (with_reducible refine (laws_heldStream.calls kj74 t313 t314 _ _ t336 1 t339 _ ?side1 ?side2 A121.out).mono ?_); (case side1 => repeat (first | exact (Kd.Q_reads' HO_323002.out).2.2 | (with_reducible refine Kd.C_alloc ?_ _) | (with_reducible refine Kd.C_drewN ?_ _) | (with_reducible refine Kd.C_drew ?_))); (case side2 => rw [show t336.length = t315.length from (Kd.Q_reads' HO_323002.out).1.symm]; exact (Kd.Q_reads' HO_323002.out).2.1); rintro e w137 ⟨rfl, hb⟩; refine ⟨_, rfl, ?_⟩; have n0_ := Aside0.mk (Kd.R_below (by (with_reducible repeat (first | apply Kd.R_alloc | apply Kd.R_drewN | apply Kd.R_drew)); exact HO_7.out) hb); have n1_ := Aside0.mk (Kd.R_below (by (with_reducible repeat (first | apply Kd.R_alloc | apply Kd.R_drewN | apply Kd.R_drew)); exact HO_11.out) hb); have n2_ := Aside0.mk (Kd.Q_below (by (with_reducible repeat (first | apply Kd.Q_alloc | apply Kd.Q_drewN | apply Kd.Q_drew)); exact HO_307002.out) hb); have n3_ := Aside0.mk (Kd.Q_below (by (with_reducible repeat (first | apply Kd.Q_alloc | apply Kd.Q_drewN | apply Kd.Q_drew)); exact HO_313002.out) hb); have n4_ := Aside0.mk (Kd.Q_below (by (with_reducible repeat (first | apply Kd.Q_alloc | apply Kd.Q_drewN | apply Kd.Q_drew)); exact HO_323002.out) hb); have n5_ := Aside0.mk (blk_below (g := gb290) (o := .cells #[.int .i64 a0_0, .int .i64 a0_1, .slice A0_2 l0_2.length c0_2] 53 (0, 0)) (by (with_reducible repeat (first | refine blk_drewN ?_ _ | refine blk_drew ?_ | refine blk_alloc ?_ _)); exact BK290.out) hb); have n6_ := Aside0.mk (blk_below (g := gb306) (o := .cells #[.int .i64 t297, .int .i64 t298, .slice Ao23 t299.length co23] 45 (0, 0)) (by (with_reducible repeat (first | refine blk_drewN ?_ _ | refine blk_drew ?_ | refine blk_alloc ?_ _)); exact BK306.out) hb); have n7_ := Aside0.mk (blk_below (g := gb312) (o := .cells #[.int .i64 t307, .int .i64 t308, .slice Ao30 t332.length co30] 45 (0, 0)) (by (with_reducible repeat (first | refine blk_drewN ?_ _ | refine blk_drew ?_ | refine blk_alloc ?_ _)); exact BK312.out) hb); have n8_ := Aside0.mk (blk_below (g := gb322) (o := .cells #[.int .i64 t313, .int .i64 t314, .slice Ao37 t315.length co37] 45 (0, 0)) (by (with_reducible repeat (first | refine blk_drewN ?_ _ | refine blk_drew ?_ | refine blk_alloc ?_ _)); exact BK322.out) hb); have n9_ := Aside0.mk (below_step (by repeat (first | (with_reducible first | exact HB.out | apply below_alloc | apply pw_below_drewN | apply below_drew1 | refine below_set ?_ GE290.out | refine below_set ?_ GE306.out | refine below_set ?_ GE312.out | refine below_set ?_ GE322.out) | exact HB.out)) hb); clear HO_7; clear HO_11; clear HO_307002; clear HO_313002; clear HO_323002; clear BK290; clear BK306; clear BK312; clear BK322; clear HB; have HO_7 := n0_; have HO_11 := n1_; have HO_307002 := n2_; have HO_313002 := n3_; have HO_323002 := n4_; have BK290 := n5_; have BK306 := n6_; have BK312 := n7_; have BK322 := n8_; have HB := n9_; clear n0_ n1_ n2_ n3_ n4_ n5_ n6_ n7_ n8_ n9_; (try clear hb); (try clear hb2); (try clear hk); (try clear hi)) | ((with_reducible refine gate_callee (f := 41) rfl ?_); refine goesL_ (some 96) rfl rfl Try.func41 (by kernel_rfl) rfl #[.slice Ao134 t338.length co134, .int .i64 t339] rfl (by (try simp only [List.map_toArray, List.map_cons, List.map_nil]); first | done | (rw [show t338.length = t318.length from (Kd.R_reads' HO_11.out).1.symm] <;> rfl) | rfl | (simp only [List.length_drop, List.length_take]; rfl)) ?_; (with_reducible refine (laws_heldIntS.calls kj74 _ _ t338 t339 t340 _ ?side1 ?side2 A123.out).mono ?_); (case side1 => repeat (first | exact (Kd.R_reads' HO_11.out).2.2 | (with_reducible refine Kd.C_alloc ?_ _) | (with_reducible refine Kd.C_drewN ?_ _) | (with_reducible refine Kd.C_drew ?_))); (case side2 => rw [show t338.length = t318.length from (Kd.R_reads' HO_11.out).1.symm]; exact (Kd.R_reads' HO_11.out).2.1); rintro e w' ⟨rfl, ⟨nd, rfl⟩⟩; refine ⟨_, rfl, ?_⟩; skip; have hnb138 := NB290_306.out; have hnc138 := NB306_290.out; have hnb139 := NB290_312.out; have hnc139 := NB312_290.out; have hcz140_0 : w137.cell? ⟨gb290, 0, none⟩ = some (.int .i64 a0_0) := (blk_cell BK290.out 0).trans rfl; have hcz140_1 : w137.cell? ⟨gb290, 1, none⟩ = some (.int .i64 a0_1) := (blk_cell BK290.out 1).trans rfl; have hcz140_2 : w137.cell? ⟨gb290, 2, none⟩ = some (.slice A0_2 l0_2.length c0_2) := (blk_cell BK290.out 2).trans rfl; have hfz140_0 := blk_frozen BK290.out 0; have hfz140_1 := blk_frozen BK290.out 1; have hfz140_2 := blk_frozen BK290.out 2) | ((with_reducible refine gate_callee (f := 34) rfl ?_); refine goesL_ (some 104) rfl rfl Try.func34 (by kernel_rfl) rfl #[.agg #[.int .i64 a0_0, .int .i64 a0_1, .slice A0_2 l0_2.length c0_2]] rfl (by (try simp only [List.map_toArray, List.map_cons, List.map_nil]); first | done | rfl | (simp only [List.length_drop, List.length_take]; rfl)) ?_; (with_reducible refine (laws_toStream.calls kj74 a0_0 a0_1 _ _ l0_2 t341 t342 t343 _ ?side1 ?side2 A126.out).mono ?_); (case side1 => repeat (first | exact (Kd.C_below HR0_2.out HB.out) | (with_reducible refine Kd.C_alloc ?_ _) | (with_reducible refine Kd.C_drewN ?_ _) | (with_reducible refine Kd.C_drew ?_))); (case side2 => exact HC0_2.out); rintro e w141 ⟨v344, rfl, ho0, hb⟩; refine ⟨_, rfl, ?_⟩; have n0_ := Aside0.mk (Kd.R_elder' (by (with_reducible repeat (first | apply Kd.R_alloc | apply Kd.R_drewN | apply Kd.R_drew)); exact HO_7.out) (Kd.R_base ho0) hb); have n1_ := Aside0.mk (Kd.R_elder' (by (with_reducible repeat (first | apply Kd.R_alloc | apply Kd.R_drewN | apply Kd.R_drew)); exact HO_11.out) (Kd.R_base ho0) hb); have n2_ := Aside0.mk (Kd.Q_elder' (by (with_reducible repeat (first | apply Kd.Q_alloc | apply Kd.Q_drewN | apply Kd.Q_drew)); exact HO_307002.out) (Kd.R_base ho0) hb); have n3_ := Aside0.mk (Kd.Q_elder' (by (with_reducible repeat (first | apply Kd.Q_alloc | apply Kd.Q_drewN | apply Kd.Q_drew)); exact HO_313002.out) (Kd.R_base ho0) hb); have n4_ := Aside0.mk (Kd.Q_elder' (by (with_reducible repeat (first | apply Kd.Q_alloc | apply Kd.Q_drewN | apply Kd.Q_drew)); exact HO_323002.out) (Kd.R_base ho0) hb); have n5_ := Aside0.mk (Kd.R_lower (Kd.R_new' (Kd.R_new' (Kd.R_new' (Kd.R_new' (Kd.R_new' ho0 (Kd.R_lt (by (with_reducible repeat (first | apply Kd.R_alloc | apply Kd.R_drewN | apply Kd.R_drew)); exact HO_7.out))) (Kd.R_lt (by (with_reducible repeat (first | apply Kd.R_alloc | apply Kd.R_drewN | apply Kd.R_drew)); exact HO_11.out))) (Kd.Q_lt (by (with_reducible repeat (first | apply Kd.Q_alloc | apply Kd.Q_drewN | apply Kd.Q_drew)); exact HO_307002.out))) (Kd.Q_lt (by (with_reducible repeat (first | apply Kd.Q_alloc | apply Kd.Q_drewN | apply Kd.Q_drew)); exact HO_313002.out))) (Kd.Q_lt (by (with_reducible repeat (first | apply Kd.Q_alloc | apply Kd.Q_drewN | apply Kd.Q_drew)); exact HO_323002.out))) (below_size (by repeat (first | (with_reducible first | exact HB.out | apply below_alloc | apply pw_below_drewN | apply below_drew1 | refine below_set ?_ GE290.out | refine below_set ?_ GE306.out | refine below_set ?_ GE312.out | refine below_set ?_ GE322.out) | exact HB.out)))); have n6_ := Aside0.mk (blk_below (g := gb290) (o := .cells #[.int .i64 a0_0, .int .i64 a0_1, .slice A0_2 l0_2.length c0_2] 53 (0, 0)) (by (with_reducible repeat (first | refine blk_drewN ?_ _ | refine blk_drew ?_ | refine blk_alloc ?_ _)); exact BK290.out) hb); have n7_ := Aside0.mk (blk_below (g := gb306) (o := .cells #[.int .i64 t297, .int .i64 t298, .slice Ao23 t299.length co23] 45 (0, 0)) (by (with_reducible repeat (first | refine blk_drewN ?_ _ | refine blk_drew ?_ | refine blk_alloc ?_ _)); exact BK306.out) hb); have n8_ := Aside0.mk (blk_below (g := gb312) (o := .cells #[.int .i64 t307, .int .i64 t308, .slice Ao30 t332.length co30] 45 (0, 0)) (by (with_reducible repeat (first | refine blk_drewN ?_ _ | refine blk_drew ?_ | refine blk_alloc ?_ _)); exact BK312.out) hb); have n9_ := Aside0.mk (blk_below (g := gb322) (o := .cells #[.int .i64 t313, .int .i64 t314, .slice Ao37 t315.length co37] 45 (0, 0)) (by (with_reducible repeat (first | refine blk_drewN ?_ _ | refine blk_drew ?_ | refine blk_alloc ?_ _)); exact BK322.out) hb); have n10_ := Aside0.mk (below_step (by repeat (first | (with_reducible first | exact HB.out | apply below_alloc | apply pw_below_drewN | apply below_drew1 | refine below_set ?_ GE290.out | refine below_set ?_ GE306.out | refine below_set ?_ GE312.out | refine below_set ?_ GE322.out) | exact HB.out)) hb); clear HO_7; clear HO_11; clear HO_307002; clear HO_313002; clear HO_323002; clear BK290; clear BK306; clear BK312; clear BK322; clear HB; have HO_7 := n0_; have HO_11 := n1_; have HO_307002 := n2_; have HO_313002 := n3_; have HO_323002 := n4_; have HO345 := n5_; have BK290 := n6_; have BK306 := n7_; have BK312 := n8_; have BK322 := n9_; have HB := n10_; clear n0_ n1_ n2_ n3_ n4_ n5_ n6_ n7_ n8_ n9_ n10_; (try clear hb); (try clear hb2); (try clear hk); (try clear hi); (try clear ho0); obtain ⟨Ao142, co142, eo142⟩ := Kd.R_slice HO345.out; subst eo142) | ((with_reducible refine gate_callee (f := 35) rfl ?_); refine goesL_ (some 106) rfl rfl Try.func35 (by kernel_rfl) rfl #[.agg #[.int .i64 t341, .int .i64 t342, .slice Ao142 t343.length co142], .int .i64 a1] rfl (by (try simp only [List.map_toArray, List.map_cons, List.map_nil]); first | done | rfl | (simp only [List.length_drop, List.length_take]; rfl)) ?_; (with_reducible refine (impl_AcceptSeq.calls kj74 t341 t342 _ _ t343 a1 t346 t347 t348 t351 t354 _ ?side1 ?side2 A127.out).mono ?_); (case side1 => repeat (first | exact (Kd.R_reads' HO345.out).2.2 | (with_reducible refine Kd.C_alloc ?_ _) | (with_reducible refine Kd.C_drewN ?_ _) | (with_reducible refine Kd.C_drew ?_))); (case side2 => exact (Kd.R_reads' HO345.out).2.1); rintro e w143 ⟨v349, v352, rfl, ho0, ho1, hb⟩; refine ⟨_, rfl, ?_⟩; have n0_ := Aside0.mk (Kd.R_mono (Kd.R_told (Kd.R_told (Kd.R_old (by (with_reducible repeat (first | apply Kd.R_alloc | apply Kd.R_drewN | apply Kd.R_drew)); exact HO_7.out) hb) (Kd.Q_base ho0)) (Kd.R_base ho1)) (fun _ h_ => h_.1)); have n1_ := Aside0.mk (Kd.R_mono (Kd.R_told (Kd.R_told (Kd.R_old (by (with_reducible repeat (first | apply Kd.R_alloc | apply Kd.R_drewN | apply Kd.R_drew)); exact HO_11.out) hb) (Kd.Q_base ho0)) (Kd.R_base ho1)) (fun _ h_ => h_.1)); have n2_ := Aside0.mk (Kd.Q_mono (Kd.Q_told (Kd.Q_told (Kd.Q_old (by (with_reducible repeat (first | apply Kd.Q_alloc | apply Kd.Q_drewN | apply Kd.Q_drew)); exact HO_307002.out) hb) (Kd.Q_base ho0)) (Kd.R_base ho1)) (fun _ h_ => h_.1)); have n3_ := Aside0.mk (Kd.Q_mono (Kd.Q_told (Kd.Q_told (Kd.Q_old (by (with_reducible repeat (first | apply Kd.Q_alloc | apply Kd.Q_drewN | apply Kd.Q_drew)); exact HO_313002.out) hb) (Kd.Q_base ho0)) (Kd.R_base ho1)) (fun _ h_ => h_.1)); have n4_ := Aside0.mk (Kd.Q_mono (Kd.Q_told (Kd.Q_told (Kd.Q_old (by (with_reducible repeat (first | apply Kd.Q_alloc | apply Kd.Q_drewN | apply Kd.Q_drew)); exact HO_323002.out) hb) (Kd.Q_base ho0)) (Kd.R_base ho1)) (fun _ h_ => h_.1)); have n5_ := Aside0.mk (Kd.R_mono (Kd.R_told (Kd.R_told (Kd.R_old (by (with_reducible repeat (first | apply Kd.R_alloc | apply Kd.R_drewN | apply Kd.R_drew)); exact HO345.out) hb) (Kd.Q_base ho0)) (Kd.R_base ho1)) (fun _ h_ => h_.1)); have n6_ := Aside0.mk (Kd.Q_lower (Kd.Q_new' (Kd.Q_new' (Kd.Q_new' (Kd.Q_new' (Kd.Q_new' (Kd.Q_new' ho0 (Kd.R_lt (by (with_reducible repeat (first | apply Kd.R_alloc | apply Kd.R_drewN | apply Kd.R_drew)); exact HO_7.out))) (Kd.R_lt (by (with_reducible repeat (first | apply Kd.R_alloc | apply Kd.R_drewN | apply Kd.R_drew)); exact HO_11.out))) (Kd.Q_lt (by (with_reducible repeat (first | apply Kd.Q_alloc | apply Kd.Q_drewN | apply Kd.Q_drew)); exact HO_307002.out))) (Kd.Q_lt (by (with_reducible repeat (first | apply Kd.Q_alloc | apply Kd.Q_drewN | apply Kd.Q_drew)); exact HO_313002.out))) (Kd.Q_lt (by (with_reducible repeat (first | apply Kd.Q_alloc | apply Kd.Q_drewN | apply Kd.Q_drew)); exact HO_323002.out))) (Kd.R_lt (by (with_reducible repeat (first | apply Kd.R_alloc | apply Kd.R_drewN | apply Kd.R_drew)); exact HO345.out))) (below_size (by repeat (first | (with_reducible first | exact HB.out | apply below_alloc | apply pw_below_drewN | apply below_drew1 | refine below_set ?_ GE290.out | refine below_set ?_ GE306.out | refine below_set ?_ GE312.out | refine below_set ?_ GE322.out) | exact HB.out)))); have n7_ := Aside0.mk (Kd.R_lower (Kd.R_new' (Kd.R_new' (Kd.R_new' (Kd.R_new' (Kd.R_new' (Kd.R_new' ho1 (Kd.R_lt (by (with_reducible repeat (first | apply Kd.R_alloc | apply Kd.R_drewN | apply Kd.R_drew)); exact HO_7.out))) (Kd.R_lt (by (with_reducible repeat (first | apply Kd.R_alloc | apply Kd.R_drewN | apply Kd.R_drew)); exact HO_11.out))) (Kd.Q_lt (by (with_reducible repeat (first | apply Kd.Q_alloc | apply Kd.Q_drewN | apply Kd.Q_drew)); exact HO_307002.out))) (Kd.Q_lt (by (with_reducible repeat (first | apply Kd.Q_alloc | apply Kd.Q_drewN | apply Kd.Q_drew)); exact HO_313002.out))) (Kd.Q_lt (by (with_reducible repeat (first | apply Kd.Q_alloc | apply Kd.Q_drewN | apply Kd.Q_drew)); exact HO_323002.out))) (Kd.R_lt (by (with_reducible repeat (first | apply Kd.R_alloc | apply Kd.R_drewN | apply Kd.R_drew)); exact HO345.out))) (below_size (by repeat (first | (with_reducible first | exact HB.out | apply below_alloc | apply pw_below_drewN | apply below_drew1 | refine below_set ?_ GE290.out | refine below_set ?_ GE306.out | refine below_set ?_ GE312.out | refine below_set ?_ GE322.out) | exact HB.out)))); have n8_ := Aside0.mk (blk_below (g := gb290) (o := .cells #[.int .i64 a0_0, .int .i64 a0_1, .slice A0_2 l0_2.length c0_2] 53 (0, 0)) (by (with_reducible repeat (first | refine blk_drewN ?_ _ | refine blk_drew ?_ | refine blk_alloc ?_ _)); exact BK290.out) hb); have n9_ := Aside0.mk (blk_below (g := gb306) (o := .cells #[.int .i64 t297, .int .i64 t298, .slice Ao23 t299.length co23] 45 (0, 0)) (by (with_reducible repeat (first | refine blk_drewN ?_ _ | refine blk_drew ?_ | refine blk_alloc ?_ _)); exact BK306.out) hb); have n10_ := Aside0.mk (blk_below (g := gb312) (o := .cells #[.int .i64 t307, .int .i64 t308, .slice Ao30 t332.length co30] 45 (0, 0)) (by (with_reducible repeat (first | refine blk_drewN ?_ _ | refine blk_drew ?_ | refine blk_alloc ?_ _)); exact BK312.out) hb); have n11_ := Aside0.mk (blk_below (g := gb322) (o := .cells #[.int .i64 t313, .int .i64 t314, .slice Ao37 t315.length co37] 45 (0, 0)) (by (with_reducible repeat (first | refine blk_drewN ?_ _ | refine blk_drew ?_ | refine blk_alloc ?_ _)); exact BK322.out) hb); have n12_ := Aside0.mk (below_step (by repeat (first | (with_reducible first | exact HB.out | apply below_alloc | apply pw_below_drewN | apply below_drew1 | refine below_set ?_ GE290.out | refine below_set ?_ GE306.out | refine below_set ?_ GE312.out | refine below_set ?_ GE322.out) | exact HB.out)) hb); clear HO_7; clear HO_11; clear HO_307002; clear HO_313002; clear HO_323002; clear HO345; clear BK290; clear BK306; clear BK312; clear BK322; clear HB; have HO_7 := n0_; have HO_11 := n1_; have HO_307002 := n2_; have HO_313002 := n3_; have HO_323002 := n4_; have HO345 := n5_; have HO350 := n6_; have HO353 := n7_; have BK290 := n8_; have BK306 := n9_; have BK312 := n10_; have BK322 := n11_; have HB := n12_; clear n0_ n1_ n2_ n3_ n4_ n5_ n6_ n7_ n8_ n9_ n10_ n11_ n12_; (try clear hb); (try clear hb2); (try clear hk); (try clear hi); (try clear ho0); (try clear ho1)) | ((with_reducible refine gate_dst (N := 16) rfl ?_); refine box_event ?hg (N := 16) ?hd (cs := #[.int .i64 0, .int .i64 0, .slice none 0 0]) (t := 45) ?hr ?_; (case hd => rfl); (case hg => rfl); (case hr => first | (go_simp; done) | (go_simp; rfl)); intro gb355 hg w144 hbox hb; have n0_ := Aside0.mk (Kd.R_below (by (with_reducible repeat (first | apply Kd.R_alloc | apply Kd.R_drewN | apply Kd.R_drew)); exact HO_7.out) hb); have n1_ := Aside0.mk (Kd.R_below (by (with_reducible repeat (first | apply Kd.R_alloc | apply Kd.R_drewN | apply Kd.R_drew)); exact HO_11.out) hb); have n2_ := Aside0.mk (Kd.Q_below (by (with_reducible repeat (first | apply Kd.Q_alloc | apply Kd.Q_drewN | apply Kd.Q_drew)); exact HO_307002.out) hb); have n3_ := Aside0.mk (Kd.Q_below (by (with_reducible repeat (first | apply Kd.Q_alloc | apply Kd.Q_drewN | apply Kd.Q_drew)); exact HO_313002.out) hb); have n4_ := Aside0.mk (Kd.Q_below (by (with_reducible repeat (first | apply Kd.Q_alloc | apply Kd.Q_drewN | apply Kd.Q_drew)); exact HO_323002.out) hb); have n5_ := Aside0.mk (Kd.R_below (by (with_reducible repeat (first | apply Kd.R_alloc | apply Kd.R_drewN | apply Kd.R_drew)); exact HO345.out) hb); have n6_ := Aside0.mk (Kd.Q_below (by (with_reducible repeat (first | apply Kd.Q_alloc | apply Kd.Q_drewN | apply Kd.Q_drew)); exact HO350.out) hb); have n7_ := Aside0.mk (Kd.R_below (by (with_reducible repeat (first | apply Kd.R_alloc | apply Kd.R_drewN | apply Kd.R_drew)); exact HO353.out) hb); have n8_ := Aside0.mk (blk_below (g := gb290) (o := .cells #[.int .i64 a0_0, .int .i64 a0_1, .slice A0_2 l0_2.length c0_2] 53 (0, 0)) (by (with_reducible repeat (first | refine blk_drewN ?_ _ | refine blk_drew ?_ | refine blk_alloc ?_ _)); exact BK290.out) hb); have n9_ := Aside0.mk (blk_below (g := gb306) (o := .cells #[.int .i64 t297, .int .i64 t298, .slice Ao23 t299.length co23] 45 (0, 0)) (by (with_reducible repeat (first | refine blk_drewN ?_ _ | refine blk_drew ?_ | refine blk_alloc ?_ _)); exact BK306.out) hb); have n10_ := Aside0.mk (blk_below (g := gb312) (o := .cells #[.int .i64 t307, .int .i64 t308, .slice Ao30 t332.length co30] 45 (0, 0)) (by (with_reducible repeat (first | refine blk_drewN ?_ _ | refine blk_drew ?_ | refine blk_alloc ?_ _)); exact BK312.out) hb); have n11_ := Aside0.mk (blk_below (g := gb322) (o := .cells #[.int .i64 t313, .int .i64 t314, .slice Ao37 t315.length co37] 45 (0, 0)) (by (with_reducible repeat (first | refine blk_drewN ?_ _ | refine blk_drew ?_ | refine blk_alloc ?_ _)); exact BK322.out) hb); have n12_ := Aside0.mk (below_step (by repeat (first | (with_reducible first | exact HB.out | apply below_alloc | apply pw_below_drewN | apply below_drew1 | refine below_set ?_ GE290.out | refine below_set ?_ GE306.out | refine below_set ?_ GE312.out | refine below_set ?_ GE322.out) | exact HB.out)) hb); have n13_ := Aside0.mk (hbox); have n14_ := Aside0.mk ((by rw [hg]; exact (below_size (by repeat (first | (with_reducible first | exact HB.out | apply below_alloc | apply pw_below_drewN | apply below_drew1 | refine below_set ?_ GE290.out | refine below_set ?_ GE306.out | refine below_set ?_ GE312.out | refine below_set ?_ GE322.out) | exact HB.out))) : w.heap.size ≤ gb355)); have n15_ := Aside0.mk ((by rw [hg]; exact (below_size (by repeat (first | (with_reducible first | exact HB.out | apply below_alloc | apply pw_below_drewN | apply below_drew1 | refine below_set ?_ GE290.out | refine below_set ?_ GE306.out | refine below_set ?_ GE312.out | refine below_set ?_ GE322.out) | exact HB.out))) : w.heap.size ≤ gb355)); have n16_ := Aside0.mk ((by rw [hg]; exact Nat.ne_of_lt (blk_lt (g := gb290) (o := .cells #[.int .i64 a0_0, .int .i64 a0_1, .slice A0_2 l0_2.length c0_2] 53 (0, 0)) (by (with_reducible repeat (first | refine blk_drewN ?_ _ | refine blk_drew ?_ | refine blk_alloc ?_ _)); exact BK290.out)) : gb290 ≠ gb355)); have n17_ := Aside0.mk ((by rw [hg]; exact Nat.ne_of_gt (blk_lt (g := gb290) (o := .cells #[.int .i64 a0_0, .int .i64 a0_1, .slice A0_2 l0_2.length c0_2] 53 (0, 0)) (by (with_reducible repeat (first | refine blk_drewN ?_ _ | refine blk_drew ?_ | refine blk_alloc ?_ _)); exact BK290.out)) : gb355 ≠ gb290)); have n18_ := Aside0.mk ((by rw [hg]; exact Nat.ne_of_lt (blk_lt (g := gb306) (o := .cells #[.int .i64 t297, .int .i64 t298, .slice Ao23 t299.length co23] 45 (0, 0)) (by (with_reducible repeat (first | refine blk_drewN ?_ _ | refine blk_drew ?_ | refine blk_alloc ?_ _)); exact BK306.out)) : gb306 ≠ gb355)); have n19_ := Aside0.mk ((by rw [hg]; exact Nat.ne_of_gt (blk_lt (g := gb306) (o := .cells #[.int .i64 t297, .int .i64 t298, .slice Ao23 t299.length co23] 45 (0, 0)) (by (with_reducible repeat (first | refine blk_drewN ?_ _ | refine blk_drew ?_ | refine blk_alloc ?_ _)); exact BK306.out)) : gb355 ≠ gb306)); have n20_ := Aside0.mk ((by rw [hg]; exact Nat.ne_of_lt (blk_lt (g := gb312) (o := .cells #[.int .i64 t307, .int .i64 t308, .slice Ao30 t332.length co30] 45 (0, 0)) (by (with_reducible repeat (first | refine blk_drewN ?_ _ | refine blk_drew ?_ | refine blk_alloc ?_ _)); exact BK312.out)) : gb312 ≠ gb355)); have n21_ := Aside0.mk ((by rw [hg]; exact Nat.ne_of_gt (blk_lt (g := gb312) (o := .cells #[.int .i64 t307, .int .i64 t308, .slice Ao30 t332.length co30] 45 (0, 0)) (by (with_reducible repeat (first | refine blk_drewN ?_ _ | refine blk_drew ?_ | refine blk_alloc ?_ _)); exact BK312.out)) : gb355 ≠ gb312)); have n22_ := Aside0.mk ((by rw [hg]; exact Nat.ne_of_lt (blk_lt (g := gb322) (o := .cells #[.int .i64 t313, .int .i64 t314, .slice Ao37 t315.length co37] 45 (0, 0)) (by (with_reducible repeat (first | refine blk_drewN ?_ _ | refine blk_drew ?_ | refine blk_alloc ?_ _)); exact BK322.out)) : gb322 ≠ gb355)); have n23_ := Aside0.mk ((by rw [hg]; exact Nat.ne_of_gt (blk_lt (g := gb322) (o := .cells #[.int .i64 t313, .int .i64 t314, .slice Ao37 t315.length co37] 45 (0, 0)) (by (with_reducible repeat (first | refine blk_drewN ?_ _ | refine blk_drew ?_ | refine blk_alloc ?_ _)); exact BK322.out)) : gb355 ≠ gb322)); clear HO_7; clear HO_11; clear HO_307002; clear HO_313002; clear HO_323002; clear HO345; clear HO350; clear HO353; clear BK290; clear BK306; clear BK312; clear BK322; clear HB; have HO_7 := n0_; have HO_11 := n1_; have HO_307002 := n2_; have HO_313002 := n3_; have HO_323002 := n4_; have HO345 := n5_; have HO350 := n6_; have HO353 := n7_; have BK290 := n8_; have BK306 := n9_; have BK312 := n10_; have BK322 := n11_; have HB := n12_; have BK355 := n13_; have GW355 := n14_; have GE355 := n15_; have NB290_355 := n16_; have NB355_290 := n17_; have NB306_355 := n18_; have NB355_306 := n19_; have NB312_355 := n20_; have NB355_312 := n21_; have NB322_355 := n22_; have NB355_322 := n23_; clear n0_ n1_ n2_ n3_ n4_ n5_ n6_ n7_ n8_ n9_ n10_ n11_ n12_ n13_ n14_ n15_ n16_ n17_ n18_ n19_ n20_ n21_ n22_ n23_; clear hb hbox hg; have hnb145 := NB355_290.out; have hnc145 := NB290_355.out; have hnb146 := NB355_306.out; have hnc146 := NB306_355.out; have hnb147 := NB355_312.out; have hnc147 := NB312_355.out; have hnb148 := NB355_322.out; have hnc148 := NB322_355.out; have hcz149_0 : w144.cell? ⟨gb355, 0, none⟩ = some (.int .i64 0) := (blk_cell BK355.out 0).trans rfl; have hcz149_1 : w144.cell? ⟨gb355, 1, none⟩ = some (.int .i64 0) := (blk_cell BK355.out 1).trans rfl; have hcz149_2 : w144.cell? ⟨gb355, 2, none⟩ = some (.slice none 0 0) := (blk_cell BK355.out 2).trans rfl; have hfz149_0 := blk_frozen BK355.out 0; have hfz149_1 := blk_frozen BK355.out 1; have hfz149_2 := blk_frozen BK355.out 2; obtain ⟨Ao150, co150, eo150, _⟩ := Kd.Q_slice HO350.out; subst eo150))
                        (try simp only [Act.put, List.setIfInBounds_toArray, List.set_cons_zero, List.set_cons_succ])
                        go_cut [124] (fun v124 wc => ∃ (kq : Nat) (x124_127 : Bool), v124 = .bool x124_127 ∧ Aside0 (laws_FnExactAcceptSeq.j2 kq t338 t337 x124_127 t313 t314 t336 = some r) ∧ Aside0 (kq ≤ kj74) ∧ Aside0 (Kd.R (Kd.int .i64) 3 wc w.heap.size (fun k_ => some k_ ≠ ((.slice Ao23 t299.length co23) : Value).ownBlock ∧ some k_ ≠ ((.slice Ao30 t332.length co30) : Value).ownBlock ∧ some k_ ≠ ((.slice Ao37 t315.length co37) : Value).ownBlock ∧ some k_ ≠ ((.slice Ao150 t348.length co150) : Value).ownBlock) (.slice Ao134 t318.length co134) t338) ∧ Aside0 (Kd.Q (Kd.int .i64) 3 wc w.heap.size (fun k_ => some k_ ≠ ((.slice Ao134 t318.length co134) : Value).ownBlock ∧ some k_ ≠ ((.slice Ao30 t332.length co30) : Value).ownBlock ∧ some k_ ≠ ((.slice Ao37 t315.length co37) : Value).ownBlock ∧ some k_ ≠ ((.slice Ao150 t348.length co150) : Value).ownBlock) (.slice Ao23 t299.length co23) t299) ∧ Aside0 (Kd.Q (Kd.int .i64) 3 wc w.heap.size (fun k_ => some k_ ≠ ((.slice Ao134 t318.length co134) : Value).ownBlock ∧ some k_ ≠ ((.slice Ao23 t299.length co23) : Value).ownBlock ∧ some k_ ≠ ((.slice Ao37 t315.length co37) : Value).ownBlock ∧ some k_ ≠ ((.slice Ao150 t348.length co150) : Value).ownBlock) (.slice Ao30 t332.length co30) t332) ∧ Aside0 (Kd.Q (Kd.int .i64) 3 wc w.heap.size (fun k_ => some k_ ≠ ((.slice Ao134 t318.length co134) : Value).ownBlock ∧ some k_ ≠ ((.slice Ao23 t299.length co23) : Value).ownBlock ∧ some k_ ≠ ((.slice Ao30 t332.length co30) : Value).ownBlock ∧ some k_ ≠ ((.slice Ao150 t348.length co150) : Value).ownBlock) (.slice Ao37 t315.length co37) t336) ∧ Aside0 (Kd.Q (Kd.int .i64) 3 wc w.heap.size (fun k_ => some k_ ≠ ((.slice Ao134 t318.length co134) : Value).ownBlock ∧ some k_ ≠ ((.slice Ao23 t299.length co23) : Value).ownBlock ∧ some k_ ≠ ((.slice Ao30 t332.length co30) : Value).ownBlock ∧ some k_ ≠ ((.slice Ao37 t315.length co37) : Value).ownBlock) (.slice Ao150 t348.length co150) t348) ∧ Aside0 (wc.heap[gb290]? = some (.cells #[.int .i64 a0_0, .int .i64 a0_1, (.slice A0_2 l0_2.length c0_2)] 53 (0, 0))) ∧ Aside0 (wc.heap[gb306]? = some (.cells #[.int .i64 t297, .int .i64 t298, (.slice Ao23 t299.length co23)] 45 (0, 0))) ∧ Aside0 (wc.heap[gb312]? = some (.cells #[.int .i64 t307, .int .i64 t308, (.slice Ao30 t332.length co30)] 45 (0, 0))) ∧ Aside0 (wc.heap[gb322]? = some (.cells #[.int .i64 t313, .int .i64 t314, (.slice Ao37 t315.length co37)] 45 (0, 0))) ∧ Aside0 (wc.heap[gb355]? = some (.cells #[.int .i64 t346, .int .i64 t347, (.slice Ao150 t348.length co150)] 45 (0, 0))) ∧ Aside0 (Below w.heap.size w wc))
                        case first =>
                          have H := HC128.out
                          clear HC128
                          replace H := Option.bind_eq_some_iff.mp H
                          obtain ⟨t356, A1510, H⟩ := H
                          replace H : (if t356 = true then ((laws_eqIntS.f kj74 t351 t302).bind fun t357 => (if t357 = true then (laws_FnExactAcceptSeq.j2 kj74 t338 t337 (t354 != t305) t313 t314 t336) else (laws_FnExactAcceptSeq.j2 kj74 t338 t337 true t313 t314 t336))) else (laws_FnExactAcceptSeq.j2 kj74 t338 t337 true t313 t314 t336)) = some r := H
                          have A151 := Aside0.mk A1510
                          clear A1510
                          by_cases c152 : t356 = true
                          · subst c152
                            have H1 : ((laws_eqIntS.f kj74 t351 t302).bind fun t357 => (if t357 = true then (laws_FnExactAcceptSeq.j2 kj74 t338 t337 (t354 != t305) t313 t314 t336) else (laws_FnExactAcceptSeq.j2 kj74 t338 t337 true t313 t314 t336))) = some r := by rw [if_pos rfl] at H; exact H
                            clear H
                            have H := H1
                            clear H1
                            replace H := Option.bind_eq_some_iff.mp H
                            obtain ⟨t357, A1530, H⟩ := H
                            replace H : (if t357 = true then (laws_FnExactAcceptSeq.j2 kj74 t338 t337 (t354 != t305) t313 t314 t336) else (laws_FnExactAcceptSeq.j2 kj74 t338 t337 true t313 t314 t336)) = some r := H
                            have A153 := Aside0.mk A1530
                            clear A1530
                            by_cases c154 : t357 = true
                            · subst c154
                              have H1 : (laws_FnExactAcceptSeq.j2 kj74 t338 t337 (t354 != t305) t313 t314 t336) = some r := by rw [if_pos rfl] at H; exact H
                              clear H
                              have H := H1
                              clear H1
                              have H' := Aside0.mk H
                              clear H
                              have hnb155 := NB355_290.out
                              have hnc155 := NB290_355.out
                              have hnb156 := NB355_306.out
                              have hnc156 := NB306_355.out
                              have hnb157 := NB355_312.out
                              have hnc157 := NB312_355.out
                              have hnb158 := NB355_322.out
                              have hnc158 := NB322_355.out
                              have hcz159_0 : w144.cell? ⟨gb355, 0, none⟩ = some (.int .i64 0) := (blk_cell BK355.out 0).trans rfl
                              have hcz159_1 : w144.cell? ⟨gb355, 1, none⟩ = some (.int .i64 0) := (blk_cell BK355.out 1).trans rfl
                              have hcz159_2 : w144.cell? ⟨gb355, 2, none⟩ = some (.slice none 0 0) := (blk_cell BK355.out 2).trans rfl
                              have hfz159_0 := blk_frozen BK355.out 0
                              have hfz159_1 := blk_frozen BK355.out 1
                              have hfz159_2 := blk_frozen BK355.out 2
                              have hnb160 := NB306_290.out
                              have hnc160 := NB290_306.out
                              have hnb161 := NB306_312.out
                              have hnc161 := NB312_306.out
                              have hnb162 := NB306_322.out
                              have hnc162 := NB322_306.out
                              have hcz163_0 : w144.cell? ⟨gb306, 0, none⟩ = some (.int .i64 t297) := (blk_cell BK306.out 0).trans rfl
                              have hcz163_1 : w144.cell? ⟨gb306, 1, none⟩ = some (.int .i64 t298) := (blk_cell BK306.out 1).trans rfl
                              have hcz163_2 : w144.cell? ⟨gb306, 2, none⟩ = some (.slice Ao23 t299.length co23) := (blk_cell BK306.out 2).trans rfl
                              have hfz163_0 := blk_frozen BK306.out 0
                              have hfz163_1 := blk_frozen BK306.out 1
                              have hfz163_2 := blk_frozen BK306.out 2
                              go_wp2_with (first | ((with_reducible refine gate_callee (f := 36) rfl ?_); refine goesL_ (some 112) rfl rfl Try.func36 (by kernel_rfl) rfl #[.agg #[.int .i64 t346, .int .i64 t347, .slice Ao150 t348.length co150], .agg #[.int .i64 t297, .int .i64 t298, .slice Ao23 t299.length co23]] rfl (by (try simp only [List.map_toArray, List.map_cons, List.map_nil]); first | done | rfl | (simp only [List.length_drop, List.length_take]; rfl)) ?_; (with_reducible refine (laws_eqStream.calls kj74 t346 t347 _ _ t348 t297 t298 _ _ t299 true _ ?side1 ?side2 ?side3 ?side4 A151.out).mono ?_); (case side1 => refine (Kd.Q_reads' (e := 3) (base := w.heap.size) (ok := fun k_ => ((((((some k_ ≠ (v352 : Value).ownBlock ∧ some k_ ≠ (v303 : Value).ownBlock) ∧ some k_ ≠ (.slice Ao134 t318.length co134 : Value).ownBlock) ∧ some k_ ≠ (.slice Ao23 t299.length co23 : Value).ownBlock) ∧ some k_ ≠ (.slice Ao30 t332.length co30 : Value).ownBlock) ∧ some k_ ≠ (.slice Ao37 t315.length co37 : Value).ownBlock) ∧ some k_ ≠ (.slice Ao142 t343.length co142 : Value).ownBlock)) (n := t348.length) (c := co150) ?_).2.2; exact (by (with_reducible repeat (first | apply Kd.Q_alloc | apply Kd.Q_drewN | apply Kd.Q_drew)); exact (Kd.Q_mono (Kd.Q_far (p := ⟨gb355, 2, none⟩) (Kd.Q_far (p := ⟨gb355, 1, none⟩) (Kd.Q_far (p := ⟨gb355, 0, none⟩) (Kd.Q_types HO350.out BK355.out (by decide)) (fun _ hk => hk.2) (.int .i64 t346)) (fun _ hk => hk.2) (.int .i64 t347)) (fun _ hk => hk.2) (.slice Ao150 t348.length co150)) (fun _ h_ => h_.1)))); (case side2 => exact (Kd.Q_reads' HO350.out).2.1); (case side3 => refine (Kd.Q_reads' (e := 3) (base := w.heap.size) (ok := fun k_ => ((((some k_ ≠ (v303 : Value).ownBlock ∧ (some k_ ≠ (.slice Ao134 t318.length co134 : Value).ownBlock ∧ (some k_ ≠ (.slice Ao30 t332.length co30 : Value).ownBlock ∧ some k_ ≠ (.slice Ao37 t315.length co37 : Value).ownBlock))) ∧ some k_ ≠ (.slice Ao142 t343.length co142 : Value).ownBlock) ∧ some k_ ≠ (.slice Ao150 t348.length co150 : Value).ownBlock) ∧ some k_ ≠ (v352 : Value).ownBlock)) (n := t299.length) (c := co23) ?_).2.2; exact (by (with_reducible repeat (first | apply Kd.Q_alloc | apply Kd.Q_drewN | apply Kd.Q_drew)); exact (Kd.Q_mono (Kd.Q_far (p := ⟨gb355, 2, none⟩) (Kd.Q_far (p := ⟨gb355, 1, none⟩) (Kd.Q_far (p := ⟨gb355, 0, none⟩) (Kd.Q_types HO_307002.out BK355.out (by decide)) (fun _ hk => hk.2) (.int .i64 t346)) (fun _ hk => hk.2) (.int .i64 t347)) (fun _ hk => hk.2) (.slice Ao150 t348.length co150)) (fun _ h_ => h_.1)))); (case side4 => exact (Kd.Q_reads' HO_307002.out).2.1); rintro e w164 ⟨rfl, hb⟩; refine ⟨_, rfl, ?_⟩; have n0_ := Aside0.mk (Kd.R_below (by (with_reducible repeat (first | apply Kd.R_alloc | apply Kd.R_drewN | apply Kd.R_drew)); exact (Kd.R_mono (Kd.R_far (p := ⟨gb355, 2, none⟩) (Kd.R_far (p := ⟨gb355, 1, none⟩) (Kd.R_far (p := ⟨gb355, 0, none⟩) (Kd.R_types HO_7.out BK355.out (by decide)) (fun _ hk => hk.2) (.int .i64 t346)) (fun _ hk => hk.2) (.int .i64 t347)) (fun _ hk => hk.2) (.slice Ao150 t348.length co150)) (fun _ h_ => h_.1))) hb); have n1_ := Aside0.mk (Kd.R_below (by (with_reducible repeat (first | apply Kd.R_alloc | apply Kd.R_drewN | apply Kd.R_drew)); exact (Kd.R_mono (Kd.R_far (p := ⟨gb355, 2, none⟩) (Kd.R_far (p := ⟨gb355, 1, none⟩) (Kd.R_far (p := ⟨gb355, 0, none⟩) (Kd.R_types HO_11.out BK355.out (by decide)) (fun _ hk => hk.2) (.int .i64 t346)) (fun _ hk => hk.2) (.int .i64 t347)) (fun _ hk => hk.2) (.slice Ao150 t348.length co150)) (fun _ h_ => h_.1))) hb); have n2_ := Aside0.mk (Kd.Q_below (by (with_reducible repeat (first | apply Kd.Q_alloc | apply Kd.Q_drewN | apply Kd.Q_drew)); exact (Kd.Q_mono (Kd.Q_far (p := ⟨gb355, 2, none⟩) (Kd.Q_far (p := ⟨gb355, 1, none⟩) (Kd.Q_far (p := ⟨gb355, 0, none⟩) (Kd.Q_types HO_307002.out BK355.out (by decide)) (fun _ hk => hk.2) (.int .i64 t346)) (fun _ hk => hk.2) (.int .i64 t347)) (fun _ hk => hk.2) (.slice Ao150 t348.length co150)) (fun _ h_ => h_.1))) hb); have n3_ := Aside0.mk (Kd.Q_below (by (with_reducible repeat (first | apply Kd.Q_alloc | apply Kd.Q_drewN | apply Kd.Q_drew)); exact (Kd.Q_mono (Kd.Q_far (p := ⟨gb355, 2, none⟩) (Kd.Q_far (p := ⟨gb355, 1, none⟩) (Kd.Q_far (p := ⟨gb355, 0, none⟩) (Kd.Q_types HO_313002.out BK355.out (by decide)) (fun _ hk => hk.2) (.int .i64 t346)) (fun _ hk => hk.2) (.int .i64 t347)) (fun _ hk => hk.2) (.slice Ao150 t348.length co150)) (fun _ h_ => h_.1))) hb); have n4_ := Aside0.mk (Kd.Q_below (by (with_reducible repeat (first | apply Kd.Q_alloc | apply Kd.Q_drewN | apply Kd.Q_drew)); exact (Kd.Q_mono (Kd.Q_far (p := ⟨gb355, 2, none⟩) (Kd.Q_far (p := ⟨gb355, 1, none⟩) (Kd.Q_far (p := ⟨gb355, 0, none⟩) (Kd.Q_types HO_323002.out BK355.out (by decide)) (fun _ hk => hk.2) (.int .i64 t346)) (fun _ hk => hk.2) (.int .i64 t347)) (fun _ hk => hk.2) (.slice Ao150 t348.length co150)) (fun _ h_ => h_.1))) hb); have n5_ := Aside0.mk (Kd.R_below (by (with_reducible repeat (first | apply Kd.R_alloc | apply Kd.R_drewN | apply Kd.R_drew)); exact (Kd.R_mono (Kd.R_far (p := ⟨gb355, 2, none⟩) (Kd.R_far (p := ⟨gb355, 1, none⟩) (Kd.R_far (p := ⟨gb355, 0, none⟩) (Kd.R_types HO345.out BK355.out (by decide)) (fun _ hk => hk.2) (.int .i64 t346)) (fun _ hk => hk.2) (.int .i64 t347)) (fun _ hk => hk.2) (.slice Ao150 t348.length co150)) (fun _ h_ => h_.1))) hb); have n6_ := Aside0.mk (Kd.Q_below (by (with_reducible repeat (first | apply Kd.Q_alloc | apply Kd.Q_drewN | apply Kd.Q_drew)); exact (Kd.Q_mono (Kd.Q_far (p := ⟨gb355, 2, none⟩) (Kd.Q_far (p := ⟨gb355, 1, none⟩) (Kd.Q_far (p := ⟨gb355, 0, none⟩) (Kd.Q_types HO350.out BK355.out (by decide)) (fun _ hk => hk.2) (.int .i64 t346)) (fun _ hk => hk.2) (.int .i64 t347)) (fun _ hk => hk.2) (.slice Ao150 t348.length co150)) (fun _ h_ => h_.1))) hb); have n7_ := Aside0.mk (Kd.R_below (by (with_reducible repeat (first | apply Kd.R_alloc | apply Kd.R_drewN | apply Kd.R_drew)); exact (Kd.R_mono (Kd.R_far (p := ⟨gb355, 2, none⟩) (Kd.R_far (p := ⟨gb355, 1, none⟩) (Kd.R_far (p := ⟨gb355, 0, none⟩) (Kd.R_types HO353.out BK355.out (by decide)) (fun _ hk => hk.2) (.int .i64 t346)) (fun _ hk => hk.2) (.int .i64 t347)) (fun _ hk => hk.2) (.slice Ao150 t348.length co150)) (fun _ h_ => h_.1))) hb); have n8_ := Aside0.mk (blk_below (g := gb290) (o := .cells #[.int .i64 a0_0, .int .i64 a0_1, .slice A0_2 l0_2.length c0_2] 53 (0, 0)) (by (with_reducible repeat (first | refine blk_drewN ?_ _ | refine blk_drew ?_ | refine blk_alloc ?_ _)); refine blk_far ?_ NB290_355.out _; (with_reducible repeat (first | refine blk_drewN ?_ _ | refine blk_drew ?_ | refine blk_alloc ?_ _)); refine blk_far ?_ NB290_355.out _; (with_reducible repeat (first | refine blk_drewN ?_ _ | refine blk_drew ?_ | refine blk_alloc ?_ _)); refine blk_far ?_ NB290_355.out _; (with_reducible repeat (first | refine blk_drewN ?_ _ | refine blk_drew ?_ | refine blk_alloc ?_ _)); exact BK290.out) hb); have n9_ := Aside0.mk (blk_below (g := gb306) (o := .cells #[.int .i64 t297, .int .i64 t298, .slice Ao23 t299.length co23] 45 (0, 0)) (by (with_reducible repeat (first | refine blk_drewN ?_ _ | refine blk_drew ?_ | refine blk_alloc ?_ _)); refine blk_far ?_ NB306_355.out _; (with_reducible repeat (first | refine blk_drewN ?_ _ | refine blk_drew ?_ | refine blk_alloc ?_ _)); refine blk_far ?_ NB306_355.out _; (with_reducible repeat (first | refine blk_drewN ?_ _ | refine blk_drew ?_ | refine blk_alloc ?_ _)); refine blk_far ?_ NB306_355.out _; (with_reducible repeat (first | refine blk_drewN ?_ _ | refine blk_drew ?_ | refine blk_alloc ?_ _)); exact BK306.out) hb); have n10_ := Aside0.mk (blk_below (g := gb312) (o := .cells #[.int .i64 t307, .int .i64 t308, .slice Ao30 t332.length co30] 45 (0, 0)) (by (with_reducible repeat (first | refine blk_drewN ?_ _ | refine blk_drew ?_ | refine blk_alloc ?_ _)); refine blk_far ?_ NB312_355.out _; (with_reducible repeat (first | refine blk_drewN ?_ _ | refine blk_drew ?_ | refine blk_alloc ?_ _)); refine blk_far ?_ NB312_355.out _; (with_reducible repeat (first | refine blk_drewN ?_ _ | refine blk_drew ?_ | refine blk_alloc ?_ _)); refine blk_far ?_ NB312_355.out _; (with_reducible repeat (first | refine blk_drewN ?_ _ | refine blk_drew ?_ | refine blk_alloc ?_ _)); exact BK312.out) hb); have n11_ := Aside0.mk (blk_below (g := gb322) (o := .cells #[.int .i64 t313, .int .i64 t314, .slice Ao37 t315.length co37] 45 (0, 0)) (by (with_reducible repeat (first | refine blk_drewN ?_ _ | refine blk_drew ?_ | refine blk_alloc ?_ _)); refine blk_far ?_ NB322_355.out _; (with_reducible repeat (first | refine blk_drewN ?_ _ | refine blk_drew ?_ | refine blk_alloc ?_ _)); refine blk_far ?_ NB322_355.out _; (with_reducible repeat (first | refine blk_drewN ?_ _ | refine blk_drew ?_ | refine blk_alloc ?_ _)); refine blk_far ?_ NB322_355.out _; (with_reducible repeat (first | refine blk_drewN ?_ _ | refine blk_drew ?_ | refine blk_alloc ?_ _)); exact BK322.out) hb); have n12_ := Aside0.mk (blk_below (g := gb355) (o := .cells #[.int .i64 t346, .int .i64 t347, .slice Ao150 t348.length co150] 45 (0, 0)) (by (with_reducible repeat (first | refine blk_drewN ?_ _ | refine blk_drew ?_ | refine blk_alloc ?_ _)); refine blk_put (cs := #[.int .i64 t346, .int .i64 t347, .slice none 0 0]) ?_ 2 _ rfl; (with_reducible repeat (first | refine blk_drewN ?_ _ | refine blk_drew ?_ | refine blk_alloc ?_ _)); refine blk_put (cs := #[.int .i64 t346, .int .i64 0, .slice none 0 0]) ?_ 1 _ rfl; (with_reducible repeat (first | refine blk_drewN ?_ _ | refine blk_drew ?_ | refine blk_alloc ?_ _)); refine blk_put (cs := #[.int .i64 0, .int .i64 0, .slice none 0 0]) ?_ 0 _ rfl; (with_reducible repeat (first | refine blk_drewN ?_ _ | refine blk_drew ?_ | refine blk_alloc ?_ _)); exact BK355.out) hb); have n13_ := Aside0.mk (below_step (by repeat (first | (with_reducible first | exact HB.out | apply below_alloc | apply pw_below_drewN | apply below_drew1 | refine below_set ?_ GE290.out | refine below_set ?_ GE306.out | refine below_set ?_ GE312.out | refine below_set ?_ GE322.out | refine below_set ?_ GE355.out) | exact HB.out)) hb); clear HO_7; clear HO_11; clear HO_307002; clear HO_313002; clear HO_323002; clear HO345; clear HO350; clear HO353; clear BK290; clear BK306; clear BK312; clear BK322; clear BK355; clear HB; have HO_7 := n0_; have HO_11 := n1_; have HO_307002 := n2_; have HO_313002 := n3_; have HO_323002 := n4_; have HO345 := n5_; have HO350 := n6_; have HO353 := n7_; have BK290 := n8_; have BK306 := n9_; have BK312 := n10_; have BK322 := n11_; have BK355 := n12_; have HB := n13_; clear n0_ n1_ n2_ n3_ n4_ n5_ n6_ n7_ n8_ n9_ n10_ n11_ n12_ n13_; (try clear hb); (try clear hb2); (try clear hk); (try clear hi); obtain ⟨Ao165, co165, eo165⟩ := Kd.R_slice HO353.out; subst eo165; obtain ⟨Ao166, co166, eo166⟩ := Kd.R_slice HO_7.out; subst eo166) | (go_at_call 37; (with_reducible refine (laws_eqIntS.calls kj74 _ _ t351 _ _ t302 true _ ?side1 ?side2 ?side3 ?side4 A153.out).mono ?_); (case side1 => repeat (first | exact (Kd.R_reads' HO353.out).2.2 | (with_reducible refine Kd.C_alloc ?_ _) | (with_reducible refine Kd.C_drewN ?_ _) | (with_reducible refine Kd.C_drew ?_))); (case side2 => exact (Kd.R_reads' HO353.out).2.1); (case side3 => repeat (first | exact (Kd.R_reads' HO_7.out).2.2 | (with_reducible refine Kd.C_alloc ?_ _) | (with_reducible refine Kd.C_drewN ?_ _) | (with_reducible refine Kd.C_drew ?_))); (case side4 => exact (Kd.R_reads' HO_7.out).2.1); rintro e w' ⟨rfl, ⟨nd, rfl⟩⟩))
                              go_meet
                              case rel => exact ⟨_, ((t354 != t305)), (by first | rfl | (simp; done) | (simp [*]; done)), H', ⟨by have := HJ11.out; have := HJ74.out; first | omega | exact Nat.le_refl _⟩, ⟨by (try simp only [hl313002_74]); (with_reducible repeat (first | apply Kd.R_alloc | apply Kd.R_drewN | apply Kd.R_drew)); exact Kd.R_mono HO_11.out (fun _ hk => ⟨hk.1.1.1.2.1, ⟨hk.1.1.1.2.2.1, ⟨hk.1.1.1.2.2.2, hk.1.2⟩⟩⟩)⟩, ⟨by (try simp only [hl313002_74]); (with_reducible repeat (first | apply Kd.Q_alloc | apply Kd.Q_drewN | apply Kd.Q_drew)); exact Kd.Q_mono HO_307002.out (fun _ hk => ⟨hk.1.1.1.2.1, ⟨hk.1.1.1.2.2.1, ⟨hk.1.1.1.2.2.2, hk.1.2⟩⟩⟩)⟩, ⟨by (try simp only [hl313002_74]); (with_reducible repeat (first | apply Kd.Q_alloc | apply Kd.Q_drewN | apply Kd.Q_drew)); exact Kd.Q_mono HO_313002.out (fun _ hk => ⟨hk.1.1.1.2.1, ⟨hk.1.1.1.2.2.1, ⟨hk.1.1.1.2.2.2, hk.1.2⟩⟩⟩)⟩, ⟨by (try simp only [hl313002_74]); (with_reducible repeat (first | apply Kd.Q_alloc | apply Kd.Q_drewN | apply Kd.Q_drew)); exact Kd.Q_mono HO_323002.out (fun _ hk => ⟨hk.1.1.1.2.1, ⟨hk.1.1.1.2.2.1, ⟨hk.1.1.1.2.2.2, hk.1.2⟩⟩⟩)⟩, ⟨by (try simp only [hl313002_74]); (with_reducible repeat (first | apply Kd.Q_alloc | apply Kd.Q_drewN | apply Kd.Q_drew)); exact Kd.Q_mono HO350.out (fun _ hk => ⟨hk.1.1.1.1.2, ⟨hk.1.1.1.2, ⟨hk.1.1.2, hk.1.2⟩⟩⟩)⟩, ⟨by (try simp only [hl313002_74]); (with_reducible repeat (first | refine blk_drewN ?_ _ | refine blk_drew ?_ | refine blk_alloc ?_ _)); exact BK290.out⟩, ⟨by (try simp only [hl313002_74]); (with_reducible repeat (first | refine blk_drewN ?_ _ | refine blk_drew ?_ | refine blk_alloc ?_ _)); exact BK306.out⟩, ⟨by (try simp only [hl313002_74]); (with_reducible repeat (first | refine blk_drewN ?_ _ | refine blk_drew ?_ | refine blk_alloc ?_ _)); exact BK312.out⟩, ⟨by (try simp only [hl313002_74]); (with_reducible repeat (first | refine blk_drewN ?_ _ | refine blk_drew ?_ | refine blk_alloc ?_ _)); exact BK322.out⟩, ⟨by (try simp only [hl313002_74]); (with_reducible repeat (first | refine blk_drewN ?_ _ | refine blk_drew ?_ | refine blk_alloc ?_ _)); exact BK355.out⟩, ⟨by repeat (first | (with_reducible first | exact HB.out | apply below_alloc | apply pw_below_drewN | apply below_drew1 | refine below_set ?_ GE290.out | refine below_set ?_ GE306.out | refine below_set ?_ GE312.out | refine below_set ?_ GE322.out | refine below_set ?_ GE355.out) | exact HB.out)⟩⟩
                            · replace c154 := Bool.eq_false_iff.mpr c154
                              subst c154
                              have H1 : (laws_FnExactAcceptSeq.j2 kj74 t338 t337 true t313 t314 t336) = some r := by rw [if_neg (show ¬ (false = true) by decide)] at H; exact H
                              clear H
                              have H := H1
                              clear H1
                              have H' := Aside0.mk H
                              clear H
                              have hnb167 := NB355_290.out
                              have hnc167 := NB290_355.out
                              have hnb168 := NB355_306.out
                              have hnc168 := NB306_355.out
                              have hnb169 := NB355_312.out
                              have hnc169 := NB312_355.out
                              have hnb170 := NB355_322.out
                              have hnc170 := NB322_355.out
                              have hcz171_0 : w144.cell? ⟨gb355, 0, none⟩ = some (.int .i64 0) := (blk_cell BK355.out 0).trans rfl
                              have hcz171_1 : w144.cell? ⟨gb355, 1, none⟩ = some (.int .i64 0) := (blk_cell BK355.out 1).trans rfl
                              have hcz171_2 : w144.cell? ⟨gb355, 2, none⟩ = some (.slice none 0 0) := (blk_cell BK355.out 2).trans rfl
                              have hfz171_0 := blk_frozen BK355.out 0
                              have hfz171_1 := blk_frozen BK355.out 1
                              have hfz171_2 := blk_frozen BK355.out 2
                              have hnb172 := NB306_290.out
                              have hnc172 := NB290_306.out
                              have hnb173 := NB306_312.out
                              have hnc173 := NB312_306.out
                              have hnb174 := NB306_322.out
                              have hnc174 := NB322_306.out
                              have hcz175_0 : w144.cell? ⟨gb306, 0, none⟩ = some (.int .i64 t297) := (blk_cell BK306.out 0).trans rfl
                              have hcz175_1 : w144.cell? ⟨gb306, 1, none⟩ = some (.int .i64 t298) := (blk_cell BK306.out 1).trans rfl
                              have hcz175_2 : w144.cell? ⟨gb306, 2, none⟩ = some (.slice Ao23 t299.length co23) := (blk_cell BK306.out 2).trans rfl
                              have hfz175_0 := blk_frozen BK306.out 0
                              have hfz175_1 := blk_frozen BK306.out 1
                              have hfz175_2 := blk_frozen BK306.out 2
                              go_wp2_with (first | ((with_reducible refine gate_callee (f := 36) rfl ?_); refine goesL_ (some 112) rfl rfl Try.func36 (by kernel_rfl) rfl #[.agg #[.int .i64 t346, .int .i64 t347, .slice Ao150 t348.length co150], .agg #[.int .i64 t297, .int .i64 t298, .slice Ao23 t299.length co23]] rfl (by (try simp only [List.map_toArray, List.map_cons, List.map_nil]); first | done | rfl | (simp only [List.length_drop, List.length_take]; rfl)) ?_; (with_reducible refine (laws_eqStream.calls kj74 t346 t347 _ _ t348 t297 t298 _ _ t299 true _ ?side1 ?side2 ?side3 ?side4 A151.out).mono ?_); (case side1 => refine (Kd.Q_reads' (e := 3) (base := w.heap.size) (ok := fun k_ => ((((((some k_ ≠ (v352 : Value).ownBlock ∧ some k_ ≠ (v303 : Value).ownBlock) ∧ some k_ ≠ (.slice Ao134 t318.length co134 : Value).ownBlock) ∧ some k_ ≠ (.slice Ao23 t299.length co23 : Value).ownBlock) ∧ some k_ ≠ (.slice Ao30 t332.length co30 : Value).ownBlock) ∧ some k_ ≠ (.slice Ao37 t315.length co37 : Value).ownBlock) ∧ some k_ ≠ (.slice Ao142 t343.length co142 : Value).ownBlock)) (n := t348.length) (c := co150) ?_).2.2; exact (by (with_reducible repeat (first | apply Kd.Q_alloc | apply Kd.Q_drewN | apply Kd.Q_drew)); exact (Kd.Q_mono (Kd.Q_far (p := ⟨gb355, 2, none⟩) (Kd.Q_far (p := ⟨gb355, 1, none⟩) (Kd.Q_far (p := ⟨gb355, 0, none⟩) (Kd.Q_types HO350.out BK355.out (by decide)) (fun _ hk => hk.2) (.int .i64 t346)) (fun _ hk => hk.2) (.int .i64 t347)) (fun _ hk => hk.2) (.slice Ao150 t348.length co150)) (fun _ h_ => h_.1)))); (case side2 => exact (Kd.Q_reads' HO350.out).2.1); (case side3 => refine (Kd.Q_reads' (e := 3) (base := w.heap.size) (ok := fun k_ => ((((some k_ ≠ (v303 : Value).ownBlock ∧ (some k_ ≠ (.slice Ao134 t318.length co134 : Value).ownBlock ∧ (some k_ ≠ (.slice Ao30 t332.length co30 : Value).ownBlock ∧ some k_ ≠ (.slice Ao37 t315.length co37 : Value).ownBlock))) ∧ some k_ ≠ (.slice Ao142 t343.length co142 : Value).ownBlock) ∧ some k_ ≠ (.slice Ao150 t348.length co150 : Value).ownBlock) ∧ some k_ ≠ (v352 : Value).ownBlock)) (n := t299.length) (c := co23) ?_).2.2; exact (by (with_reducible repeat (first | apply Kd.Q_alloc | apply Kd.Q_drewN | apply Kd.Q_drew)); exact (Kd.Q_mono (Kd.Q_far (p := ⟨gb355, 2, none⟩) (Kd.Q_far (p := ⟨gb355, 1, none⟩) (Kd.Q_far (p := ⟨gb355, 0, none⟩) (Kd.Q_types HO_307002.out BK355.out (by decide)) (fun _ hk => hk.2) (.int .i64 t346)) (fun _ hk => hk.2) (.int .i64 t347)) (fun _ hk => hk.2) (.slice Ao150 t348.length co150)) (fun _ h_ => h_.1)))); (case side4 => exact (Kd.Q_reads' HO_307002.out).2.1); rintro e w176 ⟨rfl, hb⟩; refine ⟨_, rfl, ?_⟩; have n0_ := Aside0.mk (Kd.R_below (by (with_reducible repeat (first | apply Kd.R_alloc | apply Kd.R_drewN | apply Kd.R_drew)); exact (Kd.R_mono (Kd.R_far (p := ⟨gb355, 2, none⟩) (Kd.R_far (p := ⟨gb355, 1, none⟩) (Kd.R_far (p := ⟨gb355, 0, none⟩) (Kd.R_types HO_7.out BK355.out (by decide)) (fun _ hk => hk.2) (.int .i64 t346)) (fun _ hk => hk.2) (.int .i64 t347)) (fun _ hk => hk.2) (.slice Ao150 t348.length co150)) (fun _ h_ => h_.1))) hb); have n1_ := Aside0.mk (Kd.R_below (by (with_reducible repeat (first | apply Kd.R_alloc | apply Kd.R_drewN | apply Kd.R_drew)); exact (Kd.R_mono (Kd.R_far (p := ⟨gb355, 2, none⟩) (Kd.R_far (p := ⟨gb355, 1, none⟩) (Kd.R_far (p := ⟨gb355, 0, none⟩) (Kd.R_types HO_11.out BK355.out (by decide)) (fun _ hk => hk.2) (.int .i64 t346)) (fun _ hk => hk.2) (.int .i64 t347)) (fun _ hk => hk.2) (.slice Ao150 t348.length co150)) (fun _ h_ => h_.1))) hb); have n2_ := Aside0.mk (Kd.Q_below (by (with_reducible repeat (first | apply Kd.Q_alloc | apply Kd.Q_drewN | apply Kd.Q_drew)); exact (Kd.Q_mono (Kd.Q_far (p := ⟨gb355, 2, none⟩) (Kd.Q_far (p := ⟨gb355, 1, none⟩) (Kd.Q_far (p := ⟨gb355, 0, none⟩) (Kd.Q_types HO_307002.out BK355.out (by decide)) (fun _ hk => hk.2) (.int .i64 t346)) (fun _ hk => hk.2) (.int .i64 t347)) (fun _ hk => hk.2) (.slice Ao150 t348.length co150)) (fun _ h_ => h_.1))) hb); have n3_ := Aside0.mk (Kd.Q_below (by (with_reducible repeat (first | apply Kd.Q_alloc | apply Kd.Q_drewN | apply Kd.Q_drew)); exact (Kd.Q_mono (Kd.Q_far (p := ⟨gb355, 2, none⟩) (Kd.Q_far (p := ⟨gb355, 1, none⟩) (Kd.Q_far (p := ⟨gb355, 0, none⟩) (Kd.Q_types HO_313002.out BK355.out (by decide)) (fun _ hk => hk.2) (.int .i64 t346)) (fun _ hk => hk.2) (.int .i64 t347)) (fun _ hk => hk.2) (.slice Ao150 t348.length co150)) (fun _ h_ => h_.1))) hb); have n4_ := Aside0.mk (Kd.Q_below (by (with_reducible repeat (first | apply Kd.Q_alloc | apply Kd.Q_drewN | apply Kd.Q_drew)); exact (Kd.Q_mono (Kd.Q_far (p := ⟨gb355, 2, none⟩) (Kd.Q_far (p := ⟨gb355, 1, none⟩) (Kd.Q_far (p := ⟨gb355, 0, none⟩) (Kd.Q_types HO_323002.out BK355.out (by decide)) (fun _ hk => hk.2) (.int .i64 t346)) (fun _ hk => hk.2) (.int .i64 t347)) (fun _ hk => hk.2) (.slice Ao150 t348.length co150)) (fun _ h_ => h_.1))) hb); have n5_ := Aside0.mk (Kd.R_below (by (with_reducible repeat (first | apply Kd.R_alloc | apply Kd.R_drewN | apply Kd.R_drew)); exact (Kd.R_mono (Kd.R_far (p := ⟨gb355, 2, none⟩) (Kd.R_far (p := ⟨gb355, 1, none⟩) (Kd.R_far (p := ⟨gb355, 0, none⟩) (Kd.R_types HO345.out BK355.out (by decide)) (fun _ hk => hk.2) (.int .i64 t346)) (fun _ hk => hk.2) (.int .i64 t347)) (fun _ hk => hk.2) (.slice Ao150 t348.length co150)) (fun _ h_ => h_.1))) hb); have n6_ := Aside0.mk (Kd.Q_below (by (with_reducible repeat (first | apply Kd.Q_alloc | apply Kd.Q_drewN | apply Kd.Q_drew)); exact (Kd.Q_mono (Kd.Q_far (p := ⟨gb355, 2, none⟩) (Kd.Q_far (p := ⟨gb355, 1, none⟩) (Kd.Q_far (p := ⟨gb355, 0, none⟩) (Kd.Q_types HO350.out BK355.out (by decide)) (fun _ hk => hk.2) (.int .i64 t346)) (fun _ hk => hk.2) (.int .i64 t347)) (fun _ hk => hk.2) (.slice Ao150 t348.length co150)) (fun _ h_ => h_.1))) hb); have n7_ := Aside0.mk (Kd.R_below (by (with_reducible repeat (first | apply Kd.R_alloc | apply Kd.R_drewN | apply Kd.R_drew)); exact (Kd.R_mono (Kd.R_far (p := ⟨gb355, 2, none⟩) (Kd.R_far (p := ⟨gb355, 1, none⟩) (Kd.R_far (p := ⟨gb355, 0, none⟩) (Kd.R_types HO353.out BK355.out (by decide)) (fun _ hk => hk.2) (.int .i64 t346)) (fun _ hk => hk.2) (.int .i64 t347)) (fun _ hk => hk.2) (.slice Ao150 t348.length co150)) (fun _ h_ => h_.1))) hb); have n8_ := Aside0.mk (blk_below (g := gb290) (o := .cells #[.int .i64 a0_0, .int .i64 a0_1, .slice A0_2 l0_2.length c0_2] 53 (0, 0)) (by (with_reducible repeat (first | refine blk_drewN ?_ _ | refine blk_drew ?_ | refine blk_alloc ?_ _)); refine blk_far ?_ NB290_355.out _; (with_reducible repeat (first | refine blk_drewN ?_ _ | refine blk_drew ?_ | refine blk_alloc ?_ _)); refine blk_far ?_ NB290_355.out _; (with_reducible repeat (first | refine blk_drewN ?_ _ | refine blk_drew ?_ | refine blk_alloc ?_ _)); refine blk_far ?_ NB290_355.out _; (with_reducible repeat (first | refine blk_drewN ?_ _ | refine blk_drew ?_ | refine blk_alloc ?_ _)); exact BK290.out) hb); have n9_ := Aside0.mk (blk_below (g := gb306) (o := .cells #[.int .i64 t297, .int .i64 t298, .slice Ao23 t299.length co23] 45 (0, 0)) (by (with_reducible repeat (first | refine blk_drewN ?_ _ | refine blk_drew ?_ | refine blk_alloc ?_ _)); refine blk_far ?_ NB306_355.out _; (with_reducible repeat (first | refine blk_drewN ?_ _ | refine blk_drew ?_ | refine blk_alloc ?_ _)); refine blk_far ?_ NB306_355.out _; (with_reducible repeat (first | refine blk_drewN ?_ _ | refine blk_drew ?_ | refine blk_alloc ?_ _)); refine blk_far ?_ NB306_355.out _; (with_reducible repeat (first | refine blk_drewN ?_ _ | refine blk_drew ?_ | refine blk_alloc ?_ _)); exact BK306.out) hb); have n10_ := Aside0.mk (blk_below (g := gb312) (o := .cells #[.int .i64 t307, .int .i64 t308, .slice Ao30 t332.length co30] 45 (0, 0)) (by (with_reducible repeat (first | refine blk_drewN ?_ _ | refine blk_drew ?_ | refine blk_alloc ?_ _)); refine blk_far ?_ NB312_355.out _; (with_reducible repeat (first | refine blk_drewN ?_ _ | refine blk_drew ?_ | refine blk_alloc ?_ _)); refine blk_far ?_ NB312_355.out _; (with_reducible repeat (first | refine blk_drewN ?_ _ | refine blk_drew ?_ | refine blk_alloc ?_ _)); refine blk_far ?_ NB312_355.out _; (with_reducible repeat (first | refine blk_drewN ?_ _ | refine blk_drew ?_ | refine blk_alloc ?_ _)); exact BK312.out) hb); have n11_ := Aside0.mk (blk_below (g := gb322) (o := .cells #[.int .i64 t313, .int .i64 t314, .slice Ao37 t315.length co37] 45 (0, 0)) (by (with_reducible repeat (first | refine blk_drewN ?_ _ | refine blk_drew ?_ | refine blk_alloc ?_ _)); refine blk_far ?_ NB322_355.out _; (with_reducible repeat (first | refine blk_drewN ?_ _ | refine blk_drew ?_ | refine blk_alloc ?_ _)); refine blk_far ?_ NB322_355.out _; (with_reducible repeat (first | refine blk_drewN ?_ _ | refine blk_drew ?_ | refine blk_alloc ?_ _)); refine blk_far ?_ NB322_355.out _; (with_reducible repeat (first | refine blk_drewN ?_ _ | refine blk_drew ?_ | refine blk_alloc ?_ _)); exact BK322.out) hb); have n12_ := Aside0.mk (blk_below (g := gb355) (o := .cells #[.int .i64 t346, .int .i64 t347, .slice Ao150 t348.length co150] 45 (0, 0)) (by (with_reducible repeat (first | refine blk_drewN ?_ _ | refine blk_drew ?_ | refine blk_alloc ?_ _)); refine blk_put (cs := #[.int .i64 t346, .int .i64 t347, .slice none 0 0]) ?_ 2 _ rfl; (with_reducible repeat (first | refine blk_drewN ?_ _ | refine blk_drew ?_ | refine blk_alloc ?_ _)); refine blk_put (cs := #[.int .i64 t346, .int .i64 0, .slice none 0 0]) ?_ 1 _ rfl; (with_reducible repeat (first | refine blk_drewN ?_ _ | refine blk_drew ?_ | refine blk_alloc ?_ _)); refine blk_put (cs := #[.int .i64 0, .int .i64 0, .slice none 0 0]) ?_ 0 _ rfl; (with_reducible repeat (first | refine blk_drewN ?_ _ | refine blk_drew ?_ | refine blk_alloc ?_ _)); exact BK355.out) hb); have n13_ := Aside0.mk (below_step (by repeat (first | (with_reducible first | exact HB.out | apply below_alloc | apply pw_below_drewN | apply below_drew1 | refine below_set ?_ GE290.out | refine below_set ?_ GE306.out | refine below_set ?_ GE312.out | refine below_set ?_ GE322.out | refine below_set ?_ GE355.out) | exact HB.out)) hb); clear HO_7; clear HO_11; clear HO_307002; clear HO_313002; clear HO_323002; clear HO345; clear HO350; clear HO353; clear BK290; clear BK306; clear BK312; clear BK322; clear BK355; clear HB; have HO_7 := n0_; have HO_11 := n1_; have HO_307002 := n2_; have HO_313002 := n3_; have HO_323002 := n4_; have HO345 := n5_; have HO350 := n6_; have HO353 := n7_; have BK290 := n8_; have BK306 := n9_; have BK312 := n10_; have BK322 := n11_; have BK355 := n12_; have HB := n13_; clear n0_ n1_ n2_ n3_ n4_ n5_ n6_ n7_ n8_ n9_ n10_ n11_ n12_ n13_; (try clear hb); (try clear hb2); (try clear hk); (try clear hi); obtain ⟨Ao177, co177, eo177⟩ := Kd.R_slice HO353.out; subst eo177; obtain ⟨Ao178, co178, eo178⟩ := Kd.R_slice HO_7.out; subst eo178) | (go_at_call 37; (with_reducible refine (laws_eqIntS.calls kj74 _ _ t351 _ _ t302 false _ ?side1 ?side2 ?side3 ?side4 A153.out).mono ?_); (case side1 => repeat (first | exact (Kd.R_reads' HO353.out).2.2 | (with_reducible refine Kd.C_alloc ?_ _) | (with_reducible refine Kd.C_drewN ?_ _) | (with_reducible refine Kd.C_drew ?_))); (case side2 => exact (Kd.R_reads' HO353.out).2.1); (case side3 => repeat (first | exact (Kd.R_reads' HO_7.out).2.2 | (with_reducible refine Kd.C_alloc ?_ _) | (with_reducible refine Kd.C_drewN ?_ _) | (with_reducible refine Kd.C_drew ?_))); (case side4 => exact (Kd.R_reads' HO_7.out).2.1); rintro e w' ⟨rfl, ⟨nd, rfl⟩⟩))
                              go_meet
                              case rel => exact ⟨_, (true), (by first | rfl | (simp; done) | (simp [*]; done)), H', ⟨by have := HJ11.out; have := HJ74.out; first | omega | exact Nat.le_refl _⟩, ⟨by (try simp only [hl313002_74]); (with_reducible repeat (first | apply Kd.R_alloc | apply Kd.R_drewN | apply Kd.R_drew)); exact Kd.R_mono HO_11.out (fun _ hk => ⟨hk.1.1.1.2.1, ⟨hk.1.1.1.2.2.1, ⟨hk.1.1.1.2.2.2, hk.1.2⟩⟩⟩)⟩, ⟨by (try simp only [hl313002_74]); (with_reducible repeat (first | apply Kd.Q_alloc | apply Kd.Q_drewN | apply Kd.Q_drew)); exact Kd.Q_mono HO_307002.out (fun _ hk => ⟨hk.1.1.1.2.1, ⟨hk.1.1.1.2.2.1, ⟨hk.1.1.1.2.2.2, hk.1.2⟩⟩⟩)⟩, ⟨by (try simp only [hl313002_74]); (with_reducible repeat (first | apply Kd.Q_alloc | apply Kd.Q_drewN | apply Kd.Q_drew)); exact Kd.Q_mono HO_313002.out (fun _ hk => ⟨hk.1.1.1.2.1, ⟨hk.1.1.1.2.2.1, ⟨hk.1.1.1.2.2.2, hk.1.2⟩⟩⟩)⟩, ⟨by (try simp only [hl313002_74]); (with_reducible repeat (first | apply Kd.Q_alloc | apply Kd.Q_drewN | apply Kd.Q_drew)); exact Kd.Q_mono HO_323002.out (fun _ hk => ⟨hk.1.1.1.2.1, ⟨hk.1.1.1.2.2.1, ⟨hk.1.1.1.2.2.2, hk.1.2⟩⟩⟩)⟩, ⟨by (try simp only [hl313002_74]); (with_reducible repeat (first | apply Kd.Q_alloc | apply Kd.Q_drewN | apply Kd.Q_drew)); exact Kd.Q_mono HO350.out (fun _ hk => ⟨hk.1.1.1.1.2, ⟨hk.1.1.1.2, ⟨hk.1.1.2, hk.1.2⟩⟩⟩)⟩, ⟨by (try simp only [hl313002_74]); (with_reducible repeat (first | refine blk_drewN ?_ _ | refine blk_drew ?_ | refine blk_alloc ?_ _)); exact BK290.out⟩, ⟨by (try simp only [hl313002_74]); (with_reducible repeat (first | refine blk_drewN ?_ _ | refine blk_drew ?_ | refine blk_alloc ?_ _)); exact BK306.out⟩, ⟨by (try simp only [hl313002_74]); (with_reducible repeat (first | refine blk_drewN ?_ _ | refine blk_drew ?_ | refine blk_alloc ?_ _)); exact BK312.out⟩, ⟨by (try simp only [hl313002_74]); (with_reducible repeat (first | refine blk_drewN ?_ _ | refine blk_drew ?_ | refine blk_alloc ?_ _)); exact BK322.out⟩, ⟨by (try simp only [hl313002_74]); (with_reducible repeat (first | refine blk_drewN ?_ _ | refine blk_drew ?_ | refine blk_alloc ?_ _)); exact BK355.out⟩, ⟨by repeat (first | (with_reducible first | exact HB.out | apply below_alloc | apply pw_below_drewN | apply below_drew1 | refine below_set ?_ GE290.out | refine below_set ?_ GE306.out | refine below_set ?_ GE312.out | refine below_set ?_ GE322.out | refine below_set ?_ GE355.out) | exact HB.out)⟩⟩
                          · replace c152 := Bool.eq_false_iff.mpr c152
                            subst c152
                            have H1 : (laws_FnExactAcceptSeq.j2 kj74 t338 t337 true t313 t314 t336) = some r := by rw [if_neg (show ¬ (false = true) by decide)] at H; exact H
                            clear H
                            have H := H1
                            clear H1
                            have H' := Aside0.mk H
                            clear H
                            have hnb179 := NB355_290.out
                            have hnc179 := NB290_355.out
                            have hnb180 := NB355_306.out
                            have hnc180 := NB306_355.out
                            have hnb181 := NB355_312.out
                            have hnc181 := NB312_355.out
                            have hnb182 := NB355_322.out
                            have hnc182 := NB322_355.out
                            have hcz183_0 : w144.cell? ⟨gb355, 0, none⟩ = some (.int .i64 0) := (blk_cell BK355.out 0).trans rfl
                            have hcz183_1 : w144.cell? ⟨gb355, 1, none⟩ = some (.int .i64 0) := (blk_cell BK355.out 1).trans rfl
                            have hcz183_2 : w144.cell? ⟨gb355, 2, none⟩ = some (.slice none 0 0) := (blk_cell BK355.out 2).trans rfl
                            have hfz183_0 := blk_frozen BK355.out 0
                            have hfz183_1 := blk_frozen BK355.out 1
                            have hfz183_2 := blk_frozen BK355.out 2
                            have hnb184 := NB306_290.out
                            have hnc184 := NB290_306.out
                            have hnb185 := NB306_312.out
                            have hnc185 := NB312_306.out
                            have hnb186 := NB306_322.out
                            have hnc186 := NB322_306.out
                            have hcz187_0 : w144.cell? ⟨gb306, 0, none⟩ = some (.int .i64 t297) := (blk_cell BK306.out 0).trans rfl
                            have hcz187_1 : w144.cell? ⟨gb306, 1, none⟩ = some (.int .i64 t298) := (blk_cell BK306.out 1).trans rfl
                            have hcz187_2 : w144.cell? ⟨gb306, 2, none⟩ = some (.slice Ao23 t299.length co23) := (blk_cell BK306.out 2).trans rfl
                            have hfz187_0 := blk_frozen BK306.out 0
                            have hfz187_1 := blk_frozen BK306.out 1
                            have hfz187_2 := blk_frozen BK306.out 2
                            go_wp2_with (first | ((with_reducible refine gate_callee (f := 36) rfl ?_); refine goesL_ (some 112) rfl rfl Try.func36 (by kernel_rfl) rfl #[.agg #[.int .i64 t346, .int .i64 t347, .slice Ao150 t348.length co150], .agg #[.int .i64 t297, .int .i64 t298, .slice Ao23 t299.length co23]] rfl (by (try simp only [List.map_toArray, List.map_cons, List.map_nil]); first | done | rfl | (simp only [List.length_drop, List.length_take]; rfl)) ?_; (with_reducible refine (laws_eqStream.calls kj74 t346 t347 _ _ t348 t297 t298 _ _ t299 false _ ?side1 ?side2 ?side3 ?side4 A151.out).mono ?_); (case side1 => refine (Kd.Q_reads' (e := 3) (base := w.heap.size) (ok := fun k_ => ((((((some k_ ≠ (v352 : Value).ownBlock ∧ some k_ ≠ (v303 : Value).ownBlock) ∧ some k_ ≠ (.slice Ao134 t318.length co134 : Value).ownBlock) ∧ some k_ ≠ (.slice Ao23 t299.length co23 : Value).ownBlock) ∧ some k_ ≠ (.slice Ao30 t332.length co30 : Value).ownBlock) ∧ some k_ ≠ (.slice Ao37 t315.length co37 : Value).ownBlock) ∧ some k_ ≠ (.slice Ao142 t343.length co142 : Value).ownBlock)) (n := t348.length) (c := co150) ?_).2.2; exact (by (with_reducible repeat (first | apply Kd.Q_alloc | apply Kd.Q_drewN | apply Kd.Q_drew)); exact (Kd.Q_mono (Kd.Q_far (p := ⟨gb355, 2, none⟩) (Kd.Q_far (p := ⟨gb355, 1, none⟩) (Kd.Q_far (p := ⟨gb355, 0, none⟩) (Kd.Q_types HO350.out BK355.out (by decide)) (fun _ hk => hk.2) (.int .i64 t346)) (fun _ hk => hk.2) (.int .i64 t347)) (fun _ hk => hk.2) (.slice Ao150 t348.length co150)) (fun _ h_ => h_.1)))); (case side2 => exact (Kd.Q_reads' HO350.out).2.1); (case side3 => refine (Kd.Q_reads' (e := 3) (base := w.heap.size) (ok := fun k_ => ((((some k_ ≠ (v303 : Value).ownBlock ∧ (some k_ ≠ (.slice Ao134 t318.length co134 : Value).ownBlock ∧ (some k_ ≠ (.slice Ao30 t332.length co30 : Value).ownBlock ∧ some k_ ≠ (.slice Ao37 t315.length co37 : Value).ownBlock))) ∧ some k_ ≠ (.slice Ao142 t343.length co142 : Value).ownBlock) ∧ some k_ ≠ (.slice Ao150 t348.length co150 : Value).ownBlock) ∧ some k_ ≠ (v352 : Value).ownBlock)) (n := t299.length) (c := co23) ?_).2.2; exact (by (with_reducible repeat (first | apply Kd.Q_alloc | apply Kd.Q_drewN | apply Kd.Q_drew)); exact (Kd.Q_mono (Kd.Q_far (p := ⟨gb355, 2, none⟩) (Kd.Q_far (p := ⟨gb355, 1, none⟩) (Kd.Q_far (p := ⟨gb355, 0, none⟩) (Kd.Q_types HO_307002.out BK355.out (by decide)) (fun _ hk => hk.2) (.int .i64 t346)) (fun _ hk => hk.2) (.int .i64 t347)) (fun _ hk => hk.2) (.slice Ao150 t348.length co150)) (fun _ h_ => h_.1)))); (case side4 => exact (Kd.Q_reads' HO_307002.out).2.1); rintro e w188 ⟨rfl, hb⟩; refine ⟨_, rfl, ?_⟩; have n0_ := Aside0.mk (Kd.R_below (by (with_reducible repeat (first | apply Kd.R_alloc | apply Kd.R_drewN | apply Kd.R_drew)); exact (Kd.R_mono (Kd.R_far (p := ⟨gb355, 2, none⟩) (Kd.R_far (p := ⟨gb355, 1, none⟩) (Kd.R_far (p := ⟨gb355, 0, none⟩) (Kd.R_types HO_7.out BK355.out (by decide)) (fun _ hk => hk.2) (.int .i64 t346)) (fun _ hk => hk.2) (.int .i64 t347)) (fun _ hk => hk.2) (.slice Ao150 t348.length co150)) (fun _ h_ => h_.1))) hb); have n1_ := Aside0.mk (Kd.R_below (by (with_reducible repeat (first | apply Kd.R_alloc | apply Kd.R_drewN | apply Kd.R_drew)); exact (Kd.R_mono (Kd.R_far (p := ⟨gb355, 2, none⟩) (Kd.R_far (p := ⟨gb355, 1, none⟩) (Kd.R_far (p := ⟨gb355, 0, none⟩) (Kd.R_types HO_11.out BK355.out (by decide)) (fun _ hk => hk.2) (.int .i64 t346)) (fun _ hk => hk.2) (.int .i64 t347)) (fun _ hk => hk.2) (.slice Ao150 t348.length co150)) (fun _ h_ => h_.1))) hb); have n2_ := Aside0.mk (Kd.Q_below (by (with_reducible repeat (first | apply Kd.Q_alloc | apply Kd.Q_drewN | apply Kd.Q_drew)); exact (Kd.Q_mono (Kd.Q_far (p := ⟨gb355, 2, none⟩) (Kd.Q_far (p := ⟨gb355, 1, none⟩) (Kd.Q_far (p := ⟨gb355, 0, none⟩) (Kd.Q_types HO_307002.out BK355.out (by decide)) (fun _ hk => hk.2) (.int .i64 t346)) (fun _ hk => hk.2) (.int .i64 t347)) (fun _ hk => hk.2) (.slice Ao150 t348.length co150)) (fun _ h_ => h_.1))) hb); have n3_ := Aside0.mk (Kd.Q_below (by (with_reducible repeat (first | apply Kd.Q_alloc | apply Kd.Q_drewN | apply Kd.Q_drew)); exact (Kd.Q_mono (Kd.Q_far (p := ⟨gb355, 2, none⟩) (Kd.Q_far (p := ⟨gb355, 1, none⟩) (Kd.Q_far (p := ⟨gb355, 0, none⟩) (Kd.Q_types HO_313002.out BK355.out (by decide)) (fun _ hk => hk.2) (.int .i64 t346)) (fun _ hk => hk.2) (.int .i64 t347)) (fun _ hk => hk.2) (.slice Ao150 t348.length co150)) (fun _ h_ => h_.1))) hb); have n4_ := Aside0.mk (Kd.Q_below (by (with_reducible repeat (first | apply Kd.Q_alloc | apply Kd.Q_drewN | apply Kd.Q_drew)); exact (Kd.Q_mono (Kd.Q_far (p := ⟨gb355, 2, none⟩) (Kd.Q_far (p := ⟨gb355, 1, none⟩) (Kd.Q_far (p := ⟨gb355, 0, none⟩) (Kd.Q_types HO_323002.out BK355.out (by decide)) (fun _ hk => hk.2) (.int .i64 t346)) (fun _ hk => hk.2) (.int .i64 t347)) (fun _ hk => hk.2) (.slice Ao150 t348.length co150)) (fun _ h_ => h_.1))) hb); have n5_ := Aside0.mk (Kd.R_below (by (with_reducible repeat (first | apply Kd.R_alloc | apply Kd.R_drewN | apply Kd.R_drew)); exact (Kd.R_mono (Kd.R_far (p := ⟨gb355, 2, none⟩) (Kd.R_far (p := ⟨gb355, 1, none⟩) (Kd.R_far (p := ⟨gb355, 0, none⟩) (Kd.R_types HO345.out BK355.out (by decide)) (fun _ hk => hk.2) (.int .i64 t346)) (fun _ hk => hk.2) (.int .i64 t347)) (fun _ hk => hk.2) (.slice Ao150 t348.length co150)) (fun _ h_ => h_.1))) hb); have n6_ := Aside0.mk (Kd.Q_below (by (with_reducible repeat (first | apply Kd.Q_alloc | apply Kd.Q_drewN | apply Kd.Q_drew)); exact (Kd.Q_mono (Kd.Q_far (p := ⟨gb355, 2, none⟩) (Kd.Q_far (p := ⟨gb355, 1, none⟩) (Kd.Q_far (p := ⟨gb355, 0, none⟩) (Kd.Q_types HO350.out BK355.out (by decide)) (fun _ hk => hk.2) (.int .i64 t346)) (fun _ hk => hk.2) (.int .i64 t347)) (fun _ hk => hk.2) (.slice Ao150 t348.length co150)) (fun _ h_ => h_.1))) hb); have n7_ := Aside0.mk (Kd.R_below (by (with_reducible repeat (first | apply Kd.R_alloc | apply Kd.R_drewN | apply Kd.R_drew)); exact (Kd.R_mono (Kd.R_far (p := ⟨gb355, 2, none⟩) (Kd.R_far (p := ⟨gb355, 1, none⟩) (Kd.R_far (p := ⟨gb355, 0, none⟩) (Kd.R_types HO353.out BK355.out (by decide)) (fun _ hk => hk.2) (.int .i64 t346)) (fun _ hk => hk.2) (.int .i64 t347)) (fun _ hk => hk.2) (.slice Ao150 t348.length co150)) (fun _ h_ => h_.1))) hb); have n8_ := Aside0.mk (blk_below (g := gb290) (o := .cells #[.int .i64 a0_0, .int .i64 a0_1, .slice A0_2 l0_2.length c0_2] 53 (0, 0)) (by (with_reducible repeat (first | refine blk_drewN ?_ _ | refine blk_drew ?_ | refine blk_alloc ?_ _)); refine blk_far ?_ NB290_355.out _; (with_reducible repeat (first | refine blk_drewN ?_ _ | refine blk_drew ?_ | refine blk_alloc ?_ _)); refine blk_far ?_ NB290_355.out _; (with_reducible repeat (first | refine blk_drewN ?_ _ | refine blk_drew ?_ | refine blk_alloc ?_ _)); refine blk_far ?_ NB290_355.out _; (with_reducible repeat (first | refine blk_drewN ?_ _ | refine blk_drew ?_ | refine blk_alloc ?_ _)); exact BK290.out) hb); have n9_ := Aside0.mk (blk_below (g := gb306) (o := .cells #[.int .i64 t297, .int .i64 t298, .slice Ao23 t299.length co23] 45 (0, 0)) (by (with_reducible repeat (first | refine blk_drewN ?_ _ | refine blk_drew ?_ | refine blk_alloc ?_ _)); refine blk_far ?_ NB306_355.out _; (with_reducible repeat (first | refine blk_drewN ?_ _ | refine blk_drew ?_ | refine blk_alloc ?_ _)); refine blk_far ?_ NB306_355.out _; (with_reducible repeat (first | refine blk_drewN ?_ _ | refine blk_drew ?_ | refine blk_alloc ?_ _)); refine blk_far ?_ NB306_355.out _; (with_reducible repeat (first | refine blk_drewN ?_ _ | refine blk_drew ?_ | refine blk_alloc ?_ _)); exact BK306.out) hb); have n10_ := Aside0.mk (blk_below (g := gb312) (o := .cells #[.int .i64 t307, .int .i64 t308, .slice Ao30 t332.length co30] 45 (0, 0)) (by (with_reducible repeat (first | refine blk_drewN ?_ _ | refine blk_drew ?_ | refine blk_alloc ?_ _)); refine blk_far ?_ NB312_355.out _; (with_reducible repeat (first | refine blk_drewN ?_ _ | refine blk_drew ?_ | refine blk_alloc ?_ _)); refine blk_far ?_ NB312_355.out _; (with_reducible repeat (first | refine blk_drewN ?_ _ | refine blk_drew ?_ | refine blk_alloc ?_ _)); refine blk_far ?_ NB312_355.out _; (with_reducible repeat (first | refine blk_drewN ?_ _ | refine blk_drew ?_ | refine blk_alloc ?_ _)); exact BK312.out) hb); have n11_ := Aside0.mk (blk_below (g := gb322) (o := .cells #[.int .i64 t313, .int .i64 t314, .slice Ao37 t315.length co37] 45 (0, 0)) (by (with_reducible repeat (first | refine blk_drewN ?_ _ | refine blk_drew ?_ | refine blk_alloc ?_ _)); refine blk_far ?_ NB322_355.out _; (with_reducible repeat (first | refine blk_drewN ?_ _ | refine blk_drew ?_ | refine blk_alloc ?_ _)); refine blk_far ?_ NB322_355.out _; (with_reducible repeat (first | refine blk_drewN ?_ _ | refine blk_drew ?_ | refine blk_alloc ?_ _)); refine blk_far ?_ NB322_355.out _; (with_reducible repeat (first | refine blk_drewN ?_ _ | refine blk_drew ?_ | refine blk_alloc ?_ _)); exact BK322.out) hb); have n12_ := Aside0.mk (blk_below (g := gb355) (o := .cells #[.int .i64 t346, .int .i64 t347, .slice Ao150 t348.length co150] 45 (0, 0)) (by (with_reducible repeat (first | refine blk_drewN ?_ _ | refine blk_drew ?_ | refine blk_alloc ?_ _)); refine blk_put (cs := #[.int .i64 t346, .int .i64 t347, .slice none 0 0]) ?_ 2 _ rfl; (with_reducible repeat (first | refine blk_drewN ?_ _ | refine blk_drew ?_ | refine blk_alloc ?_ _)); refine blk_put (cs := #[.int .i64 t346, .int .i64 0, .slice none 0 0]) ?_ 1 _ rfl; (with_reducible repeat (first | refine blk_drewN ?_ _ | refine blk_drew ?_ | refine blk_alloc ?_ _)); refine blk_put (cs := #[.int .i64 0, .int .i64 0, .slice none 0 0]) ?_ 0 _ rfl; (with_reducible repeat (first | refine blk_drewN ?_ _ | refine blk_drew ?_ | refine blk_alloc ?_ _)); exact BK355.out) hb); have n13_ := Aside0.mk (below_step (by repeat (first | (with_reducible first | exact HB.out | apply below_alloc | apply pw_below_drewN | apply below_drew1 | refine below_set ?_ GE290.out | refine below_set ?_ GE306.out | refine below_set ?_ GE312.out | refine below_set ?_ GE322.out | refine below_set ?_ GE355.out) | exact HB.out)) hb); clear HO_7; clear HO_11; clear HO_307002; clear HO_313002; clear HO_323002; clear HO345; clear HO350; clear HO353; clear BK290; clear BK306; clear BK312; clear BK322; clear BK355; clear HB; have HO_7 := n0_; have HO_11 := n1_; have HO_307002 := n2_; have HO_313002 := n3_; have HO_323002 := n4_; have HO345 := n5_; have HO350 := n6_; have HO353 := n7_; have BK290 := n8_; have BK306 := n9_; have BK312 := n10_; have BK322 := n11_; have BK355 := n12_; have HB := n13_; clear n0_ n1_ n2_ n3_ n4_ n5_ n6_ n7_ n8_ n9_ n10_ n11_ n12_ n13_; (try clear hb); (try clear hb2); (try clear hk); (try clear hi)))
                            go_meet
                            case rel => exact ⟨_, (true), (by first | rfl | (simp; done) | (simp [*]; done)), H', ⟨by have := HJ11.out; have := HJ74.out; first | omega | exact Nat.le_refl _⟩, ⟨by (try simp only [hl313002_74]); (with_reducible repeat (first | apply Kd.R_alloc | apply Kd.R_drewN | apply Kd.R_drew)); exact Kd.R_mono HO_11.out (fun _ hk => ⟨hk.1.1.1.2.1, ⟨hk.1.1.1.2.2.1, ⟨hk.1.1.1.2.2.2, hk.1.2⟩⟩⟩)⟩, ⟨by (try simp only [hl313002_74]); (with_reducible repeat (first | apply Kd.Q_alloc | apply Kd.Q_drewN | apply Kd.Q_drew)); exact Kd.Q_mono HO_307002.out (fun _ hk => ⟨hk.1.1.1.2.1, ⟨hk.1.1.1.2.2.1, ⟨hk.1.1.1.2.2.2, hk.1.2⟩⟩⟩)⟩, ⟨by (try simp only [hl313002_74]); (with_reducible repeat (first | apply Kd.Q_alloc | apply Kd.Q_drewN | apply Kd.Q_drew)); exact Kd.Q_mono HO_313002.out (fun _ hk => ⟨hk.1.1.1.2.1, ⟨hk.1.1.1.2.2.1, ⟨hk.1.1.1.2.2.2, hk.1.2⟩⟩⟩)⟩, ⟨by (try simp only [hl313002_74]); (with_reducible repeat (first | apply Kd.Q_alloc | apply Kd.Q_drewN | apply Kd.Q_drew)); exact Kd.Q_mono HO_323002.out (fun _ hk => ⟨hk.1.1.1.2.1, ⟨hk.1.1.1.2.2.1, ⟨hk.1.1.1.2.2.2, hk.1.2⟩⟩⟩)⟩, ⟨by (try simp only [hl313002_74]); (with_reducible repeat (first | apply Kd.Q_alloc | apply Kd.Q_drewN | apply Kd.Q_drew)); exact Kd.Q_mono HO350.out (fun _ hk => ⟨hk.1.1.1.1.2, ⟨hk.1.1.1.2, ⟨hk.1.1.2, hk.1.2⟩⟩⟩)⟩, ⟨by (try simp only [hl313002_74]); (with_reducible repeat (first | refine blk_drewN ?_ _ | refine blk_drew ?_ | refine blk_alloc ?_ _)); exact BK290.out⟩, ⟨by (try simp only [hl313002_74]); (with_reducible repeat (first | refine blk_drewN ?_ _ | refine blk_drew ?_ | refine blk_alloc ?_ _)); exact BK306.out⟩, ⟨by (try simp only [hl313002_74]); (with_reducible repeat (first | refine blk_drewN ?_ _ | refine blk_drew ?_ | refine blk_alloc ?_ _)); exact BK312.out⟩, ⟨by (try simp only [hl313002_74]); (with_reducible repeat (first | refine blk_drewN ?_ _ | refine blk_drew ?_ | refine blk_alloc ?_ _)); exact BK322.out⟩, ⟨by (try simp only [hl313002_74]); (with_reducible repeat (first | refine blk_drewN ?_ _ | refine blk_drew ?_ | refine blk_alloc ?_ _)); exact BK355.out⟩, ⟨by repeat (first | (with_reducible first | exact HB.out | apply below_alloc | apply pw_below_drewN | apply below_drew1 | refine below_set ?_ GE290.out | refine below_set ?_ GE306.out | refine below_set ?_ GE312.out | refine below_set ?_ GE322.out | refine below_set ?_ GE355.out) | exact HB.out)⟩⟩
                        case rest =>
                          clear HC128
                          try clear c1
                          try clear c2
                          try clear p2
                          try clear c3
                          try clear c4
                          try clear c4b0
                          try clear c5
                          try clear c6
                          try clear c7
                          try clear c8
                          try clear c9
                          try clear c10
                          try clear c11
                          try clear c12
                          try clear c13
                          try clear c14
                          try clear c15
                          try clear c16
                          try clear c17
                          try clear c18
                          try clear c21
                          try clear c27
                          try clear c28
                          try clear c32
                          try clear c33
                          try clear c34
                          try clear c35
                          try clear c36
                          try clear c38
                          try clear c39
                          try clear c40
                          try clear c41
                          try clear c42
                          try clear c43
                          try clear c44
                          try clear c46
                          try clear c47
                          try clear c52
                          try clear c53
                          try clear c54
                          try clear c56
                          try clear c57
                          try clear c62
                          try clear c63
                          try clear c64
                          try clear c66
                          try clear c67
                          try clear c70
                          try clear c73
                          try clear c80
                          try clear c81
                          try clear c82
                          try clear c85
                          try clear c85b0
                          try clear c87
                          try clear c89
                          try clear c90
                          try clear c91
                          try clear c92
                          try clear c94
                          try clear c95
                          try clear c100
                          try clear c101
                          try clear c102
                          try clear c104
                          try clear c105
                          try clear c110
                          try clear c111
                          try clear c112
                          try clear c114
                          try clear c115
                          try clear c118
                          try clear c122
                          try clear c122b0
                          try clear c124
                          try clear c124b0
                          try clear c125
                          try clear c125b0
                          try clear c125b1
                          try clear c129
                          try clear c130
                          try clear c131
                          try clear c138
                          try clear c139
                          try clear c145
                          try clear c146
                          try clear c147
                          try clear c148
                          try clear c152
                          try clear c154
                          try clear c155
                          try clear c156
                          try clear c157
                          try clear c158
                          try clear c160
                          try clear c161
                          try clear c162
                          try clear c167
                          try clear c168
                          try clear c169
                          try clear c170
                          try clear c172
                          try clear c173
                          try clear c174
                          try clear c179
                          try clear c180
                          try clear c181
                          try clear c182
                          try clear c184
                          try clear c185
                          try clear c186
                          try clear hcz103_0
                          try clear hcz103_1
                          try clear hcz103_2
                          try clear hcz106_0
                          try clear hcz106_1
                          try clear hcz106_2
                          try clear hcz113_0
                          try clear hcz113_1
                          try clear hcz113_2
                          try clear hcz116_0
                          try clear hcz116_1
                          try clear hcz116_2
                          try clear hcz132_0
                          try clear hcz132_1
                          try clear hcz132_2
                          try clear hcz136_0
                          try clear hcz136_1
                          try clear hcz136_2
                          try clear hcz140_0
                          try clear hcz140_1
                          try clear hcz140_2
                          try clear hcz149_0
                          try clear hcz149_1
                          try clear hcz149_2
                          try clear hcz14_0
                          try clear hcz14_1
                          try clear hcz14_2
                          try clear hcz159_0
                          try clear hcz159_1
                          try clear hcz159_2
                          try clear hcz163_0
                          try clear hcz163_1
                          try clear hcz163_2
                          try clear hcz16_0
                          try clear hcz16_1
                          try clear hcz16_2
                          try clear hcz171_0
                          try clear hcz171_1
                          try clear hcz171_2
                          try clear hcz175_0
                          try clear hcz175_1
                          try clear hcz175_2
                          try clear hcz183_0
                          try clear hcz183_1
                          try clear hcz183_2
                          try clear hcz187_0
                          try clear hcz187_1
                          try clear hcz187_2
                          try clear hcz22_0
                          try clear hcz22_1
                          try clear hcz22_2
                          try clear hcz24_0
                          try clear hcz24_1
                          try clear hcz24_2
                          try clear hcz29_0
                          try clear hcz29_1
                          try clear hcz29_2
                          try clear hcz36_0
                          try clear hcz36_1
                          try clear hcz36_2
                          try clear hcz45_0
                          try clear hcz45_1
                          try clear hcz45_2
                          try clear hcz48_0
                          try clear hcz48_1
                          try clear hcz48_2
                          try clear hcz55_0
                          try clear hcz55_1
                          try clear hcz55_2
                          try clear hcz58_0
                          try clear hcz58_1
                          try clear hcz58_2
                          try clear hcz65_0
                          try clear hcz65_1
                          try clear hcz65_2
                          try clear hcz68_0
                          try clear hcz68_1
                          try clear hcz68_2
                          try clear hcz6_0
                          try clear hcz6_1
                          try clear hcz6_2
                          try clear hcz83_0
                          try clear hcz83_1
                          try clear hcz83_2
                          try clear hcz93_0
                          try clear hcz93_1
                          try clear hcz93_2
                          try clear hcz96_0
                          try clear hcz96_1
                          try clear hcz96_2
                          try clear hfz103_0
                          try clear hfz103_1
                          try clear hfz103_2
                          try clear hfz106_0
                          try clear hfz106_1
                          try clear hfz106_2
                          try clear hfz113_0
                          try clear hfz113_1
                          try clear hfz113_2
                          try clear hfz116_0
                          try clear hfz116_1
                          try clear hfz116_2
                          try clear hfz132_0
                          try clear hfz132_1
                          try clear hfz132_2
                          try clear hfz136_0
                          try clear hfz136_1
                          try clear hfz136_2
                          try clear hfz140_0
                          try clear hfz140_1
                          try clear hfz140_2
                          try clear hfz149_0
                          try clear hfz149_1
                          try clear hfz149_2
                          try clear hfz14_0
                          try clear hfz14_1
                          try clear hfz14_2
                          try clear hfz159_0
                          try clear hfz159_1
                          try clear hfz159_2
                          try clear hfz163_0
                          try clear hfz163_1
                          try clear hfz163_2
                          try clear hfz16_0
                          try clear hfz16_1
                          try clear hfz16_2
                          try clear hfz171_0
                          try clear hfz171_1
                          try clear hfz171_2
                          try clear hfz175_0
                          try clear hfz175_1
                          try clear hfz175_2
                          try clear hfz183_0
                          try clear hfz183_1
                          try clear hfz183_2
                          try clear hfz187_0
                          try clear hfz187_1
                          try clear hfz187_2
                          try clear hfz22_0
                          try clear hfz22_1
                          try clear hfz22_2
                          try clear hfz24_0
                          try clear hfz24_1
                          try clear hfz24_2
                          try clear hfz29_0
                          try clear hfz29_1
                          try clear hfz29_2
                          try clear hfz36_0
                          try clear hfz36_1
                          try clear hfz36_2
                          try clear hfz45_0
                          try clear hfz45_1
                          try clear hfz45_2
                          try clear hfz48_0
                          try clear hfz48_1
                          try clear hfz48_2
                          try clear hfz55_0
                          try clear hfz55_1
                          try clear hfz55_2
                          try clear hfz58_0
                          try clear hfz58_1
                          try clear hfz58_2
                          try clear hfz65_0
                          try clear hfz65_1
                          try clear hfz65_2
                          try clear hfz68_0
                          try clear hfz68_1
                          try clear hfz68_2
                          try clear hfz6_0
                          try clear hfz6_1
                          try clear hfz6_2
                          try clear hfz83_0
                          try clear hfz83_1
                          try clear hfz83_2
                          try clear hfz93_0
                          try clear hfz93_1
                          try clear hfz93_2
                          try clear hfz96_0
                          try clear hfz96_1
                          try clear hfz96_2
                          try clear p2
                          obtain ⟨kq, x124_127, rfl, HA, HJ127, HO_11, HO_307002, HO_313002, HO_323002, HO_356002, BK290, BK306, BK312, BK322, BK355, HB⟩ := hcut
                          have hl11_127 := (Kd.R_reads' HO_11.out).1
                          rw [hl11_127] at HO_11
                          (try simp only [hl11_127])
                          (try simp only [hl11_127] at BK290)
                          (try simp only [hl11_127] at BK306)
                          (try simp only [hl11_127] at BK312)
                          (try simp only [hl11_127] at BK322)
                          (try simp only [hl11_127] at BK355)
                          (try simp only [hl11_127] at HO_307002)
                          (try simp only [hl11_127] at HO_313002)
                          (try simp only [hl11_127] at HO_323002)
                          (try simp only [hl11_127] at HO_356002)
                          have hl323002_127 := (Kd.Q_reads' HO_323002.out).1
                          rw [hl323002_127] at HO_323002
                          (try simp only [hl323002_127])
                          (try simp only [hl323002_127] at BK290)
                          (try simp only [hl323002_127] at BK306)
                          (try simp only [hl323002_127] at BK312)
                          (try simp only [hl323002_127] at BK322)
                          (try simp only [hl323002_127] at BK355)
                          (try simp only [hl323002_127] at HO_11)
                          (try simp only [hl323002_127] at HO_307002)
                          (try simp only [hl323002_127] at HO_313002)
                          (try simp only [hl323002_127] at HO_356002)
                          cases kq with
                          | zero => exact absurd HA.out (by simp [laws_FnExactAcceptSeq.j2])
                          | succ kj127 =>
                            have H := HA.out
                            clear HA
                            simp only [laws_FnExactAcceptSeq.j2] at H
                            by_cases c189 : x124_127 = true
                            · subst c189
                              have H1 : (some false) = some r := by rw [if_pos rfl] at H; exact H
                              clear H
                              have H := H1
                              clear H1
                              exact absurd ((Option.some.inj H).trans HTRUE.out) (by decide)
                            · replace c189 := Bool.eq_false_iff.mpr c189
                              subst c189
                              have H1 : ((laws_heldStream.f kj127 t313 t314 t336 1).bind fun t358 => (if t358 < 0 then (some false) else ((laws_heldIntS.f kj127 t338 t358).bind fun t359 => (if t359 < 0 then (some false) else (if t359 = t337 then (some true) else (some false)))))) = some r := by rw [if_neg (show ¬ (false = true) by decide)] at H; exact H
                              clear H
                              have H := H1
                              clear H1
                              replace H := Option.bind_eq_some_iff.mp H
                              obtain ⟨t358, A1900, H⟩ := H
                              replace H : (if t358 < 0 then (some false) else ((laws_heldIntS.f kj127 t338 t358).bind fun t359 => (if t359 < 0 then (some false) else (if t359 = t337 then (some true) else (some false))))) = some r := H
                              have A190 := Aside0.mk A1900
                              clear A1900
                              by_cases c191 : t358 < 0
                              · rw [if_pos c191] at H
                                have c191b0 : decide (t358 < 0) = true := decide_eq_true c191
                                clear c191
                                exact absurd ((Option.some.inj H).trans HTRUE.out) (by decide)
                              · rw [if_neg c191] at H
                                have c191b0 : decide (t358 < 0) = false := decide_eq_false c191
                                clear c191
                                replace H := Option.bind_eq_some_iff.mp H
                                obtain ⟨t359, A1920, H⟩ := H
                                replace H : (if t359 < 0 then (some false) else (if t359 = t337 then (some true) else (some false))) = some r := H
                                have A192 := Aside0.mk A1920
                                clear A1920
                                by_cases c193 : t359 < 0
                                · rw [if_pos c193] at H
                                  have c193b0 : decide (t359 < 0) = true := decide_eq_true c193
                                  clear c193
                                  exact absurd ((Option.some.inj H).trans HTRUE.out) (by decide)
                                · rw [if_neg c193] at H
                                  have c193b0 : decide (t359 < 0) = false := decide_eq_false c193
                                  clear c193
                                  by_cases c194 : t359 = t337
                                  · rw [if_pos c194] at H
                                    have c194b0 : (t359 == t337) = true := beq_iff_eq.mpr c194
                                    have c194b1 : (t359 != t337) = false := bne_eq_false_iff_eq.mpr c194
                                    clear c194
                                    obtain rfl := Option.some.inj H
                                    have hnb195 := NB322_290.out
                                    have hnc195 := NB290_322.out
                                    have hnb196 := NB322_306.out
                                    have hnc196 := NB306_322.out
                                    have hnb197 := NB322_312.out
                                    have hnc197 := NB312_322.out
                                    have hnb198 := NB322_355.out
                                    have hnc198 := NB355_322.out
                                    have hcz199_0 : wc.cell? ⟨gb322, 0, none⟩ = some (.int .i64 t313) := (blk_cell BK322.out 0).trans rfl
                                    have hcz199_1 : wc.cell? ⟨gb322, 1, none⟩ = some (.int .i64 t314) := (blk_cell BK322.out 1).trans rfl
                                    have hcz199_2 : wc.cell? ⟨gb322, 2, none⟩ = some (.slice Ao37 t336.length co37) := (blk_cell BK322.out 2).trans rfl
                                    have hfz199_0 := blk_frozen BK322.out 0
                                    have hfz199_1 := blk_frozen BK322.out 1
                                    have hfz199_2 := blk_frozen BK322.out 2
                                    go_wp2_with (first | ((with_reducible refine gate_callee (f := 40) rfl ?_); refine goesL_ (some 127) rfl rfl Try.func40 (by kernel_rfl) rfl #[.agg #[.int .i64 t313, .int .i64 t314, .slice Ao37 t336.length co37], .int .i64 1] rfl (by (try simp only [List.map_toArray, List.map_cons, List.map_nil]); first | done | rfl | (simp only [List.length_drop, List.length_take]; rfl)) ?_; (with_reducible refine (laws_heldStream.calls kj127 t313 t314 _ _ t336 1 t358 _ ?side1 ?side2 A190.out).mono ?_); (case side1 => repeat (first | exact (Kd.Q_reads' HO_323002.out).2.2 | (with_reducible refine Kd.C_alloc ?_ _) | (with_reducible refine Kd.C_drewN ?_ _) | (with_reducible refine Kd.C_drew ?_))); (case side2 => exact (Kd.Q_reads' HO_323002.out).2.1); rintro e w200 ⟨rfl, hb⟩; refine ⟨_, rfl, ?_⟩; have n0_ := Aside0.mk (Kd.R_below (by (with_reducible repeat (first | apply Kd.R_alloc | apply Kd.R_drewN | apply Kd.R_drew)); exact HO_11.out) hb); have n1_ := Aside0.mk (Kd.Q_below (by (with_reducible repeat (first | apply Kd.Q_alloc | apply Kd.Q_drewN | apply Kd.Q_drew)); exact HO_307002.out) hb); have n2_ := Aside0.mk (Kd.Q_below (by (with_reducible repeat (first | apply Kd.Q_alloc | apply Kd.Q_drewN | apply Kd.Q_drew)); exact HO_313002.out) hb); have n3_ := Aside0.mk (Kd.Q_below (by (with_reducible repeat (first | apply Kd.Q_alloc | apply Kd.Q_drewN | apply Kd.Q_drew)); exact HO_323002.out) hb); have n4_ := Aside0.mk (Kd.Q_below (by (with_reducible repeat (first | apply Kd.Q_alloc | apply Kd.Q_drewN | apply Kd.Q_drew)); exact HO_356002.out) hb); have n5_ := Aside0.mk (blk_below (g := gb290) (o := .cells #[.int .i64 a0_0, .int .i64 a0_1, .slice A0_2 l0_2.length c0_2] 53 (0, 0)) (by (with_reducible repeat (first | refine blk_drewN ?_ _ | refine blk_drew ?_ | refine blk_alloc ?_ _)); exact BK290.out) hb); have n6_ := Aside0.mk (blk_below (g := gb306) (o := .cells #[.int .i64 t297, .int .i64 t298, .slice Ao23 t299.length co23] 45 (0, 0)) (by (with_reducible repeat (first | refine blk_drewN ?_ _ | refine blk_drew ?_ | refine blk_alloc ?_ _)); exact BK306.out) hb); have n7_ := Aside0.mk (blk_below (g := gb312) (o := .cells #[.int .i64 t307, .int .i64 t308, .slice Ao30 t332.length co30] 45 (0, 0)) (by (with_reducible repeat (first | refine blk_drewN ?_ _ | refine blk_drew ?_ | refine blk_alloc ?_ _)); exact BK312.out) hb); have n8_ := Aside0.mk (blk_below (g := gb322) (o := .cells #[.int .i64 t313, .int .i64 t314, .slice Ao37 t336.length co37] 45 (0, 0)) (by (with_reducible repeat (first | refine blk_drewN ?_ _ | refine blk_drew ?_ | refine blk_alloc ?_ _)); exact BK322.out) hb); have n9_ := Aside0.mk (blk_below (g := gb355) (o := .cells #[.int .i64 t346, .int .i64 t347, .slice Ao150 t348.length co150] 45 (0, 0)) (by (with_reducible repeat (first | refine blk_drewN ?_ _ | refine blk_drew ?_ | refine blk_alloc ?_ _)); exact BK355.out) hb); have n10_ := Aside0.mk (below_step (by repeat (first | (with_reducible first | exact HB.out | apply below_alloc | apply pw_below_drewN | apply below_drew1 | refine below_set ?_ GE290.out | refine below_set ?_ GE306.out | refine below_set ?_ GE312.out | refine below_set ?_ GE322.out | refine below_set ?_ GE355.out) | exact HB.out)) hb); clear HO_11; clear HO_307002; clear HO_313002; clear HO_323002; clear HO_356002; clear BK290; clear BK306; clear BK312; clear BK322; clear BK355; clear HB; have HO_11 := n0_; have HO_307002 := n1_; have HO_313002 := n2_; have HO_323002 := n3_; have HO_356002 := n4_; have BK290 := n5_; have BK306 := n6_; have BK312 := n7_; have BK322 := n8_; have BK355 := n9_; have HB := n10_; clear n0_ n1_ n2_ n3_ n4_ n5_ n6_ n7_ n8_ n9_ n10_; (try clear hb); (try clear hb2); (try clear hk); (try clear hi)) | ((with_reducible refine gate_callee (f := 41) rfl ?_); refine goesL_ (some 132) rfl rfl Try.func41 (by kernel_rfl) rfl #[.slice Ao134 t338.length co134, .int .i64 t358] rfl (by (try simp only [List.map_toArray, List.map_cons, List.map_nil]); first | done | rfl | (simp only [List.length_drop, List.length_take]; rfl)) ?_; (with_reducible refine (laws_heldIntS.calls kj127 _ _ t338 t358 t359 _ ?side1 ?side2 A192.out).mono ?_); (case side1 => repeat (first | exact (Kd.R_reads' HO_11.out).2.2 | (with_reducible refine Kd.C_alloc ?_ _) | (with_reducible refine Kd.C_drewN ?_ _) | (with_reducible refine Kd.C_drew ?_))); (case side2 => exact (Kd.R_reads' HO_11.out).2.1); rintro e w' ⟨rfl, ⟨nd, rfl⟩⟩; refine ⟨_, rfl, ?_⟩))
                                    go_ret
                                    exact ⟨by first | rfl | (simp [errW_none, errW_some] <;> rfl) | (simp [*, errW_none, errW_some] <;> rfl), by repeat (first | (with_reducible first | exact HB.out | apply below_alloc | apply pw_below_drewN | apply below_drew1 | refine below_set ?_ GE290.out | refine below_set ?_ GE306.out | refine below_set ?_ GE312.out | refine below_set ?_ GE322.out | refine below_set ?_ GE355.out) | exact HB.out)⟩
                                  · rw [if_neg c194] at H
                                    have c194b0 : (t359 == t337) = false := beq_eq_false_iff_ne.mpr c194
                                    have c194b1 : (t359 != t337) = true := bne_iff_ne.mpr c194
                                    exact absurd ((Option.some.inj H).trans HTRUE.out) (by decide)
                      · rw [if_neg c125] at H
                        have c125b0 : (t340 == t337) = false := beq_eq_false_iff_ne.mpr c125
                        have c125b1 : (t340 != t337) = true := bne_iff_ne.mpr c125
                        exact absurd ((Option.some.inj H).trans HTRUE.out) (by decide)
          · replace c73 := Bool.eq_false_iff.mpr c73
            subst c73
            have H1 : (some false) = some r := by rw [if_neg (show ¬ (false = true) by decide)] at H; exact H
            clear H
            have H := H1
            clear H1
            exact absurd ((Option.some.inj H).trans HTRUE.out) (by decide)

end Go.Proofs.Ytegkplalnljgjaa.PFnExactAcceptSeq
