/- The law FnExactIsWithin, over the Go program's own text: for every input it answers true, and its arguments read as before. Conditions: none but the row's own. -/
import Derived.Test.YtindlpkkapelhaaRows
import Derived.Test.YtindlpkkapelhaaPFnExactIsWithinx5
import Derived.Test.YtindlpkkapelhaaOpen
import Derived.Test.YtindlpkkapelhaaPureFnExactIsWithin
import Derived.WalkKit
import Derived.ProofKit
import Derived.OpenShut
import Derived.ShutString
import Derived.ChangeOld
import Derived.Below
import Derived.SizedLaws
namespace Go.Proofs.Ytindlpkkapelhaa.fnExactIsWithin
open Go.ChangeShapes Go.WideShapes Go.ChangeAt Go.RowKit
open Go.ChangeMaps (open_string shut_string)
open Go.Proofs.Ytindlpkkapelhaa.PFnExactIsWithin Go.Proofs.YtindlpkkapelhaaW.PrintWords Go.Proofs.YtindlpkkapelhaaW.PrintLast Go.Proofs.Ytindlpkkapelhaa.Reads Go.Proofs.Ytindlpkkapelhaa.PureFnExactIsWithin
set_option linter.unusedVariables false
theorem own : ownKnob Try.prog.godebug = none := by kernel_rfl
theorem laidOut : laidOutB Try.prog = true := by kernel_rfl
theorem o3 : Opens Try.prog 3 (Kd.int .i64) (fun n => (Lit.int .i64 n).wf = true) := opens_int Try.underlying3
theorem o23 : Opens Try.prog 23 (Kd.slice 3 (Kd.int .i64)) (fun l => (l.length ≤ maxLen ∧ ∀ e_ ∈ l, (Lit.int .i64 e_).wf = true)) := opens_slice Try.underlying23 (by kernel_rfl) o3
theorem o33 : Opens Try.prog 33 (Kd.slice 3 (Kd.int .i64)) (fun x => (x.length ≤ maxLen ∧ ∀ e_ ∈ x, (Lit.int .i64 e_).wf = true)) := by
  have h := opens_struct (P := Try.prog) (t := 33) Try.underlying33 (by kernel_rfl) (opensF_one rfl (by kernel_rfl) o23)
  exact h
set_option maxRecDepth 100000 in
theorem lifted (os : Os) (started : os.Started) (H : Type) (enc : TypeId × Value → H) :
    ReturnsInHanded {} Try.checked os 11 .any (Rows.fnExactIsWithinSpec.pre6 enc Try.prog Try.f11 Rows.fnExactIsWithinRow.domain false) (Rows.fnExactIsWithinSpec.post enc Try.prog Try.f11 false true false false) := by
  refine returnsInHanded_of_change_sized (C := Try.checked) own started (by kernel_rfl) Try.func11
    (ChangeSpec.witness6 (enc := enc) (C := Try.checked) false ⟨#[], #[.agg #[.slice none 0 0], .int .i64 0, .slice none 0 0], []⟩ 8 (by kernel_rfl) (by kernel_rfl) (by kernel_rfl) (by kernel_rfl)) ?_
  intro W base args ds gs before hval0 hW hcnd hsz0 _
  have hval : ∀ (j : Nat) t v, Try.f11.params[j]? = some t → args[j]? = some v → Value.okWide Try.prog W .any base t v := hval0
  have hW' := hW
  obtain ⟨p, q, hA0, hV, rfl, hfz, hnd⟩ := hW
  have hA : DataW.TrodAll enc Try.prog W 0 (fun _ => true) true Try.f11.params.toList args.toList ds p := hA0
  rw [Try.params11] at hA hval
  obtain ⟨v0, vs0, d0, ds0, p0, q0, hargs, rfl, rfl, h0, r0⟩ := trodAll_cons hA
  obtain ⟨v1, vs1, d1, ds1, p1, q1, rfl, rfl, rfl, h1, r1⟩ := trodAll_cons r0
  obtain ⟨v2, vs2, d2, ds2, p2, q2, rfl, rfl, rfl, h2, r2⟩ := trodAll_cons r1
  obtain ⟨rfl, rfl, rfl⟩ := trodAll_nil r2
  obtain rfl : args = #[v0, v1, v2] := by cases args; simp_all
  obtain ⟨rfl, rfl⟩ := trodVars_none hV
  obtain ⟨cs0, rfl, hs0⟩ := okWide_struct Try.underlying33 (hval 0 33 v0 rfl rfl)
  have k0 := h0
  have lt0 : ∀ x ∈ p0, x.block < W.heap.size := by obtain ⟨m, hm⟩ := k0; exact DataW.trod_lt m _ _ _ hm
  obtain ⟨fu0, hf0⟩ := h0
  obtain ⟨l0_0, hx0, wl0_0⟩ := o33 H enc W fu0 _ _ hf0
  generalize hg0 : (Value.agg cs0).cells.toList = cl0 at hx0
  obtain ⟨A0_0, c0_0, rfl, hc0_0, hr0_0⟩ := hx0
  have hg0' : cs0.toList = [.slice A0_0 l0_0.length c0_0] := hg0
  obtain rfl : cs0 = #[.slice A0_0 l0_0.length c0_0] := by cases cs0; simpa using hg0'
  obtain ⟨a1, rfl, rfl, rfl, w1⟩ := open_int Try.underlying3 (hval 1 3 v1 rfl rfl) h1
  obtain ⟨A2, n2, c2, rfl⟩ := okWide_slice Try.underlying23 (hval 2 23 v2 rfl rfl)
  have k2 := h2
  have lt2 : ∀ x ∈ p2, x.block < W.heap.size := by obtain ⟨m, hm⟩ := k2; exact DataW.trod_lt m _ _ _ hm
  obtain ⟨fu2, hf2⟩ := h2
  obtain ⟨x2, hx2, wx2⟩ := o23 H enc W fu2 _ _ hf2
  obtain ⟨A_, c_, e2, hc2, hr2⟩ := hx2
  have e2' : ([.slice A2 n2 c2] : List Value) = [.slice A_ x2.length c_] := e2
  injection e2' with e2' _
  injection e2' with ea_ eb_ ec_
  subst ea_; subst eb_; subst ec_
  clear hA0 hval0 hsz0
  obtain ⟨k, hk⟩ := PureFnExactIsWithin.proved l0_0 a1 x2 wl0_0 w1 wx2
  refine (laws_FnExactIsWithin.calls k _ _ l0_0 a1 _ _ x2 true W hr0_0 hc0_0 hr2 hc2 rfl hk).mono fun e W' ⟨he, bel0⟩ => ?_
  have bel : Below W.heap.size W W' := bel0
  subst he
  exact ⟨_, rfl, _, _, _, [], _, [], hW', trodAll_mk1 (shut_bool Try.underlying4 _), (trodAll_cons_mk (Below.trod laidOut (by kernel_rfl) (of_decide_eq_true (by kernel_rfl)) k0 bel lt0) (trodAll_cons_mk (shut_int Try.underlying3 w1) (trodAll_cons_mk (Below.trod laidOut (by kernel_rfl) (of_decide_eq_true (by kernel_rfl)) k2 bel lt2) trodAll_mk0))), rfl, bel.frame _, fun h => by cases h⟩
theorem over : Rows.fnExactIsWithinRow.holds Try.pinned (OpenSpec.ofChange Rows.fnExactIsWithinSpec) :=
  OpenClaim.holds_of_wide 11 Try.f11 rfl rfl rfl rfl rfl rfl rfl ⟨rfl, rfl, rfl, rfl, rfl⟩ rfl rfl rfl rfl rfl (by kernel_rfl) Try.func11 (by kernel_rfl)
    (of_decide_eq_true (by kernel_rfl)) (by unfold Func.isWrapper; first | (rw [if_pos (by decide +kernel)]; kernel_rfl) | (rw [if_neg (by decide +kernel)]; exact ⟨rfl, rfl⟩))
    (fun os started H enc _ => lifted os started H enc)
theorem proved : Rows.FnExactIsWithinSaid := over
end Go.Proofs.Ytindlpkkapelhaa.fnExactIsWithin
namespace Go.Proofs.Ytindlpkkapelhaa
/-- The row, under a short name, for the claim. -/
theorem fnExactIsWithin_holds : Rows.FnExactIsWithinSaid := fnExactIsWithin.proved
end Go.Proofs.Ytindlpkkapelhaa
