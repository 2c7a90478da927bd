/- The law FnExactIsUpgrade, over the Go program's own text: for every input it answers true, and its arguments read as before. Conditions: none but the row's own. -/
import Derived.Test.YthkhjeklcmmjhaaRows
import Derived.Test.YthkhjeklcmmjhaaPFnExactIsUpgradex3
import Derived.Test.YthkhjeklcmmjhaaOpen
import Derived.Test.YthkhjeklcmmjhaaPureFnExactIsUpgrade
import Derived.WalkKit
import Derived.ProofKit
import Derived.OpenShut
import Derived.ShutString
import Derived.ChangeOld
import Derived.Below
import Derived.SizedLaws
namespace Go.Proofs.Ythkhjeklcmmjhaa.fnExactIsUpgrade
open Go.ChangeShapes Go.WideShapes Go.ChangeAt Go.RowKit
open Go.ChangeMaps (open_string shut_string)
open Go.Proofs.Ythkhjeklcmmjhaa.PFnExactIsUpgrade Go.Proofs.YthkhjeklcmmjhaaW.PrintWords Go.Proofs.YthkhjeklcmmjhaaW.PrintLast Go.Proofs.Ythkhjeklcmmjhaa.Reads Go.Proofs.Ythkhjeklcmmjhaa.PureFnExactIsUpgrade
set_option linter.unusedVariables false
theorem own : ownKnob Try.prog.godebug = none := by kernel_rfl
theorem laidOut : laidOutB Try.prog = true := by kernel_rfl
theorem o3 : Opens Try.prog 3 (Kd.int .i64) (fun n => (Lit.int .i64 n).wf = true) := opens_int Try.underlying3
theorem o89 : Opens Try.prog 89 k89 W89 := by
  have h := opens_iso (P := Try.prog) (t := 89) (fun x : S89 => (x.f0, x.f1)) (fun a => ⟨a.1, a.2⟩) (fun _ => rfl) (opens_struct Try.underlying89 (by kernel_rfl) (opensF_cons rfl (by kernel_rfl) o3 (opensF_one rfl (by kernel_rfl) o3)))
  exact h
theorem o71 : Opens Try.prog 71 (Kd.slice 89 k89) (fun l => (l.length ≤ maxLen ∧ ∀ e_ ∈ l, W89 e_)) := opens_slice Try.underlying71 (by kernel_rfl) o89
theorem o34 : Opens Try.prog 34 (Kd.slice 3 (Kd.int .i64)) (fun l => (l.length ≤ maxLen ∧ ∀ e_ ∈ l, (Lit.int .i64 e_).wf = true)) := opens_slice Try.underlying34 (by kernel_rfl) o3
set_option maxRecDepth 100000 in
theorem lifted (os : Os) (started : os.Started) (H : Type) (enc : TypeId × Value → H) :
    ReturnsInHanded {} Try.checked os 14 .any (Rows.fnExactIsUpgradeSpec.pre6 enc Try.prog Try.f14 Rows.fnExactIsUpgradeRow.domain false) (Rows.fnExactIsUpgradeSpec.post enc Try.prog Try.f14 false true false false) := by
  refine returnsInHanded_of_change_sized (C := Try.checked) own started (by kernel_rfl) Try.func14
    (ChangeSpec.witness6 (enc := enc) (C := Try.checked) false ⟨#[], #[.slice none 0 0, .slice none 0 0], []⟩ 8 (by kernel_rfl) (by kernel_rfl) (by kernel_rfl) (by kernel_rfl)) ?_
  intro W base args ds gs before hval0 hW hcnd hsz0 _
  have hval : ∀ (j : Nat) t v, Try.f14.params[j]? = some t → args[j]? = some v → Value.okWide Try.prog W .any base t v := hval0
  have hW' := hW
  obtain ⟨p, q, hA0, hV, rfl, hfz, hnd⟩ := hW
  have hA : DataW.TrodAll enc Try.prog W 0 (fun _ => true) true Try.f14.params.toList args.toList ds p := hA0
  rw [Try.params14] at hA hval
  obtain ⟨v0, vs0, d0, ds0, p0, q0, hargs, rfl, rfl, h0, r0⟩ := trodAll_cons hA
  obtain ⟨v1, vs1, d1, ds1, p1, q1, rfl, rfl, rfl, h1, r1⟩ := trodAll_cons r0
  obtain ⟨rfl, rfl, rfl⟩ := trodAll_nil r1
  obtain rfl : args = #[v0, v1] := by cases args; simp_all
  obtain ⟨rfl, rfl⟩ := trodVars_none hV
  obtain ⟨A0, n0, c0, rfl⟩ := okWide_slice Try.underlying71 (hval 0 71 v0 rfl rfl)
  have k0 := h0
  have lt0 : ∀ x ∈ p0, x.block < W.heap.size := by obtain ⟨m, hm⟩ := k0; exact DataW.trod_lt m _ _ _ hm
  obtain ⟨fu0, hf0⟩ := h0
  obtain ⟨x0, hx0, wx0⟩ := o71 H enc W fu0 _ _ hf0
  obtain ⟨A_, c_, e0, hc0, hr0⟩ := hx0
  have e0' : ([.slice A0 n0 c0] : List Value) = [.slice A_ x0.length c_] := e0
  injection e0' with e0' _
  injection e0' with e1 e2 e3
  subst e1; subst e2; subst e3
  obtain ⟨A1, n1, c1, rfl⟩ := okWide_slice Try.underlying34 (hval 1 34 v1 rfl rfl)
  have k1 := h1
  have lt1 : ∀ x ∈ p1, x.block < W.heap.size := by obtain ⟨m, hm⟩ := k1; exact DataW.trod_lt m _ _ _ hm
  obtain ⟨fu1, hf1⟩ := h1
  obtain ⟨x1, hx1, wx1⟩ := o34 H enc W fu1 _ _ hf1
  obtain ⟨A_, c_, e1, hc1, hr1⟩ := hx1
  have e1' : ([.slice A1 n1 c1] : List Value) = [.slice A_ x1.length c_] := e1
  injection e1' with e1' _
  injection e1' with e1 e2 e3
  subst e1; subst e2; subst e3
  clear hA0 hval0 hsz0
  obtain ⟨k, hk⟩ := PureFnExactIsUpgrade.proved x0 x1 wx0 wx1
  refine (laws_FnExactIsUpgrade.calls k _ _ x0 _ _ x1 true W hr0 hc0 hr1 hc1 rfl hk).mono fun e W' ⟨he, bel0⟩ => ?_
  have bel : Below W.heap.size W W' := bel0
  subst he
  exact ⟨_, rfl, _, _, _, [], _, [], hW', trodAll_mk1 (shut_bool Try.underlying4 _), (trodAll_cons_mk (Below.trod laidOut (by kernel_rfl) (of_decide_eq_true (by kernel_rfl)) k0 bel lt0) (trodAll_cons_mk (Below.trod laidOut (by kernel_rfl) (of_decide_eq_true (by kernel_rfl)) k1 bel lt1) trodAll_mk0)), rfl, bel.frame _, fun h => by cases h⟩
theorem over : Rows.fnExactIsUpgradeRow.holds Try.pinned (OpenSpec.ofChange Rows.fnExactIsUpgradeSpec) :=
  OpenClaim.holds_of_wide 14 Try.f14 rfl rfl rfl rfl rfl rfl rfl ⟨rfl, rfl, rfl, rfl, rfl⟩ rfl rfl rfl rfl rfl (by kernel_rfl) Try.func14 (by kernel_rfl)
    (of_decide_eq_true (by kernel_rfl)) (by unfold Func.isWrapper; first | (rw [if_pos (by decide +kernel)]; kernel_rfl) | (rw [if_neg (by decide +kernel)]; exact ⟨rfl, rfl⟩))
    (fun os started H enc _ => lifted os started H enc)
theorem proved : Rows.FnExactIsUpgradeSaid := over
end Go.Proofs.Ythkhjeklcmmjhaa.fnExactIsUpgrade
namespace Go.Proofs.Ythkhjeklcmmjhaa
/-- The row, under a short name, for the claim. -/
theorem fnExactIsUpgrade_holds : Rows.FnExactIsUpgradeSaid := fnExactIsUpgrade.proved
end Go.Proofs.Ythkhjeklcmmjhaa
