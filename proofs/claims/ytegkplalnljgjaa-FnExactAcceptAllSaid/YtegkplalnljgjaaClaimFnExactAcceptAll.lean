/- The law FnExactAcceptAll, over the Go program's own text: for every input it answers true, and its arguments read as before. Conditions: none but the row's own. -/
import Derived.Test.YtegkplalnljgjaaRows
import Derived.Test.YtegkplalnljgjaaPFnExactAcceptAllx8
import Derived.Test.YtegkplalnljgjaaVFnExactAcceptAllOpen
import Derived.Test.YtegkplalnljgjaaPureFnExactAcceptAll
import Derived.WalkKit
import Derived.ProofKit
import Derived.OpenShut
import Derived.ShutString
import Derived.ChangeOld
import Derived.Below
import Derived.SizedLaws
namespace Go.Proofs.Ytegkplalnljgjaa.fnExactAcceptAll
open Go.ChangeShapes Go.WideShapes Go.ChangeAt Go.RowKit
open Go.ChangeMaps (open_string shut_string)
open Go.Proofs.Ytegkplalnljgjaa.PFnExactAcceptAll Go.Proofs.YtegkplalnljgjaaW.PrintWords Go.Proofs.YtegkplalnljgjaaW.PrintLast Go.Proofs.Ytegkplalnljgjaa.Reads Go.Proofs.Ytegkplalnljgjaa.PureFnExactAcceptAll
set_option linter.unusedVariables false
theorem own : ownKnob Try.prog.godebug = none := by kernel_rfl
theorem laidOut : laidOutB Try.prog = true := by kernel_rfl
theorem o3 : Opens Try.prog 3 (Kd.int .i64) (fun n => (Lit.int .i64 n).wf = true) := opens_int Try.underlying3
theorem o22 : Opens Try.prog 22 (Kd.slice 3 (Kd.int .i64)) (fun l => (l.length ≤ maxLen ∧ ∀ e_ ∈ l, (Lit.int .i64 e_).wf = true)) := opens_slice Try.underlying22 (by kernel_rfl) o3
theorem o53 : Opens Try.prog 53 (Kd.pair (Kd.int .i64) (Kd.pair (Kd.int .i64) (Kd.slice 3 (Kd.int .i64)))) (fun x => ((Lit.int .i64 x.1).wf = true ∧ ((Lit.int .i64 x.2.1).wf = true ∧ (x.2.2.length ≤ maxLen ∧ ∀ e_ ∈ x.2.2, (Lit.int .i64 e_).wf = true)))) := by
  have h := opens_struct (P := Try.prog) (t := 53) Try.underlying53 (by kernel_rfl) (opensF_cons rfl (by kernel_rfl) o3 (opensF_cons rfl (by kernel_rfl) o3 (opensF_one rfl (by kernel_rfl) o22)))
  exact h
set_option maxRecDepth 100000 in
theorem lifted (os : Os) (started : os.Started) (H : Type) (enc : TypeId × Value → H) :
    ReturnsInHanded {} Try.checked os 7 .any (Rows.fnExactAcceptAllSpec.pre6 enc Try.prog Try.f7 Rows.fnExactAcceptAllRow.domain false) (Rows.fnExactAcceptAllSpec.post enc Try.prog Try.f7 false true false false) := by
  refine returnsInHanded_of_change_sized (C := Try.checked) own started (by kernel_rfl) Try.func7
    (ChangeSpec.witness6 (enc := enc) (C := Try.checked) false ⟨#[], #[.agg #[.int .i64 0, .int .i64 0, .slice none 0 0], .slice none 0 0], []⟩ 8 (by kernel_rfl) (by kernel_rfl) (by kernel_rfl) (by kernel_rfl)) ?_
  intro W base args ds gs before hval0 hW hcnd hsz0 _
  have hval : ∀ (j : Nat) t v, Try.f7.params[j]? = some t → args[j]? = some v → Value.okWide Try.prog W .any base t v := hval0
  have hW' := hW
  obtain ⟨p, q, hA0, hV, rfl, hfz, hnd⟩ := hW
  have hA : DataW.TrodAll enc Try.prog W 0 (fun _ => true) true Try.f7.params.toList args.toList ds p := hA0
  rw [Try.params7] at hA hval
  obtain ⟨v0, vs0, d0, ds0, p0, q0, hargs, rfl, rfl, h0, r0⟩ := trodAll_cons hA
  obtain ⟨v1, vs1, d1, ds1, p1, q1, rfl, rfl, rfl, h1, r1⟩ := trodAll_cons r0
  obtain ⟨rfl, rfl, rfl⟩ := trodAll_nil r1
  obtain rfl : args = #[v0, v1] := by cases args; simp_all
  obtain ⟨rfl, rfl⟩ := trodVars_none hV
  obtain ⟨cs0, rfl, hs0⟩ := okWide_struct Try.underlying53 (hval 0 53 v0 rfl rfl)
  have k0 := h0
  have lt0 : ∀ x ∈ p0, x.block < W.heap.size := by obtain ⟨m, hm⟩ := k0; exact DataW.trod_lt m _ _ _ hm
  obtain ⟨fu0, hf0⟩ := h0
  obtain ⟨x0, hx0, wx0⟩ := o53 H enc W fu0 _ _ hf0
  obtain ⟨a0_0, a0_1, l0_2⟩ := x0
  generalize hg0 : (Value.agg cs0).cells.toList = cl0 at hx0
  obtain ⟨_, _, rfl, rfl, ⟨_, _, rfl, rfl, ⟨A0_2, c0_2, rfl, hc0_2, hr0_2⟩⟩⟩ := hx0
  obtain ⟨wa0_0, wa0_1, wl0_2⟩ := wx0
  have hg0' : cs0.toList = [.int .i64 a0_0, .int .i64 a0_1, .slice A0_2 l0_2.length c0_2] := hg0
  obtain rfl : cs0 = #[.int .i64 a0_0, .int .i64 a0_1, .slice A0_2 l0_2.length c0_2] := by cases cs0; simpa using hg0'
  obtain ⟨A1, n1, c1, rfl⟩ := okWide_slice Try.underlying22 (hval 1 22 v1 rfl rfl)
  have k1 := h1
  have lt1 : ∀ x ∈ p1, x.block < W.heap.size := by obtain ⟨m, hm⟩ := k1; exact DataW.trod_lt m _ _ _ hm
  obtain ⟨fu1, hf1⟩ := h1
  obtain ⟨x1, hx1, wx1⟩ := o22 H enc W fu1 _ _ hf1
  obtain ⟨A_, c_, e1, hc1, hr1⟩ := hx1
  have e1' : ([.slice A1 n1 c1] : List Value) = [.slice A_ x1.length c_] := e1
  injection e1' with e1' _
  injection e1' with ea_ eb_ ec_
  subst ea_; subst eb_; subst ec_
  clear hA0 hval0 hsz0
  obtain ⟨k, hk⟩ := PureFnExactAcceptAll.proved a0_0 a0_1 l0_2 x1 wa0_0 wa0_1 wl0_2 wx1
  refine (laws_FnExactAcceptAll.calls k a0_0 a0_1 _ _ l0_2 _ _ x1 true W hr0_2 hc0_2 hr1 hc1 rfl hk).mono fun e W' ⟨he, bel0⟩ => ?_
  have bel : Below W.heap.size W W' := bel0
  subst he
  exact ⟨_, rfl, _, _, _, [], _, [], hW', trodAll_mk1 (shut_bool Try.underlying4 _), (trodAll_cons_mk (Below.trod laidOut (by kernel_rfl) (of_decide_eq_true (by kernel_rfl)) k0 bel lt0) (trodAll_cons_mk (Below.trod laidOut (by kernel_rfl) (of_decide_eq_true (by kernel_rfl)) k1 bel lt1) trodAll_mk0)), rfl, bel.frame _, fun h => by cases h⟩
theorem over : Rows.fnExactAcceptAllRow.holds Try.pinned (OpenSpec.ofChange Rows.fnExactAcceptAllSpec) :=
  OpenClaim.holds_of_wide 7 Try.f7 rfl rfl rfl rfl rfl rfl rfl ⟨rfl, rfl, rfl, rfl, rfl⟩ rfl rfl rfl rfl rfl (by kernel_rfl) Try.func7 (by kernel_rfl)
    (of_decide_eq_true (by kernel_rfl)) (by unfold Func.isWrapper; first | (rw [if_pos (by decide +kernel)]; kernel_rfl) | (rw [if_neg (by decide +kernel)]; exact ⟨rfl, rfl⟩))
    (fun os started H enc _ => lifted os started H enc)
theorem proved : Rows.FnExactAcceptAllSaid := over
end Go.Proofs.Ytegkplalnljgjaa.fnExactAcceptAll
namespace Go.Proofs.Ytegkplalnljgjaa
/-- The row, under a short name, for the claim. -/
theorem fnExactAcceptAll_holds : Rows.FnExactAcceptAllSaid := fnExactAcceptAll.proved
end Go.Proofs.Ytegkplalnljgjaa
