/- The law FnExactLawfulFlows, over the Go program's own text: for every input it answers true, and its arguments read as before. Conditions: none but the row's own. -/
import Derived.Test.YtegkplalnljgjaaRows
import Derived.Test.YtegkplalnljgjaaPFnExactLawfulFlowsx9
import Derived.Test.YtegkplalnljgjaaVFnExactLawfulFlowsOpen
import Derived.Test.YtegkplalnljgjaaPureFnExactLawfulFlows
import Derived.WalkKit
import Derived.ProofKit
import Derived.OpenShut
import Derived.ShutString
import Derived.ChangeOld
import Derived.Below
import Derived.SizedLaws
namespace Go.Proofs.Ytegkplalnljgjaa.fnExactLawfulFlows
open Go.ChangeShapes Go.WideShapes Go.ChangeAt Go.RowKit
open Go.ChangeMaps (open_string shut_string)
open Go.Proofs.Ytegkplalnljgjaa.PFnExactLawfulFlows Go.Proofs.YtegkplalnljgjaaW.PrintWords Go.Proofs.YtegkplalnljgjaaW.PrintLast Go.Proofs.Ytegkplalnljgjaa.Reads Go.Proofs.Ytegkplalnljgjaa.PureFnExactLawfulFlows
set_option linter.unusedVariables false
theorem own : ownKnob Try.prog.godebug = none := by kernel_rfl
theorem laidOut : laidOutB Try.prog = true := by kernel_rfl
theorem o3 : Opens Try.prog 3 (Kd.int .i64) (fun n => (Lit.int .i64 n).wf = true) := opens_int Try.underlying3
theorem o22 : Opens Try.prog 22 (Kd.slice 3 (Kd.int .i64)) (fun l => (l.length ≤ maxLen ∧ ∀ e_ ∈ l, (Lit.int .i64 e_).wf = true)) := opens_slice Try.underlying22 (by kernel_rfl) o3
theorem o24 : Opens Try.prog 24 (Kd.slice 3 (Kd.int .i64)) (fun x => (x.length ≤ maxLen ∧ ∀ e_ ∈ x, (Lit.int .i64 e_).wf = true)) := by
  have h := opens_struct (P := Try.prog) (t := 24) Try.underlying24 (by kernel_rfl) (opensF_one rfl (by kernel_rfl) o22)
  exact h
theorem o129 : Opens Try.prog 129 k129 W129 := by
  have h := opens_iso (P := Try.prog) (t := 129) (fun x : S129 => (x.f0, x.f1)) (fun a => ⟨a.1, a.2⟩) (fun _ => rfl) (opens_struct Try.underlying129 (by kernel_rfl) (opensF_cons rfl (by kernel_rfl) o3 (opensF_one rfl (by kernel_rfl) o3)))
  exact h
theorem o169 : Opens Try.prog 169 k169 W169 := by
  have h := opens_iso (P := Try.prog) (t := 169) (fun x : S169 => (x.f0, x.f1)) (fun a => ⟨a.1, a.2⟩) (fun _ => rfl) (opens_struct Try.underlying169 (by kernel_rfl) (opensF_cons rfl (by kernel_rfl) o3 (opensF_one rfl (by kernel_rfl) o3)))
  exact h
theorem o130 : Opens Try.prog 130 (Kd.slice 169 k169) (fun l => (l.length ≤ maxLen ∧ ∀ e_ ∈ l, W169 e_)) := opens_slice Try.underlying130 (by kernel_rfl) o169
theorem o167 : Opens Try.prog 167 k167 W167 := by
  have h := opens_iso (P := Try.prog) (t := 167) (fun x : S167 => (x.f0, x.f1, x.f2)) (fun a => ⟨a.1, a.2.1, a.2.2⟩) (fun _ => rfl) (opens_struct Try.underlying167 (by kernel_rfl) (opensF_cons rfl (by kernel_rfl) o3 (opensF_cons rfl (by kernel_rfl) o22 (opensF_one rfl (by kernel_rfl) o22))))
  exact h
theorem o131 : Opens Try.prog 131 (Kd.slice 167 k167) (fun l => (l.length ≤ maxLen ∧ ∀ e_ ∈ l, W167 e_)) := opens_slice Try.underlying131 (by kernel_rfl) o167
theorem o133 : Opens Try.prog 133 k133 W133 := by
  have h := opens_iso (P := Try.prog) (t := 133) (fun x : S133 => (x.f0, x.f1, x.f2)) (fun a => ⟨a.1, a.2.1, a.2.2⟩) (fun _ => rfl) (opens_struct Try.underlying133 (by kernel_rfl) (opensF_cons rfl (by kernel_rfl) o129 (opensF_cons rfl (by kernel_rfl) o130 (opensF_one rfl (by kernel_rfl) o131))))
  exact h
theorem o25 : Opens Try.prog 25 (Kd.slice 133 k133) (fun l => (l.length ≤ maxLen ∧ ∀ e_ ∈ l, W133 e_)) := opens_slice Try.underlying25 (by kernel_rfl) o133
theorem o27 : Opens Try.prog 27 (Kd.pair (Kd.int .i64) (Kd.pair (Kd.int .i64) (Kd.pair (Kd.int .i64) (Kd.slice 133 k133)))) (fun x => ((Lit.int .i64 x.1).wf = true ∧ ((Lit.int .i64 x.2.1).wf = true ∧ ((Lit.int .i64 x.2.2.1).wf = true ∧ (x.2.2.2.length ≤ maxLen ∧ ∀ e_ ∈ x.2.2.2, W133 e_))))) := by
  have h := opens_struct (P := Try.prog) (t := 27) Try.underlying27 (by kernel_rfl) (opensF_cons rfl (by kernel_rfl) o3 (opensF_cons rfl (by kernel_rfl) o3 (opensF_cons rfl (by kernel_rfl) o3 (opensF_one rfl (by kernel_rfl) o25))))
  exact h
theorem o87 : Opens Try.prog 87 k87 W87 := by
  have h := opens_iso (P := Try.prog) (t := 87) (fun x : S87 => (x.f0, x.f1, x.f2, x.f3)) (fun a => ⟨a.1, a.2.1, a.2.2.1, a.2.2.2⟩) (fun _ => rfl) (opens_struct Try.underlying87 (by kernel_rfl) (opensF_cons rfl (by kernel_rfl) o3 (opensF_cons rfl (by kernel_rfl) o3 (opensF_cons rfl (by kernel_rfl) o3 (opensF_one rfl (by kernel_rfl) o3)))))
  exact h
theorem o66 : Opens Try.prog 66 (Kd.slice 87 k87) (fun l => (l.length ≤ maxLen ∧ ∀ e_ ∈ l, W87 e_)) := opens_slice Try.underlying66 (by kernel_rfl) o87
set_option maxRecDepth 100000 in
theorem lifted (os : Os) (started : os.Started) (H : Type) (enc : TypeId × Value → H) :
    ReturnsInHanded {} Try.checked os 10 .any (Rows.fnExactLawfulFlowsSpec.pre6 enc Try.prog Try.f10 Rows.fnExactLawfulFlowsRow.domain false) (Rows.fnExactLawfulFlowsSpec.post enc Try.prog Try.f10 false true false false) := by
  refine returnsInHanded_of_change_sized (C := Try.checked) own started (by kernel_rfl) Try.func10
    (ChangeSpec.witness6 (enc := enc) (C := Try.checked) false ⟨#[], #[.agg #[.slice none 0 0], .agg #[.int .i64 0, .int .i64 0, .int .i64 0, .slice none 0 0], .slice none 0 0], []⟩ 8 (by kernel_rfl) (by kernel_rfl) (by kernel_rfl) (by kernel_rfl)) ?_
  intro W base args ds gs before hval0 hW hcnd hsz0 _
  have hval : ∀ (j : Nat) t v, Try.f10.params[j]? = some t → args[j]? = some v → Value.okWide Try.prog W .any base t v := hval0
  have hW' := hW
  obtain ⟨p, q, hA0, hV, rfl, hfz, hnd⟩ := hW
  have hA : DataW.TrodAll enc Try.prog W 0 (fun _ => true) true Try.f10.params.toList args.toList ds p := hA0
  rw [Try.params10] at hA hval
  obtain ⟨v0, vs0, d0, ds0, p0, q0, hargs, rfl, rfl, h0, r0⟩ := trodAll_cons hA
  obtain ⟨v1, vs1, d1, ds1, p1, q1, rfl, rfl, rfl, h1, r1⟩ := trodAll_cons r0
  obtain ⟨v2, vs2, d2, ds2, p2, q2, rfl, rfl, rfl, h2, r2⟩ := trodAll_cons r1
  obtain ⟨rfl, rfl, rfl⟩ := trodAll_nil r2
  obtain rfl : args = #[v0, v1, v2] := by cases args; simp_all
  obtain ⟨rfl, rfl⟩ := trodVars_none hV
  obtain ⟨cs0, rfl, hs0⟩ := okWide_struct Try.underlying24 (hval 0 24 v0 rfl rfl)
  have k0 := h0
  have lt0 : ∀ x ∈ p0, x.block < W.heap.size := by obtain ⟨m, hm⟩ := k0; exact DataW.trod_lt m _ _ _ hm
  obtain ⟨fu0, hf0⟩ := h0
  obtain ⟨l0_0, hx0, wl0_0⟩ := o24 H enc W fu0 _ _ hf0
  generalize hg0 : (Value.agg cs0).cells.toList = cl0 at hx0
  obtain ⟨A0_0, c0_0, rfl, hc0_0, hr0_0⟩ := hx0
  have hg0' : cs0.toList = [.slice A0_0 l0_0.length c0_0] := hg0
  obtain rfl : cs0 = #[.slice A0_0 l0_0.length c0_0] := by cases cs0; simpa using hg0'
  obtain ⟨cs1, rfl, hs1⟩ := okWide_struct Try.underlying27 (hval 1 27 v1 rfl rfl)
  have k1 := h1
  have lt1 : ∀ x ∈ p1, x.block < W.heap.size := by obtain ⟨m, hm⟩ := k1; exact DataW.trod_lt m _ _ _ hm
  obtain ⟨fu1, hf1⟩ := h1
  obtain ⟨x1, hx1, wx1⟩ := o27 H enc W fu1 _ _ hf1
  obtain ⟨a1_0, a1_1, a1_2, l1_3⟩ := x1
  generalize hg1 : (Value.agg cs1).cells.toList = cl1 at hx1
  obtain ⟨_, _, rfl, rfl, ⟨_, _, rfl, rfl, ⟨_, _, rfl, rfl, ⟨A1_3, c1_3, rfl, hc1_3, hr1_3⟩⟩⟩⟩ := hx1
  obtain ⟨wa1_0, wa1_1, wa1_2, wl1_3⟩ := wx1
  have hg1' : cs1.toList = [.int .i64 a1_0, .int .i64 a1_1, .int .i64 a1_2, .slice A1_3 l1_3.length c1_3] := hg1
  obtain rfl : cs1 = #[.int .i64 a1_0, .int .i64 a1_1, .int .i64 a1_2, .slice A1_3 l1_3.length c1_3] := by cases cs1; simpa using hg1'
  obtain ⟨A2, n2, c2, rfl⟩ := okWide_slice Try.underlying66 (hval 2 66 v2 rfl rfl)
  have k2 := h2
  have lt2 : ∀ x ∈ p2, x.block < W.heap.size := by obtain ⟨m, hm⟩ := k2; exact DataW.trod_lt m _ _ _ hm
  obtain ⟨fu2, hf2⟩ := h2
  obtain ⟨x2, hx2, wx2⟩ := o66 H enc W fu2 _ _ hf2
  obtain ⟨A_, c_, e2, hc2, hr2⟩ := hx2
  have e2' : ([.slice A2 n2 c2] : List Value) = [.slice A_ x2.length c_] := e2
  injection e2' with e2' _
  injection e2' with ea_ eb_ ec_
  subst ea_; subst eb_; subst ec_
  clear hA0 hval0 hsz0
  obtain ⟨k, hk⟩ := PureFnExactLawfulFlows.proved l0_0 a1_0 a1_1 a1_2 l1_3 x2 wl0_0 wa1_0 wa1_1 wa1_2 wl1_3 wx2
  refine (laws_FnExactLawfulFlows.calls k _ _ l0_0 a1_0 a1_1 a1_2 _ _ l1_3 _ _ x2 true W hr0_0 hc0_0 hr1_3 hc1_3 hr2 hc2 rfl hk).mono fun e W' ⟨he, bel0⟩ => ?_
  have bel : Below W.heap.size W W' := bel0
  subst he
  exact ⟨_, rfl, _, _, _, [], _, [], hW', trodAll_mk1 (shut_bool Try.underlying4 _), (trodAll_cons_mk (Below.trod laidOut (by kernel_rfl) (of_decide_eq_true (by kernel_rfl)) k0 bel lt0) (trodAll_cons_mk (Below.trod laidOut (by kernel_rfl) (of_decide_eq_true (by kernel_rfl)) k1 bel lt1) (trodAll_cons_mk (Below.trod laidOut (by kernel_rfl) (of_decide_eq_true (by kernel_rfl)) k2 bel lt2) trodAll_mk0))), rfl, bel.frame _, fun h => by cases h⟩
theorem over : Rows.fnExactLawfulFlowsRow.holds Try.pinned (OpenSpec.ofChange Rows.fnExactLawfulFlowsSpec) :=
  OpenClaim.holds_of_wide 10 Try.f10 rfl rfl rfl rfl rfl rfl rfl ⟨rfl, rfl, rfl, rfl, rfl⟩ rfl rfl rfl rfl rfl (by kernel_rfl) Try.func10 (by kernel_rfl)
    (of_decide_eq_true (by kernel_rfl)) (by unfold Func.isWrapper; first | (rw [if_pos (by decide +kernel)]; kernel_rfl) | (rw [if_neg (by decide +kernel)]; exact ⟨rfl, rfl⟩))
    (fun os started H enc _ => lifted os started H enc)
theorem proved : Rows.FnExactLawfulFlowsSaid := over
end Go.Proofs.Ytegkplalnljgjaa.fnExactLawfulFlows
namespace Go.Proofs.Ytegkplalnljgjaa
/-- The row, under a short name, for the claim. -/
theorem fnExactLawfulFlows_holds : Rows.FnExactLawfulFlowsSaid := fnExactLawfulFlows.proved
end Go.Proofs.Ytegkplalnljgjaa
