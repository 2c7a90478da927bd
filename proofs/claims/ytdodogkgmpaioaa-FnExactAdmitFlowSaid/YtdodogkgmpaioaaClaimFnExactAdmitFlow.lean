/- The law FnExactAdmitFlow, over the Go program's own text: for every input it answers true, and its arguments read as before. Conditions: none but the row's own. -/
import Derived.Test.YtdodogkgmpaioaaRows
import Derived.Test.YtdodogkgmpaioaaPFnExactAdmitFlowx15
import Derived.Test.YtdodogkgmpaioaaVFnExactAdmitFlowOpen
import Derived.Test.YtdodogkgmpaioaaPureFnExactAdmitFlow
import Derived.WalkKit
import Derived.ProofKit
import Derived.OpenShut
import Derived.ShutString
import Derived.ChangeOld
import Derived.Below
import Derived.SizedLaws
namespace Go.Proofs.Ytdodogkgmpaioaa.fnExactAdmitFlow
open Go.ChangeShapes Go.WideShapes Go.ChangeAt Go.RowKit
open Go.ChangeMaps (open_string shut_string)
open Go.Proofs.Ytdodogkgmpaioaa.PFnExactAdmitFlow Go.Proofs.YtdodogkgmpaioaaW.PrintWords Go.Proofs.YtdodogkgmpaioaaW.PrintLast Go.Proofs.Ytdodogkgmpaioaa.Reads Go.Proofs.Ytdodogkgmpaioaa.PureFnExactAdmitFlow
set_option linter.unusedVariables false
theorem own : ownKnob Try.prog.godebug = none := by kernel_rfl
theorem laidOut : laidOutB Try.prog = true := by kernel_rfl
theorem o3 : Opens Try.prog 3 (Kd.int .i64) (fun n => (Lit.int .i64 n).wf = true) := opens_int Try.underlying3
theorem o94 : Opens Try.prog 94 k94 W94 := by
  have h := opens_iso (P := Try.prog) (t := 94) (fun x : S94 => (x.f0, x.f1)) (fun a => ⟨a.1, a.2⟩) (fun _ => rfl) (opens_struct Try.underlying94 (by kernel_rfl) (opensF_cons rfl (by kernel_rfl) o3 (opensF_one rfl (by kernel_rfl) o3)))
  exact h
theorem o151 : Opens Try.prog 151 k151 W151 := by
  have h := opens_iso (P := Try.prog) (t := 151) (fun x : S151 => (x.f0, x.f1)) (fun a => ⟨a.1, a.2⟩) (fun _ => rfl) (opens_struct Try.underlying151 (by kernel_rfl) (opensF_cons rfl (by kernel_rfl) o3 (opensF_one rfl (by kernel_rfl) o3)))
  exact h
theorem o95 : Opens Try.prog 95 (Kd.slice 151 k151) (fun l => (l.length ≤ maxLen ∧ ∀ e_ ∈ l, W151 e_)) := opens_slice Try.underlying95 (by kernel_rfl) o151
theorem o51 : Opens Try.prog 51 (Kd.slice 3 (Kd.int .i64)) (fun l => (l.length ≤ maxLen ∧ ∀ e_ ∈ l, (Lit.int .i64 e_).wf = true)) := opens_slice Try.underlying51 (by kernel_rfl) o3
theorem o149 : Opens Try.prog 149 k149 W149 := by
  have h := opens_iso (P := Try.prog) (t := 149) (fun x : S149 => (x.f0, x.f1, x.f2)) (fun a => ⟨a.1, a.2.1, a.2.2⟩) (fun _ => rfl) (opens_struct Try.underlying149 (by kernel_rfl) (opensF_cons rfl (by kernel_rfl) o3 (opensF_cons rfl (by kernel_rfl) o51 (opensF_one rfl (by kernel_rfl) o51))))
  exact h
theorem o96 : Opens Try.prog 96 (Kd.slice 149 k149) (fun l => (l.length ≤ maxLen ∧ ∀ e_ ∈ l, W149 e_)) := opens_slice Try.underlying96 (by kernel_rfl) o149
theorem o98 : Opens Try.prog 98 k98 W98 := by
  have h := opens_iso (P := Try.prog) (t := 98) (fun x : S98 => (x.f0, x.f1, x.f2)) (fun a => ⟨a.1, a.2.1, a.2.2⟩) (fun _ => rfl) (opens_struct Try.underlying98 (by kernel_rfl) (opensF_cons rfl (by kernel_rfl) o94 (opensF_cons rfl (by kernel_rfl) o95 (opensF_one rfl (by kernel_rfl) o96))))
  exact h
theorem o22 : Opens Try.prog 22 (Kd.slice 98 k98) (fun l => (l.length ≤ maxLen ∧ ∀ e_ ∈ l, W98 e_)) := opens_slice Try.underlying22 (by kernel_rfl) o98
theorem o24 : Opens Try.prog 24 (Kd.pair (Kd.int .i64) (Kd.pair (Kd.int .i64) (Kd.pair (Kd.int .i64) (Kd.slice 98 k98)))) (fun x => ((Lit.int .i64 x.1).wf = true ∧ ((Lit.int .i64 x.2.1).wf = true ∧ ((Lit.int .i64 x.2.2.1).wf = true ∧ (x.2.2.2.length ≤ maxLen ∧ ∀ e_ ∈ x.2.2.2, W98 e_))))) := by
  have h := opens_struct (P := Try.prog) (t := 24) Try.underlying24 (by kernel_rfl) (opensF_cons rfl (by kernel_rfl) o3 (opensF_cons rfl (by kernel_rfl) o3 (opensF_cons rfl (by kernel_rfl) o3 (opensF_one rfl (by kernel_rfl) o22))))
  exact h
theorem o39 : Opens Try.prog 39 k39 W39 := by
  have h := opens_iso (P := Try.prog) (t := 39) (fun x : S39 => (x.f0, x.f1, x.f2, x.f3)) (fun a => ⟨a.1, a.2.1, a.2.2.1, a.2.2.2⟩) (fun _ => rfl) (opens_struct Try.underlying39 (by kernel_rfl) (opensF_cons rfl (by kernel_rfl) o3 (opensF_cons rfl (by kernel_rfl) o3 (opensF_cons rfl (by kernel_rfl) o3 (opensF_one rfl (by kernel_rfl) o3)))))
  exact h
theorem o25 : Opens Try.prog 25 (Kd.slice 39 k39) (fun l => (l.length ≤ maxLen ∧ ∀ e_ ∈ l, W39 e_)) := opens_slice Try.underlying25 (by kernel_rfl) o39
set_option maxRecDepth 100000 in
theorem lifted (os : Os) (started : os.Started) (H : Type) (enc : TypeId × Value → H) :
    ReturnsInHanded {} Try.checked os 4 .any (Rows.fnExactAdmitFlowSpec.pre6 enc Try.prog Try.f4 Rows.fnExactAdmitFlowRow.domain false) (Rows.fnExactAdmitFlowSpec.post enc Try.prog Try.f4 false true false false) := by
  refine returnsInHanded_of_change_sized (C := Try.checked) own started (by kernel_rfl) Try.func4
    (ChangeSpec.witness6 (enc := enc) (C := Try.checked) false ⟨#[], #[.agg #[.int .i64 0, .int .i64 0, .int .i64 0, .slice none 0 0], .slice none 0 0, .agg #[.int .i64 0, .int .i64 0, .int .i64 0, .int .i64 0], .int .i64 0], []⟩ 8 (by kernel_rfl) (by kernel_rfl) (by kernel_rfl) (by kernel_rfl)) ?_
  intro W base args ds gs before hval0 hW hcnd hsz0 _
  have hval : ∀ (j : Nat) t v, Try.f4.params[j]? = some t → args[j]? = some v → Value.okWide Try.prog W .any base t v := hval0
  have hW' := hW
  obtain ⟨p, q, hA0, hV, rfl, hfz, hnd⟩ := hW
  have hA : DataW.TrodAll enc Try.prog W 0 (fun _ => true) true Try.f4.params.toList args.toList ds p := hA0
  rw [Try.params4] at hA hval
  obtain ⟨v0, vs0, d0, ds0, p0, q0, hargs, rfl, rfl, h0, r0⟩ := trodAll_cons hA
  obtain ⟨v1, vs1, d1, ds1, p1, q1, rfl, rfl, rfl, h1, r1⟩ := trodAll_cons r0
  obtain ⟨v2, vs2, d2, ds2, p2, q2, rfl, rfl, rfl, h2, r2⟩ := trodAll_cons r1
  obtain ⟨v3, vs3, d3, ds3, p3, q3, rfl, rfl, rfl, h3, r3⟩ := trodAll_cons r2
  obtain ⟨rfl, rfl, rfl⟩ := trodAll_nil r3
  obtain rfl : args = #[v0, v1, v2, v3] := by cases args; simp_all
  obtain ⟨rfl, rfl⟩ := trodVars_none hV
  obtain ⟨cs0, rfl, hs0⟩ := okWide_struct Try.underlying24 (hval 0 24 v0 rfl rfl)
  have k0 := h0
  have lt0 : ∀ x ∈ p0, x.block < W.heap.size := by obtain ⟨m, hm⟩ := k0; exact DataW.trod_lt m _ _ _ hm
  obtain ⟨fu0, hf0⟩ := h0
  obtain ⟨x0, hx0, wx0⟩ := o24 H enc W fu0 _ _ hf0
  obtain ⟨a0_0, a0_1, a0_2, l0_3⟩ := x0
  generalize hg0 : (Value.agg cs0).cells.toList = cl0 at hx0
  obtain ⟨_, _, rfl, rfl, ⟨_, _, rfl, rfl, ⟨_, _, rfl, rfl, ⟨A0_3, c0_3, rfl, hc0_3, hr0_3⟩⟩⟩⟩ := hx0
  obtain ⟨wa0_0, wa0_1, wa0_2, wl0_3⟩ := wx0
  have hg0' : cs0.toList = [.int .i64 a0_0, .int .i64 a0_1, .int .i64 a0_2, .slice A0_3 l0_3.length c0_3] := hg0
  obtain rfl : cs0 = #[.int .i64 a0_0, .int .i64 a0_1, .int .i64 a0_2, .slice A0_3 l0_3.length c0_3] := by cases cs0; simpa using hg0'
  obtain ⟨A1, n1, c1, rfl⟩ := okWide_slice Try.underlying25 (hval 1 25 v1 rfl rfl)
  have k1 := h1
  have lt1 : ∀ x ∈ p1, x.block < W.heap.size := by obtain ⟨m, hm⟩ := k1; exact DataW.trod_lt m _ _ _ hm
  obtain ⟨fu1, hf1⟩ := h1
  obtain ⟨x1, hx1, wx1⟩ := o25 H enc W fu1 _ _ hf1
  obtain ⟨A_, c_, e1, hc1, hr1⟩ := hx1
  have e1' : ([.slice A1 n1 c1] : List Value) = [.slice A_ x1.length c_] := e1
  injection e1' with e1' _
  injection e1' with ea_ eb_ ec_
  subst ea_; subst eb_; subst ec_
  obtain ⟨cs2, rfl, hs2⟩ := okWide_struct Try.underlying39 (hval 2 39 v2 rfl rfl)
  have k2 := h2
  have lt2 : ∀ x ∈ p2, x.block < W.heap.size := by obtain ⟨m, hm⟩ := k2; exact DataW.trod_lt m _ _ _ hm
  obtain ⟨fu2, hf2⟩ := h2
  obtain ⟨x2, hx2, wx2⟩ := o39 H enc W fu2 _ _ hf2
  obtain ⟨a2_0, a2_1, a2_2, a2_3⟩ := x2
  generalize hg2 : (Value.agg cs2).cells.toList = cl2 at hx2
  obtain ⟨_, _, rfl, rfl, ⟨_, _, rfl, rfl, ⟨_, _, rfl, rfl, rfl⟩⟩⟩ := hx2
  obtain ⟨wa2_0, wa2_1, wa2_2, wa2_3⟩ := wx2
  have hg2' : cs2.toList = [.int .i64 a2_0, .int .i64 a2_1, .int .i64 a2_2, .int .i64 a2_3] := hg2
  obtain rfl : cs2 = #[.int .i64 a2_0, .int .i64 a2_1, .int .i64 a2_2, .int .i64 a2_3] := by cases cs2; simpa using hg2'
  obtain ⟨a3, rfl, rfl, rfl, w3⟩ := open_int Try.underlying3 (hval 3 3 v3 rfl rfl) h3
  clear hA0 hval0 hsz0
  obtain ⟨k, hk⟩ := PureFnExactAdmitFlow.proved a0_0 a0_1 a0_2 l0_3 x1 a2_0 a2_1 a2_2 a2_3 a3 wa0_0 wa0_1 wa0_2 wl0_3 wx1 wa2_0 wa2_1 wa2_2 wa2_3 w3
  refine (laws_FnExactAdmitFlow.calls k a0_0 a0_1 a0_2 _ _ l0_3 _ _ x1 a2_0 a2_1 a2_2 a2_3 a3 true W hr0_3 hc0_3 hr1 hc1 rfl hk).mono fun e W' ⟨he, bel0⟩ => ?_
  have bel : Below W.heap.size W W' := bel0
  subst he
  exact ⟨_, rfl, _, _, _, [], _, [], hW', trodAll_mk1 (shut_bool Try.underlying4 _), (trodAll_cons_mk (Below.trod laidOut (by kernel_rfl) (of_decide_eq_true (by kernel_rfl)) k0 bel lt0) (trodAll_cons_mk (Below.trod laidOut (by kernel_rfl) (of_decide_eq_true (by kernel_rfl)) k1 bel lt1) (trodAll_cons_mk (Below.trod laidOut (by kernel_rfl) (of_decide_eq_true (by kernel_rfl)) k2 bel lt2) (trodAll_cons_mk (shut_int Try.underlying3 w3) trodAll_mk0)))), rfl, bel.frame _, fun h => by cases h⟩
theorem over : Rows.fnExactAdmitFlowRow.holds Try.pinned (OpenSpec.ofChange Rows.fnExactAdmitFlowSpec) :=
  OpenClaim.holds_of_wide 4 Try.f4 rfl rfl rfl rfl rfl rfl rfl ⟨rfl, rfl, rfl, rfl, rfl⟩ rfl rfl rfl rfl rfl (by kernel_rfl) Try.func4 (by kernel_rfl)
    (of_decide_eq_true (by kernel_rfl)) (by unfold Func.isWrapper; first | (rw [if_pos (by decide +kernel)]; kernel_rfl) | (rw [if_neg (by decide +kernel)]; exact ⟨rfl, rfl⟩))
    (fun os started H enc _ => lifted os started H enc)
theorem proved : Rows.FnExactAdmitFlowSaid := over
end Go.Proofs.Ytdodogkgmpaioaa.fnExactAdmitFlow
namespace Go.Proofs.Ytdodogkgmpaioaa
/-- The row, under a short name, for the claim. -/
theorem fnExactAdmitFlow_holds : Rows.FnExactAdmitFlowSaid := fnExactAdmitFlow.proved
end Go.Proofs.Ytdodogkgmpaioaa
