/- The law FnExactHandoversOf, over the Go program's own text: for every input it answers true, and its arguments read as before. Conditions: none but the row's own. -/
import Derived.Test.YtlogjmgghnifoaaRows
import Derived.Test.YtlogjmgghnifoaaPFnExactHandoversOfx10
import Derived.Test.YtlogjmgghnifoaaVFnExactHandoversOfOpen
import Derived.Test.YtlogjmgghnifoaaPureFnExactHandoversOf
import Derived.WalkKit
import Derived.ProofKit
import Derived.OpenShut
import Derived.ShutString
import Derived.ChangeOld
import Derived.Below
import Derived.SizedLaws
namespace Go.Proofs.Ytlogjmgghnifoaa.fnExactHandoversOf
open Go.ChangeShapes Go.WideShapes Go.ChangeAt Go.RowKit
open Go.ChangeMaps (open_string shut_string)
open Go.Proofs.Ytlogjmgghnifoaa.PFnExactHandoversOf Go.Proofs.YtlogjmgghnifoaaW.PrintWords Go.Proofs.YtlogjmgghnifoaaW.PrintLast Go.Proofs.Ytlogjmgghnifoaa.Reads Go.Proofs.Ytlogjmgghnifoaa.PureFnExactHandoversOf
set_option linter.unusedVariables false
theorem own : ownKnob Try.prog.godebug = none := by kernel_rfl
theorem laidOut : laidOutB Try.prog = true := by kernel_rfl
theorem o3 : Opens Try.prog 3 (Kd.int .i64) (fun n => (Lit.int .i64 n).wf = true) := opens_int Try.underlying3
theorem o174 : Opens Try.prog 174 k174 W174 := by
  have h := opens_iso (P := Try.prog) (t := 174) (fun x : S174 => (x.f0, x.f1)) (fun a => ⟨a.1, a.2⟩) (fun _ => rfl) (opens_struct Try.underlying174 (by kernel_rfl) (opensF_cons rfl (by kernel_rfl) o3 (opensF_one rfl (by kernel_rfl) o3)))
  exact h
theorem o168 : Opens Try.prog 168 k168 W168 := by
  have h := opens_iso (P := Try.prog) (t := 168) (fun x : S168 => (x.f0, x.f1)) (fun a => ⟨a.1, a.2⟩) (fun _ => rfl) (opens_struct Try.underlying168 (by kernel_rfl) (opensF_cons rfl (by kernel_rfl) o3 (opensF_one rfl (by kernel_rfl) o3)))
  exact h
theorem o92 : Opens Try.prog 92 (Kd.slice 168 k168) (fun l => (l.length ≤ maxLen ∧ ∀ e_ ∈ l, W168 e_)) := opens_slice Try.underlying92 (by kernel_rfl) o168
theorem o44 : Opens Try.prog 44 (Kd.slice 3 (Kd.int .i64)) (fun l => (l.length ≤ maxLen ∧ ∀ e_ ∈ l, (Lit.int .i64 e_).wf = true)) := opens_slice Try.underlying44 (by kernel_rfl) o3
theorem o285 : Opens Try.prog 285 k285 W285 := by
  have h := opens_iso (P := Try.prog) (t := 285) (fun x : S285 => (x.f0, x.f1, x.f2)) (fun a => ⟨a.1, a.2.1, a.2.2⟩) (fun _ => rfl) (opens_struct Try.underlying285 (by kernel_rfl) (opensF_cons rfl (by kernel_rfl) o3 (opensF_cons rfl (by kernel_rfl) o44 (opensF_one rfl (by kernel_rfl) o44))))
  exact h
theorem o175 : Opens Try.prog 175 (Kd.slice 285 k285) (fun l => (l.length ≤ maxLen ∧ ∀ e_ ∈ l, W285 e_)) := opens_slice Try.underlying175 (by kernel_rfl) o285
theorem o177 : Opens Try.prog 177 k177 W177 := by
  have h := opens_iso (P := Try.prog) (t := 177) (fun x : S177 => (x.f0, x.f1, x.f2)) (fun a => ⟨a.1, a.2.1, a.2.2⟩) (fun _ => rfl) (opens_struct Try.underlying177 (by kernel_rfl) (opensF_cons rfl (by kernel_rfl) o174 (opensF_cons rfl (by kernel_rfl) o92 (opensF_one rfl (by kernel_rfl) o175))))
  exact h
theorem o22 : Opens Try.prog 22 (Kd.slice 177 k177) (fun l => (l.length ≤ maxLen ∧ ∀ e_ ∈ l, W177 e_)) := opens_slice Try.underlying22 (by kernel_rfl) o177
theorem o24 : Opens Try.prog 24 (Kd.pair (Kd.int .i64) (Kd.pair (Kd.int .i64) (Kd.pair (Kd.int .i64) (Kd.slice 177 k177)))) (fun x => ((Lit.int .i64 x.1).wf = true ∧ ((Lit.int .i64 x.2.1).wf = true ∧ ((Lit.int .i64 x.2.2.1).wf = true ∧ (x.2.2.2.length ≤ maxLen ∧ ∀ e_ ∈ x.2.2.2, W177 e_))))) := by
  have h := opens_struct (P := Try.prog) (t := 24) Try.underlying24 (by kernel_rfl) (opensF_cons rfl (by kernel_rfl) o3 (opensF_cons rfl (by kernel_rfl) o3 (opensF_cons rfl (by kernel_rfl) o3 (opensF_one rfl (by kernel_rfl) o22))))
  exact h
set_option maxRecDepth 100000 in
theorem lifted (os : Os) (started : os.Started) (H : Type) (enc : TypeId × Value → H) :
    ReturnsInHanded {} Try.checked os 9 .any (Rows.fnExactHandoversOfSpec.pre6 enc Try.prog Try.f9 Rows.fnExactHandoversOfRow.domain false) (Rows.fnExactHandoversOfSpec.post enc Try.prog Try.f9 false true false false) := by
  refine returnsInHanded_of_change_sized (C := Try.checked) own started (by kernel_rfl) Try.func9
    (ChangeSpec.witness6 (enc := enc) (C := Try.checked) false ⟨#[], #[.agg #[.int .i64 0, .int .i64 0, .int .i64 0, .slice none 0 0], .int .i64 0], []⟩ 8 (by kernel_rfl) (by kernel_rfl) (by kernel_rfl) (by kernel_rfl)) ?_
  intro W base args ds gs before hval0 hW hcnd hsz0 _
  have hval : ∀ (j : Nat) t v, Try.f9.params[j]? = some t → args[j]? = some v → Value.okWide Try.prog W .any base t v := hval0
  have hW' := hW
  obtain ⟨p, q, hA0, hV, rfl, hfz, hnd⟩ := hW
  have hA : DataW.TrodAll enc Try.prog W 0 (fun _ => true) true Try.f9.params.toList args.toList ds p := hA0
  rw [Try.params9] at hA hval
  obtain ⟨v0, vs0, d0, ds0, p0, q0, hargs, rfl, rfl, h0, r0⟩ := trodAll_cons hA
  obtain ⟨v1, vs1, d1, ds1, p1, q1, rfl, rfl, rfl, h1, r1⟩ := trodAll_cons r0
  obtain ⟨rfl, rfl, rfl⟩ := trodAll_nil r1
  obtain rfl : args = #[v0, v1] := by cases args; simp_all
  obtain ⟨rfl, rfl⟩ := trodVars_none hV
  obtain ⟨cs0, rfl, hs0⟩ := okWide_struct Try.underlying24 (hval 0 24 v0 rfl rfl)
  have k0 := h0
  have lt0 : ∀ x ∈ p0, x.block < W.heap.size := by obtain ⟨m, hm⟩ := k0; exact DataW.trod_lt m _ _ _ hm
  obtain ⟨fu0, hf0⟩ := h0
  obtain ⟨x0, hx0, wx0⟩ := o24 H enc W fu0 _ _ hf0
  obtain ⟨a0_0, a0_1, a0_2, l0_3⟩ := x0
  generalize hg0 : (Value.agg cs0).cells.toList = cl0 at hx0
  obtain ⟨_, _, rfl, rfl, ⟨_, _, rfl, rfl, ⟨_, _, rfl, rfl, ⟨A0_3, c0_3, rfl, hc0_3, hr0_3⟩⟩⟩⟩ := hx0
  obtain ⟨wa0_0, wa0_1, wa0_2, wl0_3⟩ := wx0
  have hg0' : cs0.toList = [.int .i64 a0_0, .int .i64 a0_1, .int .i64 a0_2, .slice A0_3 l0_3.length c0_3] := hg0
  obtain rfl : cs0 = #[.int .i64 a0_0, .int .i64 a0_1, .int .i64 a0_2, .slice A0_3 l0_3.length c0_3] := by cases cs0; simpa using hg0'
  obtain ⟨a1, rfl, rfl, rfl, w1⟩ := open_int Try.underlying3 (hval 1 3 v1 rfl rfl) h1
  clear hA0 hval0 hsz0
  obtain ⟨k, hk⟩ := PureFnExactHandoversOf.proved a0_0 a0_1 a0_2 l0_3 a1 wa0_0 wa0_1 wa0_2 wl0_3 w1
  refine (laws_FnExactHandoversOf.calls k a0_0 a0_1 a0_2 _ _ l0_3 a1 true W hr0_3 hc0_3 rfl hk).mono fun e W' ⟨he, bel0⟩ => ?_
  have bel : Below W.heap.size W W' := bel0
  subst he
  exact ⟨_, rfl, _, _, _, [], _, [], hW', trodAll_mk1 (shut_bool Try.underlying4 _), (trodAll_cons_mk (Below.trod laidOut (by kernel_rfl) (of_decide_eq_true (by kernel_rfl)) k0 bel lt0) (trodAll_cons_mk (shut_int Try.underlying3 w1) trodAll_mk0)), rfl, bel.frame _, fun h => by cases h⟩
theorem over : Rows.fnExactHandoversOfRow.holds Try.pinned (OpenSpec.ofChange Rows.fnExactHandoversOfSpec) :=
  OpenClaim.holds_of_wide 9 Try.f9 rfl rfl rfl rfl rfl rfl rfl ⟨rfl, rfl, rfl, rfl, rfl⟩ rfl rfl rfl rfl rfl (by kernel_rfl) Try.func9 (by kernel_rfl)
    (of_decide_eq_true (by kernel_rfl)) (by unfold Func.isWrapper; first | (rw [if_pos (by decide +kernel)]; kernel_rfl) | (rw [if_neg (by decide +kernel)]; exact ⟨rfl, rfl⟩))
    (fun os started H enc _ => lifted os started H enc)
theorem proved : Rows.FnExactHandoversOfSaid := over
end Go.Proofs.Ytlogjmgghnifoaa.fnExactHandoversOf
namespace Go.Proofs.Ytlogjmgghnifoaa
/-- The row, under a short name, for the claim. -/
theorem fnExactHandoversOf_holds : Rows.FnExactHandoversOfSaid := fnExactHandoversOf.proved
end Go.Proofs.Ytlogjmgghnifoaa
