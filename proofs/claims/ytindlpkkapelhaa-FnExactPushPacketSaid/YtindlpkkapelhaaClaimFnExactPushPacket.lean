/- The law FnExactPushPacket, over the Go program's own text: for every input it answers true, and its arguments read as before. Conditions: none but the row's own. -/
import Derived.Test.YtindlpkkapelhaaRows
import Derived.Test.YtindlpkkapelhaaPFnExactPushPacketx4
import Derived.Test.YtindlpkkapelhaaOpen
import Derived.Test.YtindlpkkapelhaaPureFnExactPushPacket
import Derived.WalkKit
import Derived.ProofKit
import Derived.OpenShut
import Derived.ShutString
import Derived.ChangeOld
import Derived.Below
import Derived.SizedLaws
namespace Go.Proofs.Ytindlpkkapelhaa.fnExactPushPacket
open Go.ChangeShapes Go.WideShapes Go.ChangeAt Go.RowKit
open Go.ChangeMaps (open_string shut_string)
open Go.Proofs.Ytindlpkkapelhaa.PFnExactPushPacket Go.Proofs.YtindlpkkapelhaaW.PrintWords Go.Proofs.YtindlpkkapelhaaW.PrintLast Go.Proofs.Ytindlpkkapelhaa.Reads Go.Proofs.Ytindlpkkapelhaa.PureFnExactPushPacket
set_option linter.unusedVariables false
theorem own : ownKnob Try.prog.godebug = none := by kernel_rfl
theorem laidOut : laidOutB Try.prog = true := by kernel_rfl
theorem o3 : Opens Try.prog 3 (Kd.int .i64) (fun n => (Lit.int .i64 n).wf = true) := opens_int Try.underlying3
theorem o65 : Opens Try.prog 65 k65 W65 := by
  have h := opens_iso (P := Try.prog) (t := 65) (fun x : S65 => (x.f0, x.f1, x.f2, x.f3, x.f4, x.f5)) (fun a => ⟨a.1, a.2.1, a.2.2.1, a.2.2.2.1, a.2.2.2.2.1, a.2.2.2.2.2⟩) (fun _ => rfl) (opens_struct Try.underlying65 (by kernel_rfl) (opensF_cons rfl (by kernel_rfl) o3 (opensF_cons rfl (by kernel_rfl) o3 (opensF_cons rfl (by kernel_rfl) o3 (opensF_cons rfl (by kernel_rfl) o3 (opensF_cons rfl (by kernel_rfl) o3 (opensF_one rfl (by kernel_rfl) o3)))))))
  exact h
theorem o61 : Opens Try.prog 61 (Kd.slice 65 k65) (fun l => (l.length ≤ maxLen ∧ ∀ e_ ∈ l, W65 e_)) := opens_slice Try.underlying61 (by kernel_rfl) o65
theorem o63 : Opens Try.prog 63 (Kd.slice 65 k65) (fun x => (x.length ≤ maxLen ∧ ∀ e_ ∈ x, W65 e_)) := by
  have h := opens_struct (P := Try.prog) (t := 63) Try.underlying63 (by kernel_rfl) (opensF_one rfl (by kernel_rfl) o61)
  exact h
set_option maxRecDepth 100000 in
theorem lifted (os : Os) (started : os.Started) (H : Type) (enc : TypeId × Value → H) :
    ReturnsInHanded {} Try.checked os 8 .any (Rows.fnExactPushPacketSpec.pre6 enc Try.prog Try.f8 Rows.fnExactPushPacketRow.domain false) (Rows.fnExactPushPacketSpec.post enc Try.prog Try.f8 false true false false) := by
  refine returnsInHanded_of_change_sized (C := Try.checked) own started (by kernel_rfl) Try.func8
    (ChangeSpec.witness6 (enc := enc) (C := Try.checked) false ⟨#[], #[.agg #[.slice none 0 0], .agg #[.int .i64 0, .int .i64 0, .int .i64 0, .int .i64 0, .int .i64 0, .int .i64 0]], []⟩ 8 (by kernel_rfl) (by kernel_rfl) (by kernel_rfl) (by kernel_rfl)) ?_
  intro W base args ds gs before hval0 hW hcnd hsz0 _
  have hval : ∀ (j : Nat) t v, Try.f8.params[j]? = some t → args[j]? = some v → Value.okWide Try.prog W .any base t v := hval0
  have hW' := hW
  obtain ⟨p, q, hA0, hV, rfl, hfz, hnd⟩ := hW
  have hA : DataW.TrodAll enc Try.prog W 0 (fun _ => true) true Try.f8.params.toList args.toList ds p := hA0
  rw [Try.params8] at hA hval
  obtain ⟨v0, vs0, d0, ds0, p0, q0, hargs, rfl, rfl, h0, r0⟩ := trodAll_cons hA
  obtain ⟨v1, vs1, d1, ds1, p1, q1, rfl, rfl, rfl, h1, r1⟩ := trodAll_cons r0
  obtain ⟨rfl, rfl, rfl⟩ := trodAll_nil r1
  obtain rfl : args = #[v0, v1] := by cases args; simp_all
  obtain ⟨rfl, rfl⟩ := trodVars_none hV
  obtain ⟨cs0, rfl, hs0⟩ := okWide_struct Try.underlying63 (hval 0 63 v0 rfl rfl)
  have k0 := h0
  have lt0 : ∀ x ∈ p0, x.block < W.heap.size := by obtain ⟨m, hm⟩ := k0; exact DataW.trod_lt m _ _ _ hm
  obtain ⟨fu0, hf0⟩ := h0
  obtain ⟨l0_0, hx0, wl0_0⟩ := o63 H enc W fu0 _ _ hf0
  generalize hg0 : (Value.agg cs0).cells.toList = cl0 at hx0
  obtain ⟨A0_0, c0_0, rfl, hc0_0, hr0_0⟩ := hx0
  have hg0' : cs0.toList = [.slice A0_0 l0_0.length c0_0] := hg0
  obtain rfl : cs0 = #[.slice A0_0 l0_0.length c0_0] := by cases cs0; simpa using hg0'
  obtain ⟨cs1, rfl, hs1⟩ := okWide_struct Try.underlying65 (hval 1 65 v1 rfl rfl)
  have k1 := h1
  have lt1 : ∀ x ∈ p1, x.block < W.heap.size := by obtain ⟨m, hm⟩ := k1; exact DataW.trod_lt m _ _ _ hm
  obtain ⟨fu1, hf1⟩ := h1
  obtain ⟨x1, hx1, wx1⟩ := o65 H enc W fu1 _ _ hf1
  obtain ⟨a1_0, a1_1, a1_2, a1_3, a1_4, a1_5⟩ := x1
  generalize hg1 : (Value.agg cs1).cells.toList = cl1 at hx1
  obtain ⟨_, _, rfl, rfl, ⟨_, _, rfl, rfl, ⟨_, _, rfl, rfl, ⟨_, _, rfl, rfl, ⟨_, _, rfl, rfl, rfl⟩⟩⟩⟩⟩ := hx1
  obtain ⟨wa1_0, wa1_1, wa1_2, wa1_3, wa1_4, wa1_5⟩ := wx1
  have hg1' : cs1.toList = [.int .i64 a1_0, .int .i64 a1_1, .int .i64 a1_2, .int .i64 a1_3, .int .i64 a1_4, .int .i64 a1_5] := hg1
  obtain rfl : cs1 = #[.int .i64 a1_0, .int .i64 a1_1, .int .i64 a1_2, .int .i64 a1_3, .int .i64 a1_4, .int .i64 a1_5] := by cases cs1; simpa using hg1'
  clear hA0 hval0 hsz0
  obtain ⟨k, hk⟩ := PureFnExactPushPacket.proved l0_0 a1_0 a1_1 a1_2 a1_3 a1_4 a1_5 wl0_0 wa1_0 wa1_1 wa1_2 wa1_3 wa1_4 wa1_5
  refine (laws_FnExactPushPacket.calls k _ _ l0_0 a1_0 a1_1 a1_2 a1_3 a1_4 a1_5 true W hr0_0 hc0_0 rfl hk).mono fun e W' ⟨he, bel0⟩ => ?_
  have bel : Below W.heap.size W W' := bel0
  subst he
  exact ⟨_, rfl, _, _, _, [], _, [], hW', trodAll_mk1 (shut_bool Try.underlying4 _), (trodAll_cons_mk (Below.trod laidOut (by kernel_rfl) (of_decide_eq_true (by kernel_rfl)) k0 bel lt0) (trodAll_cons_mk (Below.trod laidOut (by kernel_rfl) (of_decide_eq_true (by kernel_rfl)) k1 bel lt1) trodAll_mk0)), rfl, bel.frame _, fun h => by cases h⟩
theorem over : Rows.fnExactPushPacketRow.holds Try.pinned (OpenSpec.ofChange Rows.fnExactPushPacketSpec) :=
  OpenClaim.holds_of_wide 8 Try.f8 rfl rfl rfl rfl rfl rfl rfl ⟨rfl, rfl, rfl, rfl, rfl⟩ rfl rfl rfl rfl rfl (by kernel_rfl) Try.func8 (by kernel_rfl)
    (of_decide_eq_true (by kernel_rfl)) (by unfold Func.isWrapper; first | (rw [if_pos (by decide +kernel)]; kernel_rfl) | (rw [if_neg (by decide +kernel)]; exact ⟨rfl, rfl⟩))
    (fun os started H enc _ => lifted os started H enc)
theorem proved : Rows.FnExactPushPacketSaid := over
end Go.Proofs.Ytindlpkkapelhaa.fnExactPushPacket
namespace Go.Proofs.Ytindlpkkapelhaa
/-- The row, under a short name, for the claim. -/
theorem fnExactPushPacket_holds : Rows.FnExactPushPacketSaid := fnExactPushPacket.proved
end Go.Proofs.Ytindlpkkapelhaa
