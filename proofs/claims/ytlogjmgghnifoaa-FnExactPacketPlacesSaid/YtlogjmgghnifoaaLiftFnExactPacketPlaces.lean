/- The walk's row for the law FnExactPacketPlaces, over the Go program's own text: for every input it answers true, and its arguments read as before. Conditions: none but the row's own. -/
import Derived.Test.YtlogjmgghnifoaaRows
import Derived.Test.YtlogjmgghnifoaaPFnExactPacketPlacesx14
import Derived.Test.YtlogjmgghnifoaaVFnExactPacketPlacesOpen
import Derived.Test.YtlogjmgghnifoaaPureFnExactPacketPlaces
import Derived.WalkKit
import Derived.ProofKit
import Derived.OpenShut
import Derived.ShutString
import Derived.ChangeOld
import Derived.Below
import Derived.SizedLaws
namespace Go.Proofs.Ytlogjmgghnifoaa.fnExactPacketPlaces
open Go.ChangeShapes Go.WideShapes Go.ChangeAt Go.RowKit
open Go.ChangeMaps (open_string shut_string)
open Go.Proofs.Ytlogjmgghnifoaa.PFnExactPacketPlaces Go.Proofs.YtlogjmgghnifoaaW.PrintWords Go.Proofs.YtlogjmgghnifoaaW.PrintLast Go.Proofs.Ytlogjmgghnifoaa.Reads Go.Proofs.Ytlogjmgghnifoaa.PureFnExactPacketPlaces
set_option linter.unusedVariables false
theorem own : ownKnob Try.prog.godebug = none := by kernel_rfl
theorem laidOut : laidOutB Try.prog = true := by kernel_rfl
theorem o3 : Opens Try.prog 3 (Kd.int .i64) (fun n => (Lit.int .i64 n).wf = true) := opens_int Try.underlying3
theorem o251 : Opens Try.prog 251 k251 W251 := by
  have h := opens_iso (P := Try.prog) (t := 251) (fun x : S251 => (x.f0, x.f1, x.f2, x.f3)) (fun a => ⟨a.1, a.2.1, a.2.2.1, a.2.2.2⟩) (fun _ => rfl) (opens_struct Try.underlying251 (by kernel_rfl) (opensF_cons rfl (by kernel_rfl) o3 (opensF_cons rfl (by kernel_rfl) o3 (opensF_cons rfl (by kernel_rfl) o3 (opensF_one rfl (by kernel_rfl) o3)))))
  exact h
theorem o39 : Opens Try.prog 39 (Kd.slice 251 k251) (fun l => (l.length ≤ maxLen ∧ ∀ e_ ∈ l, W251 e_)) := opens_slice Try.underlying39 (by kernel_rfl) o251
theorem o255 : Opens Try.prog 255 k255 W255 := by
  have h := opens_iso (P := Try.prog) (t := 255) (fun x : S255 => (x.f0, x.f1, x.f2)) (fun a => ⟨a.1, a.2.1, a.2.2⟩) (fun _ => rfl) (opens_struct Try.underlying255 (by kernel_rfl) (opensF_cons rfl (by kernel_rfl) o3 (opensF_cons rfl (by kernel_rfl) o3 (opensF_one rfl (by kernel_rfl) o3))))
  exact h
theorem o40 : Opens Try.prog 40 (Kd.slice 255 k255) (fun l => (l.length ≤ maxLen ∧ ∀ e_ ∈ l, W255 e_)) := opens_slice Try.underlying40 (by kernel_rfl) o255
theorem o261 : Opens Try.prog 261 k261 W261 := by
  have h := opens_iso (P := Try.prog) (t := 261) (fun x : S261 => (x.f0, x.f1)) (fun a => ⟨a.1, a.2⟩) (fun _ => rfl) (opens_struct Try.underlying261 (by kernel_rfl) (opensF_cons rfl (by kernel_rfl) o3 (opensF_one rfl (by kernel_rfl) o3)))
  exact h
theorem o263 : Opens Try.prog 263 k263 W263 := by
  have h := opens_iso (P := Try.prog) (t := 263) (fun x : S263 => (x.f0, x.f1)) (fun a => ⟨a.1, a.2⟩) (fun _ => rfl) (opens_struct Try.underlying263 (by kernel_rfl) (opensF_cons rfl (by kernel_rfl) o3 (opensF_one rfl (by kernel_rfl) o261)))
  exact h
theorem o41 : Opens Try.prog 41 (Kd.slice 263 k263) (fun l => (l.length ≤ maxLen ∧ ∀ e_ ∈ l, W263 e_)) := opens_slice Try.underlying41 (by kernel_rfl) o263
theorem o43 : Opens Try.prog 43 (Kd.pair (Kd.int .i64) (Kd.pair (Kd.slice 251 k251) (Kd.pair (Kd.slice 255 k255) (Kd.pair (Kd.int .i64) (Kd.pair (Kd.int .i64) (Kd.pair (Kd.int .i64) (Kd.pair (Kd.int .i64) (Kd.pair (Kd.int .i64) (Kd.pair (Kd.slice 263 k263) (Kd.int .i64)))))))))) (fun x => ((Lit.int .i64 x.1).wf = true ∧ ((x.2.1.length ≤ maxLen ∧ ∀ e_ ∈ x.2.1, W251 e_) ∧ ((x.2.2.1.length ≤ maxLen ∧ ∀ e_ ∈ x.2.2.1, W255 e_) ∧ ((Lit.int .i64 x.2.2.2.1).wf = true ∧ ((Lit.int .i64 x.2.2.2.2.1).wf = true ∧ ((Lit.int .i64 x.2.2.2.2.2.1).wf = true ∧ ((Lit.int .i64 x.2.2.2.2.2.2.1).wf = true ∧ ((Lit.int .i64 x.2.2.2.2.2.2.2.1).wf = true ∧ ((x.2.2.2.2.2.2.2.2.1.length ≤ maxLen ∧ ∀ e_ ∈ x.2.2.2.2.2.2.2.2.1, W263 e_) ∧ (Lit.int .i64 x.2.2.2.2.2.2.2.2.2).wf = true)))))))))) := by
  have h := opens_struct (P := Try.prog) (t := 43) Try.underlying43 (by kernel_rfl) (opensF_cons rfl (by kernel_rfl) o3 (opensF_cons rfl (by kernel_rfl) o39 (opensF_cons rfl (by kernel_rfl) o40 (opensF_cons rfl (by kernel_rfl) o3 (opensF_cons rfl (by kernel_rfl) o3 (opensF_cons rfl (by kernel_rfl) o3 (opensF_cons rfl (by kernel_rfl) o3 (opensF_cons rfl (by kernel_rfl) o3 (opensF_cons rfl (by kernel_rfl) o41 (opensF_one rfl (by kernel_rfl) o3))))))))))
  exact h
theorem o174 : Opens Try.prog 174 k174 W174 := by
  have h := opens_iso (P := Try.prog) (t := 174) (fun x : S174 => (x.f0, x.f1)) (fun a => ⟨a.1, a.2⟩) (fun _ => rfl) (opens_struct Try.underlying174 (by kernel_rfl) (opensF_cons rfl (by kernel_rfl) o3 (opensF_one rfl (by kernel_rfl) o3)))
  exact h
theorem o168 : Opens Try.prog 168 k168 W168 := by
  have h := opens_iso (P := Try.prog) (t := 168) (fun x : S168 => (x.f0, x.f1)) (fun a => ⟨a.1, a.2⟩) (fun _ => rfl) (opens_struct Try.underlying168 (by kernel_rfl) (opensF_cons rfl (by kernel_rfl) o3 (opensF_one rfl (by kernel_rfl) o3)))
  exact h
theorem o92 : Opens Try.prog 92 (Kd.slice 168 k168) (fun l => (l.length ≤ maxLen ∧ ∀ e_ ∈ l, W168 e_)) := opens_slice Try.underlying92 (by kernel_rfl) o168
theorem o44 : Opens Try.prog 44 (Kd.slice 3 (Kd.int .i64)) (fun l => (l.length ≤ maxLen ∧ ∀ e_ ∈ l, (Lit.int .i64 e_).wf = true)) := opens_slice Try.underlying44 (by kernel_rfl) o3
theorem o285 : Opens Try.prog 285 k285 W285 := by
  have h := opens_iso (P := Try.prog) (t := 285) (fun x : S285 => (x.f0, x.f1, x.f2)) (fun a => ⟨a.1, a.2.1, a.2.2⟩) (fun _ => rfl) (opens_struct Try.underlying285 (by kernel_rfl) (opensF_cons rfl (by kernel_rfl) o3 (opensF_cons rfl (by kernel_rfl) o44 (opensF_one rfl (by kernel_rfl) o44))))
  exact h
theorem o175 : Opens Try.prog 175 (Kd.slice 285 k285) (fun l => (l.length ≤ maxLen ∧ ∀ e_ ∈ l, W285 e_)) := opens_slice Try.underlying175 (by kernel_rfl) o285
theorem o177 : Opens Try.prog 177 k177 W177 := by
  have h := opens_iso (P := Try.prog) (t := 177) (fun x : S177 => (x.f0, x.f1, x.f2)) (fun a => ⟨a.1, a.2.1, a.2.2⟩) (fun _ => rfl) (opens_struct Try.underlying177 (by kernel_rfl) (opensF_cons rfl (by kernel_rfl) o174 (opensF_cons rfl (by kernel_rfl) o92 (opensF_one rfl (by kernel_rfl) o175))))
  exact h
theorem o22 : Opens Try.prog 22 (Kd.slice 177 k177) (fun l => (l.length ≤ maxLen ∧ ∀ e_ ∈ l, W177 e_)) := opens_slice Try.underlying22 (by kernel_rfl) o177
theorem o24 : Opens Try.prog 24 (Kd.pair (Kd.int .i64) (Kd.pair (Kd.int .i64) (Kd.pair (Kd.int .i64) (Kd.slice 177 k177)))) (fun x => ((Lit.int .i64 x.1).wf = true ∧ ((Lit.int .i64 x.2.1).wf = true ∧ ((Lit.int .i64 x.2.2.1).wf = true ∧ (x.2.2.2.length ≤ maxLen ∧ ∀ e_ ∈ x.2.2.2, W177 e_))))) := by
  have h := opens_struct (P := Try.prog) (t := 24) Try.underlying24 (by kernel_rfl) (opensF_cons rfl (by kernel_rfl) o3 (opensF_cons rfl (by kernel_rfl) o3 (opensF_cons rfl (by kernel_rfl) o3 (opensF_one rfl (by kernel_rfl) o22))))
  exact h
theorem o46 : Opens Try.prog 46 (Kd.slice 3 (Kd.int .i64)) (fun x => (x.length ≤ maxLen ∧ ∀ e_ ∈ x, (Lit.int .i64 e_).wf = true)) := by
  have h := opens_struct (P := Try.prog) (t := 46) Try.underlying46 (by kernel_rfl) (opensF_one rfl (by kernel_rfl) o44)
  exact h
theorem o197 : Opens Try.prog 197 k197 W197 := by
  have h := opens_iso (P := Try.prog) (t := 197) (fun x : S197 => (x.f0, x.f1, x.f2, x.f3, x.f4, x.f5)) (fun a => ⟨a.1, a.2.1, a.2.2.1, a.2.2.2.1, a.2.2.2.2.1, a.2.2.2.2.2⟩) (fun _ => rfl) (opens_struct Try.underlying197 (by kernel_rfl) (opensF_cons rfl (by kernel_rfl) o3 (opensF_cons rfl (by kernel_rfl) o3 (opensF_cons rfl (by kernel_rfl) o3 (opensF_cons rfl (by kernel_rfl) o3 (opensF_cons rfl (by kernel_rfl) o3 (opensF_one rfl (by kernel_rfl) o3)))))))
  exact h
theorem o47 : Opens Try.prog 47 (Kd.slice 197 k197) (fun l => (l.length ≤ maxLen ∧ ∀ e_ ∈ l, W197 e_)) := opens_slice Try.underlying47 (by kernel_rfl) o197
theorem o210 : Opens Try.prog 210 k210 W210 := by
  have h := opens_iso (P := Try.prog) (t := 210) (fun x : S210 => (x.f0, x.f1, x.f2, x.f3, x.f4, x.f5)) (fun a => ⟨a.1, a.2.1, a.2.2.1, a.2.2.2.1, a.2.2.2.2.1, a.2.2.2.2.2⟩) (fun _ => rfl) (opens_struct Try.underlying210 (by kernel_rfl) (opensF_cons rfl (by kernel_rfl) o3 (opensF_cons rfl (by kernel_rfl) o3 (opensF_cons rfl (by kernel_rfl) o3 (opensF_cons rfl (by kernel_rfl) o3 (opensF_cons rfl (by kernel_rfl) o3 (opensF_one rfl (by kernel_rfl) o3)))))))
  exact h
theorem o52 : Opens Try.prog 52 (Kd.slice 210 k210) (fun l => (l.length ≤ maxLen ∧ ∀ e_ ∈ l, W210 e_)) := opens_slice Try.underlying52 (by kernel_rfl) o210
theorem o187 : Opens Try.prog 187 k187 W187 := by
  have h := opens_iso (P := Try.prog) (t := 187) (fun x : S187 => x.f0) (fun a => ⟨a⟩) (fun _ => rfl) (opens_struct Try.underlying187 (by kernel_rfl) (opensF_one rfl (by kernel_rfl) o52))
  exact h
theorem o48 : Opens Try.prog 48 (Kd.slice 187 k187) (fun l => (l.length ≤ maxLen ∧ ∀ e_ ∈ l, W187 e_)) := opens_slice Try.underlying48 (by kernel_rfl) o187
theorem o202 : Opens Try.prog 202 k202 W202 := by
  have h := opens_iso (P := Try.prog) (t := 202) (fun x : S202 => (x.f0, x.f1, x.f2, x.f3)) (fun a => ⟨a.1, a.2.1, a.2.2.1, a.2.2.2⟩) (fun _ => rfl) (opens_struct Try.underlying202 (by kernel_rfl) (opensF_cons rfl (by kernel_rfl) o3 (opensF_cons rfl (by kernel_rfl) o3 (opensF_cons rfl (by kernel_rfl) o3 (opensF_one rfl (by kernel_rfl) o3)))))
  exact h
theorem o49 : Opens Try.prog 49 (Kd.slice 202 k202) (fun l => (l.length ≤ maxLen ∧ ∀ e_ ∈ l, W202 e_)) := opens_slice Try.underlying49 (by kernel_rfl) o202
theorem o190 : Opens Try.prog 190 k190 W190 := by
  have h := opens_iso (P := Try.prog) (t := 190) (fun x : S190 => (x.f0, x.f1, x.f2)) (fun a => ⟨a.1, a.2.1, a.2.2⟩) (fun _ => rfl) (opens_struct Try.underlying190 (by kernel_rfl) (opensF_cons rfl (by kernel_rfl) o3 (opensF_cons rfl (by kernel_rfl) o3 (opensF_one rfl (by kernel_rfl) o44))))
  exact h
theorem o50 : Opens Try.prog 50 (Kd.slice 190 k190) (fun l => (l.length ≤ maxLen ∧ ∀ e_ ∈ l, W190 e_)) := opens_slice Try.underlying50 (by kernel_rfl) o190
theorem o208 : Opens Try.prog 208 k208 W208 := by
  have h := opens_iso (P := Try.prog) (t := 208) (fun x : S208 => (x.f0, x.f1, x.f2, x.f3)) (fun a => ⟨a.1, a.2.1, a.2.2.1, a.2.2.2⟩) (fun _ => rfl) (opens_struct Try.underlying208 (by kernel_rfl) (opensF_cons rfl (by kernel_rfl) o3 (opensF_cons rfl (by kernel_rfl) o3 (opensF_cons rfl (by kernel_rfl) o3 (opensF_one rfl (by kernel_rfl) o3)))))
  exact h
theorem o51 : Opens Try.prog 51 (Kd.slice 208 k208) (fun l => (l.length ≤ maxLen ∧ ∀ e_ ∈ l, W208 e_)) := opens_slice Try.underlying51 (by kernel_rfl) o208
theorem o214 : Opens Try.prog 214 k214 W214 := by
  have h := opens_iso (P := Try.prog) (t := 214) (fun x : S214 => (x.f0, x.f1, x.f2, x.f3)) (fun a => ⟨a.1, a.2.1, a.2.2.1, a.2.2.2⟩) (fun _ => rfl) (opens_struct Try.underlying214 (by kernel_rfl) (opensF_cons rfl (by kernel_rfl) o3 (opensF_cons rfl (by kernel_rfl) o3 (opensF_cons rfl (by kernel_rfl) o3 (opensF_one rfl (by kernel_rfl) o3)))))
  exact h
theorem o53 : Opens Try.prog 53 (Kd.slice 214 k214) (fun l => (l.length ≤ maxLen ∧ ∀ e_ ∈ l, W214 e_)) := opens_slice Try.underlying53 (by kernel_rfl) o214
theorem o55 : Opens Try.prog 55 (Kd.pair (Kd.pair (Kd.int .i64) (Kd.pair (Kd.slice 251 k251) (Kd.pair (Kd.slice 255 k255) (Kd.pair (Kd.int .i64) (Kd.pair (Kd.int .i64) (Kd.pair (Kd.int .i64) (Kd.pair (Kd.int .i64) (Kd.pair (Kd.int .i64) (Kd.pair (Kd.slice 263 k263) (Kd.int .i64)))))))))) (Kd.pair (Kd.pair (Kd.int .i64) (Kd.pair (Kd.int .i64) (Kd.pair (Kd.int .i64) (Kd.slice 177 k177)))) (Kd.pair (Kd.slice 3 (Kd.int .i64)) (Kd.pair (Kd.slice 3 (Kd.int .i64)) (Kd.pair (Kd.slice 197 k197) (Kd.pair (Kd.slice 187 k187) (Kd.pair (Kd.slice 202 k202) (Kd.pair (Kd.slice 3 (Kd.int .i64)) (Kd.pair (Kd.slice 190 k190) (Kd.pair (Kd.slice 208 k208) (Kd.pair (Kd.int .i64) (Kd.pair (Kd.int .i64) (Kd.pair (Kd.slice 210 k210) (Kd.slice 214 k214)))))))))))))) (fun x => (((Lit.int .i64 x.1.1).wf = true ∧ ((x.1.2.1.length ≤ maxLen ∧ ∀ e_ ∈ x.1.2.1, W251 e_) ∧ ((x.1.2.2.1.length ≤ maxLen ∧ ∀ e_ ∈ x.1.2.2.1, W255 e_) ∧ ((Lit.int .i64 x.1.2.2.2.1).wf = true ∧ ((Lit.int .i64 x.1.2.2.2.2.1).wf = true ∧ ((Lit.int .i64 x.1.2.2.2.2.2.1).wf = true ∧ ((Lit.int .i64 x.1.2.2.2.2.2.2.1).wf = true ∧ ((Lit.int .i64 x.1.2.2.2.2.2.2.2.1).wf = true ∧ ((x.1.2.2.2.2.2.2.2.2.1.length ≤ maxLen ∧ ∀ e_ ∈ x.1.2.2.2.2.2.2.2.2.1, W263 e_) ∧ (Lit.int .i64 x.1.2.2.2.2.2.2.2.2.2).wf = true))))))))) ∧ (((Lit.int .i64 x.2.1.1).wf = true ∧ ((Lit.int .i64 x.2.1.2.1).wf = true ∧ ((Lit.int .i64 x.2.1.2.2.1).wf = true ∧ (x.2.1.2.2.2.length ≤ maxLen ∧ ∀ e_ ∈ x.2.1.2.2.2, W177 e_)))) ∧ ((x.2.2.1.length ≤ maxLen ∧ ∀ e_ ∈ x.2.2.1, (Lit.int .i64 e_).wf = true) ∧ ((x.2.2.2.1.length ≤ maxLen ∧ ∀ e_ ∈ x.2.2.2.1, (Lit.int .i64 e_).wf = true) ∧ ((x.2.2.2.2.1.length ≤ maxLen ∧ ∀ e_ ∈ x.2.2.2.2.1, W197 e_) ∧ ((x.2.2.2.2.2.1.length ≤ maxLen ∧ ∀ e_ ∈ x.2.2.2.2.2.1, W187 e_) ∧ ((x.2.2.2.2.2.2.1.length ≤ maxLen ∧ ∀ e_ ∈ x.2.2.2.2.2.2.1, W202 e_) ∧ ((x.2.2.2.2.2.2.2.1.length ≤ maxLen ∧ ∀ e_ ∈ x.2.2.2.2.2.2.2.1, (Lit.int .i64 e_).wf = true) ∧ ((x.2.2.2.2.2.2.2.2.1.length ≤ maxLen ∧ ∀ e_ ∈ x.2.2.2.2.2.2.2.2.1, W190 e_) ∧ ((x.2.2.2.2.2.2.2.2.2.1.length ≤ maxLen ∧ ∀ e_ ∈ x.2.2.2.2.2.2.2.2.2.1, W208 e_) ∧ ((Lit.int .i64 x.2.2.2.2.2.2.2.2.2.2.1).wf = true ∧ ((Lit.int .i64 x.2.2.2.2.2.2.2.2.2.2.2.1).wf = true ∧ ((x.2.2.2.2.2.2.2.2.2.2.2.2.1.length ≤ maxLen ∧ ∀ e_ ∈ x.2.2.2.2.2.2.2.2.2.2.2.2.1, W210 e_) ∧ (x.2.2.2.2.2.2.2.2.2.2.2.2.2.length ≤ maxLen ∧ ∀ e_ ∈ x.2.2.2.2.2.2.2.2.2.2.2.2.2, W214 e_))))))))))))))) := by
  have h := opens_struct (P := Try.prog) (t := 55) Try.underlying55 (by kernel_rfl) (opensF_cons rfl (by kernel_rfl) o43 (opensF_cons rfl (by kernel_rfl) o24 (opensF_cons rfl (by kernel_rfl) o46 (opensF_cons rfl (by kernel_rfl) o44 (opensF_cons rfl (by kernel_rfl) o47 (opensF_cons rfl (by kernel_rfl) o48 (opensF_cons rfl (by kernel_rfl) o49 (opensF_cons rfl (by kernel_rfl) o44 (opensF_cons rfl (by kernel_rfl) o50 (opensF_cons rfl (by kernel_rfl) o51 (opensF_cons rfl (by kernel_rfl) o3 (opensF_cons rfl (by kernel_rfl) o3 (opensF_cons rfl (by kernel_rfl) o52 (opensF_one rfl (by kernel_rfl) o53))))))))))))))
  exact h
set_option maxRecDepth 100000 in
theorem lifted (os : Os) (started : os.Started) (H : Type) (enc : TypeId × Value → H) :
    ReturnsInHanded {} Try.checked os 5 .any (Rows.fnExactPacketPlacesSpec.pre6 enc Try.prog Try.f5 Rows.fnExactPacketPlacesRow.domain false) (Rows.fnExactPacketPlacesSpec.post enc Try.prog Try.f5 false true false false) := by
  refine returnsInHanded_of_change_sized (C := Try.checked) own started (by kernel_rfl) Try.func5
    (ChangeSpec.witness6 (enc := enc) (C := Try.checked) false ⟨#[], #[.agg #[.int .i64 0, .slice none 0 0, .slice none 0 0, .int .i64 0, .int .i64 0, .int .i64 0, .int .i64 0, .int .i64 0, .slice none 0 0, .int .i64 0, .int .i64 0, .int .i64 0, .int .i64 0, .slice none 0 0, .slice none 0 0, .slice none 0 0, .slice none 0 0, .slice none 0 0, .slice none 0 0, .slice none 0 0, .slice none 0 0, .slice none 0 0, .int .i64 0, .int .i64 0, .slice none 0 0, .slice none 0 0], .int .i64 0], []⟩ 8 (by kernel_rfl) (by kernel_rfl) (by kernel_rfl) (by kernel_rfl)) ?_
  intro W base args ds gs before hval0 hW hcnd hsz0 _
  have hval : ∀ (j : Nat) t v, Try.f5.params[j]? = some t → args[j]? = some v → Value.okWide Try.prog W .any base t v := hval0
  have hW' := hW
  obtain ⟨p, q, hA0, hV, rfl, hfz, hnd⟩ := hW
  have hA : DataW.TrodAll enc Try.prog W 0 (fun _ => true) true Try.f5.params.toList args.toList ds p := hA0
  rw [Try.params5] at hA hval
  obtain ⟨v0, vs0, d0, ds0, p0, q0, hargs, rfl, rfl, h0, r0⟩ := trodAll_cons hA
  obtain ⟨v1, vs1, d1, ds1, p1, q1, rfl, rfl, rfl, h1, r1⟩ := trodAll_cons r0
  obtain ⟨rfl, rfl, rfl⟩ := trodAll_nil r1
  obtain rfl : args = #[v0, v1] := by cases args; simp_all
  obtain ⟨rfl, rfl⟩ := trodVars_none hV
  obtain ⟨cs0, rfl, hs0⟩ := okWide_struct Try.underlying55 (hval 0 55 v0 rfl rfl)
  have k0 := h0
  have lt0 : ∀ x ∈ p0, x.block < W.heap.size := by obtain ⟨m, hm⟩ := k0; exact DataW.trod_lt m _ _ _ hm
  obtain ⟨fu0, hf0⟩ := h0
  obtain ⟨x0, hx0, wx0⟩ := o55 H enc W fu0 _ _ hf0
  obtain ⟨⟨a0_0, l0_1, l0_2, a0_3, a0_4, a0_5, a0_6, a0_7, l0_8, a0_9⟩, ⟨a0_10, a0_11, a0_12, l0_13⟩, l0_14, l0_15, l0_16, l0_17, l0_18, l0_19, l0_20, l0_21, a0_22, a0_23, l0_24, l0_25⟩ := x0
  generalize hg0 : (Value.agg cs0).cells.toList = cl0 at hx0
  obtain ⟨_, _, rfl, ⟨_, _, rfl, rfl, ⟨_, _, rfl, ⟨A0_1, c0_1, rfl, hc0_1, hr0_1⟩, ⟨_, _, rfl, ⟨A0_2, c0_2, rfl, hc0_2, hr0_2⟩, ⟨_, _, rfl, rfl, ⟨_, _, rfl, rfl, ⟨_, _, rfl, rfl, ⟨_, _, rfl, rfl, ⟨_, _, rfl, rfl, ⟨_, _, rfl, ⟨A0_8, c0_8, rfl, hc0_8, hr0_8⟩, rfl⟩⟩⟩⟩⟩⟩⟩⟩⟩, ⟨_, _, rfl, ⟨_, _, rfl, rfl, ⟨_, _, rfl, rfl, ⟨_, _, rfl, rfl, ⟨A0_13, c0_13, rfl, hc0_13, hr0_13⟩⟩⟩⟩, ⟨_, _, rfl, ⟨A0_14, c0_14, rfl, hc0_14, hr0_14⟩, ⟨_, _, rfl, ⟨A0_15, c0_15, rfl, hc0_15, hr0_15⟩, ⟨_, _, rfl, ⟨A0_16, c0_16, rfl, hc0_16, hr0_16⟩, ⟨_, _, rfl, ⟨A0_17, c0_17, rfl, hc0_17, hr0_17⟩, ⟨_, _, rfl, ⟨A0_18, c0_18, rfl, hc0_18, hr0_18⟩, ⟨_, _, rfl, ⟨A0_19, c0_19, rfl, hc0_19, hr0_19⟩, ⟨_, _, rfl, ⟨A0_20, c0_20, rfl, hc0_20, hr0_20⟩, ⟨_, _, rfl, ⟨A0_21, c0_21, rfl, hc0_21, hr0_21⟩, ⟨_, _, rfl, rfl, ⟨_, _, rfl, rfl, ⟨_, _, rfl, ⟨A0_24, c0_24, rfl, hc0_24, hr0_24⟩, ⟨A0_25, c0_25, rfl, hc0_25, hr0_25⟩⟩⟩⟩⟩⟩⟩⟩⟩⟩⟩⟩⟩⟩ := hx0
  obtain ⟨⟨wa0_0, wl0_1, wl0_2, wa0_3, wa0_4, wa0_5, wa0_6, wa0_7, wl0_8, wa0_9⟩, ⟨wa0_10, wa0_11, wa0_12, wl0_13⟩, wl0_14, wl0_15, wl0_16, wl0_17, wl0_18, wl0_19, wl0_20, wl0_21, wa0_22, wa0_23, wl0_24, wl0_25⟩ := wx0
  have hg0' : cs0.toList = [.int .i64 a0_0, .slice A0_1 l0_1.length c0_1, .slice A0_2 l0_2.length c0_2, .int .i64 a0_3, .int .i64 a0_4, .int .i64 a0_5, .int .i64 a0_6, .int .i64 a0_7, .slice A0_8 l0_8.length c0_8, .int .i64 a0_9, .int .i64 a0_10, .int .i64 a0_11, .int .i64 a0_12, .slice A0_13 l0_13.length c0_13, .slice A0_14 l0_14.length c0_14, .slice A0_15 l0_15.length c0_15, .slice A0_16 l0_16.length c0_16, .slice A0_17 l0_17.length c0_17, .slice A0_18 l0_18.length c0_18, .slice A0_19 l0_19.length c0_19, .slice A0_20 l0_20.length c0_20, .slice A0_21 l0_21.length c0_21, .int .i64 a0_22, .int .i64 a0_23, .slice A0_24 l0_24.length c0_24, .slice A0_25 l0_25.length c0_25] := hg0
  obtain rfl : cs0 = #[.int .i64 a0_0, .slice A0_1 l0_1.length c0_1, .slice A0_2 l0_2.length c0_2, .int .i64 a0_3, .int .i64 a0_4, .int .i64 a0_5, .int .i64 a0_6, .int .i64 a0_7, .slice A0_8 l0_8.length c0_8, .int .i64 a0_9, .int .i64 a0_10, .int .i64 a0_11, .int .i64 a0_12, .slice A0_13 l0_13.length c0_13, .slice A0_14 l0_14.length c0_14, .slice A0_15 l0_15.length c0_15, .slice A0_16 l0_16.length c0_16, .slice A0_17 l0_17.length c0_17, .slice A0_18 l0_18.length c0_18, .slice A0_19 l0_19.length c0_19, .slice A0_20 l0_20.length c0_20, .slice A0_21 l0_21.length c0_21, .int .i64 a0_22, .int .i64 a0_23, .slice A0_24 l0_24.length c0_24, .slice A0_25 l0_25.length c0_25] := by cases cs0; simpa using hg0'
  obtain ⟨a1, rfl, rfl, rfl, w1⟩ := open_int Try.underlying3 (hval 1 3 v1 rfl rfl) h1
  clear hA0 hval0 hsz0
  obtain ⟨k, hk⟩ := PureFnExactPacketPlaces.proved a0_0 l0_1 l0_2 a0_3 a0_4 a0_5 a0_6 a0_7 l0_8 a0_9 a0_10 a0_11 a0_12 l0_13 l0_14 l0_15 l0_16 l0_17 l0_18 l0_19 l0_20 l0_21 a0_22 a0_23 l0_24 l0_25 a1 wa0_0 wl0_1 wl0_2 wa0_3 wa0_4 wa0_5 wa0_6 wa0_7 wl0_8 wa0_9 wa0_10 wa0_11 wa0_12 wl0_13 wl0_14 wl0_15 wl0_16 wl0_17 wl0_18 wl0_19 wl0_20 wl0_21 wa0_22 wa0_23 wl0_24 wl0_25 w1
  refine (laws_FnExactPacketPlaces.calls k a0_0 _ _ l0_1 _ _ l0_2 a0_3 a0_4 a0_5 a0_6 a0_7 _ _ l0_8 a0_9 a0_10 a0_11 a0_12 _ _ l0_13 _ _ l0_14 _ _ l0_15 _ _ l0_16 _ _ l0_17 _ _ l0_18 _ _ l0_19 _ _ l0_20 _ _ l0_21 a0_22 a0_23 _ _ l0_24 _ _ l0_25 a1 true W hr0_1 hc0_1 hr0_2 hc0_2 hr0_8 hc0_8 hr0_13 hc0_13 hr0_14 hc0_14 hr0_15 hc0_15 hr0_16 hc0_16 hr0_17 hc0_17 hr0_18 hc0_18 hr0_19 hc0_19 hr0_20 hc0_20 hr0_21 hc0_21 hr0_24 hc0_24 hr0_25 hc0_25 rfl hk).mono fun e W' ⟨he, bel0⟩ => ?_
  have bel : Below W.heap.size W W' := bel0
  subst he
  exact ⟨_, rfl, _, _, _, [], _, [], hW', trodAll_mk1 (shut_bool Try.underlying4 _), (trodAll_cons_mk (Below.trod laidOut (by kernel_rfl) (of_decide_eq_true (by kernel_rfl)) k0 bel lt0) (trodAll_cons_mk (shut_int Try.underlying3 w1) trodAll_mk0)), rfl, bel.frame _, fun h => by cases h⟩
end Go.Proofs.Ytlogjmgghnifoaa.fnExactPacketPlaces
