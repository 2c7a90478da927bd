/- What memory reads as data at a type is of the printed kind, with numbers in their ranges. Conditions: the type's underlying form and its cells, as the loaded program has them. -/
import Derived.Test.YtlogjmgghnifoaaVFnExactPacketPlacesWWords
import Derived.ChangeArms
import Derived.Deep.Slices
namespace Go.Proofs.Ytlogjmgghnifoaa.Reads
open Go.Proofs.YtlogjmgghnifoaaW.PrintWords Go.WideShapes

/-- What reads at type t is of kind d, and fine. -/
def Opens (P : Program) (t : TypeId) {α : Type} (d : Kd α) (wf : α → Prop) : Prop :=
  ∀ (H : Type) (enc : TypeId × Value → H) (w : World) (fuel : Nat) (cs : List Value) (x : DataW H × List MemPlace),
    DataW.trod enc P w 0 (fun _ => true) true fuel t cs = some x → ∃ a, d.K w a cs ∧ wf a
theorem opens_int {P : Program} {t : TypeId} {k : IntKind} (ht : P.underlying t = some (.int k)) : Opens P t (Kd.int k) (fun n => (Lit.int k n).wf = true) := by
  intro H enc w fuel cs x h
  obtain ⟨n, rfl, _, hw⟩ := DataW.trod_int ht h
  exact ⟨n, rfl, hw⟩
theorem list_choose {α : Type} {p : Nat → α → Prop} : ∀ n : Nat, (∀ i, i < n → ∃ x, p i x) → ∃ l : List α, l.length = n ∧ ∀ (i : Nat) (x : α), l[i]? = some x → p i x
  | 0, _ => ⟨[], rfl, fun i x h => by simp at h⟩
  | n + 1, h => by
    obtain ⟨l, hl, hp⟩ := list_choose n (fun i hi => h i (by omega))
    obtain ⟨y, hy⟩ := h n (by omega)
    refine ⟨l ++ [y], by simp [hl], fun i x hx => ?_⟩
    rcases Nat.lt_or_ge i l.length with hi | hi
    · rw [List.getElem?_append_left hi] at hx
      exact hp i x hx
    · rw [List.getElem?_append_right hi] at hx
      obtain ⟨h0, rfl⟩ := List.getElem?_eq_some_iff.1 hx
      simp at h0
      have : i = n := by omega
      subst this
      simpa [hl] using hy
theorem opens_slice {P : Program} {t e : TypeId} {α : Type} {d : Kd α} {wf : α → Prop} (ht : P.underlying t = some (.slice e)) (hc : P.cellsOf e = d.sz) (he : Opens P e d wf) :
    Opens P t (Kd.slice e d) (fun l => l.length ≤ maxLen ∧ ∀ x ∈ l, wf x) := by
  intro H enc w fuel cs x h
  rcases DataW.trod_slice ht h with ⟨rfl, _⟩ | ⟨a, len, cap, elems, rest, n, _, rfl, _, _, hl, hm, hlen, hel, _, _⟩
  · exact ⟨[], ⟨none, 0, rfl, Nat.le_refl _, Kd.C_nil d w⟩, by simp, by simp⟩
  · have one : ∀ i, i < len → ∃ y : α, (∃ c, w.cells? 0 (a.add (i * P.cellsOf e)) (P.cellsOf e) = some c ∧ d.K w y c) ∧ wf y := by
      intro i hi
      have hk := hel i hi
      rw [List.getElem?_eq_getElem (by omega)] at hk
      obtain ⟨c, h1, h2⟩ := Option.bind_eq_some_iff.1 hk
      obtain ⟨y, hy, hw⟩ := he H enc w n c _ h2
      exact ⟨y, ⟨c, h1, hy⟩, hw⟩
    obtain ⟨l, hll, hp⟩ := list_choose len one
    have hlm : l.length ≤ maxLen := by omega
    refine ⟨l, ⟨some a, cap, by rw [hll], by omega, ⟨rfl, by unfold maxLen at hlm; omega, fun _ => ⟨a, rfl, fun j p hj => ?_⟩⟩⟩, hlm, fun y hy => ?_⟩
    · obtain ⟨⟨c, h1, h2⟩, _⟩ := hp j p hj
      obtain ⟨_, hcl, hcell⟩ := World.cells?_some h1
      refine ⟨c, by omega, h2, fun i u hu => ?_⟩
      have hi : i < P.cellsOf e := by
        have := (List.getElem?_eq_some_iff.1 hu).1
        omega
      have := hcell i hi
      rw [Go.Deep.add_add, hu, hc] at this
      exact this
    · obtain ⟨i, hi⟩ := List.mem_iff_getElem?.1 hy
      exact (hp i y hi).2
/-- The same of the fields of a struct, from one cell on. -/
def OpensF (P : Program) (fs : List Field) (o : Nat) {α : Type} (d : Kd α) (wf : α → Prop) : Prop :=
  ∀ (H : Type) (enc : TypeId × Value → H) (w : World) (n : Nat) (cs : List Value), cs.length = o + d.sz →
    (∀ f, f ∈ fs → ∃ y, DataW.trod enc P w 0 (fun _ => true) true n f.type ((cs.drop f.offset).take (P.cellsOf f.type)) = some y) → ∃ a, d.K w a (cs.drop o) ∧ wf a
theorem opensF_one {P : Program} {f : Field} {o : Nat} {α : Type} {d : Kd α} {wf : α → Prop} (ho : f.offset = o) (hs : P.cellsOf f.type = d.sz) (h : Opens P f.type d wf) : OpensF P [f] o d wf := by
  intro H enc w n cs hl hf
  obtain ⟨y, hy⟩ := hf f (by simp)
  rw [ho, hs, List.take_of_length_le (by simp; omega)] at hy
  exact h H enc w n _ _ hy
theorem opensF_cons {P : Program} {f : Field} {fs : List Field} {o : Nat} {α β : Type} {d1 : Kd α} {d2 : Kd β} {wf1 : α → Prop} {wf2 : β → Prop} (ho : f.offset = o) (hs : P.cellsOf f.type = d1.sz) (h : Opens P f.type d1 wf1)
    (h2 : OpensF P fs (o + d1.sz) d2 wf2) : OpensF P (f :: fs) o (Kd.pair d1 d2) (fun x => wf1 x.1 ∧ wf2 x.2) := by
  intro H enc w n cs hl hf
  have hl' : cs.length = o + (d1.sz + d2.sz) := hl
  obtain ⟨y, hy⟩ := hf f (by simp)
  rw [ho, hs] at hy
  obtain ⟨a, ha, wa⟩ := h H enc w n _ _ hy
  obtain ⟨b, hb, wb⟩ := h2 H enc w n cs (by omega) (fun g hg => hf g (by simp [hg]))
  refine ⟨(a, b), ⟨_, _, ?_, ha, hb⟩, wa, wb⟩
  rw [← List.drop_drop, List.take_append_drop]
theorem opens_struct {P : Program} {t : TypeId} {fs : Array Field} {α : Type} {d : Kd α} {wf : α → Prop} (ht : P.underlying t = some (.struct fs)) (hc : P.cellsOf t = d.sz) (h : OpensF P fs.toList 0 d wf) : Opens P t d wf := by
  intro H enc w fuel cs x hx
  obtain ⟨xs, n, _, rfl, hl, hlen, hf⟩ := DataW.trod_struct ht hx
  have := h H enc w n cs (by omega) (fun f hm => by
    obtain ⟨i, hi⟩ := List.mem_iff_getElem?.1 hm
    have hi' : fs[i]? = some f := by simpa using hi
    have h2 := hf i f hi'
    have : i < xs.length := by
      have := (Array.getElem?_eq_some_iff.1 hi').1
      omega
    rw [List.getElem?_eq_getElem this] at h2
    exact ⟨_, h2⟩)
  simpa using this
theorem opens_iso {P : Program} {t : TypeId} {α β : Type} {d : Kd α} {wf : α → Prop} (f : β → α) (g : α → β) (hg : ∀ a, f (g a) = a) (h : Opens P t d wf) : Opens P t (Kd.iso d f) (fun b => wf (f b)) := by
  intro H enc w fuel cs x hx
  obtain ⟨a, ha, wa⟩ := h H enc w fuel cs x hx
  refine ⟨g a, ?_, by show wf (f (g a)); rw [hg]; exact wa⟩
  show d.K w (f (g a)) cs
  rw [hg]
  exact ha
end Go.Proofs.Ytlogjmgghnifoaa.Reads
