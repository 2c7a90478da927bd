/- Plain facts on numbers, lists and rounds. Conditions: the bounds that each names. -/
import Derived.Test.YtegkplalnljgjaaVFnStreamsWWords
import Derived.Test.YtegkplalnljgjaaVFnStreamsWMore
import Derived.OpenShut
import Derived.Laws.BitsLemmas
namespace Go.Proofs.Ytegkplalnljgjaa.Base
open Go.RowKit Go.Proofs.YtegkplalnljgjaaW.PrintWords

theorem wrap_nat {i : Nat} (h : i < 4611686018427387904) : wrap64 ((i : Int) + 1) = ((i + 1 : Nat) : Int) := by unfold wrap64; omega
theorem wrap_id {x : Int} (h1 : -9223372036854775808 ≤ x) (h2 : x < 9223372036854775808) : wrap64 x = x := by unfold wrap64; omega
theorem rd_nat (l : List Int) (i : Nat) : rd l (i : Int) = l.getD i 0 := rfl
/-- Between two bounds. -/
def inR (a lo hi : Int) : Bool := decide (lo ≤ a) && decide (a ≤ hi)
theorem drop_cons {α : Type} (l : List α) (z : α) {i : Nat} (h : i < l.length) : l.drop i = l.getD i z :: l.drop (i + 1) := by
  rw [List.drop_eq_getElem_cons h, List.getD_eq_getElem?_getD, List.getElem?_eq_getElem h]
  rfl
theorem getD_map {α β : Type} (f : α → β) (l : List α) (z : α) (y : β) {i : Nat} (h : i < l.length) : (l.map f).getD i y = f (l.getD i z) := by
  simp [List.getD_eq_getElem?_getD, List.getElem?_eq_getElem h]
theorem Ev.one {α : Type} {g : Nat → Option α} {r : α} (h : ∀ k, g (k + 1) = some r) : Ev g r := Ev.step (f := fun _ => some r) h (Ev.now r)
theorem Ev.all {α : Type} {g : Nat → Option α} {r : α} (h : ∀ k, g k = some r) : Ev g r := ⟨0, fun k _ => h k⟩
theorem wrap_pred {i : Nat} (h : 0 < i) (h2 : i < 4611686018427387904) : wrap64 ((i : Int) - 1) = ((i - 1 : Nat) : Int) := by unfold wrap64; omega
theorem ite_notb (b : Bool) : (if b = true then false else true) = !b := by cases b <;> rfl
/-- An index loop that leaves with r where q holds, and goes on with f. -/
theorem ff_ev {σ R : Type} {g : Nat → σ → Int → Option R} {q : Nat → Bool} {f : Nat → σ → σ} {r : R} {fin : σ → R} (I : Nat → σ → Prop) (n : Nat)
    (hend : ∀ s, I n s → Ev (fun k => g k s n) (fin s))
    (hstep : ∀ i s, i < n → I i s → (q i = false → I (i + 1) (f i s)) ∧ ∀ k, g (k + 1) s i = if q i = true then some r else g k (f i s) ((i + 1 : Nat) : Int)) :
    ∀ d i s, i + d = n → I i s → Ev (fun k => g k s i) (if (List.range' i d).any q = true then r else fin ((List.range' i d).foldl (fun s j => f j s) s)) := by
  intro d
  induction d with
  | zero =>
    intro i s hi hI
    have : i = n := by omega
    subst this
    simpa using hend s hI
  | succ d ih =>
    intro i s hi hI
    have h := hstep i s (by omega) hI
    rw [List.range'_succ, List.any_cons, List.foldl_cons]
    by_cases hp : q i = true
    · rw [hp, Bool.true_or, if_pos rfl]
      exact Ev.one fun k => by rw [h.2, if_pos hp]
    · have hp' : q i = false := by simpa using hp
      rw [hp', Bool.false_or]
      exact Ev.step (fun k => by rw [h.2, if_neg hp]) (ih (i + 1) _ (by omega) (h.1 hp'))
theorem find_index {R : Type} {g : Nat → Int → Option R} (n : Nat) {q : Nat → Bool} {r e : R} (hend : Ev (fun k => g k n) e)
    (hstep : ∀ (i : Nat) k, i < n → g (k + 1) i = if q i = true then some r else g k ((i + 1 : Nat) : Int)) :
    Ev (fun k => g k 0) (if (List.range' 0 n).any q = true then r else e) :=
  ff_ev (g := fun k (_ : Unit) i => g k i) (q := q) (f := fun _ s => s) (fin := fun _ => e) (fun _ _ => True) n (fun _ _ => hend) (fun i _ hi _ => ⟨fun _ => trivial, fun k => hstep i k hi⟩) n 0 () (by omega) trivial
theorem and255 (x : Int) : 0 ≤ Go.bits .and .i64 x 255 ∧ Go.bits .and .i64 x 255 ≤ 255 := by
  have h : ∃ n : Nat, n ≤ 255 ∧ Go.bits .and .i64 x 255 = IntKind.i64.wrap (n : Int) := by
    refine ⟨(BitVec.ofInt IntKind.i64.bits x &&& BitVec.ofInt IntKind.i64.bits 255).toNat, ?_, rfl⟩
    rw [BitVec.toNat_and]
    exact Nat.le_trans Nat.and_le_right (by decide)
  obtain ⟨n, hn, e⟩ := h
  rw [e, IntKind.wrap_i64]
  omega
/-- What is collected, and how many. -/
def places (p : Nat → Bool) (n : Nat) : List Int := ((List.range' 0 n).filter p).map fun j => ((j : Nat) : Int)
/-- Is a number in a list? -/
def hasB (l : List Int) (a : Int) : Bool := l.any fun x => x == a
theorem hasB_iff (l : List Int) (a : Int) : hasB l a = true ↔ a ∈ l := by simp [hasB]
theorem getD_mem {α : Type} (l : List α) (z : α) {i : Nat} (h : i < l.length) : l.getD i z ∈ l := by
  rw [List.getD_eq_getElem?_getD, List.getElem?_eq_getElem h]
  exact List.getElem_mem h
theorem mem_getD {α : Type} (l : List α) (z x : α) (h : x ∈ l) : ∃ i, i < l.length ∧ l.getD i z = x := by
  obtain ⟨i, hi, e⟩ := List.getElem_of_mem h
  exact ⟨i, hi, by rw [List.getD_eq_getElem?_getD, List.getElem?_eq_getElem hi]; exact e⟩
theorem Ev.uniq {α : Type} {f : Nat → Option α} {r r' : α} (h : Ev f r) (h' : Ev f r') : r = r' := by
  obtain ⟨a, ha⟩ := h
  obtain ⟨b, hb⟩ := h'
  have := (ha (max a b) (Nat.le_max_left a b)).symm.trans (hb (max a b) (Nat.le_max_right a b))
  exact Option.some.inj this
end Go.Proofs.Ytegkplalnljgjaa.Base
