/- Plain facts on numbers, lists and rounds. Conditions: the bounds that each names. -/
import Derived.Test.YtegkplalnljgjaaVFnExactAcceptAllWWords
import Derived.Test.YtegkplalnljgjaaVFnExactAcceptAllWMore
import Derived.OpenShut
import Derived.Laws.BitsLemmas
namespace Go.Proofs.Ytegkplalnljgjaa.Base
open Go.RowKit Go.Proofs.YtegkplalnljgjaaW.PrintWords

theorem wrap_nat {i : Nat} (h : i < 4611686018427387904) : wrap64 ((i : Int) + 1) = ((i + 1 : Nat) : Int) := by unfold wrap64; omega
theorem wrap_id {x : Int} (h1 : -9223372036854775808 ≤ x) (h2 : x < 9223372036854775808) : wrap64 x = x := by unfold wrap64; omega
theorem rd_nat (l : List Int) (i : Nat) : rd l (i : Int) = l.getD i 0 := rfl
/-- Between two bounds. -/
def inR (a lo hi : Int) : Bool := decide (lo ≤ a) && decide (a ≤ hi)
theorem drop_cons {α : Type} (l : List α) (z : α) {i : Nat} (h : i < l.length) : l.drop i = l.getD i z :: l.drop (i + 1) := by
  rw [List.drop_eq_getElem_cons h, List.getD_eq_getElem?_getD, List.getElem?_eq_getElem h]
  rfl
theorem getD_map {α β : Type} (f : α → β) (l : List α) (z : α) (y : β) {i : Nat} (h : i < l.length) : (l.map f).getD i y = f (l.getD i z) := by
  simp [List.getD_eq_getElem?_getD, List.getElem?_eq_getElem h]
theorem get_of {α : Type} (l : List α) (z : α) {i : Nat} (h : i < l.length) : l[i]? = some (l.getD i z) := by
  simp [List.getD_eq_getElem?_getD, List.getElem?_eq_getElem h]
theorem set_take {α : Type} (o m : List α) (v : α) {i : Nat} (ho : o.length = m.length) (hv : m[i]? = some v) (h : o.take i = m.take i) : (o.set i v).take (i + 1) = m.take (i + 1) := by
  obtain ⟨hi, hv'⟩ := List.getElem?_eq_some_iff.1 hv
  apply List.ext_getElem?
  intro j
  have hj := congrArg (fun l => l[j]?) h
  simp only [List.getElem?_take] at hj ⊢
  by_cases h1 : j < i
  · rw [if_pos (by omega), if_pos (by omega), List.getElem?_set_ne (by omega)]
    simpa [h1] using hj
  · by_cases h2 : j = i
    · subst h2
      rw [if_pos (by omega), if_pos (by omega), List.getElem?_set_self (by omega), hv]
    · rw [if_neg (by omega), if_neg (by omega)]
theorem take_full {α : Type} {o m : List α} (ho : o.length = m.length) {i : Nat} (hi : m.length ≤ i) (h : o.take i = m.take i) : o = m := by
  rw [List.take_of_length_le (by omega), List.take_of_length_le hi] at h
  exact h
theorem Ev.one {α : Type} {g : Nat → Option α} {r : α} (h : ∀ k, g (k + 1) = some r) : Ev g r := Ev.step (f := fun _ => some r) h (Ev.now r)
theorem Ev.all {α : Type} {g : Nat → Option α} {r : α} (h : ∀ k, g k = some r) : Ev g r := ⟨0, fun k _ => h k⟩
theorem any_range' {α : Type} (l : List α) (z : α) (q : α → Bool) : ∀ d i, i + d = l.length → (List.range' i d).any (fun j => q (l.getD j z)) = (l.drop i).any q := by
  intro d
  induction d with
  | zero =>
    intro i hi
    rw [List.drop_eq_nil_of_le (by omega)]
    rfl
  | succ d ih =>
    intro i hi
    rw [List.range'_succ, List.any_cons, drop_cons l z (by omega), List.any_cons, ih (i + 1) (by omega)]
theorem any_index {α : Type} (l : List α) (z : α) (q : α → Bool) : (List.range' 0 l.length).any (fun j => q (l.getD j z)) = l.any q := by
  have := any_range' l z q l.length 0 (by omega)
  simpa using this
theorem wrap_pred {i : Nat} (h : 0 < i) (h2 : i < 4611686018427387904) : wrap64 ((i : Int) - 1) = ((i - 1 : Nat) : Int) := by unfold wrap64; omega
theorem ite_bool (b : Bool) : (if b = true then true else false) = b := by cases b <;> rfl
theorem ite_notb (b : Bool) : (if b = true then false else true) = !b := by cases b <;> rfl
/-- An index loop that leaves with r where q holds, and goes on with f. -/
theorem ff_ev {σ R : Type} {g : Nat → σ → Int → Option R} {q : Nat → Bool} {f : Nat → σ → σ} {r : R} {fin : σ → R} (I : Nat → σ → Prop) (n : Nat)
    (hend : ∀ s, I n s → Ev (fun k => g k s n) (fin s))
    (hstep : ∀ i s, i < n → I i s → (q i = false → I (i + 1) (f i s)) ∧ ∀ k, g (k + 1) s i = if q i = true then some r else g k (f i s) ((i + 1 : Nat) : Int)) :
    ∀ d i s, i + d = n → I i s → Ev (fun k => g k s i) (if (List.range' i d).any q = true then r else fin ((List.range' i d).foldl (fun s j => f j s) s)) := by
  intro d
  induction d with
  | zero =>
    intro i s hi hI
    have : i = n := by omega
    subst this
    simpa using hend s hI
  | succ d ih =>
    intro i s hi hI
    have h := hstep i s (by omega) hI
    rw [List.range'_succ, List.any_cons, List.foldl_cons]
    by_cases hp : q i = true
    · rw [hp, Bool.true_or, if_pos rfl]
      exact Ev.one fun k => by rw [h.2, if_pos hp]
    · have hp' : q i = false := by simpa using hp
      rw [hp', Bool.false_or]
      exact Ev.step (fun k => by rw [h.2, if_neg hp]) (ih (i + 1) _ (by omega) (h.1 hp'))
theorem foldl_range' {α σ : Type} (l : List α) (z : α) (h : σ → α → σ) : ∀ d i s, i + d = l.length → (List.range' i d).foldl (fun s j => h s (l.getD j z)) s = (l.drop i).foldl h s := by
  intro d
  induction d with
  | zero =>
    intro i s hi
    rw [List.drop_eq_nil_of_le (by omega)]
    rfl
  | succ d ih =>
    intro i s hi
    rw [List.range'_succ, List.foldl_cons, drop_cons l z (by omega), List.foldl_cons, ih (i + 1) _ (by omega)]
theorem foldl_index {α σ : Type} (l : List α) (z : α) (h : σ → α → σ) (s : σ) : (List.range' 0 l.length).foldl (fun s j => h s (l.getD j z)) s = l.foldl h s := by
  have := foldl_range' l z h l.length 0 s (by omega)
  simpa using this
/-- The same over a list's elements. -/
theorem ff_list {α σ R : Type} {g : Nat → σ → Int → Option R} (l : List α) (z : α) {q : α → Bool} {f : σ → α → σ} {r : R} {fin : σ → R} (s : σ)
    (hend : ∀ s, Ev (fun k => g k s l.length) (fin s))
    (hstep : ∀ (i : Nat) s k, i < l.length → g (k + 1) s i = if q (l.getD i z) = true then some r else g k (f s (l.getD i z)) ((i + 1 : Nat) : Int)) :
    Ev (fun k => g k s 0) (if l.any q = true then r else fin (l.foldl f s)) := by
  have h := ff_ev (g := g) (q := fun i => q (l.getD i z)) (f := fun i s => f s (l.getD i z)) (r := r) (fin := fin) (fun _ _ => True) l.length (fun s _ => hend s) (fun i s hi _ => ⟨fun _ => trivial, fun k => hstep i s k hi⟩) l.length 0 s (by omega) trivial
  rw [any_index l z q, foldl_index l z f] at h
  exact h
theorem find_list {α R : Type} {g : Nat → Int → Option R} (l : List α) (z : α) {q : α → Bool} {r e : R} (hend : Ev (fun k => g k l.length) e)
    (hstep : ∀ (i : Nat) k, i < l.length → g (k + 1) i = if q (l.getD i z) = true then some r else g k ((i + 1 : Nat) : Int)) :
    Ev (fun k => g k 0) (if l.any q = true then r else e) :=
  ff_list (g := fun k (_ : Unit) i => g k i) (f := fun s _ => s) (fin := fun _ => e) l z () (fun _ => hend) (fun i _ k hi => hstep i k hi)
theorem find_index {R : Type} {g : Nat → Int → Option R} (n : Nat) {q : Nat → Bool} {r e : R} (hend : Ev (fun k => g k n) e)
    (hstep : ∀ (i : Nat) k, i < n → g (k + 1) i = if q i = true then some r else g k ((i + 1 : Nat) : Int)) :
    Ev (fun k => g k 0) (if (List.range' 0 n).any q = true then r else e) :=
  ff_ev (g := fun k (_ : Unit) i => g k i) (q := q) (f := fun _ s => s) (fin := fun _ => e) (fun _ _ => True) n (fun _ _ => hend) (fun i _ hi _ => ⟨fun _ => trivial, fun k => hstep i k hi⟩) n 0 () (by omega) trivial
/-- .. and that leaves where q holds. -/
theorem findE {R : Type} {g : Nat → Int → Option R} {q : Nat → Bool} {r e : R} (n : Nat) (hend : Ev (fun k => g k n) e)
    (hstep : ∀ i, i < n → if q i = true then Ev (fun k => g k i) r else ∀ x, Ev (fun k => g k ((i + 1 : Nat) : Int)) x → Ev (fun k => g k i) x) : Ev (fun k => g k 0) (if (List.range' 0 n).any q = true then r else e) := by
  have : ∀ d i, i + d = n → Ev (fun k => g k i) (if (List.range' i d).any q = true then r else e) := by
    intro d
    induction d with
    | zero =>
      intro i hi
      have : i = n := by omega
      subst this
      simpa using hend
    | succ d ih =>
      intro i hi
      have h := hstep i (by omega)
      rw [List.range'_succ, List.any_cons]
      by_cases hp : q i = true
      · rw [if_pos hp] at h
        rw [hp, Bool.true_or, if_pos rfl]
        exact h
      · rw [if_neg hp] at h
        have hp' : q i = false := by simpa using hp
        rw [hp', Bool.false_or]
        exact h _ (ih (i + 1) (by omega))
  exact this n 0 (by omega)
/-- What is collected, and how many. -/
def places (p : Nat → Bool) (n : Nat) : List Int := ((List.range' 0 n).filter p).map fun j => ((j : Nat) : Int)
/-- Is a number in a list? -/
def hasB (l : List Int) (a : Int) : Bool := l.any fun x => x == a
theorem hasB_iff (l : List Int) (a : Int) : hasB l a = true ↔ a ∈ l := by simp [hasB]
/-- The numbers that a mark leaves. -/
def marks (a : Int) (n : Nat) : List Int := (List.range n).map fun j => a + ((j : Nat) : Int)
theorem marks_length (a : Int) (n : Nat) : (marks a n).length = n := by simp [marks]
theorem marks_get (a : Int) (n i : Nat) (h : i < n) : (marks a n)[i]? = some (a + i) := by simp [marks, h]
theorem marks_getD (a : Int) (n i : Nat) (h : i < n) : (marks a n).getD i 0 = a + i := by rw [List.getD_eq_getElem?_getD, marks_get a n i h]; rfl
theorem getD_mem {α : Type} (l : List α) (z : α) {i : Nat} (h : i < l.length) : l.getD i z ∈ l := by
  rw [List.getD_eq_getElem?_getD, List.getElem?_eq_getElem h]
  exact List.getElem_mem h
theorem mem_getD {α : Type} (l : List α) (z x : α) (h : x ∈ l) : ∃ i, i < l.length ∧ l.getD i z = x := by
  obtain ⟨i, hi, e⟩ := List.getElem_of_mem h
  exact ⟨i, hi, by rw [List.getD_eq_getElem?_getD, List.getElem?_eq_getElem hi]; exact e⟩
/-- A loop that says true at its end. -/
theorem all_loop {g : Nat → Int → Option Bool} (n : Nat) (hend : Ev (fun k => g k n) true) (hstep : ∀ i, i < n → ∀ r, Ev (fun k => g k ((i + 1 : Nat) : Int)) r → Ev (fun k => g k i) r) : Ev (fun k => g k 0) true := by
  have := findE (q := fun _ => false) (r := true) n hend (fun i hi => by rw [if_neg (by simp)]; exact hstep i hi)
  rw [ite_self] at this
  exact this
theorem Ev.uniq {α : Type} {f : Nat → Option α} {r r' : α} (h : Ev f r) (h' : Ev f r') : r = r' := by
  obtain ⟨a, ha⟩ := h
  obtain ⟨b, hb⟩ := h'
  have := (ha (max a b) (Nat.le_max_left a b)).symm.trans (hb (max a b) (Nat.le_max_right a b))
  exact Option.some.inj this
end Go.Proofs.Ytegkplalnljgjaa.Base
