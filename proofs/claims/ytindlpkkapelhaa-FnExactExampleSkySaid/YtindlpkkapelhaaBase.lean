/- Plain facts on numbers, lists and rounds. Conditions: the bounds that each names. -/
import Derived.Test.YtindlpkkapelhaaWWords
import Derived.Test.YtindlpkkapelhaaWMore
import Derived.OpenShut
import Derived.Laws.BitsLemmas
namespace Go.Proofs.Ytindlpkkapelhaa.Base
open Go.RowKit Go.Proofs.YtindlpkkapelhaaW.PrintWords

theorem wrap_nat {i : Nat} (h : i < 4611686018427387904) : wrap64 ((i : Int) + 1) = ((i + 1 : Nat) : Int) := by unfold wrap64; omega
theorem wrap_id {x : Int} (h1 : -9223372036854775808 ≤ x) (h2 : x < 9223372036854775808) : wrap64 x = x := by unfold wrap64; omega
theorem rd_nat (l : List Int) (i : Nat) : rd l (i : Int) = l.getD i 0 := rfl
/-- Between two bounds. -/
def inR (a lo hi : Int) : Bool := decide (lo ≤ a) && decide (a ≤ hi)
theorem wf_lo {x : Int} (h : (Lit.int .i64 x).wf = true) : -9223372036854775808 ≤ x ∧ x < 9223372036854775808 := by
  have := bounds_i64 h
  omega
theorem drop_cons {α : Type} (l : List α) (z : α) {i : Nat} (h : i < l.length) : l.drop i = l.getD i z :: l.drop (i + 1) := by
  rw [List.drop_eq_getElem_cons h, List.getD_eq_getElem?_getD, List.getElem?_eq_getElem h]
  rfl
theorem getD_map {α β : Type} (f : α → β) (l : List α) (z : α) (y : β) {i : Nat} (h : i < l.length) : (l.map f).getD i y = f (l.getD i z) := by
  simp [List.getD_eq_getElem?_getD, List.getElem?_eq_getElem h]
theorem get_map {α β : Type} (f : α → β) (l : List α) (z : α) {i : Nat} (h : i < l.length) : (l.map f)[i]? = some (f (l.getD i z)) := by
  simp [List.getD_eq_getElem?_getD, List.getElem?_eq_getElem h]
theorem get_of {α : Type} (l : List α) (z : α) {i : Nat} (h : i < l.length) : l[i]? = some (l.getD i z) := by
  simp [List.getD_eq_getElem?_getD, List.getElem?_eq_getElem h]
theorem ite_snoc_len {α : Type} {c : Prop} [Decidable c] (s : List α) (x : α) {i : Nat} (h : s.length ≤ i) : (if c then s ++ [x] else s).length ≤ i + 1 := by
  split
  · rw [List.length_append, List.length_singleton]; omega
  · omega
theorem getD_set_self {α : Type} (l : List α) (z v : α) {i : Nat} (h : i < l.length) : (l.set i v).getD i z = v := by
  simp [List.getD_eq_getElem?_getD, h]
theorem set_take {α : Type} (o m : List α) (v : α) {i : Nat} (ho : o.length = m.length) (hv : m[i]? = some v) (h : o.take i = m.take i) : (o.set i v).take (i + 1) = m.take (i + 1) := by
  obtain ⟨hi, hv'⟩ := List.getElem?_eq_some_iff.1 hv
  apply List.ext_getElem?
  intro j
  have hj := congrArg (fun l => l[j]?) h
  simp only [List.getElem?_take] at hj ⊢
  by_cases h1 : j < i
  · rw [if_pos (by omega), if_pos (by omega), List.getElem?_set_ne (by omega)]
    simpa [h1] using hj
  · by_cases h2 : j = i
    · subst h2
      rw [if_pos (by omega), if_pos (by omega), List.getElem?_set_self (by omega), hv]
    · rw [if_neg (by omega), if_neg (by omega)]
theorem take_full {α : Type} {o m : List α} (ho : o.length = m.length) {i : Nat} (hi : m.length ≤ i) (h : o.take i = m.take i) : o = m := by
  rw [List.take_of_length_le (by omega), List.take_of_length_le hi] at h
  exact h
theorem Ev.one {α : Type} {g : Nat → Option α} {r : α} (h : ∀ k, g (k + 1) = some r) : Ev g r := Ev.step (f := fun _ => some r) h (Ev.now r)
theorem Ev.all {α : Type} {g : Nat → Option α} {r : α} (h : ∀ k, g k = some r) : Ev g r := ⟨0, fun k _ => h k⟩
/-- An index loop: its state goes by 'step' till it leaves; 'fin' is what follows its end. -/
def runs {σ R : Type} (step : Nat → σ → σ ⊕ R) (fin : σ → R) : Nat → Nat → σ → R
  | 0, _, s => fin s
  | d + 1, i, s => match step i s with
    | .inl s' => runs step fin d (i + 1) s'
    | .inr r => r
theorem runs_ev {σ R : Type} {g : Nat → σ → Int → Option R} {step : Nat → σ → σ ⊕ R} {fin : σ → R} (I : Nat → σ → Prop) (n : Nat)
    (hend : ∀ s, I n s → Ev (fun k => g k s n) (fin s))
    (hstep : ∀ i s, i < n → I i s → match step i s with
      | .inl s' => I (i + 1) s' ∧ ∀ k, g (k + 1) s i = g k s' ((i + 1 : Nat) : Int)
      | .inr r => Ev (fun k => g k s i) r) : ∀ d i s, i + d = n → I i s → Ev (fun k => g k s i) (runs step fin d i s) := by
  intro d
  induction d with
  | zero =>
    intro i s hi hI
    have : i = n := by omega
    subst this
    exact hend s hI
  | succ d ih =>
    intro i s hi hI
    have h := hstep i s (by omega) hI
    show Ev _ (match step i s with
      | .inl s' => runs step fin d (i + 1) s'
      | .inr r => r)
    cases hs : step i s with
    | inl s' =>
      rw [hs] at h
      exact Ev.step h.2 (ih (i + 1) s' (by omega) h.1)
    | inr r =>
      rw [hs] at h
      exact h
/-- A loop that leaves at the first index for which something holds. -/
theorem find_ev {R : Type} {g : Nat → Int → Option R} {p : Nat → Bool} {r e : R} (n : Nat) (hend : Ev (fun k => g k n) e)
    (hstep : ∀ i, i < n → if p i = true then Ev (fun k => g k i) r else ∀ k, g (k + 1) i = g k ((i + 1 : Nat) : Int)) :
    ∀ d i, i + d = n → Ev (fun k => g k i) (if (List.range' i d).any p = true then r else e) := by
  intro d
  induction d with
  | zero =>
    intro i hi
    have : i = n := by omega
    subst this
    simpa using hend
  | succ d ih =>
    intro i hi
    have h := hstep i (by omega)
    rw [List.range'_succ, List.any_cons]
    by_cases hp : p i = true
    · rw [if_pos hp] at h
      rw [hp, Bool.true_or, if_pos rfl]
      exact h
    · rw [if_neg hp] at h
      have hp' : p i = false := by simpa using hp
      rw [hp', Bool.false_or]
      exact Ev.step h (ih (i + 1) (by omega))
theorem any_range' {α : Type} (l : List α) (z : α) (q : α → Bool) : ∀ d i, i + d = l.length → (List.range' i d).any (fun j => q (l.getD j z)) = (l.drop i).any q := by
  intro d
  induction d with
  | zero =>
    intro i hi
    rw [List.drop_eq_nil_of_le (by omega)]
    rfl
  | succ d ih =>
    intro i hi
    rw [List.range'_succ, List.any_cons, drop_cons l z (by omega), List.any_cons, ih (i + 1) (by omega)]
theorem any_index {α : Type} (l : List α) (z : α) (q : α → Bool) : (List.range' 0 l.length).any (fun j => q (l.getD j z)) = l.any q := by
  have := any_range' l z q l.length 0 (by omega)
  simpa using this
def idxB (a : Int) (n : Nat) : Bool := decide (0 ≤ a) && decide (a < (n : Int))
theorem inR_idx (a : Int) (n : Nat) (hn : n ≤ 1048576) : inR a 0 (wrap64 ((n : Int) - 1)) = idxB a n := by
  rw [wrap_id (by omega) (by omega)]
  unfold inR idxB
  congr 1
  rw [decide_eq_decide]
  omega
theorem idxB_iff (a : Int) (n : Nat) : idxB a n = true ↔ 0 ≤ a ∧ a < (n : Int) := by simp [idxB]
theorem wrap_pred {i : Nat} (h : 0 < i) (h2 : i < 4611686018427387904) : wrap64 ((i : Int) - 1) = ((i - 1 : Nat) : Int) := by unfold wrap64; omega
theorem ite_bool (b : Bool) : (if b = true then true else false) = b := by cases b <;> rfl
theorem ite_notb (b : Bool) : (if b = true then false else true) = !b := by cases b <;> rfl
/-- An index loop that leaves with r where q holds, and goes on with f. -/
theorem ff_ev {σ R : Type} {g : Nat → σ → Int → Option R} {q : Nat → Bool} {f : Nat → σ → σ} {r : R} {fin : σ → R} (I : Nat → σ → Prop) (n : Nat)
    (hend : ∀ s, I n s → Ev (fun k => g k s n) (fin s))
    (hstep : ∀ i s, i < n → I i s → (q i = false → I (i + 1) (f i s)) ∧ ∀ k, g (k + 1) s i = if q i = true then some r else g k (f i s) ((i + 1 : Nat) : Int)) :
    ∀ d i s, i + d = n → I i s → Ev (fun k => g k s i) (if (List.range' i d).any q = true then r else fin ((List.range' i d).foldl (fun s j => f j s) s)) := by
  intro d
  induction d with
  | zero =>
    intro i s hi hI
    have : i = n := by omega
    subst this
    simpa using hend s hI
  | succ d ih =>
    intro i s hi hI
    have h := hstep i s (by omega) hI
    rw [List.range'_succ, List.any_cons, List.foldl_cons]
    by_cases hp : q i = true
    · rw [hp, Bool.true_or, if_pos rfl]
      exact Ev.one fun k => by rw [h.2, if_pos hp]
    · have hp' : q i = false := by simpa using hp
      rw [hp', Bool.false_or]
      exact Ev.step (fun k => by rw [h.2, if_neg hp]) (ih (i + 1) _ (by omega) (h.1 hp'))
theorem foldl_range' {α σ : Type} (l : List α) (z : α) (h : σ → α → σ) : ∀ d i s, i + d = l.length → (List.range' i d).foldl (fun s j => h s (l.getD j z)) s = (l.drop i).foldl h s := by
  intro d
  induction d with
  | zero =>
    intro i s hi
    rw [List.drop_eq_nil_of_le (by omega)]
    rfl
  | succ d ih =>
    intro i s hi
    rw [List.range'_succ, List.foldl_cons, drop_cons l z (by omega), List.foldl_cons, ih (i + 1) _ (by omega)]
theorem foldl_index {α σ : Type} (l : List α) (z : α) (h : σ → α → σ) (s : σ) : (List.range' 0 l.length).foldl (fun s j => h s (l.getD j z)) s = l.foldl h s := by
  have := foldl_range' l z h l.length 0 s (by omega)
  simpa using this
/-- The same over a list's elements. -/
theorem ff_list {α σ R : Type} {g : Nat → σ → Int → Option R} (l : List α) (z : α) {q : α → Bool} {f : σ → α → σ} {r : R} {fin : σ → R} (s : σ)
    (hend : ∀ s, Ev (fun k => g k s l.length) (fin s))
    (hstep : ∀ (i : Nat) s k, i < l.length → g (k + 1) s i = if q (l.getD i z) = true then some r else g k (f s (l.getD i z)) ((i + 1 : Nat) : Int)) :
    Ev (fun k => g k s 0) (if l.any q = true then r else fin (l.foldl f s)) := by
  have h := ff_ev (g := g) (q := fun i => q (l.getD i z)) (f := fun i s => f s (l.getD i z)) (r := r) (fin := fin) (fun _ _ => True) l.length (fun s _ => hend s) (fun i s hi _ => ⟨fun _ => trivial, fun k => hstep i s k hi⟩) l.length 0 s (by omega) trivial
  rw [any_index l z q, foldl_index l z f] at h
  exact h
theorem find_list {α R : Type} {g : Nat → Int → Option R} (l : List α) (z : α) {q : α → Bool} {r e : R} (hend : Ev (fun k => g k l.length) e)
    (hstep : ∀ (i : Nat) k, i < l.length → g (k + 1) i = if q (l.getD i z) = true then some r else g k ((i + 1 : Nat) : Int)) :
    Ev (fun k => g k 0) (if l.any q = true then r else e) :=
  ff_list (g := fun k (_ : Unit) i => g k i) (f := fun s _ => s) (fin := fun _ => e) l z () (fun _ => hend) (fun i _ k hi => hstep i k hi)
theorem fold_list {α σ R : Type} {g : Nat → σ → Int → Option R} (l : List α) (z : α) {f : σ → α → σ} {fin : σ → R} (s : σ) (hend : ∀ s, Ev (fun k => g k s l.length) (fin s))
    (hstep : ∀ (i : Nat) s k, i < l.length → g (k + 1) s i = g k (f s (l.getD i z)) ((i + 1 : Nat) : Int)) : Ev (fun k => g k s 0) (fin (l.foldl f s)) := by
  have h := ff_ev (g := g) (q := fun _ => false) (f := fun i s => f s (l.getD i z)) (r := fin s) (fin := fin) (fun _ _ => True) l.length (fun s _ => hend s) (fun i s hi _ => ⟨fun _ => trivial, fun k => by simpa using hstep i s k hi⟩) l.length 0 s (by omega) trivial
  rw [foldl_index l z f, if_neg (by simp)] at h
  exact h
theorem fold_index {σ R : Type} {g : Nat → σ → Int → Option R} {f : Nat → σ → σ} {fin : σ → R} (I : Nat → σ → Prop) (n : Nat) (s : σ) (h0 : I 0 s) (hend : ∀ s, I n s → Ev (fun k => g k s n) (fin s))
    (hstep : ∀ i s, i < n → I i s → I (i + 1) (f i s) ∧ ∀ k, g (k + 1) s i = g k (f i s) ((i + 1 : Nat) : Int)) : Ev (fun k => g k s 0) (fin ((List.range' 0 n).foldl (fun s j => f j s) s)) := by
  have h := ff_ev (g := g) (q := fun _ => false) (f := f) (r := fin s) (fin := fin) I n hend (fun i s hi hI => ⟨fun _ => (hstep i s hi hI).1, fun k => by simpa using (hstep i s hi hI).2 k⟩) n 0 s (by omega) h0
  rw [if_neg (by simp)] at h
  exact h
theorem find_index {R : Type} {g : Nat → Int → Option R} (n : Nat) {q : Nat → Bool} {r e : R} (hend : Ev (fun k => g k n) e)
    (hstep : ∀ (i : Nat) k, i < n → g (k + 1) i = if q i = true then some r else g k ((i + 1 : Nat) : Int)) :
    Ev (fun k => g k 0) (if (List.range' 0 n).any q = true then r else e) :=
  ff_ev (g := fun k (_ : Unit) i => g k i) (q := q) (f := fun _ s => s) (fin := fun _ => e) (fun _ _ => True) n (fun _ _ => hend) (fun i _ hi _ => ⟨fun _ => trivial, fun k => hstep i k hi⟩) n 0 () (by omega) trivial
theorem and255 (x : Int) : 0 ≤ Go.bits .and .i64 x 255 ∧ Go.bits .and .i64 x 255 ≤ 255 := by
  have h : ∃ n : Nat, n ≤ 255 ∧ Go.bits .and .i64 x 255 = IntKind.i64.wrap (n : Int) := by
    refine ⟨(BitVec.ofInt IntKind.i64.bits x &&& BitVec.ofInt IntKind.i64.bits 255).toNat, ?_, rfl⟩
    rw [BitVec.toNat_and]
    exact Nat.le_trans Nat.and_le_right (by decide)
  obtain ⟨n, hn, e⟩ := h
  rw [e, IntKind.wrap_i64]
  omega
/-- A loop whose rounds call: from what its next head comes to, what this head comes to. -/
theorem foldE {σ R : Type} {g : Nat → σ → Int → Option R} {f : Nat → σ → σ} {fin : σ → R} (I : Nat → σ → Prop) (n : Nat) (hend : ∀ s, I n s → Ev (fun k => g k s n) (fin s))
    (hstep : ∀ i s, i < n → I i s → I (i + 1) (f i s) ∧ ∀ r, Ev (fun k => g k (f i s) ((i + 1 : Nat) : Int)) r → Ev (fun k => g k s i) r) :
    ∀ d i s, i + d = n → I i s → Ev (fun k => g k s i) (fin ((List.range' i d).foldl (fun s j => f j s) s)) := by
  intro d
  induction d with
  | zero =>
    intro i s hi hI
    have : i = n := by omega
    subst this
    simpa using hend s hI
  | succ d ih =>
    intro i s hi hI
    rw [List.range'_succ, List.foldl_cons]
    exact (hstep i s (by omega) hI).2 _ (ih (i + 1) _ (by omega) (hstep i s (by omega) hI).1)
theorem foldE_index {σ R : Type} {g : Nat → σ → Int → Option R} {f : Nat → σ → σ} {fin : σ → R} (I : Nat → σ → Prop) (n : Nat) (s : σ) (h0 : I 0 s) (hend : ∀ s, I n s → Ev (fun k => g k s n) (fin s))
    (hstep : ∀ i s, i < n → I i s → I (i + 1) (f i s) ∧ ∀ r, Ev (fun k => g k (f i s) ((i + 1 : Nat) : Int)) r → Ev (fun k => g k s i) r) : Ev (fun k => g k s 0) (fin ((List.range' 0 n).foldl (fun s j => f j s) s)) :=
  foldE I n hend hstep n 0 s (by omega) h0
/-- .. and that leaves where q holds. -/
theorem findE {R : Type} {g : Nat → Int → Option R} {q : Nat → Bool} {r e : R} (n : Nat) (hend : Ev (fun k => g k n) e)
    (hstep : ∀ i, i < n → if q i = true then Ev (fun k => g k i) r else ∀ x, Ev (fun k => g k ((i + 1 : Nat) : Int)) x → Ev (fun k => g k i) x) : Ev (fun k => g k 0) (if (List.range' 0 n).any q = true then r else e) := by
  have : ∀ d i, i + d = n → Ev (fun k => g k i) (if (List.range' i d).any q = true then r else e) := by
    intro d
    induction d with
    | zero =>
      intro i hi
      have : i = n := by omega
      subst this
      simpa using hend
    | succ d ih =>
      intro i hi
      have h := hstep i (by omega)
      rw [List.range'_succ, List.any_cons]
      by_cases hp : q i = true
      · rw [if_pos hp] at h
        rw [hp, Bool.true_or, if_pos rfl]
        exact h
      · rw [if_neg hp] at h
        have hp' : q i = false := by simpa using hp
        rw [hp', Bool.false_or]
        exact h _ (ih (i + 1) (by omega))
  exact this n 0 (by omega)
/-- What is collected, and how many. -/
def places (p : Nat → Bool) (n : Nat) : List Int := ((List.range' 0 n).filter p).map fun j => ((j : Nat) : Int)
def countP (p : Nat → Bool) (n : Nat) : Int := (((List.range' 0 n).filter p).length : Int)
theorem collect_foldl (p : Nat → Bool) : ∀ d i (o : List Int), (List.range' i d).foldl (fun o j => if p j = true then o ++ [((j : Nat) : Int)] else o) o = o ++ ((List.range' i d).filter p).map fun j => ((j : Nat) : Int) := by
  intro d
  induction d with
  | zero => intro i o; simp
  | succ d ih =>
    intro i o
    rw [List.range'_succ, List.foldl_cons, ih, List.filter_cons]
    by_cases h : p i = true
    · rw [if_pos h, if_pos h]; simp
    · rw [if_neg h, if_neg h]
theorem collect_places (p : Nat → Bool) (n : Nat) : (List.range' 0 n).foldl (fun o j => if p j = true then o ++ [((j : Nat) : Int)] else o) [] = places p n := by rw [collect_foldl]; simp [places]
theorem places_length (p : Nat → Bool) (n : Nat) : (places p n).length ≤ n := by
  unfold places
  rw [List.length_map]
  exact Nat.le_trans (List.length_filter_le _ _) (by simp)
theorem countP_le (p : Nat → Bool) (n : Nat) : 0 ≤ countP p n ∧ countP p n ≤ n := by
  unfold countP
  have := List.length_filter_le p (List.range' 0 n)
  simp at this
  omega
theorem count_foldl (p : Nat → Bool) : ∀ d i (s : Nat), s + d < 4611686018427387904 → (List.range' i d).foldl (fun s j => if p j = true then wrap64 (s + 1) else s) ((s : Nat) : Int) = ((s + ((List.range' i d).filter p).length : Nat) : Int) := by
  intro d
  induction d with
  | zero => intro i s _; simp
  | succ d ih =>
    intro i s hs
    rw [List.range'_succ, List.foldl_cons, List.filter_cons]
    by_cases h : p i = true
    · rw [if_pos h, if_pos h, wrap_nat (by omega), ih (i + 1) (s + 1) (by omega), List.length_cons]
      omega
    · rw [if_neg h, if_neg h, ih (i + 1) s (by omega)]
theorem count_countP (p : Nat → Bool) (n : Nat) (hn : n < 4611686018427387904) : (List.range' 0 n).foldl (fun s j => if p j = true then wrap64 (s + 1) else s) 0 = countP p n := by
  have := count_foldl p n 0 0 (by omega)
  simpa [countP] using this
theorem mem_places (p : Nat → Bool) (n : Nat) (x : Int) : x ∈ places p n ↔ ∃ j : Nat, j < n ∧ p j = true ∧ x = (j : Int) := by
  unfold places
  simp only [List.mem_map, List.mem_filter, List.mem_range'_1]
  constructor
  · rintro ⟨j, ⟨⟨_, h⟩, hp⟩, rfl⟩
    exact ⟨j, by omega, hp, rfl⟩
  · rintro ⟨j, h, hp, rfl⟩
    exact ⟨j, ⟨⟨by omega, by omega⟩, hp⟩, rfl⟩
/-- Is a number in a list? -/
def hasB (l : List Int) (a : Int) : Bool := l.any fun x => x == a
theorem hasB_iff (l : List Int) (a : Int) : hasB l a = true ↔ a ∈ l := by simp [hasB]
/-- The numbers that a mark leaves. -/
def marks (a : Int) (n : Nat) : List Int := (List.range n).map fun j => a + ((j : Nat) : Int)
theorem marks_length (a : Int) (n : Nat) : (marks a n).length = n := by simp [marks]
theorem marks_get (a : Int) (n i : Nat) (h : i < n) : (marks a n)[i]? = some (a + i) := by simp [marks, h]
theorem marks_getD (a : Int) (n i : Nat) (h : i < n) : (marks a n).getD i 0 = a + i := by rw [List.getD_eq_getElem?_getD, marks_get a n i h]; rfl
theorem Ev.bindT {f : Nat → Option Bool} (h : Ev f true) : Ev (fun n => (f n).bind fun t => if t = true then some true else some false) true := Ev.bind h (Ev.all fun _ => if_pos rfl)
theorem getD_mem {α : Type} (l : List α) (z : α) {i : Nat} (h : i < l.length) : l.getD i z ∈ l := by
  rw [List.getD_eq_getElem?_getD, List.getElem?_eq_getElem h]
  exact List.getElem_mem h
theorem mem_getD {α : Type} (l : List α) (z x : α) (h : x ∈ l) : ∃ i, i < l.length ∧ l.getD i z = x := by
  obtain ⟨i, hi, e⟩ := List.getElem_of_mem h
  exact ⟨i, hi, by rw [List.getD_eq_getElem?_getD, List.getElem?_eq_getElem hi]; exact e⟩
/-- A loop that spends: what is left, and that each was fine. -/
theorem sz_loop {α : Type} {g : Nat → Int → Int → Option Int} (l : List α) (z : α) (ok : α → Prop) (hend : ∀ a, Ev (fun k => g k a l.length) a)
    (hstep : ∀ (i : Nat) a, i < l.length → 0 ≤ a → a ≤ 1048576 → ∃ t, t ≤ a ∧ (t < 0 → Ev (fun k => g k a i) (-1)) ∧ (0 ≤ t → ok (l.getD i z) ∧ ∀ r, Ev (fun k => g k t ((i + 1 : Nat) : Int)) r → Ev (fun k => g k a i) r))
    (a : Int) (h0 : 0 ≤ a) (h1 : a ≤ 1048576) : ∃ t, Ev (fun k => g k a 0) t ∧ t ≤ a ∧ (0 ≤ t → ∀ x ∈ l, ok x) := by
  have : ∀ d i a, i + d = l.length → 0 ≤ a → a ≤ 1048576 → ∃ t, Ev (fun k => g k a i) t ∧ t ≤ a ∧ (0 ≤ t → ∀ j, i ≤ j → j < l.length → ok (l.getD j z)) := by
    intro d
    induction d with
    | zero =>
      intro i a hi h0 h1
      have : i = l.length := by omega
      subst this
      exact ⟨a, hend a, Int.le_refl a, fun _ j h1 h2 => by omega⟩
    | succ d ih =>
      intro i a hi h0 h1
      obtain ⟨t, hle, hn, hp⟩ := hstep i a (by omega) h0 h1
      by_cases ht : t < 0
      · exact ⟨-1, hn ht, by omega, by omega⟩
      · obtain ⟨hok, hr⟩ := hp (by omega)
        obtain ⟨u, hu, hle2, hok2⟩ := ih (i + 1) t (by omega) (by omega) (by omega)
        refine ⟨u, hr u hu, by omega, fun h j hj1 hj2 => ?_⟩
        by_cases e : j = i
        · rw [e]; exact hok
        · exact hok2 h j (by omega) hj2
  obtain ⟨t, h, hle, hok⟩ := this l.length 0 a (by omega) h0 h1
  exact ⟨t, h, hle, fun ht x hx => by obtain ⟨j, hj, e⟩ := mem_getD l z x hx; rw [← e]; exact hok ht j (by omega) hj⟩
/-- A loop that fills a list, place by place. -/
theorem to_loop {α β : Type} {g : Nat → List β → Int → Option (List β)} (l : List α) (z : α) (f : α → β) (hend : ∀ o, Ev (fun k => g k o l.length) o)
    (hstep : ∀ (i : Nat) o, i < l.length → o.length = l.length → ∀ r, Ev (fun k => g k (o.set i (f (l.getD i z))) ((i + 1 : Nat) : Int)) r → Ev (fun k => g k o i) r)
    (o : List β) (ho : o.length = l.length) : Ev (fun k => g k o 0) (l.map f) := by
  have : ∀ d i (o : List β), i + d = l.length → o.length = l.length → o.take i = (l.map f).take i → Ev (fun k => g k o i) (l.map f) := by
    intro d
    induction d with
    | zero =>
      intro i o hi ho ht
      have e : i = l.length := by omega
      have h := hend o
      rw [take_full (by simpa using ho) (by simp; omega) ht] at h
      subst e
      rw [take_full (by simpa using ho) (by simp) ht]
      exact h
    | succ d ih =>
      intro i o hi ho ht
      exact hstep i o (by omega) ho _ (ih (i + 1) (o.set i (f (l.getD i z))) (by omega) (by simp [ho]) (set_take o _ _ (by simpa using ho) (get_map f l z (by omega)) ht))
  exact this l.length 0 o (by omega) ho (by simp)
/-- A loop that says true at its end. -/
theorem all_loop {g : Nat → Int → Option Bool} (n : Nat) (hend : Ev (fun k => g k n) true) (hstep : ∀ i, i < n → ∀ r, Ev (fun k => g k ((i + 1 : Nat) : Int)) r → Ev (fun k => g k i) r) : Ev (fun k => g k 0) true := by
  have := findE (q := fun _ => false) (r := true) n hend (fun i hi => by rw [if_neg (by simp)]; exact hstep i hi)
  rw [ite_self] at this
  exact this
/-- .. from any place on; what stands behind the loop is asked only where nothing was found. -/
theorem findE_at {R : Type} {g : Nat → Int → Option R} {q : Nat → Bool} {r e : R} (n : Nat) (m : Nat)
    (hstep : ∀ i, m ≤ i → i < n → if q i = true then Ev (fun k => g k i) r else ∀ x, Ev (fun k => g k ((i + 1 : Nat) : Int)) x → Ev (fun k => g k i) x) :
    ∀ d i, m ≤ i → i + d = n → ((List.range' i d).any q = false → Ev (fun k => g k n) e) → Ev (fun k => g k i) (if (List.range' i d).any q = true then r else e) := by
  intro d
  induction d with
  | zero =>
    intro i _ hi hend
    have : i = n := by omega
    subst this
    have := hend rfl
    simpa using this
  | succ d ih =>
    intro i hm hi hend
    have h := hstep i hm (by omega)
    rw [List.range'_succ, List.any_cons] at hend ⊢
    by_cases hp : q i = true
    · rw [if_pos hp] at h
      rw [hp, Bool.true_or, if_pos rfl]
      exact h
    · rw [if_neg hp] at h
      have hp' : q i = false := by simpa using hp
      rw [hp', Bool.false_or] at hend ⊢
      exact h _ (ih (i + 1) (by omega) (by omega) hend)
/-- The first place for which something holds, or -1. -/
def firstAt {α : Type} (q : α → Bool) : List α → Nat → Int
  | [], _ => -1
  | x :: l, i => if q x = true then ((i : Nat) : Int) else firstAt q l (i + 1)
theorem firstAt_any {α : Type} (q : α → Bool) : ∀ (l : List α) (i : Nat), decide (firstAt q l i ≥ 0) = l.any q
  | [], i => rfl
  | x :: l, i => by
    rw [firstAt, List.any_cons]
    by_cases h : q x = true
    · rw [if_pos h, h, Bool.true_or]; simp
    · have : q x = false := by simpa using h
      rw [if_neg h, firstAt_any q l (i + 1), this, Bool.false_or]
theorem count_once {p : Nat → Bool} : ∀ (d i : Nat), (∀ a b, i ≤ a → a < i + d → i ≤ b → b < i + d → p a = true → p b = true → a = b) → ((List.range' i d).filter p).length = if (List.range' i d).any p = true then 1 else 0 := by
  intro d
  induction d with
  | zero => intro i _; rfl
  | succ d ih =>
    intro i h
    rw [List.range'_succ, List.filter_cons, List.any_cons]
    have ih' := ih (i + 1) (fun a b h1 h2 h3 h4 => h a b (by omega) (by omega) (by omega) (by omega))
    by_cases hp : p i = true
    · rw [if_pos hp, hp, Bool.true_or, if_pos rfl, List.length_cons, ih']
      have : (List.range' (i + 1) d).any p = false := by
        rw [List.any_eq_false]
        intro x hx
        rw [List.mem_range'_1] at hx
        intro hpx
        have := h i x (by omega) (by omega) (by omega) (by omega) hp hpx
        omega
      rw [this]; rfl
    · have hp' : p i = false := by simpa using hp
      rw [if_neg hp, hp', Bool.false_or, ih']
/-- A loop up to its end: what its end comes to, its start comes to. -/
theorem foldE_to {σ R : Type} {g : Nat → σ → Int → Option R} {f : Nat → σ → σ} (I : Nat → σ → Prop) (n m : Nat)
    (hstep : ∀ i s, m ≤ i → i < n → I i s → I (i + 1) (f i s) ∧ ∀ r, Ev (fun k => g k (f i s) ((i + 1 : Nat) : Int)) r → Ev (fun k => g k s i) r) :
    ∀ d i s, m ≤ i → i + d = n → I i s → I n ((List.range' i d).foldl (fun s j => f j s) s) ∧ ∀ r, Ev (fun k => g k ((List.range' i d).foldl (fun s j => f j s) s) n) r → Ev (fun k => g k s i) r := by
  intro d
  induction d with
  | zero =>
    intro i s _ hi hI
    have : i = n := by omega
    subst this
    exact ⟨hI, fun r h => h⟩
  | succ d ih =>
    intro i s hm hi hI
    have h := hstep i s hm (by omega) hI
    have h2 := ih (i + 1) (f i s) (by omega) (by omega) h.1
    rw [List.range'_succ, List.foldl_cons]
    exact ⟨h2.1, fun r hr => h.2 r (h2.2 r hr)⟩
theorem nodup_get : ∀ (l : List Int), l.Nodup → ∀ i j, i < l.length → j < l.length → l.getD i 0 = l.getD j 0 → i = j
  | [], _, i, j, hi, _, _ => absurd hi (Nat.not_lt_zero i)
  | x :: l, h, i, j, hi, hj, e => by
    rw [List.nodup_cons] at h
    cases i with
    | zero =>
      cases j with
      | zero => rfl
      | succ j =>
        rw [List.getD_cons_zero, List.getD_cons_succ] at e
        exact absurd (by rw [e]; exact getD_mem l 0 (by simpa using hj)) h.1
    | succ i =>
      cases j with
      | zero =>
        rw [List.getD_cons_zero, List.getD_cons_succ] at e
        exact absurd (by rw [← e]; exact getD_mem l 0 (by simpa using hi)) h.1
      | succ j =>
        rw [List.getD_cons_succ, List.getD_cons_succ] at e
        rw [nodup_get l h.2 i j (by simpa using hi) (by simpa using hj) e]
theorem Ev.uniq {α : Type} {f : Nat → Option α} {r r' : α} (h : Ev f r) (h' : Ev f r') : r = r' := by
  obtain ⟨a, ha⟩ := h
  obtain ⟨b, hb⟩ := h'
  have := (ha (max a b) (Nat.le_max_left a b)).symm.trans (hb (max a b) (Nat.le_max_right a b))
  exact Option.some.inj this
/-- A loop that spends, and how much. -/
theorem sz_sum {α : Type} {g : Nat → Int → Int → Option Int} (l : List α) (z : α) (c : α → Nat) (hend : ∀ a, Ev (fun k => g k a l.length) a)
    (hstep : ∀ (i : Nat) a, i < l.length → 0 ≤ a → a ≤ 1048576 → ∃ t, t ≤ a ∧ (t < 0 → Ev (fun k => g k a i) (-1)) ∧ (0 ≤ t → t + (c (l.getD i z) : Int) ≤ a ∧ ∀ r, Ev (fun k => g k t ((i + 1 : Nat) : Int)) r → Ev (fun k => g k a i) r))
    (a : Int) (h0 : 0 ≤ a) (h1 : a ≤ 1048576) : ∃ t, Ev (fun k => g k a 0) t ∧ t ≤ a ∧ (0 ≤ t → t + ((l.map c).sum : Int) ≤ a) := by
  have : ∀ d i a, i + d = l.length → 0 ≤ a → a ≤ 1048576 → ∃ t, Ev (fun k => g k a i) t ∧ t ≤ a ∧ (0 ≤ t → t + (((l.drop i).map c).sum : Int) ≤ a) := by
    intro d
    induction d with
    | zero =>
      intro i a hi h0 h1
      have : i = l.length := by omega
      subst this
      exact ⟨a, hend a, Int.le_refl a, fun _ => by rw [List.drop_length]; simp⟩
    | succ d ih =>
      intro i a hi h0 h1
      obtain ⟨t, hle, hn, hp⟩ := hstep i a (by omega) h0 h1
      rw [drop_cons l z (show i < l.length by omega), List.map_cons, List.sum_cons]
      by_cases ht : t < 0
      · exact ⟨-1, hn ht, by omega, by omega⟩
      · obtain ⟨hok, hr⟩ := hp (by omega)
        obtain ⟨u, hu, hle2, hok2⟩ := ih (i + 1) t (by omega) (by omega) (by omega)
        exact ⟨u, hr u hu, by omega, fun h => by have := hok2 h; omega⟩
  have := this l.length 0 a (by omega) h0 h1
  rw [List.drop_zero] at this
  exact this
end Go.Proofs.Ytindlpkkapelhaa.Base
