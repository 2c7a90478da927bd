/- Plain facts on numbers, lists and rounds. Conditions: the bounds that each names. -/
import Derived.Test.YtdodogkgmpaioaaVFnReachWWords
import Derived.Test.YtdodogkgmpaioaaVFnReachWMore
import Derived.OpenShut
import Derived.Laws.BitsLemmas
namespace Go.Proofs.Ytdodogkgmpaioaa.Base
open Go.RowKit Go.Proofs.YtdodogkgmpaioaaW.PrintWords

theorem wrap_nat {i : Nat} (h : i < 4611686018427387904) : wrap64 ((i : Int) + 1) = ((i + 1 : Nat) : Int) := by unfold wrap64; omega
theorem wrap_id {x : Int} (h1 : -9223372036854775808 ≤ x) (h2 : x < 9223372036854775808) : wrap64 x = x := by unfold wrap64; omega
theorem rd_nat (l : List Int) (i : Nat) : rd l (i : Int) = l.getD i 0 := rfl
/-- Between two bounds. -/
def inR (a lo hi : Int) : Bool := decide (lo ≤ a) && decide (a ≤ hi)
theorem drop_cons {α : Type} (l : List α) (z : α) {i : Nat} (h : i < l.length) : l.drop i = l.getD i z :: l.drop (i + 1) := by
  rw [List.drop_eq_getElem_cons h, List.getD_eq_getElem?_getD, List.getElem?_eq_getElem h]
  rfl
theorem getD_set_self {α : Type} (l : List α) (z v : α) {i : Nat} (h : i < l.length) : (l.set i v).getD i z = v := by
  simp [List.getD_eq_getElem?_getD, h]
theorem Ev.one {α : Type} {g : Nat → Option α} {r : α} (h : ∀ k, g (k + 1) = some r) : Ev g r := Ev.step (f := fun _ => some r) h (Ev.now r)
theorem Ev.all {α : Type} {g : Nat → Option α} {r : α} (h : ∀ k, g k = some r) : Ev g r := ⟨0, fun k _ => h k⟩
theorem any_range' {α : Type} (l : List α) (z : α) (q : α → Bool) : ∀ d i, i + d = l.length → (List.range' i d).any (fun j => q (l.getD j z)) = (l.drop i).any q := by
  intro d
  induction d with
  | zero =>
    intro i hi
    rw [List.drop_eq_nil_of_le (by omega)]
    rfl
  | succ d ih =>
    intro i hi
    rw [List.range'_succ, List.any_cons, drop_cons l z (by omega), List.any_cons, ih (i + 1) (by omega)]
theorem any_index {α : Type} (l : List α) (z : α) (q : α → Bool) : (List.range' 0 l.length).any (fun j => q (l.getD j z)) = l.any q := by
  have := any_range' l z q l.length 0 (by omega)
  simpa using this
def idxB (a : Int) (n : Nat) : Bool := decide (0 ≤ a) && decide (a < (n : Int))
theorem inR_idx (a : Int) (n : Nat) (hn : n ≤ 1048576) : inR a 0 (wrap64 ((n : Int) - 1)) = idxB a n := by
  rw [wrap_id (by omega) (by omega)]
  unfold inR idxB
  congr 1
  rw [decide_eq_decide]
  omega
theorem idxB_iff (a : Int) (n : Nat) : idxB a n = true ↔ 0 ≤ a ∧ a < (n : Int) := by simp [idxB]
theorem wrap_pred {i : Nat} (h : 0 < i) (h2 : i < 4611686018427387904) : wrap64 ((i : Int) - 1) = ((i - 1 : Nat) : Int) := by unfold wrap64; omega
theorem ite_bool (b : Bool) : (if b = true then true else false) = b := by cases b <;> rfl
/-- An index loop that leaves with r where q holds, and goes on with f. -/
theorem ff_ev {σ R : Type} {g : Nat → σ → Int → Option R} {q : Nat → Bool} {f : Nat → σ → σ} {r : R} {fin : σ → R} (I : Nat → σ → Prop) (n : Nat)
    (hend : ∀ s, I n s → Ev (fun k => g k s n) (fin s))
    (hstep : ∀ i s, i < n → I i s → (q i = false → I (i + 1) (f i s)) ∧ ∀ k, g (k + 1) s i = if q i = true then some r else g k (f i s) ((i + 1 : Nat) : Int)) :
    ∀ d i s, i + d = n → I i s → Ev (fun k => g k s i) (if (List.range' i d).any q = true then r else fin ((List.range' i d).foldl (fun s j => f j s) s)) := by
  intro d
  induction d with
  | zero =>
    intro i s hi hI
    have : i = n := by omega
    subst this
    simpa using hend s hI
  | succ d ih =>
    intro i s hi hI
    have h := hstep i s (by omega) hI
    rw [List.range'_succ, List.any_cons, List.foldl_cons]
    by_cases hp : q i = true
    · rw [hp, Bool.true_or, if_pos rfl]
      exact Ev.one fun k => by rw [h.2, if_pos hp]
    · have hp' : q i = false := by simpa using hp
      rw [hp', Bool.false_or]
      exact Ev.step (fun k => by rw [h.2, if_neg hp]) (ih (i + 1) _ (by omega) (h.1 hp'))
theorem foldl_range' {α σ : Type} (l : List α) (z : α) (h : σ → α → σ) : ∀ d i s, i + d = l.length → (List.range' i d).foldl (fun s j => h s (l.getD j z)) s = (l.drop i).foldl h s := by
  intro d
  induction d with
  | zero =>
    intro i s hi
    rw [List.drop_eq_nil_of_le (by omega)]
    rfl
  | succ d ih =>
    intro i s hi
    rw [List.range'_succ, List.foldl_cons, drop_cons l z (by omega), List.foldl_cons, ih (i + 1) _ (by omega)]
theorem foldl_index {α σ : Type} (l : List α) (z : α) (h : σ → α → σ) (s : σ) : (List.range' 0 l.length).foldl (fun s j => h s (l.getD j z)) s = l.foldl h s := by
  have := foldl_range' l z h l.length 0 s (by omega)
  simpa using this
/-- The same over a list's elements. -/
theorem ff_list {α σ R : Type} {g : Nat → σ → Int → Option R} (l : List α) (z : α) {q : α → Bool} {f : σ → α → σ} {r : R} {fin : σ → R} (s : σ)
    (hend : ∀ s, Ev (fun k => g k s l.length) (fin s))
    (hstep : ∀ (i : Nat) s k, i < l.length → g (k + 1) s i = if q (l.getD i z) = true then some r else g k (f s (l.getD i z)) ((i + 1 : Nat) : Int)) :
    Ev (fun k => g k s 0) (if l.any q = true then r else fin (l.foldl f s)) := by
  have h := ff_ev (g := g) (q := fun i => q (l.getD i z)) (f := fun i s => f s (l.getD i z)) (r := r) (fin := fin) (fun _ _ => True) l.length (fun s _ => hend s) (fun i s hi _ => ⟨fun _ => trivial, fun k => hstep i s k hi⟩) l.length 0 s (by omega) trivial
  rw [any_index l z q, foldl_index l z f] at h
  exact h
theorem find_list {α R : Type} {g : Nat → Int → Option R} (l : List α) (z : α) {q : α → Bool} {r e : R} (hend : Ev (fun k => g k l.length) e)
    (hstep : ∀ (i : Nat) k, i < l.length → g (k + 1) i = if q (l.getD i z) = true then some r else g k ((i + 1 : Nat) : Int)) :
    Ev (fun k => g k 0) (if l.any q = true then r else e) :=
  ff_list (g := fun k (_ : Unit) i => g k i) (f := fun s _ => s) (fin := fun _ => e) l z () (fun _ => hend) (fun i _ k hi => hstep i k hi)
theorem fold_index {σ R : Type} {g : Nat → σ → Int → Option R} {f : Nat → σ → σ} {fin : σ → R} (I : Nat → σ → Prop) (n : Nat) (s : σ) (h0 : I 0 s) (hend : ∀ s, I n s → Ev (fun k => g k s n) (fin s))
    (hstep : ∀ i s, i < n → I i s → I (i + 1) (f i s) ∧ ∀ k, g (k + 1) s i = g k (f i s) ((i + 1 : Nat) : Int)) : Ev (fun k => g k s 0) (fin ((List.range' 0 n).foldl (fun s j => f j s) s)) := by
  have h := ff_ev (g := g) (q := fun _ => false) (f := f) (r := fin s) (fin := fin) I n hend (fun i s hi hI => ⟨fun _ => (hstep i s hi hI).1, fun k => by simpa using (hstep i s hi hI).2 k⟩) n 0 s (by omega) h0
  rw [if_neg (by simp)] at h
  exact h
theorem find_index {R : Type} {g : Nat → Int → Option R} (n : Nat) {q : Nat → Bool} {r e : R} (hend : Ev (fun k => g k n) e)
    (hstep : ∀ (i : Nat) k, i < n → g (k + 1) i = if q i = true then some r else g k ((i + 1 : Nat) : Int)) :
    Ev (fun k => g k 0) (if (List.range' 0 n).any q = true then r else e) :=
  ff_ev (g := fun k (_ : Unit) i => g k i) (q := q) (f := fun _ s => s) (fin := fun _ => e) (fun _ _ => True) n (fun _ _ => hend) (fun i _ hi _ => ⟨fun _ => trivial, fun k => hstep i k hi⟩) n 0 () (by omega) trivial
theorem and255 (x : Int) : 0 ≤ Go.bits .and .i64 x 255 ∧ Go.bits .and .i64 x 255 ≤ 255 := by
  have h : ∃ n : Nat, n ≤ 255 ∧ Go.bits .and .i64 x 255 = IntKind.i64.wrap (n : Int) := by
    refine ⟨(BitVec.ofInt IntKind.i64.bits x &&& BitVec.ofInt IntKind.i64.bits 255).toNat, ?_, rfl⟩
    rw [BitVec.toNat_and]
    exact Nat.le_trans Nat.and_le_right (by decide)
  obtain ⟨n, hn, e⟩ := h
  rw [e, IntKind.wrap_i64]
  omega
/-- A loop whose rounds call: from what its next head comes to, what this head comes to. -/
theorem foldE {σ R : Type} {g : Nat → σ → Int → Option R} {f : Nat → σ → σ} {fin : σ → R} (I : Nat → σ → Prop) (n : Nat) (hend : ∀ s, I n s → Ev (fun k => g k s n) (fin s))
    (hstep : ∀ i s, i < n → I i s → I (i + 1) (f i s) ∧ ∀ r, Ev (fun k => g k (f i s) ((i + 1 : Nat) : Int)) r → Ev (fun k => g k s i) r) :
    ∀ d i s, i + d = n → I i s → Ev (fun k => g k s i) (fin ((List.range' i d).foldl (fun s j => f j s) s)) := by
  intro d
  induction d with
  | zero =>
    intro i s hi hI
    have : i = n := by omega
    subst this
    simpa using hend s hI
  | succ d ih =>
    intro i s hi hI
    rw [List.range'_succ, List.foldl_cons]
    exact (hstep i s (by omega) hI).2 _ (ih (i + 1) _ (by omega) (hstep i s (by omega) hI).1)
theorem foldE_index {σ R : Type} {g : Nat → σ → Int → Option R} {f : Nat → σ → σ} {fin : σ → R} (I : Nat → σ → Prop) (n : Nat) (s : σ) (h0 : I 0 s) (hend : ∀ s, I n s → Ev (fun k => g k s n) (fin s))
    (hstep : ∀ i s, i < n → I i s → I (i + 1) (f i s) ∧ ∀ r, Ev (fun k => g k (f i s) ((i + 1 : Nat) : Int)) r → Ev (fun k => g k s i) r) : Ev (fun k => g k s 0) (fin ((List.range' 0 n).foldl (fun s j => f j s) s)) :=
  foldE I n hend hstep n 0 s (by omega) h0
/-- .. and that leaves where q holds. -/
theorem findE {R : Type} {g : Nat → Int → Option R} {q : Nat → Bool} {r e : R} (n : Nat) (hend : Ev (fun k => g k n) e)
    (hstep : ∀ i, i < n → if q i = true then Ev (fun k => g k i) r else ∀ x, Ev (fun k => g k ((i + 1 : Nat) : Int)) x → Ev (fun k => g k i) x) : Ev (fun k => g k 0) (if (List.range' 0 n).any q = true then r else e) := by
  have : ∀ d i, i + d = n → Ev (fun k => g k i) (if (List.range' i d).any q = true then r else e) := by
    intro d
    induction d with
    | zero =>
      intro i hi
      have : i = n := by omega
      subst this
      simpa using hend
    | succ d ih =>
      intro i hi
      have h := hstep i (by omega)
      rw [List.range'_succ, List.any_cons]
      by_cases hp : q i = true
      · rw [if_pos hp] at h
        rw [hp, Bool.true_or, if_pos rfl]
        exact h
      · rw [if_neg hp] at h
        have hp' : q i = false := by simpa using hp
        rw [hp', Bool.false_or]
        exact h _ (ih (i + 1) (by omega))
  exact this n 0 (by omega)
/-- What is collected, and how many. -/
def places (p : Nat → Bool) (n : Nat) : List Int := ((List.range' 0 n).filter p).map fun j => ((j : Nat) : Int)
def countP (p : Nat → Bool) (n : Nat) : Int := (((List.range' 0 n).filter p).length : Int)
theorem count_foldl (p : Nat → Bool) : ∀ d i (s : Nat), s + d < 4611686018427387904 → (List.range' i d).foldl (fun s j => if p j = true then wrap64 (s + 1) else s) ((s : Nat) : Int) = ((s + ((List.range' i d).filter p).length : Nat) : Int) := by
  intro d
  induction d with
  | zero => intro i s _; simp
  | succ d ih =>
    intro i s hs
    rw [List.range'_succ, List.foldl_cons, List.filter_cons]
    by_cases h : p i = true
    · rw [if_pos h, if_pos h, wrap_nat (by omega), ih (i + 1) (s + 1) (by omega), List.length_cons]
      omega
    · rw [if_neg h, if_neg h, ih (i + 1) s (by omega)]
theorem count_countP (p : Nat → Bool) (n : Nat) (hn : n < 4611686018427387904) : (List.range' 0 n).foldl (fun s j => if p j = true then wrap64 (s + 1) else s) 0 = countP p n := by
  have := count_foldl p n 0 0 (by omega)
  simpa [countP] using this
/-- Is a number in a list? -/
def hasB (l : List Int) (a : Int) : Bool := l.any fun x => x == a
theorem hasB_iff (l : List Int) (a : Int) : hasB l a = true ↔ a ∈ l := by simp [hasB]
theorem getD_mem {α : Type} (l : List α) (z : α) {i : Nat} (h : i < l.length) : l.getD i z ∈ l := by
  rw [List.getD_eq_getElem?_getD, List.getElem?_eq_getElem h]
  exact List.getElem_mem h
theorem mem_getD {α : Type} (l : List α) (z x : α) (h : x ∈ l) : ∃ i, i < l.length ∧ l.getD i z = x := by
  obtain ⟨i, hi, e⟩ := List.getElem_of_mem h
  exact ⟨i, hi, by rw [List.getD_eq_getElem?_getD, List.getElem?_eq_getElem hi]; exact e⟩
/-- The first place for which something holds, or -1. -/
def firstAt {α : Type} (q : α → Bool) : List α → Nat → Int
  | [], _ => -1
  | x :: l, i => if q x = true then ((i : Nat) : Int) else firstAt q l (i + 1)
theorem firstAt_any {α : Type} (q : α → Bool) : ∀ (l : List α) (i : Nat), decide (firstAt q l i ≥ 0) = l.any q
  | [], i => rfl
  | x :: l, i => by
    rw [firstAt, List.any_cons]
    by_cases h : q x = true
    · rw [if_pos h, h, Bool.true_or]; simp
    · have : q x = false := by simpa using h
      rw [if_neg h, firstAt_any q l (i + 1), this, Bool.false_or]
/-- A loop up to its end: what its end comes to, its start comes to. -/
theorem foldE_to {σ R : Type} {g : Nat → σ → Int → Option R} {f : Nat → σ → σ} (I : Nat → σ → Prop) (n m : Nat)
    (hstep : ∀ i s, m ≤ i → i < n → I i s → I (i + 1) (f i s) ∧ ∀ r, Ev (fun k => g k (f i s) ((i + 1 : Nat) : Int)) r → Ev (fun k => g k s i) r) :
    ∀ d i s, m ≤ i → i + d = n → I i s → I n ((List.range' i d).foldl (fun s j => f j s) s) ∧ ∀ r, Ev (fun k => g k ((List.range' i d).foldl (fun s j => f j s) s) n) r → Ev (fun k => g k s i) r := by
  intro d
  induction d with
  | zero =>
    intro i s _ hi hI
    have : i = n := by omega
    subst this
    exact ⟨hI, fun r h => h⟩
  | succ d ih =>
    intro i s hm hi hI
    have h := hstep i s hm (by omega) hI
    have h2 := ih (i + 1) (f i s) (by omega) (by omega) h.1
    rw [List.range'_succ, List.foldl_cons]
    exact ⟨h2.1, fun r hr => h.2 r (h2.2 r hr)⟩
end Go.Proofs.Ytdodogkgmpaioaa.Base
