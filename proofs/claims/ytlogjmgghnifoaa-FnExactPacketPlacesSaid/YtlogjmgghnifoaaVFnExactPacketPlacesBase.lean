/- Plain facts on numbers, lists and rounds. Conditions: the bounds that each names. -/
import Derived.Test.YtlogjmgghnifoaaVFnExactPacketPlacesWWords
import Derived.Test.YtlogjmgghnifoaaVFnExactPacketPlacesWMore
import Derived.OpenShut
import Derived.Laws.BitsLemmas
namespace Go.Proofs.Ytlogjmgghnifoaa.Base
open Go.RowKit Go.Proofs.YtlogjmgghnifoaaW.PrintWords

theorem wrap_nat {i : Nat} (h : i < 4611686018427387904) : wrap64 ((i : Int) + 1) = ((i + 1 : Nat) : Int) := by unfold wrap64; omega
theorem wrap_id {x : Int} (h1 : -9223372036854775808 ≤ x) (h2 : x < 9223372036854775808) : wrap64 x = x := by unfold wrap64; omega
theorem drop_cons {α : Type} (l : List α) (z : α) {i : Nat} (h : i < l.length) : l.drop i = l.getD i z :: l.drop (i + 1) := by
  rw [List.drop_eq_getElem_cons h, List.getD_eq_getElem?_getD, List.getElem?_eq_getElem h]
  rfl
theorem get_map {α β : Type} (f : α → β) (l : List α) (z : α) {i : Nat} (h : i < l.length) : (l.map f)[i]? = some (f (l.getD i z)) := by
  simp [List.getD_eq_getElem?_getD, List.getElem?_eq_getElem h]
theorem get_of {α : Type} (l : List α) (z : α) {i : Nat} (h : i < l.length) : l[i]? = some (l.getD i z) := by
  simp [List.getD_eq_getElem?_getD, List.getElem?_eq_getElem h]
theorem set_take {α : Type} (o m : List α) (v : α) {i : Nat} (ho : o.length = m.length) (hv : m[i]? = some v) (h : o.take i = m.take i) : (o.set i v).take (i + 1) = m.take (i + 1) := by
  obtain ⟨hi, hv'⟩ := List.getElem?_eq_some_iff.1 hv
  apply List.ext_getElem?
  intro j
  have hj := congrArg (fun l => l[j]?) h
  simp only [List.getElem?_take] at hj ⊢
  by_cases h1 : j < i
  · rw [if_pos (by omega), if_pos (by omega), List.getElem?_set_ne (by omega)]
    simpa [h1] using hj
  · by_cases h2 : j = i
    · subst h2
      rw [if_pos (by omega), if_pos (by omega), List.getElem?_set_self (by omega), hv]
    · rw [if_neg (by omega), if_neg (by omega)]
theorem take_full {α : Type} {o m : List α} (ho : o.length = m.length) {i : Nat} (hi : m.length ≤ i) (h : o.take i = m.take i) : o = m := by
  rw [List.take_of_length_le (by omega), List.take_of_length_le hi] at h
  exact h
theorem Ev.one {α : Type} {g : Nat → Option α} {r : α} (h : ∀ k, g (k + 1) = some r) : Ev g r := Ev.step (f := fun _ => some r) h (Ev.now r)
theorem Ev.all {α : Type} {g : Nat → Option α} {r : α} (h : ∀ k, g k = some r) : Ev g r := ⟨0, fun k _ => h k⟩
/-- An index loop that leaves with r where q holds, and goes on with f. -/
theorem ff_ev {σ R : Type} {g : Nat → σ → Int → Option R} {q : Nat → Bool} {f : Nat → σ → σ} {r : R} {fin : σ → R} (I : Nat → σ → Prop) (n : Nat)
    (hend : ∀ s, I n s → Ev (fun k => g k s n) (fin s))
    (hstep : ∀ i s, i < n → I i s → (q i = false → I (i + 1) (f i s)) ∧ ∀ k, g (k + 1) s i = if q i = true then some r else g k (f i s) ((i + 1 : Nat) : Int)) :
    ∀ d i s, i + d = n → I i s → Ev (fun k => g k s i) (if (List.range' i d).any q = true then r else fin ((List.range' i d).foldl (fun s j => f j s) s)) := by
  intro d
  induction d with
  | zero =>
    intro i s hi hI
    have : i = n := by omega
    subst this
    simpa using hend s hI
  | succ d ih =>
    intro i s hi hI
    have h := hstep i s (by omega) hI
    rw [List.range'_succ, List.any_cons, List.foldl_cons]
    by_cases hp : q i = true
    · rw [hp, Bool.true_or, if_pos rfl]
      exact Ev.one fun k => by rw [h.2, if_pos hp]
    · have hp' : q i = false := by simpa using hp
      rw [hp', Bool.false_or]
      exact Ev.step (fun k => by rw [h.2, if_neg hp]) (ih (i + 1) _ (by omega) (h.1 hp'))
theorem foldl_range' {α σ : Type} (l : List α) (z : α) (h : σ → α → σ) : ∀ d i s, i + d = l.length → (List.range' i d).foldl (fun s j => h s (l.getD j z)) s = (l.drop i).foldl h s := by
  intro d
  induction d with
  | zero =>
    intro i s hi
    rw [List.drop_eq_nil_of_le (by omega)]
    rfl
  | succ d ih =>
    intro i s hi
    rw [List.range'_succ, List.foldl_cons, drop_cons l z (by omega), List.foldl_cons, ih (i + 1) _ (by omega)]
theorem foldl_index {α σ : Type} (l : List α) (z : α) (h : σ → α → σ) (s : σ) : (List.range' 0 l.length).foldl (fun s j => h s (l.getD j z)) s = l.foldl h s := by
  have := foldl_range' l z h l.length 0 s (by omega)
  simpa using this
theorem fold_list {α σ R : Type} {g : Nat → σ → Int → Option R} (l : List α) (z : α) {f : σ → α → σ} {fin : σ → R} (s : σ) (hend : ∀ s, Ev (fun k => g k s l.length) (fin s))
    (hstep : ∀ (i : Nat) s k, i < l.length → g (k + 1) s i = g k (f s (l.getD i z)) ((i + 1 : Nat) : Int)) : Ev (fun k => g k s 0) (fin (l.foldl f s)) := by
  have h := ff_ev (g := g) (q := fun _ => false) (f := fun i s => f s (l.getD i z)) (r := fin s) (fin := fin) (fun _ _ => True) l.length (fun s _ => hend s) (fun i s hi _ => ⟨fun _ => trivial, fun k => by simpa using hstep i s k hi⟩) l.length 0 s (by omega) trivial
  rw [foldl_index l z f, if_neg (by simp)] at h
  exact h
/-- .. and that leaves where q holds. -/
theorem findE {R : Type} {g : Nat → Int → Option R} {q : Nat → Bool} {r e : R} (n : Nat) (hend : Ev (fun k => g k n) e)
    (hstep : ∀ i, i < n → if q i = true then Ev (fun k => g k i) r else ∀ x, Ev (fun k => g k ((i + 1 : Nat) : Int)) x → Ev (fun k => g k i) x) : Ev (fun k => g k 0) (if (List.range' 0 n).any q = true then r else e) := by
  have : ∀ d i, i + d = n → Ev (fun k => g k i) (if (List.range' i d).any q = true then r else e) := by
    intro d
    induction d with
    | zero =>
      intro i hi
      have : i = n := by omega
      subst this
      simpa using hend
    | succ d ih =>
      intro i hi
      have h := hstep i (by omega)
      rw [List.range'_succ, List.any_cons]
      by_cases hp : q i = true
      · rw [if_pos hp] at h
        rw [hp, Bool.true_or, if_pos rfl]
        exact h
      · rw [if_neg hp] at h
        have hp' : q i = false := by simpa using hp
        rw [hp', Bool.false_or]
        exact h _ (ih (i + 1) (by omega))
  exact this n 0 (by omega)
/-- What is collected, and how many. -/
def places (p : Nat → Bool) (n : Nat) : List Int := ((List.range' 0 n).filter p).map fun j => ((j : Nat) : Int)
theorem Ev.bindT {f : Nat → Option Bool} (h : Ev f true) : Ev (fun n => (f n).bind fun t => if t = true then some true else some false) true := Ev.bind h (Ev.all fun _ => if_pos rfl)
theorem getD_mem {α : Type} (l : List α) (z : α) {i : Nat} (h : i < l.length) : l.getD i z ∈ l := by
  rw [List.getD_eq_getElem?_getD, List.getElem?_eq_getElem h]
  exact List.getElem_mem h
theorem mem_getD {α : Type} (l : List α) (z x : α) (h : x ∈ l) : ∃ i, i < l.length ∧ l.getD i z = x := by
  obtain ⟨i, hi, e⟩ := List.getElem_of_mem h
  exact ⟨i, hi, by rw [List.getD_eq_getElem?_getD, List.getElem?_eq_getElem hi]; exact e⟩
/-- A loop that spends: what is left, and that each was fine. -/
theorem sz_loop {α : Type} {g : Nat → Int → Int → Option Int} (l : List α) (z : α) (ok : α → Prop) (hend : ∀ a, Ev (fun k => g k a l.length) a)
    (hstep : ∀ (i : Nat) a, i < l.length → 0 ≤ a → a ≤ 1048576 → ∃ t, t ≤ a ∧ (t < 0 → Ev (fun k => g k a i) (-1)) ∧ (0 ≤ t → ok (l.getD i z) ∧ ∀ r, Ev (fun k => g k t ((i + 1 : Nat) : Int)) r → Ev (fun k => g k a i) r))
    (a : Int) (h0 : 0 ≤ a) (h1 : a ≤ 1048576) : ∃ t, Ev (fun k => g k a 0) t ∧ t ≤ a ∧ (0 ≤ t → ∀ x ∈ l, ok x) := by
  have : ∀ d i a, i + d = l.length → 0 ≤ a → a ≤ 1048576 → ∃ t, Ev (fun k => g k a i) t ∧ t ≤ a ∧ (0 ≤ t → ∀ j, i ≤ j → j < l.length → ok (l.getD j z)) := by
    intro d
    induction d with
    | zero =>
      intro i a hi h0 h1
      have : i = l.length := by omega
      subst this
      exact ⟨a, hend a, Int.le_refl a, fun _ j h1 h2 => by omega⟩
    | succ d ih =>
      intro i a hi h0 h1
      obtain ⟨t, hle, hn, hp⟩ := hstep i a (by omega) h0 h1
      by_cases ht : t < 0
      · exact ⟨-1, hn ht, by omega, by omega⟩
      · obtain ⟨hok, hr⟩ := hp (by omega)
        obtain ⟨u, hu, hle2, hok2⟩ := ih (i + 1) t (by omega) (by omega) (by omega)
        refine ⟨u, hr u hu, by omega, fun h j hj1 hj2 => ?_⟩
        by_cases e : j = i
        · rw [e]; exact hok
        · exact hok2 h j (by omega) hj2
  obtain ⟨t, h, hle, hok⟩ := this l.length 0 a (by omega) h0 h1
  exact ⟨t, h, hle, fun ht x hx => by obtain ⟨j, hj, e⟩ := mem_getD l z x hx; rw [← e]; exact hok ht j (by omega) hj⟩
/-- A loop that fills a list, place by place. -/
theorem to_loop {α β : Type} {g : Nat → List β → Int → Option (List β)} (l : List α) (z : α) (f : α → β) (hend : ∀ o, Ev (fun k => g k o l.length) o)
    (hstep : ∀ (i : Nat) o, i < l.length → o.length = l.length → ∀ r, Ev (fun k => g k (o.set i (f (l.getD i z))) ((i + 1 : Nat) : Int)) r → Ev (fun k => g k o i) r)
    (o : List β) (ho : o.length = l.length) : Ev (fun k => g k o 0) (l.map f) := by
  have : ∀ d i (o : List β), i + d = l.length → o.length = l.length → o.take i = (l.map f).take i → Ev (fun k => g k o i) (l.map f) := by
    intro d
    induction d with
    | zero =>
      intro i o hi ho ht
      have e : i = l.length := by omega
      have h := hend o
      rw [take_full (by simpa using ho) (by simp; omega) ht] at h
      subst e
      rw [take_full (by simpa using ho) (by simp) ht]
      exact h
    | succ d ih =>
      intro i o hi ho ht
      exact hstep i o (by omega) ho _ (ih (i + 1) (o.set i (f (l.getD i z))) (by omega) (by simp [ho]) (set_take o _ _ (by simpa using ho) (get_map f l z (by omega)) ht))
  exact this l.length 0 o (by omega) ho (by simp)
/-- A loop that says true at its end. -/
theorem all_loop {g : Nat → Int → Option Bool} (n : Nat) (hend : Ev (fun k => g k n) true) (hstep : ∀ i, i < n → ∀ r, Ev (fun k => g k ((i + 1 : Nat) : Int)) r → Ev (fun k => g k i) r) : Ev (fun k => g k 0) true := by
  have := findE (q := fun _ => false) (r := true) n hend (fun i hi => by rw [if_neg (by simp)]; exact hstep i hi)
  rw [ite_self] at this
  exact this
theorem Ev.uniq {α : Type} {f : Nat → Option α} {r r' : α} (h : Ev f r) (h' : Ev f r') : r = r' := by
  obtain ⟨a, ha⟩ := h
  obtain ⟨b, hb⟩ := h'
  have := (ha (max a b) (Nat.le_max_left a b)).symm.trans (hb (max a b) (Nat.le_max_right a b))
  exact Option.some.inj this
/-- A loop that spends, and how much. -/
theorem sz_sum {α : Type} {g : Nat → Int → Int → Option Int} (l : List α) (z : α) (c : α → Nat) (hend : ∀ a, Ev (fun k => g k a l.length) a)
    (hstep : ∀ (i : Nat) a, i < l.length → 0 ≤ a → a ≤ 1048576 → ∃ t, t ≤ a ∧ (t < 0 → Ev (fun k => g k a i) (-1)) ∧ (0 ≤ t → t + (c (l.getD i z) : Int) ≤ a ∧ ∀ r, Ev (fun k => g k t ((i + 1 : Nat) : Int)) r → Ev (fun k => g k a i) r))
    (a : Int) (h0 : 0 ≤ a) (h1 : a ≤ 1048576) : ∃ t, Ev (fun k => g k a 0) t ∧ t ≤ a ∧ (0 ≤ t → t + ((l.map c).sum : Int) ≤ a) := by
  have : ∀ d i a, i + d = l.length → 0 ≤ a → a ≤ 1048576 → ∃ t, Ev (fun k => g k a i) t ∧ t ≤ a ∧ (0 ≤ t → t + (((l.drop i).map c).sum : Int) ≤ a) := by
    intro d
    induction d with
    | zero =>
      intro i a hi h0 h1
      have : i = l.length := by omega
      subst this
      exact ⟨a, hend a, Int.le_refl a, fun _ => by rw [List.drop_length]; simp⟩
    | succ d ih =>
      intro i a hi h0 h1
      obtain ⟨t, hle, hn, hp⟩ := hstep i a (by omega) h0 h1
      rw [drop_cons l z (show i < l.length by omega), List.map_cons, List.sum_cons]
      by_cases ht : t < 0
      · exact ⟨-1, hn ht, by omega, by omega⟩
      · obtain ⟨hok, hr⟩ := hp (by omega)
        obtain ⟨u, hu, hle2, hok2⟩ := ih (i + 1) t (by omega) (by omega) (by omega)
        exact ⟨u, hr u hu, by omega, fun h => by have := hok2 h; omega⟩
  have := this l.length 0 a (by omega) h0 h1
  rw [List.drop_zero] at this
  exact this
end Go.Proofs.Ytlogjmgghnifoaa.Base
