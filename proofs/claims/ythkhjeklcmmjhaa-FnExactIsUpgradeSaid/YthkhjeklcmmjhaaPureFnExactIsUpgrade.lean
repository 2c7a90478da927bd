/- FnExactIsUpgrade, over numbers and lists alone: what the program's function and the reference's answer is one. Conditions: the numbers are of their kinds. -/
import Derived.Test.YthkhjeklcmmjhaaKindsFnExactIsUpgrade
import Derived.Test.YthkhjeklcmmjhaaBase
namespace Go.Proofs.Ythkhjeklcmmjhaa.PureFnExactIsUpgrade
open Go.RowKit Go.Proofs.Ythkhjeklcmmjhaa.PFnExactIsUpgrade Go.Proofs.YthkhjeklcmmjhaaW.PrintWords Go.Proofs.YthkhjeklcmmjhaaW.PrintLast Go.Proofs.YthkhjeklcmmjhaaW.PrintMore Go.Proofs.Ythkhjeklcmmjhaa.Base
set_option linter.unusedVariables false
set_option linter.unusedSimpArgs false

/-! laws_toIntS -/
theorem laws_toIntS.ev_l (l : List Int) (hl : l.length ≤ 1048576) : ∀ (d i : Nat) (o : List Int), i + d = l.length → o.length = l.length → o.take i = l.take i → Ev (fun k => laws_toIntS.l0 k l o i) l := by
  intro d
  induction d with
  | zero =>
    intro i o hi ho ht
    refine Ev.one fun k => ?_
    simp only [laws_toIntS.l0]
    rw [if_neg (by omega), take_full ho (by omega) ht]
  | succ d ih =>
    intro i o hi ho ht
    refine Ev.step (fun k => ?_) (ih (i + 1) (o.set i (l.getD i 0)) (by omega) (by simp [ho]) (set_take o l _ ho (get_of l 0 (by omega)) ht))
    simp only [laws_toIntS.l0]
    rw [if_pos (by omega), if_pos (by omega), if_pos (by omega), wrap_nat (by omega)]
    rfl
theorem laws_toIntS.ev (l : List Int) (hl : l.length ≤ 1048576) : Ev (fun k => laws_toIntS.f k l) l :=
  Ev.congr (fun k => by unfold laws_toIntS.f; rw [if_pos (by omega), if_pos (by omega)] <;> rfl) (laws_toIntS.ev_l l hl l.length 0 _ (by omega) (by simp) (by simp))

/-! laws_eqIntS -/
theorem laws_eqIntS.ev_l (l : List Int) (hl : l.length ≤ 1048576) : ∀ (d i : Nat), i + d = l.length → Ev (fun k => laws_eqIntS.l0 k l l i) true := by
  intro d
  induction d with
  | zero => intro i hi; refine Ev.one fun k => ?_; simp only [laws_eqIntS.l0]; rw [if_neg (by omega)]
  | succ d ih =>
    intro i hi
    refine Ev.step (fun k => ?_) (ih (i + 1) (by omega))
    simp only [laws_eqIntS.l0]
    rw [if_pos (by omega), if_pos (by omega), if_pos (by omega), if_pos trivial, wrap_nat (by omega)]
theorem laws_eqIntS.ev (l : List Int) (hl : l.length ≤ 1048576) : Ev (fun k => laws_eqIntS.f k l l) true :=
  Ev.congr (fun k => by unfold laws_eqIntS.f; rw [if_pos rfl] <;> rfl) (laws_eqIntS.ev_l l hl l.length 0 (by omega))

/-! laws_szLinkS -/
theorem laws_szLinkS.val (l : List S89) (a : Int) (h0 : 0 ≤ a) (h1 : a ≤ 1048576) (hl : l.length ≤ maxLen) :
    ∃ t, laws_szLinkS.f l a = some t ∧ t ≤ a ∧ (0 ≤ t → t = a - l.length ∧ l.length ≤ 1048576) := by
  unfold maxLen at hl
  unfold laws_szLinkS.f
  rw [wrap_id (by omega) (by omega)]
  by_cases h : a - (l.length : Int) < 0
  · rw [if_pos h]; exact ⟨_, rfl, by omega, by omega⟩
  · rw [if_neg h]; exact ⟨_, rfl, by omega, by omega⟩

/-! spec_l1In -/
theorem spec_l1In.val (a lo hi : Int) : spec_l1In.f a lo hi = some (inR a lo hi) := by
  unfold spec_l1In.f inR
  by_cases h : a ≥ lo
  · rw [if_pos h]; simp [h]
  · rw [if_neg h]; simp; omega

/-! d_upgradeB -/
def negB (x : Int) : Bool := decide (x < 0)
def sameR (r : List Int) (x : S87) : Bool := !decide (x.f0 = x.f1) && idxB x.f0 r.length && idxB x.f1 r.length && decide (rd r x.f0 = rd r x.f1)
def upgradeB (l : List S87) (r : List Int) : Bool := !r.any negB && !l.any (sameR r)
theorem same_ite {α : Type} (r : List Int) (x : S87) (p q n : α) :
    (if x.f0 = x.f1 then q else (if idxB x.f0 r.length = true then (if idxB x.f1 r.length = true then (if 0 ≤ x.f0 then (if x.f0 < (r.length : Int) then (if 0 ≤ x.f1 then (if x.f1 < (r.length : Int) then (if rd r x.f0 = rd r x.f1 then p else q) else n) else n) else n) else n) else q) else q)) = if sameR r x = true then p else q := by
  unfold sameR idxB
  by_cases h0 : x.f0 = x.f1
  · simp [h0]
  · by_cases h1 : 0 ≤ x.f0 <;> by_cases h2 : x.f0 < (r.length : Int) <;> by_cases h3 : 0 ≤ x.f1 <;> by_cases h4 : x.f1 < (r.length : Int) <;> simp [h0, h1, h2, h3, h4]

/-! spec_IsUpgrade -/
theorem spec_IsUpgrade.ev (l : List S87) (r : List Int) (hl : l.length ≤ 1048576) (hr : r.length ≤ 1048576) : Ev (fun k => spec_IsUpgrade.f k l r) (upgradeB l r) := by
  have h1 := find_list (g := fun k i => spec_IsUpgrade.l1 k l r i) (q := sameR r) (r := false) (e := true) l z87
    (Ev.one fun k => by simp only [spec_IsUpgrade.l1]; rw [if_neg (by omega)])
    (fun i k hi => by
      simp only [spec_IsUpgrade.l1, spec_l1In.val, Option.bind_some]
      rw [if_pos (by omega), if_pos (by omega), wrap_nat (by omega), inR_idx _ _ hr, inR_idx _ _ hr]
      exact same_ite r (l.getD i z87) _ _ _)
  have h := find_list (g := fun k i => spec_IsUpgrade.l0 k l r i) (q := negB) (r := false) (e := if l.any (sameR r) = true then false else true) r 0
    (Ev.step (fun k => by simp only [spec_IsUpgrade.l0]; rw [if_neg (by omega)]) h1)
    (fun i k hi => by
      simp only [spec_IsUpgrade.l0]
      rw [if_pos (by omega), if_pos (by omega), wrap_nat (by omega)]
      show (if r.getD i 0 < 0 then _ else _) = _
      unfold negB
      simp only [decide_eq_true_eq])
  have e : (if r.any negB = true then false else if l.any (sameR r) = true then false else true) = upgradeB l r := by
    unfold upgradeB
    generalize r.any negB = b
    generalize l.any (sameR r) = c
    cases b <;> cases c <;> rfl
  rw [e] at h
  exact h

/-! laws_toLinkS -/
def cLink (x : S89) : S87 := ⟨x.f0, x.f1⟩
theorem laws_toLinkS.ev_l (l : List S89) (hl : l.length ≤ 1048576) : ∀ (d i : Nat) (o : List S87), i + d = l.length → o.length = l.length → o.take i = (l.map cLink).take i → Ev (fun k => laws_toLinkS.l0 k l o i) (l.map cLink) := by
  intro d
  induction d with
  | zero =>
    intro i o hi ho ht
    refine Ev.one fun k => ?_
    simp only [laws_toLinkS.l0]
    rw [if_neg (by omega), take_full (by simpa using ho) (by simp; omega) ht]
  | succ d ih =>
    intro i o hi ho ht
    refine Ev.step (fun k => ?_) (ih (i + 1) (o.set i (cLink (l.getD i z89))) (by omega) (by simp [ho]) (set_take o _ _ (by simpa using ho) (get_map cLink l z89 (by omega)) ht))
    simp only [laws_toLinkS.l0, laws_toLink.f, Option.bind_some]
    rw [if_pos (by omega), if_pos (by omega), if_pos (by omega), wrap_nat (by omega)]
    rfl
theorem laws_toLinkS.ev (l : List S89) (hl : l.length ≤ 1048576) : Ev (fun k => laws_toLinkS.f k l) (l.map cLink) :=
  Ev.congr (fun k => by unfold laws_toLinkS.f; rw [if_pos (by omega), if_pos (by omega)] <;> rfl) (laws_toLinkS.ev_l l hl l.length 0 _ (by omega) (by simp) (by simp))

/-! impl_isIndex -/
theorem impl_isIndex.val (a n : Int) : impl_isIndex.f a n = some (decide (0 ≤ a) && decide (a < n)) := by
  unfold impl_isIndex.f
  by_cases h : a ≥ 0
  · rw [if_pos h]; simp [h]
  · rw [if_neg h]; simp; omega
theorem impl_isIndex.nat (a : Int) (n : Nat) : impl_isIndex.f a (n : Int) = some (idxB a n) := impl_isIndex.val a n

/-! impl_IsUpgrade -/
theorem impl_IsUpgrade.ev (l : List S87) (r : List Int) (hl : l.length ≤ 1048576) (hr : r.length ≤ 1048576) : Ev (fun k => impl_IsUpgrade.f k l r) (upgradeB l r) := by
  have h1 := find_list (g := fun k i => impl_IsUpgrade.l1 k r l l.length i) (q := sameR r) (r := false) (e := true) l z87
    (Ev.one fun k => by simp only [impl_IsUpgrade.l1]; rw [if_neg (by omega)])
    (fun i k hi => by
      simp only [impl_IsUpgrade.l1, impl_isIndex.val, Option.bind_some]
      rw [if_pos (by omega), if_pos (by omega), if_pos (by omega), wrap_nat (by omega)]
      exact same_ite r (l.getD i z87) _ _ _)
  have h := find_list (g := fun k i => impl_IsUpgrade.l0 k l r r r.length i) (q := negB) (r := false) (e := if l.any (sameR r) = true then false else true) r 0
    (Ev.step (fun k => by simp only [impl_IsUpgrade.l0]; rw [if_neg (by omega)]) h1)
    (fun i k hi => by
      simp only [impl_IsUpgrade.l0]
      rw [if_pos (by omega), if_pos (by omega), if_pos (by omega), wrap_nat (by omega)]
      show (if r.getD i 0 < 0 then _ else _) = _
      unfold negB
      simp only [decide_eq_true_eq])
  have e : (if r.any negB = true then false else if l.any (sameR r) = true then false else true) = upgradeB l r := by
    unfold upgradeB
    generalize r.any negB = b
    generalize l.any (sameR r) = c
    cases b <;> cases c <;> rfl
  rw [e] at h
  exact h

/-! laws_eqLink -/
theorem laws_eqLink.val (x : S87) : laws_eqLink.f x.f0 x.f1 x.f0 x.f1 = some true := by
  unfold laws_eqLink.f
  simp

/-! laws_eqLinkS -/
theorem laws_eqLinkS.ev_l (l : List S87) (hl : l.length ≤ 1048576) : ∀ (d i : Nat), i + d = l.length → Ev (fun k => laws_eqLinkS.l0 k l l i) true := by
  intro d
  induction d with
  | zero => intro i hi; refine Ev.one fun k => ?_; simp only [laws_eqLinkS.l0]; rw [if_neg (by omega)]
  | succ d ih =>
    intro i hi
    refine Ev.step (fun k => ?_) (ih (i + 1) (by omega))
    simp only [laws_eqLinkS.l0, laws_eqLink.val, Option.bind_some]
    rw [if_pos (by omega), if_pos (by omega), if_pos (by omega), if_pos trivial, wrap_nat (by omega)]
theorem laws_eqLinkS.ev (l : List S87) (hl : l.length ≤ 1048576) : Ev (fun k => laws_eqLinkS.f k l l) true :=
  Ev.congr (fun k => by unfold laws_eqLinkS.f; rw [if_pos rfl] <;> rfl) (laws_eqLinkS.ev_l l hl l.length 0 (by omega))

/-! @@ FnExactIsUpgrade -/
theorem proved : Stated := by
  intro l r ⟨hl, hw⟩ ⟨hr, _⟩
  refine Ev.rounds ?_
  by_cases hb : (r.length : Int) > 1048576
  · exact Ev.all fun k => by unfold laws_FnExactIsUpgrade.f; rw [if_pos hb]
  have hr2 : r.length ≤ 1048576 := by omega
  obtain ⟨t, ht, hle, hp⟩ := laws_szLinkS.val l 1048576 (by omega) (by omega) hl
  refine Ev.congr (fun k => by unfold laws_FnExactIsUpgrade.f; rw [if_neg hb, ht, Option.bind_some]) ?_
  by_cases h : t < 0
  · exact Ev.all fun k => by rw [if_pos h]
  · obtain ⟨_, hl2⟩ := hp (by omega)
    have hl3 : (l.map cLink).length ≤ 1048576 := by simpa using hl2
    refine Ev.congr (fun k => by rw [if_neg h]) ?_
    refine Ev.bind (laws_toLinkS.ev l hl2) (Ev.bind (laws_toIntS.ev r hr2) (Ev.bind (spec_IsUpgrade.ev _ r hl3 hr2) (Ev.bind (laws_toLinkS.ev l hl2) (Ev.bind (laws_toIntS.ev r hr2) (Ev.bind (impl_IsUpgrade.ev _ r hl3 hr2) ?_)))))
    refine Ev.congr (fun k => by rw [if_neg (by simp)]) ?_
    refine Ev.bind (laws_toLinkS.ev l hl2) (Ev.bind (laws_eqLinkS.ev _ hl3) ?_)
    refine Ev.congr (fun k => by rw [if_pos rfl]) ?_
    refine Ev.bind (laws_toIntS.ev r hr2) (Ev.bind (laws_eqIntS.ev r hr2) ?_)
    exact Ev.all fun k => by simp

end Go.Proofs.Ythkhjeklcmmjhaa.PureFnExactIsUpgrade
