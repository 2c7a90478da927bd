/- FnExactIsCut, over numbers and lists alone: what the program's function and the reference's answer is one. Conditions: the numbers are of their kinds. -/
import Derived.Test.YthkhjeklcmmjhaaKindsFnExactIsCut
import Derived.Test.YthkhjeklcmmjhaaBase
namespace Go.Proofs.Ythkhjeklcmmjhaa.PureFnExactIsCut
open Go.RowKit Go.Proofs.Ythkhjeklcmmjhaa.PFnExactIsCut Go.Proofs.YthkhjeklcmmjhaaW.PrintWords Go.Proofs.YthkhjeklcmmjhaaW.PrintLast Go.Proofs.YthkhjeklcmmjhaaW.PrintMore Go.Proofs.Ythkhjeklcmmjhaa.Base
set_option linter.unusedVariables false
set_option linter.unusedSimpArgs false

/-! laws_szFaultS -/
theorem laws_szFaultS.val (l : List S29) (a : Int) (h0 : 0 ≤ a) (h1 : a ≤ 1048576) (hl : l.length ≤ maxLen) :
    ∃ t, laws_szFaultS.f l a = some t ∧ t ≤ a ∧ (0 ≤ t → t = a - l.length ∧ l.length ≤ 1048576) := by
  unfold maxLen at hl
  unfold laws_szFaultS.f
  rw [wrap_id (by omega) (by omega)]
  by_cases h : a - (l.length : Int) < 0
  · rw [if_pos h]; exact ⟨_, rfl, by omega, by omega⟩
  · rw [if_neg h]; exact ⟨_, rfl, by omega, by omega⟩

/-! laws_toFaultS -/
def cFault (x : S29) : S31 := ⟨x.f0, x.f1, x.f2, x.f3⟩
theorem laws_toFaultS.ev_l (l : List S29) (hl : l.length ≤ 1048576) : ∀ (d i : Nat) (o : List S31), i + d = l.length → o.length = l.length → o.take i = (l.map cFault).take i → Ev (fun k => laws_toFaultS.l0 k l o i) (l.map cFault) := by
  intro d
  induction d with
  | zero =>
    intro i o hi ho ht
    refine Ev.one fun k => ?_
    simp only [laws_toFaultS.l0]
    rw [if_neg (by omega), take_full (by simpa using ho) (by simp; omega) ht]
  | succ d ih =>
    intro i o hi ho ht
    refine Ev.step (fun k => ?_) (ih (i + 1) (o.set i (cFault (l.getD i z29))) (by omega) (by simp [ho]) (set_take o _ _ (by simpa using ho) (get_map cFault l z29 (by omega)) ht))
    simp only [laws_toFaultS.l0, laws_toFault.f, Option.bind_some]
    rw [if_pos (by omega), if_pos (by omega), if_pos (by omega), wrap_nat (by omega)]
    rfl
theorem laws_toFaultS.ev (l : List S29) (hl : l.length ≤ 1048576) : Ev (fun k => laws_toFaultS.f k l) (l.map cFault) :=
  Ev.congr (fun k => by unfold laws_toFaultS.f; rw [if_pos (by omega), if_pos (by omega)] <;> rfl) (laws_toFaultS.ev_l l hl l.length 0 _ (by omega) (by simp) (by simp))

/-! laws_eqFault -/
theorem laws_eqFault.val (x : S31) : laws_eqFault.f x.f0 x.f1 x.f2 x.f3 x.f0 x.f1 x.f2 x.f3 = some true := by
  unfold laws_eqFault.f
  simp

/-! laws_eqFaultS -/
theorem laws_eqFaultS.ev_l (l : List S31) (hl : l.length ≤ 1048576) : ∀ (d i : Nat), i + d = l.length → Ev (fun k => laws_eqFaultS.l0 k l l i) true := by
  intro d
  induction d with
  | zero => intro i hi; refine Ev.one fun k => ?_; simp only [laws_eqFaultS.l0]; rw [if_neg (by omega)]
  | succ d ih =>
    intro i hi
    refine Ev.step (fun k => ?_) (ih (i + 1) (by omega))
    simp only [laws_eqFaultS.l0, laws_eqFault.val, Option.bind_some]
    rw [if_pos (by omega), if_pos (by omega), if_pos (by omega), if_pos trivial, wrap_nat (by omega)]
theorem laws_eqFaultS.ev (l : List S31) (hl : l.length ≤ 1048576) : Ev (fun k => laws_eqFaultS.f k l l) true :=
  Ev.congr (fun k => by unfold laws_eqFaultS.f; rw [if_pos rfl] <;> rfl) (laws_eqFaultS.ev_l l hl l.length 0 (by omega))

/-! d_isSpan -/
def isSpan (a b : Int) : Bool := decide (0 ≤ a) && decide (b ≤ 1000) && decide (a < b)

/-! spec_IsSpan -/
theorem spec_IsSpan.val (a b : Int) : spec_IsSpan.f a b = some (isSpan a b) := by
  unfold spec_IsSpan.f isSpan
  by_cases h : a ≥ 0
  · rw [if_pos h]
    by_cases h2 : b ≤ 1000
    · rw [if_pos h2]; simp [h, h2]
    · rw [if_neg h2]; simp; omega
  · rw [if_neg h]; simp; omega

/-! d_inSpan -/
def inSpan (a b t : Int) : Bool := isSpan a b && decide (a ≤ t) && decide (t < b)

/-! spec_InSpan -/
theorem spec_InSpan.val (a b t : Int) : spec_InSpan.f a b t = some (inSpan a b t) := by
  unfold spec_InSpan.f inSpan
  rw [spec_IsSpan.val, Option.bind_some]
  by_cases h : isSpan a b = true
  · rw [if_pos h]
    by_cases h2 : a ≤ t
    · rw [if_pos h2]; simp [h, h2]
    · rw [if_neg h2]; simp; omega
  · rw [if_neg h]; simp [h]

/-! spec_l31Now -/
theorem spec_l31Now.val (a b c d t : Int) : spec_l31Now.f a b c d t = some (inSpan c d t) := by
  unfold spec_l31Now.f
  rw [spec_InSpan.val]; rfl

/-! d_downB -/
def downB (a t : Int) (x : S31) : Bool := (x.f0 == a) && (x.f1 == -1) && inSpan x.f2 x.f3 t

/-! spec_IsDown -/
theorem spec_IsDown.ev (l : List S31) (a t : Int) (hl : l.length ≤ 1048576) : Ev (fun k => spec_IsDown.f k l a t) (l.any (downB a t)) := by
  have h := find_list (g := fun k i => spec_IsDown.l0 k l a t i) (q := downB a t) (r := true) (e := false) l z31
    (Ev.one fun k => by simp only [spec_IsDown.l0]; rw [if_neg (by omega)])
    (fun i k hi => by
      simp only [spec_IsDown.l0, spec_l31Now.val, Option.bind_some]
      rw [if_pos (by omega), if_pos (by omega), wrap_nat (by omega)]
      show (if (l.getD i z31).f0 = a then (if (l.getD i z31).f1 = -1 then (if inSpan (l.getD i z31).f2 (l.getD i z31).f3 t = true then _ else _) else _) else _) = _
      generalize l.getD i z31 = y
      unfold downB
      by_cases h1 : y.f0 = a <;> by_cases h2 : y.f1 = -1 <;> by_cases h3 : inSpan y.f2 y.f3 t = true <;> simp [h1, h2, h3])
  rw [ite_bool] at h
  exact h

/-! d_isCut -/
def cutB (a b t : Int) (x : S31) : Bool := ((x.f0 == a) && (x.f1 == b) || (x.f0 == b) && (x.f1 == a)) && inSpan x.f2 x.f3 t
def isCut (l : List S31) (a b t : Int) : Bool := l.any (cutB a b t) || l.any (downB a t) || l.any (downB b t)
theorem cut_ite {α : Type} (x : S31) (a b t : Int) (p q : α) :
    (if x.f0 = a then (if x.f1 = b then (if inSpan x.f2 x.f3 t = true then p else q) else (if x.f0 = b then (if x.f1 = a then (if inSpan x.f2 x.f3 t = true then p else q) else q) else q)) else (if x.f0 = b then (if x.f1 = a then (if inSpan x.f2 x.f3 t = true then p else q) else q) else q)) = if cutB a b t x = true then p else q := by
  unfold cutB
  by_cases h1 : x.f0 = a <;> by_cases h2 : x.f1 = b <;> by_cases h4 : x.f0 = b <;> by_cases h5 : x.f1 = a <;> by_cases h3 : inSpan x.f2 x.f3 t = true <;> simp [h1, h2, h3, h4, h5]
  all_goals (intro u v; exact absurd u v)

/-! spec_IsCut -/
theorem spec_IsCut.ev (l : List S31) (a b t : Int) (hl : l.length ≤ 1048576) : Ev (fun k => spec_IsCut.f k l a b t) (isCut l a b t) := by
  have hend : Ev (fun k => spec_IsCut.l0 k l a b t l.length) (l.any (downB a t) || l.any (downB b t)) := by
    refine Ev.step (f := fun k => (spec_IsDown.f k l a t).bind fun x => (if x = true then (some true) else ((spec_IsDown.f k l b t).bind fun y => (some y)))) (fun k => by simp only [spec_IsCut.l0]; rw [if_neg (by omega)]) ?_
    refine Ev.bind (spec_IsDown.ev l a t hl) ?_
    by_cases h : l.any (downB a t) = true
    · exact Ev.all fun k => by rw [if_pos h, h, Bool.true_or]
    · have h' : l.any (downB a t) = false := by simpa using h
      refine Ev.congr (fun k => by rw [if_neg h]) ?_
      rw [h', Bool.false_or]
      exact Ev.bind (spec_IsDown.ev l b t hl) (Ev.now _)
  have h := find_list (g := fun k i => spec_IsCut.l0 k l a b t i) (q := cutB a b t) (r := true) l z31 hend
    (fun i k hi => by
      simp only [spec_IsCut.l0, spec_l31Now.val, Option.bind_some]
      rw [if_pos (by omega), if_pos (by omega), wrap_nat (by omega)]
      exact cut_ite (l.getD i z31) a b t _ _)
  unfold isCut
  rw [Bool.or_assoc]
  by_cases hc : l.any (cutB a b t) = true
  · rw [if_pos hc] at h
    rw [hc, Bool.true_or]
    exact h
  · rw [if_neg hc] at h
    have hc' : l.any (cutB a b t) = false := by simpa using hc
    rw [hc', Bool.false_or]
    exact h

/-! impl_IsSpan -/
theorem impl_IsSpan.val (a b : Int) : impl_IsSpan.f a b = some (isSpan a b) := by
  unfold impl_IsSpan.f isSpan
  by_cases h : a ≥ 0
  · rw [if_pos h]
    by_cases h2 : b ≤ 1000
    · rw [if_pos h2]; simp [h, h2]
    · rw [if_neg h2]; simp; omega
  · rw [if_neg h]; simp; omega

/-! impl_InSpan -/
theorem impl_InSpan.val (a b t : Int) : impl_InSpan.f a b t = some (inSpan a b t) := by
  unfold impl_InSpan.f inSpan
  rw [impl_IsSpan.val, Option.bind_some]
  by_cases h : isSpan a b = true
  · rw [if_pos h]
    by_cases h2 : a ≤ t
    · rw [if_pos h2]; simp [h, h2]
    · rw [if_neg h2]; simp; omega
  · rw [if_neg h]; simp [h]

/-! impl_IsDown -/
theorem impl_IsDown.ev (l : List S31) (a t : Int) (hl : l.length ≤ 1048576) : Ev (fun k => impl_IsDown.f k l a t) (l.any (downB a t)) := by
  have h := find_list (g := fun k i => impl_IsDown.l0 k a t l l.length i) (q := downB a t) (r := true) (e := false) l z31
    (Ev.one fun k => by simp only [impl_IsDown.l0]; rw [if_neg (by omega)])
    (fun i k hi => by
      simp only [impl_IsDown.l0, impl_InSpan.val, Option.bind_some]
      rw [if_pos (by omega), if_pos (by omega), if_pos (by omega), wrap_nat (by omega)]
      show (if (l.getD i z31).f0 = a then (if (l.getD i z31).f1 = -1 then (if inSpan (l.getD i z31).f2 (l.getD i z31).f3 t = true then _ else _) else _) else _) = _
      generalize l.getD i z31 = y
      unfold downB
      by_cases h1 : y.f0 = a <;> by_cases h2 : y.f1 = -1 <;> by_cases h3 : inSpan y.f2 y.f3 t = true <;> simp [h1, h2, h3])
  rw [ite_bool] at h
  exact h

/-! impl_IsCut -/
theorem impl_IsCut.ev (l : List S31) (a b t : Int) (hl : l.length ≤ 1048576) : Ev (fun k => impl_IsCut.f k l a b t) (isCut l a b t) := by
  have hend : Ev (fun k => impl_IsCut.l0 k l a b t l l.length l.length) (l.any (downB a t) || l.any (downB b t)) := by
    refine Ev.step (f := fun k => (impl_IsDown.f k l a t).bind fun x => (if x = true then (some true) else ((impl_IsDown.f k l b t).bind fun y => (some y)))) (fun k => by simp only [impl_IsCut.l0]; rw [if_neg (by omega)]) ?_
    refine Ev.bind (impl_IsDown.ev l a t hl) ?_
    by_cases h : l.any (downB a t) = true
    · exact Ev.all fun k => by rw [if_pos h, h, Bool.true_or]
    · have h' : l.any (downB a t) = false := by simpa using h
      refine Ev.congr (fun k => by rw [if_neg h]) ?_
      rw [h', Bool.false_or]
      exact Ev.bind (impl_IsDown.ev l b t hl) (Ev.now _)
  have h := find_list (g := fun k i => impl_IsCut.l0 k l a b t l l.length i) (q := cutB a b t) (r := true) l z31 hend
    (fun i k hi => by
      simp only [impl_IsCut.l0, impl_InSpan.val, Option.bind_some]
      rw [if_pos (by omega), if_pos (by omega), if_pos (by omega), wrap_nat (by omega)]
      exact cut_ite (l.getD i z31) a b t _ _)
  unfold isCut
  rw [Bool.or_assoc]
  by_cases hc : l.any (cutB a b t) = true
  · rw [if_pos hc] at h
    rw [hc, Bool.true_or]
    exact h
  · rw [if_neg hc] at h
    have hc' : l.any (cutB a b t) = false := by simpa using hc
    rw [hc', Bool.false_or]
    exact h

/-! @@ FnExactIsCut -/
theorem proved : Stated := by
  intro l0 a1 a2 a3 ⟨hl, hw⟩ _ _ _
  obtain ⟨t, ht, hle, hp⟩ := laws_szFaultS.val l0 1048576 (by omega) (by omega) hl
  refine Ev.rounds ?_
  refine Ev.congr (fun k => by unfold laws_FnExactIsCut.f; rw [ht, Option.bind_some]) ?_
  by_cases h : t < 0
  · exact Ev.all fun k => by rw [if_pos h]
  · obtain ⟨_, hl2⟩ := hp (by omega)
    have hl3 : (l0.map cFault).length ≤ 1048576 := by simpa using hl2
    refine Ev.congr (fun k => by rw [if_neg h]) ?_
    refine Ev.bind (laws_toFaultS.ev l0 hl2) (Ev.bind (spec_IsCut.ev _ a1 a2 a3 hl3) (Ev.bind (laws_toFaultS.ev l0 hl2) (Ev.bind (impl_IsCut.ev _ a1 a2 a3 hl3) ?_)))
    refine Ev.congr (fun k => by rw [if_neg (by simp)]) ?_
    refine Ev.bind (laws_toFaultS.ev l0 hl2) (Ev.bind (laws_eqFaultS.ev _ hl3) ?_)
    exact Ev.all fun k => by simp

end Go.Proofs.Ythkhjeklcmmjhaa.PureFnExactIsCut
