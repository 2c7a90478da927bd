/- FnExactIsStream, over numbers and lists alone: what the program's function and the reference's answer is one. Conditions: the numbers are of their kinds. -/
import Derived.Test.YthkhjeklcmmjhaaKindsFnExactIsStream
import Derived.Test.YthkhjeklcmmjhaaBase
namespace Go.Proofs.Ythkhjeklcmmjhaa.PureFnExactIsStream
open Go.RowKit Go.Proofs.Ythkhjeklcmmjhaa.PFnExactIsStream Go.Proofs.YthkhjeklcmmjhaaW.PrintWords Go.Proofs.YthkhjeklcmmjhaaW.PrintLast Go.Proofs.YthkhjeklcmmjhaaW.PrintMore Go.Proofs.Ythkhjeklcmmjhaa.Base
set_option linter.unusedVariables false
set_option linter.unusedSimpArgs false

/-! laws_szIntS -/
theorem laws_szIntS.val (l : List Int) (a : Int) (h0 : 0 ≤ a) (h1 : a ≤ 1048576) (hl : l.length ≤ maxLen) :
    ∃ t, laws_szIntS.f l a = some t ∧ t ≤ a ∧ (0 ≤ t → t = a - l.length ∧ l.length ≤ 1048576) := by
  unfold maxLen at hl
  unfold laws_szIntS.f
  rw [wrap_id (by omega) (by omega)]
  by_cases h : a - (l.length : Int) < 0
  · rw [if_pos h]; exact ⟨_, rfl, by omega, by omega⟩
  · rw [if_neg h]; exact ⟨_, rfl, by omega, by omega⟩

/-! laws_szStream -/
theorem laws_szStream.val (x y : Int) (l : List Int) (a : Int) (h0 : 0 ≤ a) (h1 : a ≤ 1048576) (hl : l.length ≤ maxLen) :
    ∃ t, laws_szStream.f x y l a = some t ∧ t ≤ a ∧ (0 ≤ t → t = a - l.length ∧ l.length ≤ 1048576) := by
  obtain ⟨t, h, h2, h3⟩ := laws_szIntS.val l a h0 h1 hl
  unfold laws_szStream.f
  rw [h, Option.bind_some]
  by_cases ht : t < 0
  · rw [if_pos ht]; exact ⟨_, rfl, by omega, by omega⟩
  · rw [if_neg ht]; exact ⟨_, rfl, h2, h3⟩

/-! spec_l1In -/
theorem spec_l1In.val (a lo hi : Int) : spec_l1In.f a lo hi = some (inR a lo hi) := by
  unfold spec_l1In.f inR
  by_cases h : a ≥ lo
  · rw [if_pos h]; simp [h]
  · rw [if_neg h]; simp; omega

/-! d_streamB -/
def badK (next : Int) (l : List Int) (i : Nat) : Bool := decide (l.getD i 0 ≤ next) || decide (l.getD i 0 > 9999) || (decide (0 < i) && decide (l.getD i 0 ≤ l.getD (i - 1) 0))
def streamB (x y : Int) (l : List Int) : Bool := inR x 0 10000 && inR y 0 10000 && decide ((l.length : Int) ≤ 20) && !(List.range' 0 l.length).any (badK y l)

/-! spec_IsStream -/
theorem spec_IsStream.ev (x y : Int) (l : List Int) (hl : l.length ≤ 1048576) : Ev (fun k => spec_IsStream.f k x y l) (streamB x y l) := by
  have h := find_index (g := fun k i => spec_IsStream.l0 k i x y l) (q := badK y l) (r := false) (e := inR x 0 10000 && inR y 0 10000 && decide ((l.length : Int) ≤ 20)) l.length
    (Ev.one fun k => by
      simp only [spec_IsStream.l0, spec_l1In.val, Option.bind_some]
      rw [if_neg (by omega)]
      by_cases h1 : inR x 0 10000 = true <;> by_cases h2 : inR y 0 10000 = true <;> simp [h1, h2])
    (fun i k hi => by
      simp only [spec_IsStream.l0]
      rw [if_pos (by omega), if_pos (by omega), wrap_nat (by omega)]
      rcases Nat.eq_zero_or_pos i with rfl | hp
      · rw [if_neg (show ¬ ((0 : Nat) : Int) > 0 by omega)]
        show (if l.getD 0 0 ≤ y then _ else if l.getD 0 0 > 9999 then _ else _) = _
        unfold badK
        by_cases h1 : l.getD 0 0 ≤ y
        · rw [if_pos h1, if_pos (by simp only [h1, decide_true, Bool.true_or])]
        · rw [if_neg h1]
          by_cases h2 : l.getD 0 0 > 9999
          · rw [if_pos h2, if_pos (by simp only [h2, decide_true, Bool.true_or, Bool.or_true])]
          · rw [if_neg h2, if_neg (by simp only [h1, h2, decide_false, Bool.false_or, Nat.lt_irrefl, Bool.false_and]; simp)]
      · rw [wrap_pred hp (by omega), if_pos (show ((i : Nat) : Int) > 0 by omega), if_pos (show (0 : Int) ≤ ((i - 1 : Nat) : Int) by omega), if_pos (show ((i - 1 : Nat) : Int) < (l.length : Int) by omega)]
        show (if l.getD i 0 ≤ y then _ else if l.getD i 0 > 9999 then _ else if l.getD (i - 1) 0 ≥ l.getD i 0 then _ else _) = _
        unfold badK
        generalize l.getD i 0 = u
        generalize l.getD (i - 1) 0 = v
        by_cases h1 : u ≤ y <;> by_cases h2 : u > 9999 <;> by_cases h3 : v ≥ u <;> simp [h1, h2, h3, hp] <;> omega)
  have e : (if (List.range' 0 l.length).any (badK y l) = true then false else inR x 0 10000 && inR y 0 10000 && decide ((l.length : Int) ≤ 20)) = streamB x y l := by
    unfold streamB
    generalize (List.range' 0 l.length).any (badK y l) = b
    cases b <;> simp
  rw [e] at h
  exact h

/-! laws_toIntS -/
theorem laws_toIntS.ev_l (l : List Int) (hl : l.length ≤ 1048576) : ∀ (d i : Nat) (o : List Int), i + d = l.length → o.length = l.length → o.take i = l.take i → Ev (fun k => laws_toIntS.l0 k l o i) l := by
  intro d
  induction d with
  | zero =>
    intro i o hi ho ht
    refine Ev.one fun k => ?_
    simp only [laws_toIntS.l0]
    rw [if_neg (by omega), take_full ho (by omega) ht]
  | succ d ih =>
    intro i o hi ho ht
    refine Ev.step (fun k => ?_) (ih (i + 1) (o.set i (l.getD i 0)) (by omega) (by simp [ho]) (set_take o l _ ho (get_of l 0 (by omega)) ht))
    simp only [laws_toIntS.l0]
    rw [if_pos (by omega), if_pos (by omega), if_pos (by omega), wrap_nat (by omega)]
    rfl
theorem laws_toIntS.ev (l : List Int) (hl : l.length ≤ 1048576) : Ev (fun k => laws_toIntS.f k l) l :=
  Ev.congr (fun k => by unfold laws_toIntS.f; rw [if_pos (by omega), if_pos (by omega)] <;> rfl) (laws_toIntS.ev_l l hl l.length 0 _ (by omega) (by simp) (by simp))

/-! laws_toStream -/
theorem laws_toStream.ev (x y : Int) (l : List Int) (hl : l.length ≤ 1048576) : Ev (fun k => laws_toStream.f k x y l) (x, y, l) := Ev.bind (laws_toIntS.ev l hl) (Ev.now _)

/-! impl_InRange -/
theorem impl_InRange.val (a lo hi : Int) : impl_InRange.f a lo hi = some (inR a lo hi) := by
  unfold impl_InRange.f inR
  by_cases h : lo ≤ a
  · rw [if_pos h]; simp [h]
  · rw [if_neg h]; simp; omega

/-! impl_IsStream -/
theorem impl_IsStream.ev (x y : Int) (l : List Int) (hl : l.length ≤ 1048576) : Ev (fun k => impl_IsStream.f k x y l) (streamB x y l) := by
  have h := find_index (g := fun k i => impl_IsStream.l0 k l l.length i x y l) (q := badK y l) (r := false) (e := true) l.length
    (Ev.one fun k => by
      simp only [impl_IsStream.l0]
      rw [if_neg (by omega)])
    (fun i k hi => by
      simp only [impl_IsStream.l0]
      rw [if_pos (by omega), if_pos (by omega), if_pos (by omega), wrap_nat (by omega)]
      rcases Nat.eq_zero_or_pos i with rfl | hp
      · rw [if_neg (show ¬ ((0 : Nat) : Int) > 0 by omega)]
        show (if l.getD 0 0 ≤ y then _ else if l.getD 0 0 > 9999 then _ else _) = _
        unfold badK
        by_cases h1 : l.getD 0 0 ≤ y
        · rw [if_pos h1, if_pos (by simp only [h1, decide_true, Bool.true_or])]
        · rw [if_neg h1]
          by_cases h2 : l.getD 0 0 > 9999
          · rw [if_pos h2, if_pos (by simp only [h2, decide_true, Bool.true_or, Bool.or_true])]
          · rw [if_neg h2, if_neg (by simp only [h1, h2, decide_false, Bool.false_or, Nat.lt_irrefl, Bool.false_and]; simp)]
      · rw [wrap_pred hp (by omega), if_pos (show ((i : Nat) : Int) > 0 by omega), if_pos (show (0 : Int) ≤ ((i - 1 : Nat) : Int) by omega), if_pos (show ((i - 1 : Nat) : Int) < (l.length : Int) by omega)]
        show (if l.getD i 0 ≤ y then _ else if l.getD i 0 > 9999 then _ else if l.getD i 0 ≤ l.getD (i - 1) 0 then _ else _) = _
        unfold badK
        generalize l.getD i 0 = u
        generalize l.getD (i - 1) 0 = v
        by_cases h1 : u ≤ y <;> by_cases h2 : u > 9999 <;> by_cases h3 : u ≤ v <;> simp [h1, h2, h3, hp] <;> omega)
  rw [ite_notb] at h
  have bad : ∀ b : Bool, b = true → Ev (fun k => impl_IsStream.j0 k b x y l) false := fun b hb => Ev.one fun k => by simp only [impl_IsStream.j0]; rw [if_pos hb]
  have good : ∀ b : Bool, b = false → Ev (fun k => impl_IsStream.j0 k b x y l) (!(List.range' 0 l.length).any (badK y l)) := fun b hb => Ev.step (fun k => by simp only [impl_IsStream.j0]; rw [if_neg (by simp [hb])]) h
  refine Ev.congr (fun k => by unfold impl_IsStream.f; rw [impl_InRange.val, impl_InRange.val, Option.bind_some, Option.bind_some]) ?_
  unfold streamB
  by_cases h1 : inR x 0 10000 = true
  · by_cases h2 : inR y 0 10000 = true
    · refine Ev.congr (fun k => by rw [if_pos h1, if_pos h2]) ?_
      rw [h1, h2]
      by_cases h3 : (l.length : Int) ≤ 20
      · simp only [h3, decide_true, Bool.true_and]
        exact good _ (by simp; omega)
      · simp only [h3, decide_false, Bool.and_false, Bool.false_and, Bool.true_and]
        exact bad _ (by simp; omega)
    · refine Ev.congr (fun k => by rw [if_pos h1, if_neg h2]) ?_
      have h2' : inR y 0 10000 = false := by simpa using h2
      rw [h2']
      simpa using bad true rfl
  · refine Ev.congr (fun k => by rw [if_neg h1]) ?_
    have h1' : inR x 0 10000 = false := by simpa using h1
    rw [h1']
    simpa using bad true rfl

/-! laws_eqIntS -/
theorem laws_eqIntS.ev_l (l : List Int) (hl : l.length ≤ 1048576) : ∀ (d i : Nat), i + d = l.length → Ev (fun k => laws_eqIntS.l0 k l l i) true := by
  intro d
  induction d with
  | zero => intro i hi; refine Ev.one fun k => ?_; simp only [laws_eqIntS.l0]; rw [if_neg (by omega)]
  | succ d ih =>
    intro i hi
    refine Ev.step (fun k => ?_) (ih (i + 1) (by omega))
    simp only [laws_eqIntS.l0]
    rw [if_pos (by omega), if_pos (by omega), if_pos (by omega), if_pos trivial, wrap_nat (by omega)]
theorem laws_eqIntS.ev (l : List Int) (hl : l.length ≤ 1048576) : Ev (fun k => laws_eqIntS.f k l l) true :=
  Ev.congr (fun k => by unfold laws_eqIntS.f; rw [if_pos rfl] <;> rfl) (laws_eqIntS.ev_l l hl l.length 0 (by omega))

/-! laws_eqStream -/
theorem laws_eqStream.ev (x y : Int) (l : List Int) (hl : l.length ≤ 1048576) : Ev (fun k => laws_eqStream.f k x y l x y l) true := by
  refine Ev.congr (fun k => by unfold laws_eqStream.f; rw [if_pos rfl, if_pos rfl]) ?_
  exact Ev.bind (laws_eqIntS.ev l hl) (Ev.all fun k => rfl)

/-! @@ FnExactIsStream -/
theorem proved : Stated := by
  intro x y l _ _ ⟨hl, hw⟩
  obtain ⟨t, ht, hle, hp⟩ := laws_szStream.val x y l 1048576 (by omega) (by omega) hl
  refine Ev.rounds ?_
  refine Ev.congr (fun k => by unfold laws_FnExactIsStream.f; rw [ht, Option.bind_some]) ?_
  by_cases h : t < 0
  · exact Ev.all fun k => by rw [if_pos h]
  · obtain ⟨_, hl2⟩ := hp (by omega)
    refine Ev.congr (fun k => by rw [if_neg h]) ?_
    refine Ev.bind (laws_toStream.ev x y l hl2) (Ev.bind (spec_IsStream.ev x y l hl2) (Ev.bind (laws_toStream.ev x y l hl2) (Ev.bind (impl_IsStream.ev x y l hl2) ?_)))
    refine Ev.congr (fun k => by rw [if_neg (by simp)]) ?_
    refine Ev.bind (laws_toStream.ev x y l hl2) (Ev.bind (laws_eqStream.ev x y l hl2) ?_)
    exact Ev.all fun k => by simp

end Go.Proofs.Ythkhjeklcmmjhaa.PureFnExactIsStream
