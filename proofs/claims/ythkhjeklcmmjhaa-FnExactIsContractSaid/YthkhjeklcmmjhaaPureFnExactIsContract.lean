/- FnExactIsContract, over numbers and lists alone: what the program's function and the reference's answer is one. Conditions: the numbers are of their kinds. -/
import Derived.Test.YthkhjeklcmmjhaaKindsFnExactIsContract
import Derived.Test.YthkhjeklcmmjhaaBase
namespace Go.Proofs.Ythkhjeklcmmjhaa.PureFnExactIsContract
open Go.RowKit Go.Proofs.Ythkhjeklcmmjhaa.PFnExactIsContract Go.Proofs.YthkhjeklcmmjhaaW.PrintWords Go.Proofs.YthkhjeklcmmjhaaW.PrintLast Go.Proofs.YthkhjeklcmmjhaaW.PrintMore Go.Proofs.Ythkhjeklcmmjhaa.Base
set_option linter.unusedVariables false
set_option linter.unusedSimpArgs false

/-! laws_szIntS -/
theorem laws_szIntS.val (l : List Int) (a : Int) (h0 : 0 ≤ a) (h1 : a ≤ 1048576) (hl : l.length ≤ maxLen) :
    ∃ t, laws_szIntS.f l a = some t ∧ t ≤ a ∧ (0 ≤ t → t = a - l.length ∧ l.length ≤ 1048576) := by
  unfold maxLen at hl
  unfold laws_szIntS.f
  rw [wrap_id (by omega) (by omega)]
  by_cases h : a - (l.length : Int) < 0
  · rw [if_pos h]; exact ⟨_, rfl, by omega, by omega⟩
  · rw [if_neg h]; exact ⟨_, rfl, by omega, by omega⟩

/-! laws_szContract -/
theorem laws_szContract.val (l : List Int) (a : Int) (h0 : 0 ≤ a) (h1 : a ≤ 1048576) (hl : l.length ≤ maxLen) :
    ∃ t, laws_szContract.f l a = some t ∧ t ≤ a ∧ (0 ≤ t → t = a - l.length ∧ l.length ≤ 1048576) := by
  obtain ⟨t, h, h2, h3⟩ := laws_szIntS.val l a h0 h1 hl
  unfold laws_szContract.f
  rw [h, Option.bind_some]
  by_cases ht : t < 0
  · rw [if_pos ht]; exact ⟨_, rfl, by omega, by omega⟩
  · rw [if_neg ht]; exact ⟨_, rfl, h2, h3⟩

/-! spec_l1In -/
theorem spec_l1In.val (a lo hi : Int) : spec_l1In.f a lo hi = some (inR a lo hi) := by
  unfold spec_l1In.f inR
  by_cases h : a ≥ lo
  · rw [if_pos h]; simp [h]
  · rw [if_neg h]; simp; omega

/-! d_wsum -/
def wsum (s : Int) (l : List Int) : Int := l.foldl (fun a b => wrap64 (a + b)) s

/-! d_contractB -/
def badP (x : Int) : Bool := !inR x 0 100
def contractB (l : List Int) : Bool := !l.any badP && inR (l.length : Int) 1 6 && decide (wsum 0 l > 0)

/-! spec_IsContract -/
theorem spec_IsContract.ev (l : List Int) (hl : l.length ≤ 1048576) : Ev (fun k => spec_IsContract.f k l) (contractB l) := by
  have h := ff_list (g := fun k s i => spec_IsContract.l0 k s i l) (q := badP) (f := fun a b => wrap64 (a + b)) (r := false) (fin := fun s => inR (l.length : Int) 1 6 && decide (s > 0)) l 0 0
    (fun s => Ev.one fun k => by
      simp only [spec_IsContract.l0, spec_l1In.val, Option.bind_some]
      rw [if_neg (by omega)]
      by_cases h1 : inR (l.length : Int) 1 6 = true <;> simp [h1])
    (fun i s k hi => by
      simp only [spec_IsContract.l0, spec_l1In.val, Option.bind_some]
      rw [if_pos (by omega), if_pos (by omega), wrap_nat (by omega)]
      show (if inR (l.getD i 0) 0 100 = true then _ else _) = (if badP (l.getD i 0) = true then _ else _)
      unfold badP
      by_cases h1 : inR (l.getD i 0) 0 100 = true
      · rw [if_pos h1, if_neg (by rw [h1]; simp)]; rfl
      · rw [if_neg h1, if_pos (by simpa using h1)])
  have e : (if l.any badP = true then false else inR (l.length : Int) 1 6 && decide (l.foldl (fun a b => wrap64 (a + b)) 0 > 0)) = contractB l := by
    unfold contractB wsum
    generalize l.any badP = b
    cases b <;> simp
  rw [e] at h
  exact h

/-! laws_toIntS -/
theorem laws_toIntS.ev_l (l : List Int) (hl : l.length ≤ 1048576) : ∀ (d i : Nat) (o : List Int), i + d = l.length → o.length = l.length → o.take i = l.take i → Ev (fun k => laws_toIntS.l0 k l o i) l := by
  intro d
  induction d with
  | zero =>
    intro i o hi ho ht
    refine Ev.one fun k => ?_
    simp only [laws_toIntS.l0]
    rw [if_neg (by omega), take_full ho (by omega) ht]
  | succ d ih =>
    intro i o hi ho ht
    refine Ev.step (fun k => ?_) (ih (i + 1) (o.set i (l.getD i 0)) (by omega) (by simp [ho]) (set_take o l _ ho (get_of l 0 (by omega)) ht))
    simp only [laws_toIntS.l0]
    rw [if_pos (by omega), if_pos (by omega), if_pos (by omega), wrap_nat (by omega)]
    rfl
theorem laws_toIntS.ev (l : List Int) (hl : l.length ≤ 1048576) : Ev (fun k => laws_toIntS.f k l) l :=
  Ev.congr (fun k => by unfold laws_toIntS.f; rw [if_pos (by omega), if_pos (by omega)] <;> rfl) (laws_toIntS.ev_l l hl l.length 0 _ (by omega) (by simp) (by simp))

/-! laws_toContract -/
theorem laws_toContract.ev (l : List Int) (hl : l.length ≤ 1048576) : Ev (fun k => laws_toContract.f k l) l := Ev.bind (laws_toIntS.ev l hl) (Ev.now _)

/-! impl_InRange -/
theorem impl_InRange.val (a lo hi : Int) : impl_InRange.f a lo hi = some (inR a lo hi) := by
  unfold impl_InRange.f inR
  by_cases h : lo ≤ a
  · rw [if_pos h]; simp [h]
  · rw [if_neg h]; simp; omega

/-! impl_sumOf -/
theorem impl_sumOf.ev (l : List Int) (hl : l.length ≤ 1048576) : Ev (fun k => impl_sumOf.f k l) (wsum 0 l) :=
  fold_list (g := fun k s i => impl_sumOf.l0 k s l l.length i) (f := fun a b => wrap64 (a + b)) (fin := fun s => s) l 0 0
    (fun s => Ev.one fun k => by simp only [impl_sumOf.l0]; rw [if_neg (by omega)])
    (fun i s k hi => by
      simp only [impl_sumOf.l0]
      rw [if_pos (by omega), if_pos (by omega), if_pos (by omega), wrap_nat (by omega)]
      rfl)

/-! impl_IsContract -/
theorem impl_IsContract.ev (l : List Int) (hl : l.length ≤ 1048576) : Ev (fun k => impl_IsContract.f k l) (contractB l) := by
  have h := find_list (g := fun k i => impl_IsContract.l0 k l l.length i l) (q := badP) (r := false) (e := inR (l.length : Int) 1 6 && decide (wsum 0 l > 0)) l 0
    (by
      refine Ev.step (f := fun k => if inR (l.length : Int) 1 6 = true then (impl_sumOf.f k l).bind fun t => some (decide (t > 0)) else some false) (fun k => by simp only [impl_IsContract.l0, impl_InRange.val, Option.bind_some]; rw [if_neg (by omega)]) ?_
      by_cases h1 : inR (l.length : Int) 1 6 = true
      · refine Ev.congr (fun k => by rw [if_pos h1]) ?_
        rw [h1, Bool.true_and]
        exact Ev.bind (impl_sumOf.ev l hl) (Ev.now _)
      · exact Ev.all fun k => by rw [if_neg h1]; simp [h1])
    (fun i k hi => by
      simp only [impl_IsContract.l0, impl_InRange.val, Option.bind_some]
      rw [if_pos (by omega), if_pos (by omega), if_pos (by omega), wrap_nat (by omega)]
      show (if inR (l.getD i 0) 0 100 = true then _ else _) = (if badP (l.getD i 0) = true then _ else _)
      unfold badP
      by_cases h1 : inR (l.getD i 0) 0 100 = true
      · rw [if_pos h1, if_neg (by rw [h1]; simp)]
      · rw [if_neg h1, if_pos (by simpa using h1)])
  have e : (if l.any badP = true then false else inR (l.length : Int) 1 6 && decide (wsum 0 l > 0)) = contractB l := by
    unfold contractB
    generalize l.any badP = b
    cases b <;> simp
  rw [e] at h
  exact h

/-! laws_eqIntS -/
theorem laws_eqIntS.ev_l (l : List Int) (hl : l.length ≤ 1048576) : ∀ (d i : Nat), i + d = l.length → Ev (fun k => laws_eqIntS.l0 k l l i) true := by
  intro d
  induction d with
  | zero => intro i hi; refine Ev.one fun k => ?_; simp only [laws_eqIntS.l0]; rw [if_neg (by omega)]
  | succ d ih =>
    intro i hi
    refine Ev.step (fun k => ?_) (ih (i + 1) (by omega))
    simp only [laws_eqIntS.l0]
    rw [if_pos (by omega), if_pos (by omega), if_pos (by omega), if_pos trivial, wrap_nat (by omega)]
theorem laws_eqIntS.ev (l : List Int) (hl : l.length ≤ 1048576) : Ev (fun k => laws_eqIntS.f k l l) true :=
  Ev.congr (fun k => by unfold laws_eqIntS.f; rw [if_pos rfl] <;> rfl) (laws_eqIntS.ev_l l hl l.length 0 (by omega))

/-! laws_eqContract -/
theorem laws_eqContract.ev (l : List Int) (hl : l.length ≤ 1048576) : Ev (fun k => laws_eqContract.f k l l) true := Ev.bind (laws_eqIntS.ev l hl) (Ev.all fun k => rfl)

/-! @@ FnExactIsContract -/
theorem proved : Stated := by
  intro l ⟨hl, hw⟩
  obtain ⟨t, ht, hle, hp⟩ := laws_szContract.val l 1048576 (by omega) (by omega) hl
  refine Ev.rounds ?_
  refine Ev.congr (fun k => by unfold laws_FnExactIsContract.f; rw [ht, Option.bind_some]) ?_
  by_cases h : t < 0
  · exact Ev.all fun k => by rw [if_pos h]
  · obtain ⟨_, hl2⟩ := hp (by omega)
    refine Ev.congr (fun k => by rw [if_neg h]) ?_
    refine Ev.bind (laws_toContract.ev l hl2) (Ev.bind (spec_IsContract.ev l hl2) (Ev.bind (laws_toContract.ev l hl2) (Ev.bind (impl_IsContract.ev l hl2) ?_)))
    refine Ev.congr (fun k => by rw [if_neg (by simp)]) ?_
    refine Ev.bind (laws_toContract.ev l hl2) (Ev.bind (laws_eqContract.ev l hl2) ?_)
    exact Ev.all fun k => by simp

end Go.Proofs.Ythkhjeklcmmjhaa.PureFnExactIsContract
