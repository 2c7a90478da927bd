/- FnExactLastFault, over numbers and lists alone: what the program's function and the reference's answer is one. Conditions: the numbers are of their kinds. -/
import Derived.Test.YthkhjeklcmmjhaaKindsFnExactLastFault
import Derived.Test.YthkhjeklcmmjhaaBase
namespace Go.Proofs.Ythkhjeklcmmjhaa.PureFnExactLastFault
open Go.RowKit Go.Proofs.Ythkhjeklcmmjhaa.PFnExactLastFault Go.Proofs.YthkhjeklcmmjhaaW.PrintWords Go.Proofs.YthkhjeklcmmjhaaW.PrintLast Go.Proofs.YthkhjeklcmmjhaaW.PrintMore Go.Proofs.Ythkhjeklcmmjhaa.Base
set_option linter.unusedVariables false
set_option linter.unusedSimpArgs false

/-! laws_szFaultS -/
theorem laws_szFaultS.val (l : List S29) (a : Int) (h0 : 0 ≤ a) (h1 : a ≤ 1048576) (hl : l.length ≤ maxLen) :
    ∃ t, laws_szFaultS.f l a = some t ∧ t ≤ a ∧ (0 ≤ t → t = a - l.length ∧ l.length ≤ 1048576) := by
  unfold maxLen at hl
  unfold laws_szFaultS.f
  rw [wrap_id (by omega) (by omega)]
  by_cases h : a - (l.length : Int) < 0
  · rw [if_pos h]; exact ⟨_, rfl, by omega, by omega⟩
  · rw [if_neg h]; exact ⟨_, rfl, by omega, by omega⟩

/-! laws_toFaultS -/
def cFault (x : S29) : S31 := ⟨x.f0, x.f1, x.f2, x.f3⟩
theorem laws_toFaultS.ev_l (l : List S29) (hl : l.length ≤ 1048576) : ∀ (d i : Nat) (o : List S31), i + d = l.length → o.length = l.length → o.take i = (l.map cFault).take i → Ev (fun k => laws_toFaultS.l0 k l o i) (l.map cFault) := by
  intro d
  induction d with
  | zero =>
    intro i o hi ho ht
    refine Ev.one fun k => ?_
    simp only [laws_toFaultS.l0]
    rw [if_neg (by omega), take_full (by simpa using ho) (by simp; omega) ht]
  | succ d ih =>
    intro i o hi ho ht
    refine Ev.step (fun k => ?_) (ih (i + 1) (o.set i (cFault (l.getD i z29))) (by omega) (by simp [ho]) (set_take o _ _ (by simpa using ho) (get_map cFault l z29 (by omega)) ht))
    simp only [laws_toFaultS.l0, laws_toFault.f, Option.bind_some]
    rw [if_pos (by omega), if_pos (by omega), if_pos (by omega), wrap_nat (by omega)]
    rfl
theorem laws_toFaultS.ev (l : List S29) (hl : l.length ≤ 1048576) : Ev (fun k => laws_toFaultS.f k l) (l.map cFault) :=
  Ev.congr (fun k => by unfold laws_toFaultS.f; rw [if_pos (by omega), if_pos (by omega)] <;> rfl) (laws_toFaultS.ev_l l hl l.length 0 _ (by omega) (by simp) (by simp))

/-! laws_eqFault -/
theorem laws_eqFault.val (x : S31) : laws_eqFault.f x.f0 x.f1 x.f2 x.f3 x.f0 x.f1 x.f2 x.f3 = some true := by
  unfold laws_eqFault.f
  simp

/-! laws_eqFaultS -/
theorem laws_eqFaultS.ev_l (l : List S31) (hl : l.length ≤ 1048576) : ∀ (d i : Nat), i + d = l.length → Ev (fun k => laws_eqFaultS.l0 k l l i) true := by
  intro d
  induction d with
  | zero => intro i hi; refine Ev.one fun k => ?_; simp only [laws_eqFaultS.l0]; rw [if_neg (by omega)]
  | succ d ih =>
    intro i hi
    refine Ev.step (fun k => ?_) (ih (i + 1) (by omega))
    simp only [laws_eqFaultS.l0, laws_eqFault.val, Option.bind_some]
    rw [if_pos (by omega), if_pos (by omega), if_pos (by omega), if_pos trivial, wrap_nat (by omega)]
theorem laws_eqFaultS.ev (l : List S31) (hl : l.length ≤ 1048576) : Ev (fun k => laws_eqFaultS.f k l l) true :=
  Ev.congr (fun k => by unfold laws_eqFaultS.f; rw [if_pos rfl] <;> rfl) (laws_eqFaultS.ev_l l hl l.length 0 (by omega))

/-! d_isSpan -/
def isSpan (a b : Int) : Bool := decide (0 ≤ a) && decide (b ≤ 1000) && decide (a < b)

/-! spec_IsSpan -/
theorem spec_IsSpan.val (a b : Int) : spec_IsSpan.f a b = some (isSpan a b) := by
  unfold spec_IsSpan.f isSpan
  by_cases h : a ≥ 0
  · rw [if_pos h]
    by_cases h2 : b ≤ 1000
    · rw [if_pos h2]; simp [h, h2]
    · rw [if_neg h2]; simp; omega
  · rw [if_neg h]; simp; omega

/-! spec_Max -/
theorem spec_Max.val (a b : Int) : spec_Max.f a b = some (mx a b) := by
  unfold spec_Max.f mx
  by_cases h : b > a
  · rw [if_pos h, if_pos (by omega)]
  · rw [if_neg h, if_neg (by omega)]

/-! d_lastF -/
def lastF (m : Int) (x : S31) : Int := if isSpan x.f2 x.f3 = true then mx m x.f3 else m

/-! spec_LastFault -/
theorem spec_LastFault.ev (l : List S31) (hl : l.length ≤ 1048576) : Ev (fun k => spec_LastFault.f k l) (l.foldl lastF 0) :=
  fold_list (g := fun k s i => spec_LastFault.l0 k l s i) (f := lastF) (fin := fun s => s) l z31 0
    (fun s => Ev.one fun k => by simp only [spec_LastFault.l0]; rw [if_neg (by omega)])
    (fun i s k hi => by
      simp only [spec_LastFault.l0, spec_IsSpan.val, spec_Max.val, Option.bind_some]
      rw [if_pos (by omega), if_pos (by omega), wrap_nat (by omega)]
      show (if isSpan (l.getD i z31).f2 (l.getD i z31).f3 = true then spec_LastFault.l0 k l (mx s (l.getD i z31).f3) _ else _) = _
      unfold lastF
      split <;> rfl)

/-! impl_IsSpan -/
theorem impl_IsSpan.val (a b : Int) : impl_IsSpan.f a b = some (isSpan a b) := by
  unfold impl_IsSpan.f isSpan
  by_cases h : a ≥ 0
  · rw [if_pos h]
    by_cases h2 : b ≤ 1000
    · rw [if_pos h2]; simp [h, h2]
    · rw [if_neg h2]; simp; omega
  · rw [if_neg h]; simp; omega

/-! impl_LastFault -/
theorem impl_LastFault.ev (l : List S31) (hl : l.length ≤ 1048576) : Ev (fun k => impl_LastFault.f k l) (l.foldl lastF 0) :=
  fold_list (g := fun k s i => impl_LastFault.l0 k s l l.length i) (f := lastF) (fin := fun s => s) l z31 0
    (fun s => Ev.one fun k => by simp only [impl_LastFault.l0]; rw [if_neg (by omega)])
    (fun i s k hi => by
      simp only [impl_LastFault.l0, impl_IsSpan.val, Option.bind_some]
      rw [if_pos (by omega), if_pos (by omega), if_pos (by omega), wrap_nat (by omega)]
      show (if isSpan (l.getD i z31).f2 (l.getD i z31).f3 = true then impl_LastFault.l0 k (mx s (l.getD i z31).f3) _ _ _ else _) = _
      unfold lastF
      split <;> rfl)

/-! @@ FnExactLastFault -/
theorem proved : Stated := by
  intro l0 ⟨hl, hw⟩
  obtain ⟨t, ht, hle, hp⟩ := laws_szFaultS.val l0 1048576 (by omega) (by omega) hl
  refine Ev.rounds ?_
  refine Ev.congr (fun k => by unfold laws_FnExactLastFault.f; rw [ht, Option.bind_some]) ?_
  by_cases h : t < 0
  · exact Ev.all fun k => by rw [if_pos h]
  · obtain ⟨_, hl2⟩ := hp (by omega)
    have hl3 : (l0.map cFault).length ≤ 1048576 := by simpa using hl2
    refine Ev.congr (fun k => by rw [if_neg h]) ?_
    refine Ev.bind (laws_toFaultS.ev l0 hl2) (Ev.bind (spec_LastFault.ev _ hl3) (Ev.bind (laws_toFaultS.ev l0 hl2) (Ev.bind (impl_LastFault.ev _ hl3) ?_)))
    refine Ev.congr (fun k => by rw [if_pos rfl]) ?_
    refine Ev.bind (laws_toFaultS.ev l0 hl2) (Ev.bind (laws_eqFaultS.ev _ hl3) ?_)
    exact Ev.all fun k => by simp

end Go.Proofs.Ythkhjeklcmmjhaa.PureFnExactLastFault
