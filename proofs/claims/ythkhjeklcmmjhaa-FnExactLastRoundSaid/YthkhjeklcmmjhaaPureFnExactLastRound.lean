/- FnExactLastRound, over numbers and lists alone: what the program's function and the reference's answer is one. Conditions: the numbers are of their kinds. -/
import Derived.Test.YthkhjeklcmmjhaaKindsFnExactLastRound
import Derived.Test.YthkhjeklcmmjhaaBase
namespace Go.Proofs.Ythkhjeklcmmjhaa.PureFnExactLastRound
open Go.RowKit Go.Proofs.Ythkhjeklcmmjhaa.PFnExactLastRound Go.Proofs.YthkhjeklcmmjhaaW.PrintWords Go.Proofs.YthkhjeklcmmjhaaW.PrintLast Go.Proofs.YthkhjeklcmmjhaaW.PrintMore Go.Proofs.Ythkhjeklcmmjhaa.Base
set_option linter.unusedVariables false
set_option linter.unusedSimpArgs false

/-! spec_LastRound -/
def lastR (l : List Int) : Int := if (l.length : Int) = 0 then -1 else Lib.maxOf l
theorem spec_LastRound.ev_l (l : List Int) (hl : l.length ≤ 1048576) : ∀ (d i : Nat), 0 < i → i + d = l.length → Ev (fun k => spec_LastRound.l0 k l (Lib.maxOf (l.take i)) i) (Lib.maxOf l) := by
  intro d
  induction d with
  | zero =>
    intro i h0 hi
    refine Ev.one fun k => ?_
    simp only [spec_LastRound.l0]
    rw [if_neg (by omega), List.take_of_length_le (by omega)]
  | succ d ih =>
    intro i h0 hi
    refine Ev.step (fun k => ?_) (ih (i + 1) (by omega) (by omega))
    simp only [spec_LastRound.l0]
    rw [if_pos (by omega), if_neg (by omega), if_pos (by omega), wrap_nat (by omega), rd_nat, Lib.maxOf_step l i h0 (by omega)]
    by_cases h : l.getD i 0 > Lib.maxOf (l.take i)
    · rw [if_pos h, Int.max_eq_right (by omega)]
    · rw [if_neg h, Int.max_eq_left (by omega)]
theorem spec_LastRound.ev (l : List Int) (hl : l.length ≤ 1048576) : Ev (fun k => spec_LastRound.f k l) (lastR l) := by
  unfold lastR
  by_cases h : (l.length : Int) = 0
  · rw [if_pos h]
    exact Ev.one fun k => by unfold spec_LastRound.f; simp only [spec_LastRound.l0]; rw [if_neg (by omega)]
  · rw [if_neg h]
    refine Ev.step (fun k => ?_) (spec_LastRound.ev_l l hl (l.length - 1) 1 (by omega) (by omega))
    unfold spec_LastRound.f
    simp only [spec_LastRound.l0]
    rw [if_pos (by omega), if_pos trivial, if_pos (by omega), Lib.maxOf_one, show wrap64 ((0 : Int) + 1) = ((1 : Nat) : Int) from wrap_nat (i := 0) (by omega)]
    rfl

/-! laws_toIntS -/
theorem laws_toIntS.ev_l (l : List Int) (hl : l.length ≤ 1048576) : ∀ (d i : Nat) (o : List Int), i + d = l.length → o.length = l.length → o.take i = l.take i → Ev (fun k => laws_toIntS.l0 k l o i) l := by
  intro d
  induction d with
  | zero =>
    intro i o hi ho ht
    refine Ev.one fun k => ?_
    simp only [laws_toIntS.l0]
    rw [if_neg (by omega), take_full ho (by omega) ht]
  | succ d ih =>
    intro i o hi ho ht
    refine Ev.step (fun k => ?_) (ih (i + 1) (o.set i (l.getD i 0)) (by omega) (by simp [ho]) (set_take o l _ ho (get_of l 0 (by omega)) ht))
    simp only [laws_toIntS.l0]
    rw [if_pos (by omega), if_pos (by omega), if_pos (by omega), wrap_nat (by omega)]
    rfl
theorem laws_toIntS.ev (l : List Int) (hl : l.length ≤ 1048576) : Ev (fun k => laws_toIntS.f k l) l :=
  Ev.congr (fun k => by unfold laws_toIntS.f; rw [if_pos (by omega), if_pos (by omega)] <;> rfl) (laws_toIntS.ev_l l hl l.length 0 _ (by omega) (by simp) (by simp))

/-! impl_LastRound -/
theorem impl_LastRound.val (l : List Int) : impl_LastRound.f l = some (lastR l) := by
  unfold impl_LastRound.f slices_Max_int_int.f lastR
  by_cases h : (l.length : Int) = 0
  · rw [if_pos h, if_pos h]
  · rw [if_neg h, if_neg h, if_neg h]; rfl

/-! laws_eqIntS -/
theorem laws_eqIntS.ev_l (l : List Int) (hl : l.length ≤ 1048576) : ∀ (d i : Nat), i + d = l.length → Ev (fun k => laws_eqIntS.l0 k l l i) true := by
  intro d
  induction d with
  | zero => intro i hi; refine Ev.one fun k => ?_; simp only [laws_eqIntS.l0]; rw [if_neg (by omega)]
  | succ d ih =>
    intro i hi
    refine Ev.step (fun k => ?_) (ih (i + 1) (by omega))
    simp only [laws_eqIntS.l0]
    rw [if_pos (by omega), if_pos (by omega), if_pos (by omega), if_pos trivial, wrap_nat (by omega)]
theorem laws_eqIntS.ev (l : List Int) (hl : l.length ≤ 1048576) : Ev (fun k => laws_eqIntS.f k l l) true :=
  Ev.congr (fun k => by unfold laws_eqIntS.f; rw [if_pos rfl] <;> rfl) (laws_eqIntS.ev_l l hl l.length 0 (by omega))

/-! @@ FnExactLastRound -/
theorem proved : Stated := by
  intro l ⟨_, _⟩
  refine Ev.rounds ?_
  by_cases hb : (l.length : Int) > 1048576
  · exact Ev.all fun k => by unfold laws_FnExactLastRound.f; rw [if_pos hb]
  have hl : l.length ≤ 1048576 := by omega
  refine Ev.congr (fun k => by unfold laws_FnExactLastRound.f; rw [if_neg hb]) ?_
  refine Ev.bind (laws_toIntS.ev l hl) (Ev.bind (spec_LastRound.ev l hl) (Ev.bind (laws_toIntS.ev l hl) ?_))
  refine Ev.congr (fun k => by rw [impl_LastRound.val, Option.bind_some, if_pos rfl]) ?_
  refine Ev.bind (laws_toIntS.ev l hl) (Ev.bind (laws_eqIntS.ev l hl) ?_)
  exact Ev.all fun k => by rw [if_pos rfl]

end Go.Proofs.Ythkhjeklcmmjhaa.PureFnExactLastRound
