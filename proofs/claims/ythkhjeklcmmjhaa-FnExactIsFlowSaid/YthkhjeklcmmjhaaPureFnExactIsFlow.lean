/- FnExactIsFlow, over numbers and lists alone: what the program's function and the reference's answer is one. Conditions: the numbers are of their kinds. -/
import Derived.Test.YthkhjeklcmmjhaaKindsFnExactIsFlow
import Derived.Test.YthkhjeklcmmjhaaBase
namespace Go.Proofs.Ythkhjeklcmmjhaa.PureFnExactIsFlow
open Go.RowKit Go.Proofs.Ythkhjeklcmmjhaa.PFnExactIsFlow Go.Proofs.YthkhjeklcmmjhaaW.PrintWords Go.Proofs.YthkhjeklcmmjhaaW.PrintLast Go.Proofs.YthkhjeklcmmjhaaW.PrintMore Go.Proofs.Ythkhjeklcmmjhaa.Base
set_option linter.unusedVariables false
set_option linter.unusedSimpArgs false

/-! spec_l1In -/
theorem spec_l1In.val (a lo hi : Int) : spec_l1In.f a lo hi = some (inR a lo hi) := by
  unfold spec_l1In.f inR
  by_cases h : a ≥ lo
  · rw [if_pos h]; simp [h]
  · rw [if_neg h]; simp; omega

/-! impl_InRange -/
theorem impl_InRange.val (a lo hi : Int) : impl_InRange.f a lo hi = some (inR a lo hi) := by
  unfold impl_InRange.f inR
  by_cases h : lo ≤ a
  · rw [if_pos h]; simp [h]
  · rw [if_neg h]; simp; omega

/-! impl_isIndex -/
theorem impl_isIndex.val (a n : Int) : impl_isIndex.f a n = some (decide (0 ≤ a) && decide (a < n)) := by
  unfold impl_isIndex.f
  by_cases h : a ≥ 0
  · rw [if_pos h]; simp [h]
  · rw [if_neg h]; simp; omega

/-! @@ FnExactIsFlow -/
theorem proved : Stated := by
  intro a b c d n _ _ _ _ hn
  have hs : spec_IsFlow.f a b c d n = impl_IsFlow.f a b c d n := by
    unfold spec_IsFlow.f impl_IsFlow.f
    simp only [spec_l1In.val, impl_InRange.val, impl_isIndex.val, Option.bind_some]
    by_cases h1 : inR a 0 9999 = true <;> by_cases h2 : 0 ≤ b <;> by_cases h3 : b < n <;> by_cases h4 : 0 ≤ c <;> by_cases h5 : c < n <;> by_cases h6 : b = c <;> simp [h1, h2, h3, h4, h5, h6]
  obtain ⟨r, hr⟩ : ∃ r, impl_IsFlow.f a b c d n = some r := by
    unfold impl_IsFlow.f
    simp only [impl_InRange.val, impl_isIndex.val, Option.bind_some]
    repeat' split
    all_goals exact ⟨_, rfl⟩
  unfold laws_FnExactIsFlow.f
  simp only [laws_toFlow.f, Option.bind_some]
  rw [hs, hr]
  simp

end Go.Proofs.Ythkhjeklcmmjhaa.PureFnExactIsFlow
