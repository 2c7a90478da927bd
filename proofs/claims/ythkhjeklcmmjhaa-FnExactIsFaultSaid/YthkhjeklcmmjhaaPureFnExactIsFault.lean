/- FnExactIsFault, over numbers and lists alone: what the program's function and the reference's answer is one. Conditions: the numbers are of their kinds. -/
import Derived.Test.YthkhjeklcmmjhaaKindsFnExactIsFault
import Derived.Test.YthkhjeklcmmjhaaBase
namespace Go.Proofs.Ythkhjeklcmmjhaa.PureFnExactIsFault
open Go.RowKit Go.Proofs.Ythkhjeklcmmjhaa.PFnExactIsFault Go.Proofs.YthkhjeklcmmjhaaW.PrintWords Go.Proofs.YthkhjeklcmmjhaaW.PrintLast Go.Proofs.YthkhjeklcmmjhaaW.PrintMore Go.Proofs.Ythkhjeklcmmjhaa.Base
set_option linter.unusedVariables false
set_option linter.unusedSimpArgs false

/-! spec_IsSpan -/
def isSpan (a b : Int) : Bool := decide (0 ≤ a) && decide (b ≤ 1000) && decide (a < b)
theorem spec_IsSpan.val (a b : Int) : spec_IsSpan.f a b = some (isSpan a b) := by
  unfold spec_IsSpan.f isSpan
  by_cases h : a ≥ 0
  · rw [if_pos h]
    by_cases h2 : b ≤ 1000
    · rw [if_pos h2]; simp [h, h2]
    · rw [if_neg h2]; simp; omega
  · rw [if_neg h]; simp; omega

/-! impl_InRange -/
theorem impl_InRange.val (a lo hi : Int) : impl_InRange.f a lo hi = some (inR a lo hi) := by
  unfold impl_InRange.f inR
  by_cases h : lo ≤ a
  · rw [if_pos h]; simp [h]
  · rw [if_neg h]; simp; omega

/-! impl_isIndex -/
theorem impl_isIndex.val (a n : Int) : impl_isIndex.f a n = some (decide (0 ≤ a) && decide (a < n)) := by
  unfold impl_isIndex.f
  by_cases h : a ≥ 0
  · rw [if_pos h]; simp [h]
  · rw [if_neg h]; simp; omega

/-! impl_IsSpan -/
theorem impl_IsSpan.val (a b : Int) : impl_IsSpan.f a b = some (isSpan a b) := by
  unfold impl_IsSpan.f isSpan
  by_cases h : a ≥ 0
  · rw [if_pos h]
    by_cases h2 : b ≤ 1000
    · rw [if_pos h2]; simp [h, h2]
    · rw [if_neg h2]; simp; omega
  · rw [if_neg h]; simp; omega

/-! @@ FnExactIsFault -/
theorem proved : Stated := by
  intro a b c d n _ _ _ _ hn
  have hb := wf_lo hn
  have hs : impl_IsFault.f a b c d n = spec_IsFault.f a b c d n := by
    unfold spec_IsFault.f impl_IsFault.f
    simp only [spec_IsSpan.val, impl_InRange.val, impl_isIndex.val, impl_IsSpan.val, Option.bind_some]
    by_cases h1 : 0 ≤ a
    · by_cases h2 : a < n
      · have e : inR b (-1) (wrap64 (n - 1)) = (decide (-1 ≤ b) && decide (b < n)) := by
          rw [wrap_id (by omega) (by omega)]
          unfold inR
          congr 1
          rw [decide_eq_decide]
          omega
        rw [e]
        by_cases h3 : -1 ≤ b <;> by_cases h4 : b < n <;> by_cases h5 : a = b <;> simp [h1, h2, h3, h4, h5, eq_comm]
        all_goals (first | done | (intro h; omega))
      · simp [h1, h2]
    · simp [h1]
  obtain ⟨r, hr⟩ : ∃ r, spec_IsFault.f a b c d n = some r := by
    unfold spec_IsFault.f
    simp only [spec_IsSpan.val, Option.bind_some]
    repeat' split
    all_goals exact ⟨_, rfl⟩
  unfold laws_FnExactIsFault.f
  simp only [laws_toFault.f, Option.bind_some]
  rw [hs, hr]
  simp

end Go.Proofs.Ythkhjeklcmmjhaa.PureFnExactIsFault
