/- FnExactExampleSky, over numbers and lists alone: what the program's function and the reference's answer is one. Conditions: the numbers are of their kinds. -/
import Derived.Test.YtindlpkkapelhaaKindsFnExactExampleSky
import Derived.Test.YtindlpkkapelhaaBase
namespace Go.Proofs.Ytindlpkkapelhaa.PureFnExactExampleSky
open Go.RowKit Go.Proofs.Ytindlpkkapelhaa.PFnExactExampleSky Go.Proofs.YtindlpkkapelhaaW.PrintWords Go.Proofs.YtindlpkkapelhaaW.PrintLast Go.Proofs.YtindlpkkapelhaaW.PrintMore Go.Proofs.Ytindlpkkapelhaa.Base
set_option linter.unusedVariables false
set_option linter.unusedSimpArgs false

/-! @@ FnExactExampleSky -/
theorem proved : Stated := by
  intro a _
  refine ⟨40, ?_⟩
  by_cases h1 : a = 1
  · subst h1; kernel_rfl
  by_cases h2 : a = 2
  · subst h2; kernel_rfl
  by_cases h3 : a = 3
  · subst h3; kernel_rfl
  have e1 : impl_ExampleSky.f a = some (0, ([] : List (S148)), ([] : List (S141)), 0, 0, 0, 0, 0, ([] : List (S146)), 0) := by unfold impl_ExampleSky.f; rw [if_neg h1, if_neg h2, if_neg h3]
  have e2 : spec_ExampleSky.f 40 a = some (0, ([] : List (S148)), ([] : List (S141)), 0, 0, 0, 0, 0, ([] : List (S146)), 0) := by unfold spec_ExampleSky.f; rw [Option.bind_some, if_neg h1, if_neg h2, if_neg h3]
  unfold laws_FnExactExampleSky.f
  rw [e1, e2]
  rfl

end Go.Proofs.Ytindlpkkapelhaa.PureFnExactExampleSky
