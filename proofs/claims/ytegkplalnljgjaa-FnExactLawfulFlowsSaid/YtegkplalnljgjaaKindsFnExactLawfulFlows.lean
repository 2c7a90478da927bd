/- What is asked of the numbers inside the law's arguments: each is of its kind. No condition. -/
import Derived.Test.YtegkplalnljgjaaPFnExactLawfulFlowsx9
namespace Go.Proofs.Ytegkplalnljgjaa.PureFnExactLawfulFlows
open Go.RowKit Go.Proofs.Ytegkplalnljgjaa.PFnExactLawfulFlows Go.Proofs.YtegkplalnljgjaaW.PrintWords Go.Proofs.YtegkplalnljgjaaW.PrintLast
def W129 (x : S129) : Prop := (Lit.int .i64 x.f0).wf = true ∧ (Lit.int .i64 x.f1).wf = true
def W169 (x : S169) : Prop := (Lit.int .i64 x.f0).wf = true ∧ (Lit.int .i64 x.f1).wf = true
def W167 (x : S167) : Prop := (Lit.int .i64 x.f0).wf = true ∧ (x.f1.length ≤ maxLen ∧ ∀ e_ ∈ x.f1, (Lit.int .i64 e_).wf = true) ∧ (x.f2.length ≤ maxLen ∧ ∀ e_ ∈ x.f2, (Lit.int .i64 e_).wf = true)
def W133 (x : S133) : Prop := W129 x.f0 ∧ (x.f1.length ≤ maxLen ∧ ∀ e_ ∈ x.f1, W169 e_) ∧ (x.f2.length ≤ maxLen ∧ ∀ e_ ∈ x.f2, W167 e_)
def W87 (x : S87) : Prop := (Lit.int .i64 x.f0).wf = true ∧ (Lit.int .i64 x.f1).wf = true ∧ (Lit.int .i64 x.f2).wf = true ∧ (Lit.int .i64 x.f3).wf = true
/-- The pure statement. -/
def Stated : Prop := ∀ (l0_0 : List Int) (a1_0 : Int) (a1_1 : Int) (a1_2 : Int) (l1_3 : List S133) (l2 : List S87), (l0_0.length ≤ maxLen ∧ ∀ e_ ∈ l0_0, (Lit.int .i64 e_).wf = true) → (Lit.int .i64 a1_0).wf = true → (Lit.int .i64 a1_1).wf = true → (Lit.int .i64 a1_2).wf = true → (l1_3.length ≤ maxLen ∧ ∀ e_ ∈ l1_3, W133 e_) → (l2.length ≤ maxLen ∧ ∀ e_ ∈ l2, W87 e_) → ∃ k, laws_FnExactLawfulFlows.f k l0_0 a1_0 a1_1 a1_2 l1_3 l2 = some true
end Go.Proofs.Ytegkplalnljgjaa.PureFnExactLawfulFlows
