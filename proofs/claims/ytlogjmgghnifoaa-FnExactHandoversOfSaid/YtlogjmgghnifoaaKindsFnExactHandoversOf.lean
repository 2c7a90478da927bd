/- What is asked of the numbers inside the law's arguments: each is of its kind. No condition. -/
import Derived.Test.YtlogjmgghnifoaaPFnExactHandoversOfx10
namespace Go.Proofs.Ytlogjmgghnifoaa.PureFnExactHandoversOf
open Go.RowKit Go.Proofs.Ytlogjmgghnifoaa.PFnExactHandoversOf Go.Proofs.YtlogjmgghnifoaaW.PrintWords Go.Proofs.YtlogjmgghnifoaaW.PrintLast
def W174 (x : S174) : Prop := (Lit.int .i64 x.f0).wf = true ∧ (Lit.int .i64 x.f1).wf = true
def W168 (x : S168) : Prop := (Lit.int .i64 x.f0).wf = true ∧ (Lit.int .i64 x.f1).wf = true
def W285 (x : S285) : Prop := (Lit.int .i64 x.f0).wf = true ∧ (x.f1.length ≤ maxLen ∧ ∀ e_ ∈ x.f1, (Lit.int .i64 e_).wf = true) ∧ (x.f2.length ≤ maxLen ∧ ∀ e_ ∈ x.f2, (Lit.int .i64 e_).wf = true)
def W177 (x : S177) : Prop := W174 x.f0 ∧ (x.f1.length ≤ maxLen ∧ ∀ e_ ∈ x.f1, W168 e_) ∧ (x.f2.length ≤ maxLen ∧ ∀ e_ ∈ x.f2, W285 e_)
/-- The pure statement. -/
def Stated : Prop := ∀ (a0_0 : Int) (a0_1 : Int) (a0_2 : Int) (l0_3 : List S177) (a1 : Int), (Lit.int .i64 a0_0).wf = true → (Lit.int .i64 a0_1).wf = true → (Lit.int .i64 a0_2).wf = true → (l0_3.length ≤ maxLen ∧ ∀ e_ ∈ l0_3, W177 e_) → (Lit.int .i64 a1).wf = true → ∃ k, laws_FnExactHandoversOf.f k a0_0 a0_1 a0_2 l0_3 a1 = some true
end Go.Proofs.Ytlogjmgghnifoaa.PureFnExactHandoversOf
