/- What is asked of the numbers inside the law's arguments: each is of its kind. No condition. -/
import Derived.Test.YtdodogkgmpaioaaPFnExactAdmitFlowx15
namespace Go.Proofs.Ytdodogkgmpaioaa.PureFnExactAdmitFlow
open Go.RowKit Go.Proofs.Ytdodogkgmpaioaa.PFnExactAdmitFlow Go.Proofs.YtdodogkgmpaioaaW.PrintWords Go.Proofs.YtdodogkgmpaioaaW.PrintLast
def W94 (x : S94) : Prop := (Lit.int .i64 x.f0).wf = true ∧ (Lit.int .i64 x.f1).wf = true
def W151 (x : S151) : Prop := (Lit.int .i64 x.f0).wf = true ∧ (Lit.int .i64 x.f1).wf = true
def W149 (x : S149) : Prop := (Lit.int .i64 x.f0).wf = true ∧ (x.f1.length ≤ maxLen ∧ ∀ e_ ∈ x.f1, (Lit.int .i64 e_).wf = true) ∧ (x.f2.length ≤ maxLen ∧ ∀ e_ ∈ x.f2, (Lit.int .i64 e_).wf = true)
def W98 (x : S98) : Prop := W94 x.f0 ∧ (x.f1.length ≤ maxLen ∧ ∀ e_ ∈ x.f1, W151 e_) ∧ (x.f2.length ≤ maxLen ∧ ∀ e_ ∈ x.f2, W149 e_)
def W39 (x : S39) : Prop := (Lit.int .i64 x.f0).wf = true ∧ (Lit.int .i64 x.f1).wf = true ∧ (Lit.int .i64 x.f2).wf = true ∧ (Lit.int .i64 x.f3).wf = true
/-- The pure statement. -/
def Stated : Prop := ∀ (a0_0 : Int) (a0_1 : Int) (a0_2 : Int) (l0_3 : List S98) (l1 : List S39) (a2_0 : Int) (a2_1 : Int) (a2_2 : Int) (a2_3 : Int) (a3 : Int), (Lit.int .i64 a0_0).wf = true → (Lit.int .i64 a0_1).wf = true → (Lit.int .i64 a0_2).wf = true → (l0_3.length ≤ maxLen ∧ ∀ e_ ∈ l0_3, W98 e_) → (l1.length ≤ maxLen ∧ ∀ e_ ∈ l1, W39 e_) → (Lit.int .i64 a2_0).wf = true → (Lit.int .i64 a2_1).wf = true → (Lit.int .i64 a2_2).wf = true → (Lit.int .i64 a2_3).wf = true → (Lit.int .i64 a3).wf = true → ∃ k, laws_FnExactAdmitFlow.f k a0_0 a0_1 a0_2 l0_3 l1 a2_0 a2_1 a2_2 a2_3 a3 = some true
end Go.Proofs.Ytdodogkgmpaioaa.PureFnExactAdmitFlow
