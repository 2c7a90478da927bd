/- What is asked of the numbers inside the law's arguments: each is of its kind. No condition. -/
import Derived.Test.YtdodogkgmpaioaaPFnExactReachFromx11
namespace Go.Proofs.Ytdodogkgmpaioaa.PureFnExactReachFrom
open Go.RowKit Go.Proofs.Ytdodogkgmpaioaa.PFnExactReachFrom Go.Proofs.YtdodogkgmpaioaaW.PrintWords Go.Proofs.YtdodogkgmpaioaaW.PrintLast
def W94 (x : S94) : Prop := (Lit.int .i64 x.f0).wf = true ∧ (Lit.int .i64 x.f1).wf = true
def W151 (x : S151) : Prop := (Lit.int .i64 x.f0).wf = true ∧ (Lit.int .i64 x.f1).wf = true
def W149 (x : S149) : Prop := (Lit.int .i64 x.f0).wf = true ∧ (x.f1.length ≤ maxLen ∧ ∀ e_ ∈ x.f1, (Lit.int .i64 e_).wf = true) ∧ (x.f2.length ≤ maxLen ∧ ∀ e_ ∈ x.f2, (Lit.int .i64 e_).wf = true)
def W98 (x : S98) : Prop := W94 x.f0 ∧ (x.f1.length ≤ maxLen ∧ ∀ e_ ∈ x.f1, W151 e_) ∧ (x.f2.length ≤ maxLen ∧ ∀ e_ ∈ x.f2, W149 e_)
/-- The pure statement. -/
def Stated : Prop := ∀ (a0_0 : Int) (a0_1 : Int) (a0_2 : Int) (l0_3 : List S98) (a1 : Int) (a2 : Int) (a3 : Int), (Lit.int .i64 a0_0).wf = true → (Lit.int .i64 a0_1).wf = true → (Lit.int .i64 a0_2).wf = true → (l0_3.length ≤ maxLen ∧ ∀ e_ ∈ l0_3, W98 e_) → (Lit.int .i64 a1).wf = true → (Lit.int .i64 a2).wf = true → (Lit.int .i64 a3).wf = true → ∃ k, laws_FnExactReachFrom.f k a0_0 a0_1 a0_2 l0_3 a1 a2 a3 = some true
end Go.Proofs.Ytdodogkgmpaioaa.PureFnExactReachFrom
