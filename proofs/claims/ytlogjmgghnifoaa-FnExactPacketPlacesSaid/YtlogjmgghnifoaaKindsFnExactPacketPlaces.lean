/- What is asked of the numbers inside the law's arguments: each is of its kind. No condition. -/
import Derived.Test.YtlogjmgghnifoaaPFnExactPacketPlacesx14
namespace Go.Proofs.Ytlogjmgghnifoaa.PureFnExactPacketPlaces
open Go.RowKit Go.Proofs.Ytlogjmgghnifoaa.PFnExactPacketPlaces Go.Proofs.YtlogjmgghnifoaaW.PrintWords Go.Proofs.YtlogjmgghnifoaaW.PrintLast
def W251 (x : S251) : Prop := (Lit.int .i64 x.f0).wf = true ∧ (Lit.int .i64 x.f1).wf = true ∧ (Lit.int .i64 x.f2).wf = true ∧ (Lit.int .i64 x.f3).wf = true
def W255 (x : S255) : Prop := (Lit.int .i64 x.f0).wf = true ∧ (Lit.int .i64 x.f1).wf = true ∧ (Lit.int .i64 x.f2).wf = true
def W261 (x : S261) : Prop := (Lit.int .i64 x.f0).wf = true ∧ (Lit.int .i64 x.f1).wf = true
def W263 (x : S263) : Prop := (Lit.int .i64 x.f0).wf = true ∧ W261 x.f1
def W174 (x : S174) : Prop := (Lit.int .i64 x.f0).wf = true ∧ (Lit.int .i64 x.f1).wf = true
def W168 (x : S168) : Prop := (Lit.int .i64 x.f0).wf = true ∧ (Lit.int .i64 x.f1).wf = true
def W285 (x : S285) : Prop := (Lit.int .i64 x.f0).wf = true ∧ (x.f1.length ≤ maxLen ∧ ∀ e_ ∈ x.f1, (Lit.int .i64 e_).wf = true) ∧ (x.f2.length ≤ maxLen ∧ ∀ e_ ∈ x.f2, (Lit.int .i64 e_).wf = true)
def W177 (x : S177) : Prop := W174 x.f0 ∧ (x.f1.length ≤ maxLen ∧ ∀ e_ ∈ x.f1, W168 e_) ∧ (x.f2.length ≤ maxLen ∧ ∀ e_ ∈ x.f2, W285 e_)
def W197 (x : S197) : Prop := (Lit.int .i64 x.f0).wf = true ∧ (Lit.int .i64 x.f1).wf = true ∧ (Lit.int .i64 x.f2).wf = true ∧ (Lit.int .i64 x.f3).wf = true ∧ (Lit.int .i64 x.f4).wf = true ∧ (Lit.int .i64 x.f5).wf = true
def W210 (x : S210) : Prop := (Lit.int .i64 x.f0).wf = true ∧ (Lit.int .i64 x.f1).wf = true ∧ (Lit.int .i64 x.f2).wf = true ∧ (Lit.int .i64 x.f3).wf = true ∧ (Lit.int .i64 x.f4).wf = true ∧ (Lit.int .i64 x.f5).wf = true
def W187 (x : S187) : Prop := (x.f0.length ≤ maxLen ∧ ∀ e_ ∈ x.f0, W210 e_)
def W202 (x : S202) : Prop := (Lit.int .i64 x.f0).wf = true ∧ (Lit.int .i64 x.f1).wf = true ∧ (Lit.int .i64 x.f2).wf = true ∧ (Lit.int .i64 x.f3).wf = true
def W190 (x : S190) : Prop := (Lit.int .i64 x.f0).wf = true ∧ (Lit.int .i64 x.f1).wf = true ∧ (x.f2.length ≤ maxLen ∧ ∀ e_ ∈ x.f2, (Lit.int .i64 e_).wf = true)
def W208 (x : S208) : Prop := (Lit.int .i64 x.f0).wf = true ∧ (Lit.int .i64 x.f1).wf = true ∧ (Lit.int .i64 x.f2).wf = true ∧ (Lit.int .i64 x.f3).wf = true
def W214 (x : S214) : Prop := (Lit.int .i64 x.f0).wf = true ∧ (Lit.int .i64 x.f1).wf = true ∧ (Lit.int .i64 x.f2).wf = true ∧ (Lit.int .i64 x.f3).wf = true
/-- The pure statement. -/
def Stated : Prop := ∀ (a0_0 : Int) (l0_1 : List S251) (l0_2 : List S255) (a0_3 : Int) (a0_4 : Int) (a0_5 : Int) (a0_6 : Int) (a0_7 : Int) (l0_8 : List S263) (a0_9 : Int) (a0_10 : Int) (a0_11 : Int) (a0_12 : Int) (l0_13 : List S177) (l0_14 : List Int) (l0_15 : List Int) (l0_16 : List S197) (l0_17 : List S187) (l0_18 : List S202) (l0_19 : List Int) (l0_20 : List S190) (l0_21 : List S208) (a0_22 : Int) (a0_23 : Int) (l0_24 : List S210) (l0_25 : List S214) (a1 : Int), (Lit.int .i64 a0_0).wf = true → (l0_1.length ≤ maxLen ∧ ∀ e_ ∈ l0_1, W251 e_) → (l0_2.length ≤ maxLen ∧ ∀ e_ ∈ l0_2, W255 e_) → (Lit.int .i64 a0_3).wf = true → (Lit.int .i64 a0_4).wf = true → (Lit.int .i64 a0_5).wf = true → (Lit.int .i64 a0_6).wf = true → (Lit.int .i64 a0_7).wf = true → (l0_8.length ≤ maxLen ∧ ∀ e_ ∈ l0_8, W263 e_) → (Lit.int .i64 a0_9).wf = true → (Lit.int .i64 a0_10).wf = true → (Lit.int .i64 a0_11).wf = true → (Lit.int .i64 a0_12).wf = true → (l0_13.length ≤ maxLen ∧ ∀ e_ ∈ l0_13, W177 e_) → (l0_14.length ≤ maxLen ∧ ∀ e_ ∈ l0_14, (Lit.int .i64 e_).wf = true) → (l0_15.length ≤ maxLen ∧ ∀ e_ ∈ l0_15, (Lit.int .i64 e_).wf = true) → (l0_16.length ≤ maxLen ∧ ∀ e_ ∈ l0_16, W197 e_) → (l0_17.length ≤ maxLen ∧ ∀ e_ ∈ l0_17, W187 e_) → (l0_18.length ≤ maxLen ∧ ∀ e_ ∈ l0_18, W202 e_) → (l0_19.length ≤ maxLen ∧ ∀ e_ ∈ l0_19, (Lit.int .i64 e_).wf = true) → (l0_20.length ≤ maxLen ∧ ∀ e_ ∈ l0_20, W190 e_) → (l0_21.length ≤ maxLen ∧ ∀ e_ ∈ l0_21, W208 e_) → (Lit.int .i64 a0_22).wf = true → (Lit.int .i64 a0_23).wf = true → (l0_24.length ≤ maxLen ∧ ∀ e_ ∈ l0_24, W210 e_) → (l0_25.length ≤ maxLen ∧ ∀ e_ ∈ l0_25, W214 e_) → (Lit.int .i64 a1).wf = true → ∃ k, laws_FnExactPacketPlaces.f k a0_0 l0_1 l0_2 a0_3 a0_4 a0_5 a0_6 a0_7 l0_8 a0_9 a0_10 a0_11 a0_12 l0_13 l0_14 l0_15 l0_16 l0_17 l0_18 l0_19 l0_20 l0_21 a0_22 a0_23 l0_24 l0_25 a1 = some true
end Go.Proofs.Ytlogjmgghnifoaa.PureFnExactPacketPlaces
