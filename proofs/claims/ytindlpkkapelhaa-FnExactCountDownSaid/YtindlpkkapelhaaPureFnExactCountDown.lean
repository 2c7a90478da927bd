/- FnExactCountDown, over numbers and lists alone: what the program's function and the reference's answer is one. Conditions: the numbers are of their kinds. -/
import Derived.Test.YtindlpkkapelhaaKindsFnExactCountDown
import Derived.Test.YtindlpkkapelhaaBase
namespace Go.Proofs.Ytindlpkkapelhaa.PureFnExactCountDown
open Go.RowKit Go.Proofs.Ytindlpkkapelhaa.PFnExactCountDown Go.Proofs.YtindlpkkapelhaaW.PrintWords Go.Proofs.YtindlpkkapelhaaW.PrintLast Go.Proofs.YtindlpkkapelhaaW.PrintMore Go.Proofs.Ytindlpkkapelhaa.Base
set_option linter.unusedVariables false
set_option linter.unusedSimpArgs false

/-! laws_szFaultS -/
theorem laws_szFaultS.val (l : List S118) (a : Int) (h0 : 0 ≤ a) (h1 : a ≤ 1048576) (hl : l.length ≤ maxLen) :
    ∃ t, laws_szFaultS.f l a = some t ∧ t ≤ a ∧ (0 ≤ t → t = a - l.length ∧ l.length ≤ 1048576) := by
  unfold maxLen at hl
  unfold laws_szFaultS.f
  rw [wrap_id (by omega) (by omega)]
  by_cases h : a - (l.length : Int) < 0
  · rw [if_pos h]; exact ⟨_, rfl, by omega, by omega⟩
  · rw [if_neg h]; exact ⟨_, rfl, by omega, by omega⟩

/-! spec_l1In -/
theorem spec_l1In.val (a lo hi : Int) : spec_l1In.f a lo hi = some (inR a lo hi) := by
  unfold spec_l1In.f inR
  by_cases h : a ≥ lo
  · rw [if_pos h]; simp [h]
  · rw [if_neg h]; simp; omega

/-! d_isSpan -/
def isSpan (a b : Int) : Bool := decide (0 ≤ a) && decide (b ≤ 1000) && decide (a < b)

/-! spec_IsSpan -/
theorem spec_IsSpan.val (a b : Int) : spec_IsSpan.f a b = some (isSpan a b) := by
  unfold spec_IsSpan.f isSpan
  by_cases h : a ≥ 0
  · rw [if_pos h]
    by_cases h2 : b ≤ 1000
    · rw [if_pos h2]; simp [h, h2]
    · rw [if_neg h2]; simp; omega
  · rw [if_neg h]; simp; omega

/-! d_inSpan -/
def inSpan (a b t : Int) : Bool := isSpan a b && decide (a ≤ t) && decide (t < b)

/-! spec_InSpan -/
theorem spec_InSpan.val (a b t : Int) : spec_InSpan.f a b t = some (inSpan a b t) := by
  unfold spec_InSpan.f inSpan
  rw [spec_IsSpan.val, Option.bind_some]
  by_cases h : isSpan a b = true
  · rw [if_pos h]
    by_cases h2 : a ≤ t
    · rw [if_pos h2]; simp [h, h2]
    · rw [if_neg h2]; simp; omega
  · rw [if_neg h]; simp [h]

/-! spec_l31Now -/
theorem spec_l31Now.val (a b c d t : Int) : spec_l31Now.f a b c d t = some (inSpan c d t) := by
  unfold spec_l31Now.f
  rw [spec_InSpan.val]; rfl

/-! d_downB -/
def downB (a t : Int) (x : S116) : Bool := (x.f0 == a) && (x.f1 == -1) && inSpan x.f2 x.f3 t

/-! spec_IsDown -/
theorem spec_IsDown.ev (l : List S116) (a t : Int) (hl : l.length ≤ 1048576) : Ev (fun k => spec_IsDown.f k l a t) (l.any (downB a t)) := by
  have h := find_list (g := fun k i => spec_IsDown.l0 k l a t i) (q := downB a t) (r := true) (e := false) l z116
    (Ev.one fun k => by simp only [spec_IsDown.l0]; rw [if_neg (by omega)])
    (fun i k hi => by
      simp only [spec_IsDown.l0, spec_l31Now.val, Option.bind_some]
      rw [if_pos (by omega), if_pos (by omega), wrap_nat (by omega)]
      show (if (l.getD i z116).f0 = a then (if (l.getD i z116).f1 = -1 then (if inSpan (l.getD i z116).f2 (l.getD i z116).f3 t = true then _ else _) else _) else _) = _
      generalize l.getD i z116 = y
      unfold downB
      by_cases h1 : y.f0 = a <;> by_cases h2 : y.f1 = -1 <;> by_cases h3 : inSpan y.f2 y.f3 t = true <;> simp [h1, h2, h3])
  rw [ite_bool] at h
  exact h

/-! d_countDown -/
def countDown (l : List S116) (t n : Int) : Int := if inR n 1 12 = true then countP (fun i => l.any (downB ((i : Nat) : Int) t)) n.toNat else 0

/-! spec_CountDown -/
theorem spec_CountDown.ev (l : List S116) (t n : Int) (hl : l.length ≤ 1048576) : Ev (fun k => spec_CountDown.f k l t n) (countDown l t n) := by
  unfold countDown
  refine Ev.congr (fun k => by unfold spec_CountDown.f; rw [spec_l1In.val, Option.bind_some]) ?_
  by_cases hn : inR n 1 12 = true
  · rw [if_pos hn]
    refine Ev.congr (fun k => by rw [if_pos hn]) ?_
    have hb : 1 ≤ n ∧ n ≤ 12 := by simpa [inR] using hn
    have h := foldE_index (g := fun k s i => spec_CountDown.l0 k l t n s i) (f := fun i s => if l.any (downB ((i : Nat) : Int) t) = true then wrap64 (s + 1) else s) (fin := fun s => s) (fun _ _ => True) n.toNat 0 trivial
      (fun s _ => Ev.one fun k => by simp only [spec_CountDown.l0]; rw [if_neg (by omega)])
      (fun i s hi _ => ⟨trivial, fun x hx => by
        refine Ev.step (fun k => by simp only [spec_CountDown.l0]; rw [if_pos (by omega), wrap_nat (by omega)]) (Ev.bind (spec_IsDown.ev l _ t hl) ?_)
        by_cases h1 : l.any (downB ((i : Nat) : Int) t) = true
        · rw [if_pos h1] at hx
          exact Ev.congr (fun k => by rw [if_pos h1]) hx
        · rw [if_neg h1] at hx
          exact Ev.congr (fun k => by rw [if_neg h1]) hx⟩)
    rw [count_countP _ _ (by omega)] at h
    exact h
  · rw [if_neg hn]
    exact Ev.all fun k => by rw [if_neg hn]

/-! laws_toFaultS -/
def cFault (x : S118) : S116 := ⟨x.f0, x.f1, x.f2, x.f3⟩
theorem laws_toFaultS.ev_l (l : List S118) (hl : l.length ≤ 1048576) : ∀ (d i : Nat) (o : List S116), i + d = l.length → o.length = l.length → o.take i = (l.map cFault).take i → Ev (fun k => laws_toFaultS.l0 k l o i) (l.map cFault) := by
  intro d
  induction d with
  | zero =>
    intro i o hi ho ht
    refine Ev.one fun k => ?_
    simp only [laws_toFaultS.l0]
    rw [if_neg (by omega), take_full (by simpa using ho) (by simp; omega) ht]
  | succ d ih =>
    intro i o hi ho ht
    refine Ev.step (fun k => ?_) (ih (i + 1) (o.set i (cFault (l.getD i z118))) (by omega) (by simp [ho]) (set_take o _ _ (by simpa using ho) (get_map cFault l z118 (by omega)) ht))
    simp only [laws_toFaultS.l0, laws_toFault.f, Option.bind_some]
    rw [if_pos (by omega), if_pos (by omega), if_pos (by omega), wrap_nat (by omega)]
    rfl
theorem laws_toFaultS.ev (l : List S118) (hl : l.length ≤ 1048576) : Ev (fun k => laws_toFaultS.f k l) (l.map cFault) :=
  Ev.congr (fun k => by unfold laws_toFaultS.f; rw [if_pos (by omega), if_pos (by omega)] <;> rfl) (laws_toFaultS.ev_l l hl l.length 0 _ (by omega) (by simp) (by simp))

/-! impl_IsSpan -/
theorem impl_IsSpan.val (a b : Int) : impl_IsSpan.f a b = some (isSpan a b) := by
  unfold impl_IsSpan.f isSpan
  by_cases h : a ≥ 0
  · rw [if_pos h]
    by_cases h2 : b ≤ 1000
    · rw [if_pos h2]; simp [h, h2]
    · rw [if_neg h2]; simp; omega
  · rw [if_neg h]; simp; omega

/-! impl_InSpan -/
theorem impl_InSpan.val (a b t : Int) : impl_InSpan.f a b t = some (inSpan a b t) := by
  unfold impl_InSpan.f inSpan
  rw [impl_IsSpan.val, Option.bind_some]
  by_cases h : isSpan a b = true
  · rw [if_pos h]
    by_cases h2 : a ≤ t
    · rw [if_pos h2]; simp [h, h2]
    · rw [if_neg h2]; simp; omega
  · rw [if_neg h]; simp [h]

/-! impl_IsDown -/
theorem impl_IsDown.ev (l : List S116) (a t : Int) (hl : l.length ≤ 1048576) : Ev (fun k => impl_IsDown.f k l a t) (l.any (downB a t)) := by
  have h := find_list (g := fun k i => impl_IsDown.l0 k a t l l.length i) (q := downB a t) (r := true) (e := false) l z116
    (Ev.one fun k => by simp only [impl_IsDown.l0]; rw [if_neg (by omega)])
    (fun i k hi => by
      simp only [impl_IsDown.l0, impl_InSpan.val, Option.bind_some]
      rw [if_pos (by omega), if_pos (by omega), if_pos (by omega), wrap_nat (by omega)]
      show (if (l.getD i z116).f0 = a then (if (l.getD i z116).f1 = -1 then (if inSpan (l.getD i z116).f2 (l.getD i z116).f3 t = true then _ else _) else _) else _) = _
      generalize l.getD i z116 = y
      unfold downB
      by_cases h1 : y.f0 = a <;> by_cases h2 : y.f1 = -1 <;> by_cases h3 : inSpan y.f2 y.f3 t = true <;> simp [h1, h2, h3])
  rw [ite_bool] at h
  exact h

/-! impl_InRange -/
theorem impl_InRange.val (a lo hi : Int) : impl_InRange.f a lo hi = some (inR a lo hi) := by
  unfold impl_InRange.f inR
  by_cases h : lo ≤ a
  · rw [if_pos h]; simp [h]
  · rw [if_neg h]; simp; omega

/-! impl_isNumber -/
theorem impl_isNumber.val (a : Int) : impl_isNumber.f a = some (inR a 1 12) := by
  unfold impl_isNumber.f
  rw [impl_InRange.val]; rfl

/-! impl_CountDown -/
theorem impl_CountDown.ev (l : List S116) (t n : Int) (hl : l.length ≤ 1048576) : Ev (fun k => impl_CountDown.f k l t n) (countDown l t n) := by
  unfold countDown
  refine Ev.congr (fun k => by unfold impl_CountDown.f; rw [impl_isNumber.val, Option.bind_some]) ?_
  by_cases hn : inR n 1 12 = true
  · rw [if_pos hn]
    refine Ev.congr (fun k => by rw [if_pos hn]) ?_
    have hb : 1 ≤ n ∧ n ≤ 12 := by simpa [inR] using hn
    have h := foldE_index (g := fun k s i => impl_CountDown.l0 k l t s n i) (f := fun i s => if l.any (downB ((i : Nat) : Int) t) = true then wrap64 (s + 1) else s) (fin := fun s => s) (fun _ _ => True) n.toNat 0 trivial
      (fun s _ => Ev.one fun k => by simp only [impl_CountDown.l0]; rw [if_neg (by omega)])
      (fun i s hi _ => ⟨trivial, fun x hx => by
        refine Ev.step (fun k => by simp only [impl_CountDown.l0]; rw [if_pos (by omega), wrap_nat (by omega)]) (Ev.bind (impl_IsDown.ev l _ t hl) ?_)
        by_cases h1 : l.any (downB ((i : Nat) : Int) t) = true
        · rw [if_pos h1] at hx
          exact Ev.congr (fun k => by rw [if_pos h1]) hx
        · rw [if_neg h1] at hx
          exact Ev.congr (fun k => by rw [if_neg h1]) hx⟩)
    rw [count_countP _ _ (by omega)] at h
    exact h
  · rw [if_neg hn]
    exact Ev.all fun k => by rw [if_neg hn]

/-! laws_eqFault -/
theorem laws_eqFault.val (x : S116) : laws_eqFault.f x.f0 x.f1 x.f2 x.f3 x.f0 x.f1 x.f2 x.f3 = some true := by
  unfold laws_eqFault.f
  simp

/-! laws_eqFaultS -/
theorem laws_eqFaultS.ev_l (l : List S116) (hl : l.length ≤ 1048576) : ∀ (d i : Nat), i + d = l.length → Ev (fun k => laws_eqFaultS.l0 k l l i) true := by
  intro d
  induction d with
  | zero => intro i hi; refine Ev.one fun k => ?_; simp only [laws_eqFaultS.l0]; rw [if_neg (by omega)]
  | succ d ih =>
    intro i hi
    refine Ev.step (fun k => ?_) (ih (i + 1) (by omega))
    simp only [laws_eqFaultS.l0, laws_eqFault.val, Option.bind_some]
    rw [if_pos (by omega), if_pos (by omega), if_pos (by omega), if_pos trivial, wrap_nat (by omega)]
theorem laws_eqFaultS.ev (l : List S116) (hl : l.length ≤ 1048576) : Ev (fun k => laws_eqFaultS.f k l l) true :=
  Ev.congr (fun k => by unfold laws_eqFaultS.f; rw [if_pos rfl] <;> rfl) (laws_eqFaultS.ev_l l hl l.length 0 (by omega))

/-! @@ FnExactCountDown -/
theorem proved : Stated := by
  intro l0 a1 a2 ⟨hl, hw⟩ _ _
  obtain ⟨t, ht, hle, hp⟩ := laws_szFaultS.val l0 1048576 (by omega) (by omega) hl
  refine Ev.rounds ?_
  refine Ev.congr (fun k => by unfold laws_FnExactCountDown.f; rw [ht, Option.bind_some]) ?_
  by_cases h : t < 0
  · exact Ev.all fun k => by rw [if_pos h]
  · obtain ⟨_, hl2⟩ := hp (by omega)
    have hl3 : (l0.map cFault).length ≤ 1048576 := by simpa using hl2
    refine Ev.congr (fun k => by rw [if_neg h]) ?_
    refine Ev.bind (laws_toFaultS.ev l0 hl2) (Ev.bind (spec_CountDown.ev _ a1 a2 hl3) (Ev.bind (laws_toFaultS.ev l0 hl2) (Ev.bind (impl_CountDown.ev _ a1 a2 hl3) ?_)))
    refine Ev.congr (fun k => by rw [if_pos rfl]) ?_
    refine Ev.bind (laws_toFaultS.ev l0 hl2) (Ev.bind (laws_eqFaultS.ev _ hl3) ?_)
    exact Ev.all fun k => by simp

end Go.Proofs.Ytindlpkkapelhaa.PureFnExactCountDown
