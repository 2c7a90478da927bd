/- FnFaults, over numbers and lists alone: what the program's function and the reference's answer is one. Conditions: the numbers are of their kinds. -/
import Derived.Test.YtindlpkkapelhaaKindsFnFaults
import Derived.Test.YtindlpkkapelhaaBase
namespace Go.Proofs.Ytindlpkkapelhaa.PureFnFaults
open Go.RowKit Go.Proofs.Ytindlpkkapelhaa.PFnFaults Go.Proofs.YtindlpkkapelhaaW.PrintWords Go.Proofs.YtindlpkkapelhaaW.PrintLast Go.Proofs.YtindlpkkapelhaaW.PrintMore Go.Proofs.Ytindlpkkapelhaa.Base
set_option linter.unusedVariables false
set_option linter.unusedSimpArgs false

/-! d_isSpan -/
def isSpan (a b : Int) : Bool := decide (0 ≤ a) && decide (b ≤ 1000) && decide (a < b)

/-! impl_IsSpan -/
theorem impl_IsSpan.val (a b : Int) : impl_IsSpan.f a b = some (isSpan a b) := by
  unfold impl_IsSpan.f isSpan
  by_cases h : a ≥ 0
  · rw [if_pos h]
    by_cases h2 : b ≤ 1000
    · rw [if_pos h2]; simp [h, h2]
    · rw [if_neg h2]; simp; omega
  · rw [if_neg h]; simp; omega

/-! d_inSpan -/
def inSpan (a b t : Int) : Bool := isSpan a b && decide (a ≤ t) && decide (t < b)

/-! impl_InSpan -/
theorem impl_InSpan.val (a b t : Int) : impl_InSpan.f a b t = some (inSpan a b t) := by
  unfold impl_InSpan.f inSpan
  rw [impl_IsSpan.val, Option.bind_some]
  by_cases h : isSpan a b = true
  · rw [if_pos h]
    by_cases h2 : a ≤ t
    · rw [if_pos h2]; simp [h, h2]
    · rw [if_neg h2]; simp; omega
  · rw [if_neg h]; simp [h]

/-! d_downB -/
def downB (a t : Int) (x : S116) : Bool := (x.f0 == a) && (x.f1 == -1) && inSpan x.f2 x.f3 t

/-! impl_IsDown -/
theorem impl_IsDown.ev (l : List S116) (a t : Int) (hl : l.length ≤ 1048576) : Ev (fun k => impl_IsDown.f k l a t) (l.any (downB a t)) := by
  have h := find_list (g := fun k i => impl_IsDown.l0 k a t l l.length i) (q := downB a t) (r := true) (e := false) l z116
    (Ev.one fun k => by simp only [impl_IsDown.l0]; rw [if_neg (by omega)])
    (fun i k hi => by
      simp only [impl_IsDown.l0, impl_InSpan.val, Option.bind_some]
      rw [if_pos (by omega), if_pos (by omega), if_pos (by omega), wrap_nat (by omega)]
      show (if (l.getD i z116).f0 = a then (if (l.getD i z116).f1 = -1 then (if inSpan (l.getD i z116).f2 (l.getD i z116).f3 t = true then _ else _) else _) else _) = _
      generalize l.getD i z116 = y
      unfold downB
      by_cases h1 : y.f0 = a <;> by_cases h2 : y.f1 = -1 <;> by_cases h3 : inSpan y.f2 y.f3 t = true <;> simp [h1, h2, h3])
  rw [ite_bool] at h
  exact h

/-! impl_InRange -/
theorem impl_InRange.val (a lo hi : Int) : impl_InRange.f a lo hi = some (inR a lo hi) := by
  unfold impl_InRange.f inR
  by_cases h : lo ≤ a
  · rw [if_pos h]; simp [h]
  · rw [if_neg h]; simp; omega

/-! impl_isNumber -/
theorem impl_isNumber.val (a : Int) : impl_isNumber.f a = some (inR a 1 12) := by
  unfold impl_isNumber.f
  rw [impl_InRange.val]; rfl

/-! d_countDown -/
def countDown (l : List S116) (t n : Int) : Int := if inR n 1 12 = true then countP (fun i => l.any (downB ((i : Nat) : Int) t)) n.toNat else 0

/-! impl_CountDown -/
theorem impl_CountDown.ev (l : List S116) (t n : Int) (hl : l.length ≤ 1048576) : Ev (fun k => impl_CountDown.f k l t n) (countDown l t n) := by
  unfold countDown
  refine Ev.congr (fun k => by unfold impl_CountDown.f; rw [impl_isNumber.val, Option.bind_some]) ?_
  by_cases hn : inR n 1 12 = true
  · rw [if_pos hn]
    refine Ev.congr (fun k => by rw [if_pos hn]) ?_
    have hb : 1 ≤ n ∧ n ≤ 12 := by simpa [inR] using hn
    have h := foldE_index (g := fun k s i => impl_CountDown.l0 k l t s n i) (f := fun i s => if l.any (downB ((i : Nat) : Int) t) = true then wrap64 (s + 1) else s) (fin := fun s => s) (fun _ _ => True) n.toNat 0 trivial
      (fun s _ => Ev.one fun k => by simp only [impl_CountDown.l0]; rw [if_neg (by omega)])
      (fun i s hi _ => ⟨trivial, fun x hx => by
        refine Ev.step (fun k => by simp only [impl_CountDown.l0]; rw [if_pos (by omega), wrap_nat (by omega)]) (Ev.bind (impl_IsDown.ev l _ t hl) ?_)
        by_cases h1 : l.any (downB ((i : Nat) : Int) t) = true
        · rw [if_pos h1] at hx
          exact Ev.congr (fun k => by rw [if_pos h1]) hx
        · rw [if_neg h1] at hx
          exact Ev.congr (fun k => by rw [if_neg h1]) hx⟩)
    rw [count_countP _ _ (by omega)] at h
    exact h
  · rw [if_neg hn]
    exact Ev.all fun k => by rw [if_neg hn]

/-! d_isCut -/
def cutB (a b t : Int) (x : S116) : Bool := ((x.f0 == a) && (x.f1 == b) || (x.f0 == b) && (x.f1 == a)) && inSpan x.f2 x.f3 t
def isCut (l : List S116) (a b t : Int) : Bool := l.any (cutB a b t) || l.any (downB a t) || l.any (downB b t)
theorem cut_ite {α : Type} (x : S116) (a b t : Int) (p q : α) :
    (if x.f0 = a then (if x.f1 = b then (if inSpan x.f2 x.f3 t = true then p else q) else (if x.f0 = b then (if x.f1 = a then (if inSpan x.f2 x.f3 t = true then p else q) else q) else q)) else (if x.f0 = b then (if x.f1 = a then (if inSpan x.f2 x.f3 t = true then p else q) else q) else q)) = if cutB a b t x = true then p else q := by
  unfold cutB
  by_cases h1 : x.f0 = a <;> by_cases h2 : x.f1 = b <;> by_cases h4 : x.f0 = b <;> by_cases h5 : x.f1 = a <;> by_cases h3 : inSpan x.f2 x.f3 t = true <;> simp [h1, h2, h3, h4, h5]
  all_goals (intro u v; exact absurd u v)

/-! impl_IsCut -/
theorem impl_IsCut.ev (l : List S116) (a b t : Int) (hl : l.length ≤ 1048576) : Ev (fun k => impl_IsCut.f k l a b t) (isCut l a b t) := by
  have hend : Ev (fun k => impl_IsCut.l0 k l a b t l l.length l.length) (l.any (downB a t) || l.any (downB b t)) := by
    refine Ev.step (f := fun k => (impl_IsDown.f k l a t).bind fun x => (if x = true then (some true) else ((impl_IsDown.f k l b t).bind fun y => (some y)))) (fun k => by simp only [impl_IsCut.l0]; rw [if_neg (by omega)]) ?_
    refine Ev.bind (impl_IsDown.ev l a t hl) ?_
    by_cases h : l.any (downB a t) = true
    · exact Ev.all fun k => by rw [if_pos h, h, Bool.true_or]
    · have h' : l.any (downB a t) = false := by simpa using h
      refine Ev.congr (fun k => by rw [if_neg h]) ?_
      rw [h', Bool.false_or]
      exact Ev.bind (impl_IsDown.ev l b t hl) (Ev.now _)
  have h := find_list (g := fun k i => impl_IsCut.l0 k l a b t l l.length i) (q := cutB a b t) (r := true) l z116 hend
    (fun i k hi => by
      simp only [impl_IsCut.l0, impl_InSpan.val, Option.bind_some]
      rw [if_pos (by omega), if_pos (by omega), if_pos (by omega), wrap_nat (by omega)]
      exact cut_ite (l.getD i z116) a b t _ _)
  unfold isCut
  rw [Bool.or_assoc]
  by_cases hc : l.any (cutB a b t) = true
  · rw [if_pos hc] at h
    rw [hc, Bool.true_or]
    exact h
  · rw [if_neg hc] at h
    have hc' : l.any (cutB a b t) = false := by simpa using hc
    rw [hc', Bool.false_or]
    exact h

/-! d_deadFor -/
def deadP (l : List S116) (a t : Int) (i : Nat) : Bool := !decide (((i : Nat) : Int) = a) && isCut l a ((i : Nat) : Int) t
def deadFor (l : List S116) (a t n : Int) : List Int := if inR n 1 12 = true then places (deadP l a t) n.toNat else []
theorem deadFor_len (l : List S116) (a t n : Int) : (deadFor l a t n).length ≤ 12 := by
  unfold deadFor
  split
  · rename_i hn
    have hb : 1 ≤ n ∧ n ≤ 12 := by simpa [inR] using hn
    have := places_length (deadP l a t) n.toNat
    omega
  · simp

/-! impl_DeadFor -/
theorem impl_DeadFor.ev (l : List S116) (a t n : Int) (hl : l.length ≤ 1048576) : Ev (fun k => impl_DeadFor.f k l a t n) (deadFor l a t n) := by
  unfold deadFor
  refine Ev.congr (fun k => by unfold impl_DeadFor.f; rw [impl_isNumber.val, Option.bind_some, Option.bind_some]) ?_
  by_cases hn : inR n 1 12 = true
  · rw [if_pos hn]
    refine Ev.congr (fun k => by rw [if_pos hn]) ?_
    have hb : 1 ≤ n ∧ n ≤ 12 := by simpa [inR] using hn
    have h := foldE_index (g := fun k s i => impl_DeadFor.l0 k l a t s n i) (f := fun i s => if deadP l a t i = true then s ++ [((i : Nat) : Int)] else s) (fin := fun s => s) (fun i s => s.length ≤ i) n.toNat [] (by simp)
      (fun s _ => Ev.one fun k => by simp only [impl_DeadFor.l0]; rw [if_neg (by omega)])
      (fun i s hi hI => ⟨ite_snoc_len s _ hI, fun x hx => by
        unfold deadP at hx
        by_cases h0 : ((i : Nat) : Int) = a
        · rw [if_neg (by simp [h0])] at hx
          exact Ev.step (fun k => by simp only [impl_DeadFor.l0]; rw [if_pos (by omega), if_pos h0, wrap_nat (by omega)]) hx
        · refine Ev.step (fun k => by simp only [impl_DeadFor.l0]; rw [if_pos (by omega), if_neg h0, wrap_nat (by omega), if_pos (show s.length < 17592186044416 by omega)]) (Ev.bind (impl_IsCut.ev l a _ t hl) ?_)
          by_cases h1 : isCut l a ((i : Nat) : Int) t = true
          · rw [if_pos (by simp [h0, h1])] at hx
            exact Ev.congr (fun k => by rw [if_pos h1]) hx
          · rw [if_neg (by simp [h0, h1])] at hx
            exact Ev.congr (fun k => by rw [if_neg h1]) hx⟩)
    rw [collect_places] at h
    exact h
  · rw [if_neg hn]
    exact Ev.all fun k => by rw [if_neg hn]

/-! laws_big -/
theorem laws_big.val (l : List Int) : laws_big.f l = some (decide ((l.length : Int) > 1048576)) := rfl

/-! d_cur -/
def Cur (p : Int) : Prop := 0 ≤ p ∧ p ≤ 1048576
theorem tmod_in {v n : Int} (hv : 0 ≤ v) (hn : 0 < n) : 0 ≤ Int.tmod v n ∧ Int.tmod v n < n := ⟨Int.tmod_nonneg n hv, Int.tmod_lt_of_pos v hn⟩

/-! spec_l1New -/
theorem spec_l1New.ev_l (l : List Int) (hl : l.length ≤ 1048576) : ∀ (d i : Nat), i + d = l.length → ∀ q, ∃ q', Ev (fun k => spec_l1New.l0 k l q i) (l, 0, q') := by
  intro d
  induction d with
  | zero =>
    intro i hi q
    exact ⟨q, Ev.one fun k => by simp only [spec_l1New.l0]; rw [if_neg (by omega)]⟩
  | succ d ih =>
    intro i hi q
    by_cases h : (i : Int) < 4000
    · obtain ⟨q', h'⟩ := ih (i + 1) (by omega) _
      exact ⟨q', Ev.step (fun k => by simp only [spec_l1New.l0]; rw [if_pos (by omega), if_pos h, if_pos (by omega), wrap_nat (by omega)]) h'⟩
    · exact ⟨q, Ev.one fun k => by simp only [spec_l1New.l0]; rw [if_pos (by omega), if_neg h]⟩
theorem spec_l1New.ev (l : List Int) (hl : l.length ≤ 1048576) : ∃ q', Ev (fun k => spec_l1New.f k l) (l, 0, q') :=
  spec_l1New.ev_l l hl l.length 0 (by omega) _

/-! spec_l1Byte -/
theorem spec_l1Byte.ok (l : List Int) (hl : l.length ≤ 1048576) (p q : Int) (hp : Cur p) : ∃ v p' q', spec_l1Byte.f l p q = some (v, p', q') ∧ 0 ≤ v ∧ v ≤ 255 ∧ Cur p' := by
  obtain ⟨h0, h1⟩ := hp
  unfold spec_l1Byte.f
  by_cases h : p < (l.length : Int)
  · rw [if_pos h, if_pos h0]
    refine ⟨_, _, _, rfl, (and255 _).1, (and255 _).2, ?_⟩
    rw [wrap_id (by omega) (by omega)]
    exact ⟨by omega, by omega⟩
  · rw [if_neg h]
    exact ⟨_, _, _, rfl, (and255 _).1, (and255 _).2, h0, h1⟩

/-! spec_l1Below -/
theorem spec_l1Below.ok (l : List Int) (hl : l.length ≤ 1048576) (p q n : Int) (hp : Cur p) : ∃ v p' q', spec_l1Below.f l p q n = some (v, p', q') ∧ 0 ≤ v ∧ (0 < n → v < n) ∧ Cur p' := by
  unfold spec_l1Below.f
  by_cases h : n ≤ 0
  · rw [if_pos h]
    exact ⟨_, _, _, rfl, by omega, by omega, hp⟩
  · rw [if_neg h]
    obtain ⟨v, p1, q1, e, h0, h1, hp1⟩ := spec_l1Byte.ok l hl p q hp
    by_cases h2 : n ≤ 256
    · rw [if_pos h2, e, Option.bind_some, if_neg (by omega)]
      have := tmod_in h0 (show 0 < n by omega)
      exact ⟨_, _, _, rfl, this.1, fun _ => this.2, hp1⟩
    · obtain ⟨v2, p2, q2, e2, h02, h12, hp2⟩ := spec_l1Byte.ok l hl p1 q1 hp1
      obtain ⟨v3, p3, q3, e3, h03, h13, hp3⟩ := spec_l1Byte.ok l hl p2 q2 hp2
      rw [if_neg h2, e, Option.bind_some, e2, Option.bind_some, e3, Option.bind_some, if_neg (by omega)]
      have hw : 0 ≤ wrap64 (wrap64 (wrap64 (v * 65536) + wrap64 (v2 * 256)) + v3) := by unfold wrap64; omega
      have := tmod_in hw (show 0 < n by omega)
      exact ⟨_, _, _, rfl, this.1, fun _ => this.2, hp3⟩

/-! spec_l1Int -/
theorem spec_l1Int.ok (l : List Int) (hl : l.length ≤ 1048576) (p q : Int) (xs : List Int) (hx : 0 < xs.length) (hp : Cur p) : ∃ (i : Nat) (p' q' : Int), spec_l1Int.f l p q xs = some (xs.getD i 0, p', q') ∧ i < xs.length ∧ Cur p' := by
  unfold spec_l1Int.f
  obtain ⟨v, p1, q1, e, h0, h1, hp1⟩ := spec_l1Below.ok l hl p q xs.length hp
  have hv := h1 (by omega)
  rw [e, Option.bind_some, if_pos h0, if_pos hv]
  exact ⟨v.toNat, _, _, rfl, by omega, hp1⟩

/-! spec_l1Once -/
theorem spec_l1Once.ok (l : List Int) (hl : l.length ≤ 1048576) (p q n : Int) (hp : Cur p) : ∃ b p' q', spec_l1Once.f l p q n = some (b, p', q') ∧ Cur p' := by
  unfold spec_l1Once.f
  obtain ⟨v, p1, q1, e, h0, h1, hp1⟩ := spec_l1Below.ok l hl p q n hp
  rw [e]
  exact ⟨_, _, _, rfl, hp1⟩

/-! spec_l31Fault -/
theorem spec_l31Fault.ok (l : List Int) (hl : l.length ≤ 1048576) (p q n : Int) (hn : n ≠ 0) (hp : Cur p) : ∃ a b c d p' q', spec_l31Fault.f l p q n = some (a, b, c, d, p', q') ∧ Cur p' := by
  unfold spec_l31Fault.f
  obtain ⟨v1, p1, q1, e1, _, _, hp⟩ := spec_l1Below.ok l hl p q n hp
  obtain ⟨v2, p2, q2, e2, _, _, hp⟩ := spec_l1Below.ok l hl p1 q1 20 hp
  obtain ⟨v3, p3, q3, e3, _, _, hp⟩ := spec_l1Below.ok l hl p2 q2 8 hp
  obtain ⟨b, p4, q4, e4, hp⟩ := spec_l1Once.ok l hl p3 q3 2 hp
  rw [e1, Option.bind_some, e2, Option.bind_some, e3, Option.bind_some, e4, Option.bind_some]
  by_cases h : b = true
  · obtain ⟨v5, p5, q5, e5, _, _, hp⟩ := spec_l1Below.ok l hl p4 q4 (wrap64 (n - 1)) hp
    rw [if_pos h, e5, Option.bind_some, if_neg hn]
    exact ⟨_, _, _, _, _, _, rfl, hp⟩
  · rw [if_neg h]
    exact ⟨_, _, _, _, _, _, rfl, hp⟩

/-! spec_l4Raw -/
theorem spec_l4Raw.ok (l : List Int) (hl : l.length ≤ 1048576) (p q : Int) (hp : Cur p) : ∃ a p' q', spec_l4Raw.f l p q = some (a, p', q') ∧ Cur p' := by
  unfold spec_l4Raw.f
  obtain ⟨b, p1, q1, e1, hp⟩ := spec_l1Once.ok l hl p q 6 hp
  rw [e1, Option.bind_some]
  by_cases h : b = true
  · obtain ⟨v2, p2, q2, e2, _, hp⟩ := spec_l1Int.ok l hl p1 q1 [(-1), 0, 1000, 1001, 9223372036854775807, (-9223372036854775808)] (by decide) hp
    rw [if_pos h, e2]
    exact ⟨_, _, _, rfl, hp⟩
  · obtain ⟨v2, p2, q2, e2, _, _, hp⟩ := spec_l1Below.ok l hl p1 q1 40 hp
    rw [if_neg h, e2]
    exact ⟨_, _, _, rfl, hp⟩

/-! spec_l31Any -/
theorem spec_l31Any.ok (l : List Int) (hl : l.length ≤ 1048576) (p q : Int) (hp : Cur p) : ∃ a b c d p' q', spec_l31Any.f l p q = some (a, b, c, d, p', q') ∧ Cur p' := by
  unfold spec_l31Any.f
  obtain ⟨a, b, c, d, p1, q1, e1, hp⟩ := spec_l31Fault.ok l hl p q 5 (by decide) hp
  obtain ⟨v2, p2, q2, e2, _, _, hp⟩ := spec_l1Below.ok l hl p1 q1 9 hp
  rw [e1, Option.bind_some, e2, Option.bind_some]
  by_cases h0 : v2 = 0
  · obtain ⟨v3, p3, q3, e3, _, hp⟩ := spec_l1Int.ok l hl p2 q2 [(-1), 5, 9223372036854775807] (by decide) hp
    rw [if_pos h0, e3]
    exact ⟨_, _, _, _, _, _, rfl, hp⟩
  · rw [if_neg h0]
    by_cases h1 : v2 = 1
    · obtain ⟨v3, p3, q3, e3, _, hp⟩ := spec_l1Int.ok l hl p2 q2 [(-2), 5, a] (by simp) hp
      rw [if_pos h1, e3]
      exact ⟨_, _, _, _, _, _, rfl, hp⟩
    · rw [if_neg h1]
      by_cases h2 : v2 = 2
      · obtain ⟨v3, p3, q3, e3, hp⟩ := spec_l4Raw.ok l hl p2 q2 hp
        rw [if_pos h2, e3]
        exact ⟨_, _, _, _, _, _, rfl, hp⟩
      · rw [if_neg h2]
        exact ⟨_, _, _, _, _, _, rfl, hp⟩

/-! spec_l31List -/
theorem spec_l31List.ev_l (l : List Int) (hl : l.length ≤ 1048576) : ∀ (n : Nat) (xs : List S116) (p q : Int), xs.length + n ≤ 4 → Cur p → ∃ L p' q', Ev (fun k => spec_l31List.l0 k xs n l p q) (L, p', q') ∧ L.length ≤ 4 ∧ Cur p' := by
  intro n
  induction n with
  | zero =>
    intro xs p q hx hp
    exact ⟨xs, p, q, Ev.one fun k => by simp only [spec_l31List.l0]; rw [if_neg (by omega)], by omega, hp⟩
  | succ n ih =>
    intro xs p q hx hp
    obtain ⟨a, b, c, d, p1, q1, e, hp1⟩ := spec_l31Any.ok l hl p q hp
    obtain ⟨L, p2, q2, h, h2, h3⟩ := ih (xs ++ [⟨a, b, c, d⟩]) p1 q1 (by rw [List.length_append, List.length_singleton]; omega) hp1
    refine ⟨L, p2, q2, Ev.step (fun k => ?_) h, h2, h3⟩
    simp only [spec_l31List.l0]
    rw [if_pos (by omega), e, Option.bind_some, if_pos (by omega), wrap_pred (by omega) (by omega)]
    rfl
theorem spec_l31List.ev (l : List Int) (hl : l.length ≤ 1048576) (p q : Int) (hp : Cur p) : ∃ L p' q', Ev (fun k => spec_l31List.f k l p q) (L, p', q') ∧ L.length ≤ 4 ∧ Cur p' := by
  obtain ⟨v, p1, q1, e, h0, h1, hp1⟩ := spec_l1Below.ok l hl p q 5 hp
  have hv := h1 (by omega)
  obtain ⟨L, p2, q2, h, h2, h3⟩ := spec_l31List.ev_l l hl v.toNat [] p1 q1 (by simp; omega) hp1
  refine ⟨L, p2, q2, Ev.congr (fun k => ?_) h, h2, h3⟩
  unfold spec_l31List.f
  rw [e, Option.bind_some, show ((v.toNat : Nat) : Int) = v by omega]

/-! spec_DrawIsDown -/
theorem spec_DrawIsDown.ev (l : List Int) (hl : l.length ≤ 1048576) : ∃ L a t, Ev (fun k => spec_DrawIsDown.f k l) (L, a, t) ∧ L.length ≤ 4 ∧ 0 ≤ a ∧ a < 6 ∧ 0 ≤ t ∧ t < 30 := by
  obtain ⟨q, e⟩ := spec_l1New.ev l hl
  obtain ⟨L, p1, q1, e1, hL, hp⟩ := spec_l31List.ev l hl 0 q ⟨by omega, by omega⟩
  obtain ⟨v2, p2, q2, e2, h2, h2', hp⟩ := spec_l1Below.ok l hl p1 q1 6 hp
  obtain ⟨v3, p3, q3, e3, h3, h3', hp⟩ := spec_l1Below.ok l hl p2 q2 30 hp
  refine ⟨L, v2, v3, ?_, hL, h2, h2' (by omega), h3, h3' (by omega)⟩
  refine Ev.congr (fun k => by unfold spec_DrawIsDown.f; rfl) (Ev.bind e (Ev.bind e1 (Ev.all fun k => ?_)))
  rw [e2, Option.bind_some, e3, Option.bind_some]

/-! spec_DrawIsCut -/
theorem spec_DrawIsCut.ev (l : List Int) (hl : l.length ≤ 1048576) : ∃ L a b t, Ev (fun k => spec_DrawIsCut.f k l) (L, a, b, t) ∧ L.length ≤ 4 ∧ 0 ≤ a ∧ a < 6 ∧ 0 ≤ b ∧ b < 6 ∧ 0 ≤ t ∧ t < 30 := by
  obtain ⟨L, a, t, h, hL, ha, ha', ht, ht'⟩ := spec_DrawIsDown.ev l hl
  obtain ⟨q, e⟩ := spec_l1New.ev l hl
  obtain ⟨v2, p2, q2, e2, h2, h2', hp⟩ := spec_l1Below.ok l hl 0 q 6 ⟨by omega, by omega⟩
  refine ⟨L, a, v2, t, ?_, hL, ha, ha', h2, h2' (by omega), ht, ht'⟩
  refine Ev.congr (fun k => by unfold spec_DrawIsCut.f; rfl) (Ev.bind h (Ev.bind e (Ev.all fun k => ?_)))
  rw [e2, Option.bind_some]

/-! spec_IsSpan -/
theorem spec_IsSpan.val (a b : Int) : spec_IsSpan.f a b = some (isSpan a b) := by
  unfold spec_IsSpan.f isSpan
  by_cases h : a ≥ 0
  · rw [if_pos h]
    by_cases h2 : b ≤ 1000
    · rw [if_pos h2]; simp [h, h2]
    · rw [if_neg h2]; simp; omega
  · rw [if_neg h]; simp; omega

/-! spec_InSpan -/
theorem spec_InSpan.val (a b t : Int) : spec_InSpan.f a b t = some (inSpan a b t) := by
  unfold spec_InSpan.f inSpan
  rw [spec_IsSpan.val, Option.bind_some]
  by_cases h : isSpan a b = true
  · rw [if_pos h]
    by_cases h2 : a ≤ t
    · rw [if_pos h2]; simp [h, h2]
    · rw [if_neg h2]; simp; omega
  · rw [if_neg h]; simp [h]

/-! spec_l31Now -/
theorem spec_l31Now.val (a b c d t : Int) : spec_l31Now.f a b c d t = some (inSpan c d t) := by
  unfold spec_l31Now.f
  rw [spec_InSpan.val]; rfl

/-! spec_IsDown -/
theorem spec_IsDown.ev (l : List S116) (a t : Int) (hl : l.length ≤ 1048576) : Ev (fun k => spec_IsDown.f k l a t) (l.any (downB a t)) := by
  have h := find_list (g := fun k i => spec_IsDown.l0 k l a t i) (q := downB a t) (r := true) (e := false) l z116
    (Ev.one fun k => by simp only [spec_IsDown.l0]; rw [if_neg (by omega)])
    (fun i k hi => by
      simp only [spec_IsDown.l0, spec_l31Now.val, Option.bind_some]
      rw [if_pos (by omega), if_pos (by omega), wrap_nat (by omega)]
      show (if (l.getD i z116).f0 = a then (if (l.getD i z116).f1 = -1 then (if inSpan (l.getD i z116).f2 (l.getD i z116).f3 t = true then _ else _) else _) else _) = _
      generalize l.getD i z116 = y
      unfold downB
      by_cases h1 : y.f0 = a <;> by_cases h2 : y.f1 = -1 <;> by_cases h3 : inSpan y.f2 y.f3 t = true <;> simp [h1, h2, h3])
  rw [ite_bool] at h
  exact h

/-! spec_IsCut -/
theorem spec_IsCut.ev (l : List S116) (a b t : Int) (hl : l.length ≤ 1048576) : Ev (fun k => spec_IsCut.f k l a b t) (isCut l a b t) := by
  have hend : Ev (fun k => spec_IsCut.l0 k l a b t l.length) (l.any (downB a t) || l.any (downB b t)) := by
    refine Ev.step (f := fun k => (spec_IsDown.f k l a t).bind fun x => (if x = true then (some true) else ((spec_IsDown.f k l b t).bind fun y => (some y)))) (fun k => by simp only [spec_IsCut.l0]; rw [if_neg (by omega)]) ?_
    refine Ev.bind (spec_IsDown.ev l a t hl) ?_
    by_cases h : l.any (downB a t) = true
    · exact Ev.all fun k => by rw [if_pos h, h, Bool.true_or]
    · have h' : l.any (downB a t) = false := by simpa using h
      refine Ev.congr (fun k => by rw [if_neg h]) ?_
      rw [h', Bool.false_or]
      exact Ev.bind (spec_IsDown.ev l b t hl) (Ev.now _)
  have h := find_list (g := fun k i => spec_IsCut.l0 k l a b t i) (q := cutB a b t) (r := true) l z116 hend
    (fun i k hi => by
      simp only [spec_IsCut.l0, spec_l31Now.val, Option.bind_some]
      rw [if_pos (by omega), if_pos (by omega), wrap_nat (by omega)]
      exact cut_ite (l.getD i z116) a b t _ _)
  unfold isCut
  rw [Bool.or_assoc]
  by_cases hc : l.any (cutB a b t) = true
  · rw [if_pos hc] at h
    rw [hc, Bool.true_or]
    exact h
  · rw [if_neg hc] at h
    have hc' : l.any (cutB a b t) = false := by simpa using hc
    rw [hc', Bool.false_or]
    exact h

/-! d_lastF -/
def lastF (m : Int) (x : S116) : Int := if isSpan x.f2 x.f3 = true then mx m x.f3 else m

/-! impl_LastFault -/
theorem impl_LastFault.ev (l : List S116) (hl : l.length ≤ 1048576) : Ev (fun k => impl_LastFault.f k l) (l.foldl lastF 0) :=
  fold_list (g := fun k s i => impl_LastFault.l0 k s l l.length i) (f := lastF) (fin := fun s => s) l z116 0
    (fun s => Ev.one fun k => by simp only [impl_LastFault.l0]; rw [if_neg (by omega)])
    (fun i s k hi => by
      simp only [impl_LastFault.l0, impl_IsSpan.val, Option.bind_some]
      rw [if_pos (by omega), if_pos (by omega), if_pos (by omega), wrap_nat (by omega)]
      show (if isSpan (l.getD i z116).f2 (l.getD i z116).f3 = true then impl_LastFault.l0 k (mx s (l.getD i z116).f3) _ _ _ else _) = _
      unfold lastF
      split <;> rfl)

/-! laws_contains -/
theorem laws_contains.ev (l : List Int) (a : Int) (hl : l.length ≤ 1048576) : Ev (fun k => laws_contains.f k l a) (hasB l a) := by
  have h := find_list (g := fun k i => laws_contains.l0 k l a i) (q := fun x => x == a) (r := true) (e := false) l 0
    (Ev.one fun k => by simp only [laws_contains.l0]; rw [if_neg (by omega)])
    (fun i k hi => by
      simp only [laws_contains.l0]
      rw [if_pos (by omega), if_pos (by omega), wrap_nat (by omega), rd_nat]
      by_cases h : l.getD i 0 = a
      · rw [if_pos h, if_pos (by simpa using h)]
      · rw [if_neg h, if_neg (by simpa using h)])
  rw [ite_bool] at h
  exact h

/-! @@ FnFaults -/
theorem isCut_comm (l : List S116) (a b t : Int) : isCut l a b t = isCut l b a t := by
  have h : cutB a b t = cutB b a t := by
    funext x
    unfold cutB
    rw [Bool.or_comm]
  unfold isCut
  rw [h, Bool.or_assoc, Bool.or_assoc, Bool.or_comm (l.any (downB a t))]
theorem last_ge : ∀ (l : List S116) (m : Int), m ≤ l.foldl lastF m ∧ ∀ x ∈ l, isSpan x.f2 x.f3 = true → x.f3 ≤ l.foldl lastF m
  | [], m => ⟨Int.le_refl m, fun _ h => by cases h⟩
  | y :: l, m => by
    obtain ⟨h1, h2⟩ := last_ge l (lastF m y)
    have h3 : m ≤ lastF m y ∧ (isSpan y.f2 y.f3 = true → y.f3 ≤ lastF m y) := by
      unfold lastF mx
      split
      · split <;> exact ⟨by omega, fun _ => by omega⟩
      · rename_i h; exact ⟨by omega, fun h' => absurd h' h⟩
    rw [List.foldl_cons]
    refine ⟨Int.le_trans h3.1 h1, fun x hx hs => ?_⟩
    cases hx with
    | head => exact Int.le_trans (h3.2 hs) h1
    | tail _ hx => exact h2 x hx hs
theorem not_inSpan (l : List S116) (x : S116) (hx : x ∈ l) : inSpan x.f2 x.f3 (l.foldl lastF 0) = false := by
  unfold inSpan
  by_cases h : isSpan x.f2 x.f3 = true
  · have := (last_ge l 0).2 x hx h
    rw [decide_eq_false (show ¬ l.foldl lastF 0 < x.f3 by omega), Bool.and_false]
  · have : isSpan x.f2 x.f3 = false := by simpa using h
    rw [this]; rfl
theorem not_down (l : List S116) (a : Int) : l.any (downB a (l.foldl lastF 0)) = false := by
  rw [List.any_eq_false]
  intro x hx
  unfold downB
  rw [not_inSpan l x hx]; simp
theorem not_cut (l : List S116) (a b : Int) : isCut l a b (l.foldl lastF 0) = false := by
  unfold isCut
  rw [not_down, not_down, Bool.or_false, Bool.or_false, List.any_eq_false]
  intro x hx
  unfold cutB
  rw [not_inSpan l x hx]; simp
theorem has_dead (l : List S116) (a t : Int) (i : Nat) (hi : i < 5) : hasB (deadFor l a t 5) i = deadP l a t i := by
  unfold deadFor
  rw [if_pos (by decide), Bool.eq_iff_iff, hasB_iff, mem_places]
  constructor
  · rintro ⟨j, h, hp, e⟩
    have : i = j := by omega
    rw [this]; exact hp
  · intro h
    exact ⟨i, by omega, h, rfl⟩
theorem loop5 (l : List S116) (a t : Int) (hl : l.length ≤ 1048576) : ∀ (d i : Nat), i + d = 5 → Ev (fun k => laws_FnFaults.l0 k l a t (l.foldl lastF 0) (deadFor l a t 5) i) true := by
  intro d
  induction d with
  | zero =>
    intro i hi
    refine Ev.step (fun k => by simp only [laws_FnFaults.l0]; rw [if_neg (by omega)]) (Ev.bind (impl_CountDown.ev l t 5 hl) ?_)
    have h5 : countDown l t 5 ≤ 5 := by
      unfold countDown
      rw [if_pos (by decide)]
      exact (countP_le _ _).2
    have h0 : countDown l (l.foldl lastF 0) 5 = 0 := by
      unfold countDown countP
      rw [if_pos (by decide)]
      have : (fun i : Nat => l.any (downB ((i : Nat) : Int) (l.foldl lastF 0))) = fun _ => false := by funext i; exact not_down l i
      rw [this]; simp
    refine Ev.congr (fun k => by rw [if_pos h5]) (Ev.bind (impl_CountDown.ev l (l.foldl lastF 0) 5 hl) ?_)
    rw [h0]
    exact Ev.all fun k => rfl
  | succ d ih =>
    intro i hi
    refine Ev.step (fun k => by simp only [laws_FnFaults.l0]; rw [if_pos (by omega)]) (Ev.bind (laws_contains.ev (deadFor l a t 5) i (by have := deadFor_len l a t 5; omega)) ?_)
    rw [has_dead l a t i (by omega)]
    unfold deadP
    by_cases h : ((i : Nat) : Int) = a
    · refine Ev.congr (fun k => by rw [if_pos h, decide_eq_true h, if_neg (by simp)]) (Ev.bind (impl_IsCut.ev l a i _ hl) ?_)
      refine Ev.congr (fun k => by rw [not_cut, if_neg (by simp), wrap_nat (by omega)]) (ih (i + 1) (by omega))
    · refine Ev.congr (fun k => by rw [if_neg h, decide_eq_false h]) (Ev.bind (impl_IsCut.ev l a i t hl) ?_)
      refine Ev.congr (fun k => by rw [if_neg (by simp)]) (Ev.bind (impl_IsCut.ev l a i _ hl) ?_)
      refine Ev.congr (fun k => by rw [not_cut, if_neg (by simp), wrap_nat (by omega)]) (ih (i + 1) (by omega))
theorem rest (l : List S116) (a t : Int) (hl : l.length ≤ 1048576) : Ev (fun k => laws_FnFaults.j0 k l a t false) true := by
  refine Ev.step (fun k => by simp only [laws_FnFaults.j0]; rw [if_neg (by simp)]) (Ev.bind (impl_LastFault.ev l hl) (Ev.bind (impl_DeadFor.ev l a t 5 hl) ?_))
  exact loop5 l a t hl 5 0 (by omega)
theorem proved : Stated := by
  intro l ⟨hl, hw⟩
  refine Ev.rounds ?_
  refine Ev.congr (fun k => by unfold laws_FnFaults.f; rw [laws_big.val, Option.bind_some]) ?_
  by_cases hb : (l.length : Int) > 1048576
  · exact Ev.all fun k => by rw [if_pos (by simpa using hb)]
  refine Ev.congr (fun k => by rw [if_neg (by simpa using hb)]) ?_
  obtain ⟨L, a, b, t, hd, hL, _⟩ := spec_DrawIsCut.ev l (by omega)
  have hL : L.length ≤ 1048576 := by omega
  refine Ev.bind hd (Ev.bind (impl_IsCut.ev L a b t hL) (Ev.bind (spec_IsCut.ev L a b t hL) ?_))
  refine Ev.congr (fun k => by rw [if_neg (by simp)]) (Ev.bind (impl_IsCut.ev L a b t hL) (Ev.bind (impl_IsCut.ev L b a t hL) ?_))
  refine Ev.congr (fun k => by rw [isCut_comm L b a, if_neg (by simp)]) (Ev.bind (impl_IsDown.ev L a t hL) ?_)
  by_cases h : L.any (downB a t) = true
  · refine Ev.congr (fun k => by rw [if_pos h]) (Ev.bind (impl_IsCut.ev L a b t hL) ?_)
    have : isCut L a b t = true := by unfold isCut; rw [h]; simp
    rw [this]
    exact rest L a t hL
  · exact Ev.congr (fun k => by rw [if_neg h]) (rest L a t hL)

end Go.Proofs.Ytindlpkkapelhaa.PureFnFaults
