/- FnExactDeadFor, over numbers and lists alone: what the program's function and the reference's answer is one. Conditions: the numbers are of their kinds. -/
import Derived.Test.YtindlpkkapelhaaKindsFnExactDeadFor
import Derived.Test.YtindlpkkapelhaaBase
namespace Go.Proofs.Ytindlpkkapelhaa.PureFnExactDeadFor
open Go.RowKit Go.Proofs.Ytindlpkkapelhaa.PFnExactDeadFor Go.Proofs.YtindlpkkapelhaaW.PrintWords Go.Proofs.YtindlpkkapelhaaW.PrintLast Go.Proofs.YtindlpkkapelhaaW.PrintMore Go.Proofs.Ytindlpkkapelhaa.Base
set_option linter.unusedVariables false
set_option linter.unusedSimpArgs false

/-! laws_eqIntS -/
theorem laws_eqIntS.ev_l (l : List Int) (hl : l.length ≤ 1048576) : ∀ (d i : Nat), i + d = l.length → Ev (fun k => laws_eqIntS.l0 k l l i) true := by
  intro d
  induction d with
  | zero => intro i hi; refine Ev.one fun k => ?_; simp only [laws_eqIntS.l0]; rw [if_neg (by omega)]
  | succ d ih =>
    intro i hi
    refine Ev.step (fun k => ?_) (ih (i + 1) (by omega))
    simp only [laws_eqIntS.l0]
    rw [if_pos (by omega), if_pos (by omega), if_pos (by omega), if_pos trivial, wrap_nat (by omega)]
theorem laws_eqIntS.ev (l : List Int) (hl : l.length ≤ 1048576) : Ev (fun k => laws_eqIntS.f k l l) true :=
  Ev.congr (fun k => by unfold laws_eqIntS.f; rw [if_pos rfl] <;> rfl) (laws_eqIntS.ev_l l hl l.length 0 (by omega))

/-! laws_szFaultS -/
theorem laws_szFaultS.val (l : List S118) (a : Int) (h0 : 0 ≤ a) (h1 : a ≤ 1048576) (hl : l.length ≤ maxLen) :
    ∃ t, laws_szFaultS.f l a = some t ∧ t ≤ a ∧ (0 ≤ t → t = a - l.length ∧ l.length ≤ 1048576) := by
  unfold maxLen at hl
  unfold laws_szFaultS.f
  rw [wrap_id (by omega) (by omega)]
  by_cases h : a - (l.length : Int) < 0
  · rw [if_pos h]; exact ⟨_, rfl, by omega, by omega⟩
  · rw [if_neg h]; exact ⟨_, rfl, by omega, by omega⟩

/-! laws_toFaultS -/
def cFault (x : S118) : S116 := ⟨x.f0, x.f1, x.f2, x.f3⟩
theorem laws_toFaultS.ev_l (l : List S118) (hl : l.length ≤ 1048576) : ∀ (d i : Nat) (o : List S116), i + d = l.length → o.length = l.length → o.take i = (l.map cFault).take i → Ev (fun k => laws_toFaultS.l0 k l o i) (l.map cFault) := by
  intro d
  induction d with
  | zero =>
    intro i o hi ho ht
    refine Ev.one fun k => ?_
    simp only [laws_toFaultS.l0]
    rw [if_neg (by omega), take_full (by simpa using ho) (by simp; omega) ht]
  | succ d ih =>
    intro i o hi ho ht
    refine Ev.step (fun k => ?_) (ih (i + 1) (o.set i (cFault (l.getD i z118))) (by omega) (by simp [ho]) (set_take o _ _ (by simpa using ho) (get_map cFault l z118 (by omega)) ht))
    simp only [laws_toFaultS.l0, laws_toFault.f, Option.bind_some]
    rw [if_pos (by omega), if_pos (by omega), if_pos (by omega), wrap_nat (by omega)]
    rfl
theorem laws_toFaultS.ev (l : List S118) (hl : l.length ≤ 1048576) : Ev (fun k => laws_toFaultS.f k l) (l.map cFault) :=
  Ev.congr (fun k => by unfold laws_toFaultS.f; rw [if_pos (by omega), if_pos (by omega)] <;> rfl) (laws_toFaultS.ev_l l hl l.length 0 _ (by omega) (by simp) (by simp))

/-! laws_eqFault -/
theorem laws_eqFault.val (x : S116) : laws_eqFault.f x.f0 x.f1 x.f2 x.f3 x.f0 x.f1 x.f2 x.f3 = some true := by
  unfold laws_eqFault.f
  simp

/-! laws_eqFaultS -/
theorem laws_eqFaultS.ev_l (l : List S116) (hl : l.length ≤ 1048576) : ∀ (d i : Nat), i + d = l.length → Ev (fun k => laws_eqFaultS.l0 k l l i) true := by
  intro d
  induction d with
  | zero => intro i hi; refine Ev.one fun k => ?_; simp only [laws_eqFaultS.l0]; rw [if_neg (by omega)]
  | succ d ih =>
    intro i hi
    refine Ev.step (fun k => ?_) (ih (i + 1) (by omega))
    simp only [laws_eqFaultS.l0, laws_eqFault.val, Option.bind_some]
    rw [if_pos (by omega), if_pos (by omega), if_pos (by omega), if_pos trivial, wrap_nat (by omega)]
theorem laws_eqFaultS.ev (l : List S116) (hl : l.length ≤ 1048576) : Ev (fun k => laws_eqFaultS.f k l l) true :=
  Ev.congr (fun k => by unfold laws_eqFaultS.f; rw [if_pos rfl] <;> rfl) (laws_eqFaultS.ev_l l hl l.length 0 (by omega))

/-! d_isSpan -/
def isSpan (a b : Int) : Bool := decide (0 ≤ a) && decide (b ≤ 1000) && decide (a < b)

/-! spec_IsSpan -/
theorem spec_IsSpan.val (a b : Int) : spec_IsSpan.f a b = some (isSpan a b) := by
  unfold spec_IsSpan.f isSpan
  by_cases h : a ≥ 0
  · rw [if_pos h]
    by_cases h2 : b ≤ 1000
    · rw [if_pos h2]; simp [h, h2]
    · rw [if_neg h2]; simp; omega
  · rw [if_neg h]; simp; omega

/-! d_inSpan -/
def inSpan (a b t : Int) : Bool := isSpan a b && decide (a ≤ t) && decide (t < b)

/-! spec_InSpan -/
theorem spec_InSpan.val (a b t : Int) : spec_InSpan.f a b t = some (inSpan a b t) := by
  unfold spec_InSpan.f inSpan
  rw [spec_IsSpan.val, Option.bind_some]
  by_cases h : isSpan a b = true
  · rw [if_pos h]
    by_cases h2 : a ≤ t
    · rw [if_pos h2]; simp [h, h2]
    · rw [if_neg h2]; simp; omega
  · rw [if_neg h]; simp [h]

/-! spec_l31Now -/
theorem spec_l31Now.val (a b c d t : Int) : spec_l31Now.f a b c d t = some (inSpan c d t) := by
  unfold spec_l31Now.f
  rw [spec_InSpan.val]; rfl

/-! d_downB -/
def downB (a t : Int) (x : S116) : Bool := (x.f0 == a) && (x.f1 == -1) && inSpan x.f2 x.f3 t

/-! spec_IsDown -/
theorem spec_IsDown.ev (l : List S116) (a t : Int) (hl : l.length ≤ 1048576) : Ev (fun k => spec_IsDown.f k l a t) (l.any (downB a t)) := by
  have h := find_list (g := fun k i => spec_IsDown.l0 k l a t i) (q := downB a t) (r := true) (e := false) l z116
    (Ev.one fun k => by simp only [spec_IsDown.l0]; rw [if_neg (by omega)])
    (fun i k hi => by
      simp only [spec_IsDown.l0, spec_l31Now.val, Option.bind_some]
      rw [if_pos (by omega), if_pos (by omega), wrap_nat (by omega)]
      show (if (l.getD i z116).f0 = a then (if (l.getD i z116).f1 = -1 then (if inSpan (l.getD i z116).f2 (l.getD i z116).f3 t = true then _ else _) else _) else _) = _
      generalize l.getD i z116 = y
      unfold downB
      by_cases h1 : y.f0 = a <;> by_cases h2 : y.f1 = -1 <;> by_cases h3 : inSpan y.f2 y.f3 t = true <;> simp [h1, h2, h3])
  rw [ite_bool] at h
  exact h

/-! d_isCut -/
def cutB (a b t : Int) (x : S116) : Bool := ((x.f0 == a) && (x.f1 == b) || (x.f0 == b) && (x.f1 == a)) && inSpan x.f2 x.f3 t
def isCut (l : List S116) (a b t : Int) : Bool := l.any (cutB a b t) || l.any (downB a t) || l.any (downB b t)
theorem cut_ite {α : Type} (x : S116) (a b t : Int) (p q : α) :
    (if x.f0 = a then (if x.f1 = b then (if inSpan x.f2 x.f3 t = true then p else q) else (if x.f0 = b then (if x.f1 = a then (if inSpan x.f2 x.f3 t = true then p else q) else q) else q)) else (if x.f0 = b then (if x.f1 = a then (if inSpan x.f2 x.f3 t = true then p else q) else q) else q)) = if cutB a b t x = true then p else q := by
  unfold cutB
  by_cases h1 : x.f0 = a <;> by_cases h2 : x.f1 = b <;> by_cases h4 : x.f0 = b <;> by_cases h5 : x.f1 = a <;> by_cases h3 : inSpan x.f2 x.f3 t = true <;> simp [h1, h2, h3, h4, h5]
  all_goals (intro u v; exact absurd u v)

/-! spec_IsCut -/
theorem spec_IsCut.ev (l : List S116) (a b t : Int) (hl : l.length ≤ 1048576) : Ev (fun k => spec_IsCut.f k l a b t) (isCut l a b t) := by
  have hend : Ev (fun k => spec_IsCut.l0 k l a b t l.length) (l.any (downB a t) || l.any (downB b t)) := by
    refine Ev.step (f := fun k => (spec_IsDown.f k l a t).bind fun x => (if x = true then (some true) else ((spec_IsDown.f k l b t).bind fun y => (some y)))) (fun k => by simp only [spec_IsCut.l0]; rw [if_neg (by omega)]) ?_
    refine Ev.bind (spec_IsDown.ev l a t hl) ?_
    by_cases h : l.any (downB a t) = true
    · exact Ev.all fun k => by rw [if_pos h, h, Bool.true_or]
    · have h' : l.any (downB a t) = false := by simpa using h
      refine Ev.congr (fun k => by rw [if_neg h]) ?_
      rw [h', Bool.false_or]
      exact Ev.bind (spec_IsDown.ev l b t hl) (Ev.now _)
  have h := find_list (g := fun k i => spec_IsCut.l0 k l a b t i) (q := cutB a b t) (r := true) l z116 hend
    (fun i k hi => by
      simp only [spec_IsCut.l0, spec_l31Now.val, Option.bind_some]
      rw [if_pos (by omega), if_pos (by omega), wrap_nat (by omega)]
      exact cut_ite (l.getD i z116) a b t _ _)
  unfold isCut
  rw [Bool.or_assoc]
  by_cases hc : l.any (cutB a b t) = true
  · rw [if_pos hc] at h
    rw [hc, Bool.true_or]
    exact h
  · rw [if_neg hc] at h
    have hc' : l.any (cutB a b t) = false := by simpa using hc
    rw [hc', Bool.false_or]
    exact h

/-! spec_l1In -/
theorem spec_l1In.val (a lo hi : Int) : spec_l1In.f a lo hi = some (inR a lo hi) := by
  unfold spec_l1In.f inR
  by_cases h : a ≥ lo
  · rw [if_pos h]; simp [h]
  · rw [if_neg h]; simp; omega

/-! d_deadFor -/
def deadP (l : List S116) (a t : Int) (i : Nat) : Bool := !decide (((i : Nat) : Int) = a) && isCut l a ((i : Nat) : Int) t
def deadFor (l : List S116) (a t n : Int) : List Int := if inR n 1 12 = true then places (deadP l a t) n.toNat else []
theorem deadFor_len (l : List S116) (a t n : Int) : (deadFor l a t n).length ≤ 12 := by
  unfold deadFor
  split
  · rename_i hn
    have hb : 1 ≤ n ∧ n ≤ 12 := by simpa [inR] using hn
    have := places_length (deadP l a t) n.toNat
    omega
  · simp

/-! spec_DeadFor -/
theorem spec_DeadFor.ev (l : List S116) (a t n : Int) (hl : l.length ≤ 1048576) : Ev (fun k => spec_DeadFor.f k l a t n) (deadFor l a t n) := by
  unfold deadFor
  refine Ev.congr (fun k => by unfold spec_DeadFor.f; rw [spec_l1In.val, Option.bind_some, Option.bind_some]) ?_
  by_cases hn : inR n 1 12 = true
  · rw [if_pos hn]
    refine Ev.congr (fun k => by rw [if_pos hn]) ?_
    have hb : 1 ≤ n ∧ n ≤ 12 := by simpa [inR] using hn
    have h := foldE_index (g := fun k s i => spec_DeadFor.l0 k l a t n s i) (f := fun i s => if deadP l a t i = true then s ++ [((i : Nat) : Int)] else s) (fin := fun s => s) (fun i s => s.length ≤ i) n.toNat [] (by simp)
      (fun s _ => Ev.one fun k => by simp only [spec_DeadFor.l0]; rw [if_neg (by omega)])
      (fun i s hi hI => ⟨ite_snoc_len s _ hI, fun x hx => by
        unfold deadP at hx
        by_cases h0 : ((i : Nat) : Int) = a
        · rw [if_neg (by simp [h0])] at hx
          exact Ev.step (fun k => by simp only [spec_DeadFor.l0]; rw [if_pos (by omega), if_pos h0, wrap_nat (by omega)]) hx
        · refine Ev.step (fun k => by simp only [spec_DeadFor.l0]; rw [if_pos (by omega), if_neg h0, wrap_nat (by omega), if_pos (show s.length < 17592186044416 by omega)]) (Ev.bind (spec_IsCut.ev l a _ t hl) ?_)
          by_cases h1 : isCut l a ((i : Nat) : Int) t = true
          · rw [if_pos (by simp [h0, h1])] at hx
            exact Ev.congr (fun k => by rw [if_pos h1]) hx
          · rw [if_neg (by simp [h0, h1])] at hx
            exact Ev.congr (fun k => by rw [if_neg h1]) hx⟩)
    rw [collect_places] at h
    exact h
  · rw [if_neg hn]
    exact Ev.all fun k => by rw [if_neg hn]

/-! impl_IsSpan -/
theorem impl_IsSpan.val (a b : Int) : impl_IsSpan.f a b = some (isSpan a b) := by
  unfold impl_IsSpan.f isSpan
  by_cases h : a ≥ 0
  · rw [if_pos h]
    by_cases h2 : b ≤ 1000
    · rw [if_pos h2]; simp [h, h2]
    · rw [if_neg h2]; simp; omega
  · rw [if_neg h]; simp; omega

/-! impl_InSpan -/
theorem impl_InSpan.val (a b t : Int) : impl_InSpan.f a b t = some (inSpan a b t) := by
  unfold impl_InSpan.f inSpan
  rw [impl_IsSpan.val, Option.bind_some]
  by_cases h : isSpan a b = true
  · rw [if_pos h]
    by_cases h2 : a ≤ t
    · rw [if_pos h2]; simp [h, h2]
    · rw [if_neg h2]; simp; omega
  · rw [if_neg h]; simp [h]

/-! impl_IsDown -/
theorem impl_IsDown.ev (l : List S116) (a t : Int) (hl : l.length ≤ 1048576) : Ev (fun k => impl_IsDown.f k l a t) (l.any (downB a t)) := by
  have h := find_list (g := fun k i => impl_IsDown.l0 k a t l l.length i) (q := downB a t) (r := true) (e := false) l z116
    (Ev.one fun k => by simp only [impl_IsDown.l0]; rw [if_neg (by omega)])
    (fun i k hi => by
      simp only [impl_IsDown.l0, impl_InSpan.val, Option.bind_some]
      rw [if_pos (by omega), if_pos (by omega), if_pos (by omega), wrap_nat (by omega)]
      show (if (l.getD i z116).f0 = a then (if (l.getD i z116).f1 = -1 then (if inSpan (l.getD i z116).f2 (l.getD i z116).f3 t = true then _ else _) else _) else _) = _
      generalize l.getD i z116 = y
      unfold downB
      by_cases h1 : y.f0 = a <;> by_cases h2 : y.f1 = -1 <;> by_cases h3 : inSpan y.f2 y.f3 t = true <;> simp [h1, h2, h3])
  rw [ite_bool] at h
  exact h

/-! impl_IsCut -/
theorem impl_IsCut.ev (l : List S116) (a b t : Int) (hl : l.length ≤ 1048576) : Ev (fun k => impl_IsCut.f k l a b t) (isCut l a b t) := by
  have hend : Ev (fun k => impl_IsCut.l0 k l a b t l l.length l.length) (l.any (downB a t) || l.any (downB b t)) := by
    refine Ev.step (f := fun k => (impl_IsDown.f k l a t).bind fun x => (if x = true then (some true) else ((impl_IsDown.f k l b t).bind fun y => (some y)))) (fun k => by simp only [impl_IsCut.l0]; rw [if_neg (by omega)]) ?_
    refine Ev.bind (impl_IsDown.ev l a t hl) ?_
    by_cases h : l.any (downB a t) = true
    · exact Ev.all fun k => by rw [if_pos h, h, Bool.true_or]
    · have h' : l.any (downB a t) = false := by simpa using h
      refine Ev.congr (fun k => by rw [if_neg h]) ?_
      rw [h', Bool.false_or]
      exact Ev.bind (impl_IsDown.ev l b t hl) (Ev.now _)
  have h := find_list (g := fun k i => impl_IsCut.l0 k l a b t l l.length i) (q := cutB a b t) (r := true) l z116 hend
    (fun i k hi => by
      simp only [impl_IsCut.l0, impl_InSpan.val, Option.bind_some]
      rw [if_pos (by omega), if_pos (by omega), if_pos (by omega), wrap_nat (by omega)]
      exact cut_ite (l.getD i z116) a b t _ _)
  unfold isCut
  rw [Bool.or_assoc]
  by_cases hc : l.any (cutB a b t) = true
  · rw [if_pos hc] at h
    rw [hc, Bool.true_or]
    exact h
  · rw [if_neg hc] at h
    have hc' : l.any (cutB a b t) = false := by simpa using hc
    rw [hc', Bool.false_or]
    exact h

/-! impl_InRange -/
theorem impl_InRange.val (a lo hi : Int) : impl_InRange.f a lo hi = some (inR a lo hi) := by
  unfold impl_InRange.f inR
  by_cases h : lo ≤ a
  · rw [if_pos h]; simp [h]
  · rw [if_neg h]; simp; omega

/-! impl_isNumber -/
theorem impl_isNumber.val (a : Int) : impl_isNumber.f a = some (inR a 1 12) := by
  unfold impl_isNumber.f
  rw [impl_InRange.val]; rfl

/-! impl_DeadFor -/
theorem impl_DeadFor.ev (l : List S116) (a t n : Int) (hl : l.length ≤ 1048576) : Ev (fun k => impl_DeadFor.f k l a t n) (deadFor l a t n) := by
  unfold deadFor
  refine Ev.congr (fun k => by unfold impl_DeadFor.f; rw [impl_isNumber.val, Option.bind_some, Option.bind_some]) ?_
  by_cases hn : inR n 1 12 = true
  · rw [if_pos hn]
    refine Ev.congr (fun k => by rw [if_pos hn]) ?_
    have hb : 1 ≤ n ∧ n ≤ 12 := by simpa [inR] using hn
    have h := foldE_index (g := fun k s i => impl_DeadFor.l0 k l a t s n i) (f := fun i s => if deadP l a t i = true then s ++ [((i : Nat) : Int)] else s) (fin := fun s => s) (fun i s => s.length ≤ i) n.toNat [] (by simp)
      (fun s _ => Ev.one fun k => by simp only [impl_DeadFor.l0]; rw [if_neg (by omega)])
      (fun i s hi hI => ⟨ite_snoc_len s _ hI, fun x hx => by
        unfold deadP at hx
        by_cases h0 : ((i : Nat) : Int) = a
        · rw [if_neg (by simp [h0])] at hx
          exact Ev.step (fun k => by simp only [impl_DeadFor.l0]; rw [if_pos (by omega), if_pos h0, wrap_nat (by omega)]) hx
        · refine Ev.step (fun k => by simp only [impl_DeadFor.l0]; rw [if_pos (by omega), if_neg h0, wrap_nat (by omega), if_pos (show s.length < 17592186044416 by omega)]) (Ev.bind (impl_IsCut.ev l a _ t hl) ?_)
          by_cases h1 : isCut l a ((i : Nat) : Int) t = true
          · rw [if_pos (by simp [h0, h1])] at hx
            exact Ev.congr (fun k => by rw [if_pos h1]) hx
          · rw [if_neg (by simp [h0, h1])] at hx
            exact Ev.congr (fun k => by rw [if_neg h1]) hx⟩)
    rw [collect_places] at h
    exact h
  · rw [if_neg hn]
    exact Ev.all fun k => by rw [if_neg hn]

/-! laws_markFaultS -/
def mkFault (a : Int) (j : Nat) : S116 := ⟨a + 4 * (j : Int), a + 4 * (j : Int) + 1, a + 4 * (j : Int) + 1 + 1, a + 4 * (j : Int) + 1 + 1 + 1⟩
def marksFault (a : Int) (n : Nat) : List S116 := (List.range n).map (mkFault a)
theorem marksFault_length (a : Int) (n : Nat) : (marksFault a n).length = n := by simp [marksFault]
theorem marksFault_get (a : Int) (n i : Nat) (h : i < n) : (marksFault a n)[i]? = some (mkFault a i) := by simp [marksFault, h]
theorem marksFault_getD (a : Int) (n i : Nat) (h : i < n) : (marksFault a n).getD i z116 = mkFault a i := by rw [List.getD_eq_getElem?_getD, marksFault_get a n i h]; rfl
theorem laws_markFaultS.ev_l (a : Int) (n : Nat) (h0 : 0 ≤ a) (h1 : a + 4 * n ≤ 4611686018427387904) : ∀ (d i : Nat) (o : List S116), i + d = n → o.length = n → o.take i = (marksFault a n).take i →
    Ev (fun k => laws_markFaultS.l0 k o (a + 4 * (i : Int)) i) (a + 4 * (n : Int), marksFault a n) := by
  intro d
  induction d with
  | zero =>
    intro i o hi ho ht
    refine Ev.one fun k => ?_
    simp only [laws_markFaultS.l0]
    rw [if_neg (by omega), take_full (by rw [marksFault_length]; exact ho) (by rw [marksFault_length]; omega) ht, show i = n by omega]
  | succ d ih =>
    intro i o hi ho ht
    refine Ev.step (fun k => ?_) (ih (i + 1) (o.set i (mkFault a i)) (by omega) (by simp [ho]) (set_take o _ _ (by rw [marksFault_length]; exact ho) (marksFault_get a n i (by omega)) ht))
    have e : ∀ v, rd_T116 (o.set i v) (i : Int) = v := fun v => getD_set_self o _ v (by omega)
    simp only [laws_markFaultS.l0, Option.bind_some, Int.toNat_natCast, e, List.set_set]
    rw [if_pos (by omega), if_pos (by omega), wrap_nat (by omega)]
    rw [wrap_id (x := a + 4 * (i : Int) + 1) (by omega) (by omega)]
    rw [wrap_id (x := a + 4 * (i : Int) + 1 + 1) (by omega) (by omega)]
    rw [wrap_id (x := a + 4 * (i : Int) + 1 + 1 + 1) (by omega) (by omega)]
    rw [wrap_id (x := a + 4 * (i : Int) + 1 + 1 + 1 + 1) (by omega) (by omega)]
    rw [show a + 4 * (i : Int) + 1 + 1 + 1 + 1 = a + 4 * ((i + 1 : Nat) : Int) by omega]
    rfl
theorem laws_markFaultS.ev (l : List S116) (a : Int) (h0 : 0 ≤ a) (h1 : a ≤ 4000000000) (hl : l.length ≤ 1048576) : Ev (fun k => laws_markFaultS.f k l a) (a + 4 * (l.length : Int), marksFault a l.length) := by
  have := laws_markFaultS.ev_l a l.length h0 (by omega) l.length 0 l (by omega) rfl (by simp)
  rw [show a + 4 * ((0 : Nat) : Int) = a by omega] at this
  exact this

/-! laws_markIntS -/
theorem laws_markIntS.ev_l (a : Int) (n : Nat) (h0 : 0 ≤ a) (h1 : a + n ≤ 4611686018427387904) : ∀ (d i : Nat) (o : List Int), i + d = n → o.length = n → o.take i = (marks a n).take i →
    Ev (fun k => laws_markIntS.l0 k o (a + i) i) (a + n, marks a n) := by
  intro d
  induction d with
  | zero =>
    intro i o hi ho ht
    refine Ev.one fun k => ?_
    simp only [laws_markIntS.l0]
    rw [if_neg (by omega), take_full (by rw [marks_length]; exact ho) (by rw [marks_length]; omega) ht, show i = n by omega]
  | succ d ih =>
    intro i o hi ho ht
    refine Ev.step (fun k => ?_) (ih (i + 1) (o.set i (a + i)) (by omega) (by simp [ho]) (set_take o _ _ (by rw [marks_length]; exact ho) (marks_get a n i (by omega)) ht))
    simp only [laws_markIntS.l0]
    rw [if_pos (by omega), if_pos (by omega), wrap_nat (by omega), wrap_id (by omega) (by omega)]
    rw [show a + (i : Int) + 1 = a + ((i + 1 : Nat) : Int) by omega]
    rfl
theorem laws_markIntS.ev (l : List Int) (a : Int) (h0 : 0 ≤ a) (h1 : a + l.length ≤ 4611686018427387904) : Ev (fun k => laws_markIntS.f k l a) (a + l.length, marks a l.length) := by
  have := laws_markIntS.ev_l a l.length h0 h1 l.length 0 l (by omega) rfl (by simp)
  rw [show a + ((0 : Nat) : Int) = a by omega] at this
  exact this

/-! laws_heldIntS -/
theorem laws_heldIntS.ev_l (a : Int) (n : Nat) (h0 : 0 ≤ a) (h1 : a + n ≤ 4611686018427387904) : ∀ (d i : Nat), i + d = n → Ev (fun k => laws_heldIntS.l0 k (marks a n) (a + i) i) (a + n) := by
  intro d
  induction d with
  | zero =>
    intro i hi
    refine Ev.one fun k => ?_
    simp only [laws_heldIntS.l0]
    rw [if_neg (by rw [marks_length]; omega), show i = n by omega]
  | succ d ih =>
    intro i hi
    refine Ev.step (fun k => ?_) (ih (i + 1) (by omega))
    simp only [laws_heldIntS.l0]
    rw [if_pos (by rw [marks_length]; omega), if_pos (by omega), rd_nat, if_pos (marks_getD a n i (by omega)), wrap_nat (by omega), wrap_id (by omega) (by omega)]
    rw [show a + (i : Int) + 1 = a + ((i + 1 : Nat) : Int) by omega]
theorem laws_heldIntS.ev (a : Int) (n : Nat) (h0 : 0 ≤ a) (h1 : a + n ≤ 4611686018427387904) : Ev (fun k => laws_heldIntS.f k (marks a n) a) (a + n) := by
  have := laws_heldIntS.ev_l a n h0 h1 n 0 (by omega)
  rw [show a + ((0 : Nat) : Int) = a by omega] at this
  exact this

/-! @@ FnExactDeadFor -/
theorem proved : Stated := by
  intro l0 a1 a2 a3 ⟨hl, hw⟩ _ _ _
  obtain ⟨t, ht, hle, hp⟩ := laws_szFaultS.val l0 1048576 (by omega) (by omega) hl
  refine Ev.rounds ?_
  refine Ev.congr (fun k => by unfold laws_FnExactDeadFor.f; rw [ht, Option.bind_some]) ?_
  by_cases h : t < 0
  · exact Ev.all fun k => by rw [if_pos h]
  · obtain ⟨_, hl2⟩ := hp (by omega)
    have hl3 : (l0.map cFault).length ≤ 1048576 := by simpa using hl2
    have hd := deadFor_len (l0.map cFault) a1 a2 a3
    have hd2 : (deadFor (l0.map cFault) a1 a2 a3).length ≤ 1048576 := by omega
    refine Ev.congr (fun k => by rw [if_neg h]) ?_
    refine Ev.bind (laws_toFaultS.ev l0 hl2) (Ev.bind (spec_DeadFor.ev _ a1 a2 a3 hl3) (Ev.bind (laws_toFaultS.ev l0 hl2) (Ev.bind (impl_DeadFor.ev _ a1 a2 a3 hl3) (Ev.bind (laws_eqIntS.ev _ hd2) ?_))))
    refine Ev.congr (fun k => by rw [if_pos rfl]) ?_
    refine Ev.bind (laws_toFaultS.ev l0 hl2) (Ev.bind (laws_eqFaultS.ev _ hl3) ?_)
    refine Ev.congr (fun k => by rw [if_pos rfl]) ?_
    refine Ev.bind (laws_markFaultS.ev (l0.map cFault) 1 (by omega) (by omega) hl3) ?_
    refine Ev.congr (fun k => by rw [if_neg (by omega)]) ?_
    refine Ev.bind (laws_eqIntS.ev _ hd2) ?_
    refine Ev.step (fun k => by simp only [laws_FnExactDeadFor.j0]; rw [if_neg (by simp)]) ?_
    refine Ev.bind (laws_markIntS.ev _ 1 (by omega) (by omega)) (Ev.bind (laws_heldIntS.ev 1 _ (by omega) (by omega)) ?_)
    refine Ev.congr (fun k => by rw [if_neg (by omega), if_pos rfl]) ?_
    refine Ev.bind (laws_toFaultS.ev l0 hl2) (Ev.bind (impl_DeadFor.ev _ a1 a2 a3 hl3) (Ev.bind (laws_eqIntS.ev _ hd2) ?_))
    refine Ev.congr (fun k => by rw [if_pos rfl]) ?_
    refine Ev.bind (laws_heldIntS.ev 1 _ (by omega) (by omega)) ?_
    exact Ev.all fun k => by rw [if_neg (by omega), if_pos rfl]

end Go.Proofs.Ytindlpkkapelhaa.PureFnExactDeadFor
