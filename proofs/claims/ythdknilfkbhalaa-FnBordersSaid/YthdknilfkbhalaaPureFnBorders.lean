/- FnBorders, over numbers and lists alone: what the program's function and the reference's answer is one. Conditions: the numbers are of their kinds. -/
import Derived.Test.YthdknilfkbhalaaKindsFnBorders
import Derived.Test.YthdknilfkbhalaaVFnBordersBase
namespace Go.Proofs.Ythdknilfkbhalaa.PureFnBorders
open Go.RowKit Go.Proofs.Ythdknilfkbhalaa.PFnBorders Go.Proofs.YthdknilfkbhalaaW.PrintWords Go.Proofs.YthdknilfkbhalaaW.PrintLast Go.Proofs.YthdknilfkbhalaaW.PrintMore Go.Proofs.Ythdknilfkbhalaa.Base
set_option linter.unusedVariables false
set_option linter.unusedSimpArgs false

/-! laws_big -/
theorem laws_big.val (l : List Int) : laws_big.f l = some (decide ((l.length : Int) > 1048576)) := rfl

/-! d_cur -/
def Cur (p : Int) : Prop := 0 ≤ p ∧ p ≤ 1048576
theorem tmod_in {v n : Int} (hv : 0 ≤ v) (hn : 0 < n) : 0 ≤ Int.tmod v n ∧ Int.tmod v n < n := ⟨Int.tmod_nonneg n hv, Int.tmod_lt_of_pos v hn⟩

/-! spec_l1New -/
theorem spec_l1New.ev_l (l : List Int) (hl : l.length ≤ 1048576) : ∀ (d i : Nat), i + d = l.length → ∀ q, ∃ q', Ev (fun k => spec_l1New.l0 k l q i) (l, 0, q') := by
  intro d
  induction d with
  | zero =>
    intro i hi q
    exact ⟨q, Ev.one fun k => by simp only [spec_l1New.l0]; rw [if_neg (by omega)]⟩
  | succ d ih =>
    intro i hi q
    by_cases h : (i : Int) < 4000
    · obtain ⟨q', h'⟩ := ih (i + 1) (by omega) _
      exact ⟨q', Ev.step (fun k => by simp only [spec_l1New.l0]; rw [if_pos (by omega), if_pos h, if_pos (by omega), wrap_nat (by omega)]) h'⟩
    · exact ⟨q, Ev.one fun k => by simp only [spec_l1New.l0]; rw [if_pos (by omega), if_neg h]⟩
theorem spec_l1New.ev (l : List Int) (hl : l.length ≤ 1048576) : ∃ q', Ev (fun k => spec_l1New.f k l) (l, 0, q') :=
  spec_l1New.ev_l l hl l.length 0 (by omega) _

/-! spec_l1Byte -/
theorem spec_l1Byte.ok (l : List Int) (hl : l.length ≤ 1048576) (p q : Int) (hp : Cur p) : ∃ v p' q', spec_l1Byte.f l p q = some (v, p', q') ∧ 0 ≤ v ∧ v ≤ 255 ∧ Cur p' := by
  obtain ⟨h0, h1⟩ := hp
  unfold spec_l1Byte.f
  by_cases h : p < (l.length : Int)
  · rw [if_pos h, if_pos h0]
    refine ⟨_, _, _, rfl, (and255 _).1, (and255 _).2, ?_⟩
    rw [wrap_id (by omega) (by omega)]
    exact ⟨by omega, by omega⟩
  · rw [if_neg h]
    exact ⟨_, _, _, rfl, (and255 _).1, (and255 _).2, h0, h1⟩

/-! spec_l1Below -/
theorem spec_l1Below.ok (l : List Int) (hl : l.length ≤ 1048576) (p q n : Int) (hp : Cur p) : ∃ v p' q', spec_l1Below.f l p q n = some (v, p', q') ∧ 0 ≤ v ∧ (0 < n → v < n) ∧ Cur p' := by
  unfold spec_l1Below.f
  by_cases h : n ≤ 0
  · rw [if_pos h]
    exact ⟨_, _, _, rfl, by omega, by omega, hp⟩
  · rw [if_neg h]
    obtain ⟨v, p1, q1, e, h0, h1, hp1⟩ := spec_l1Byte.ok l hl p q hp
    by_cases h2 : n ≤ 256
    · rw [if_pos h2, e, Option.bind_some, if_neg (by omega)]
      have := tmod_in h0 (show 0 < n by omega)
      exact ⟨_, _, _, rfl, this.1, fun _ => this.2, hp1⟩
    · obtain ⟨v2, p2, q2, e2, h02, h12, hp2⟩ := spec_l1Byte.ok l hl p1 q1 hp1
      obtain ⟨v3, p3, q3, e3, h03, h13, hp3⟩ := spec_l1Byte.ok l hl p2 q2 hp2
      rw [if_neg h2, e, Option.bind_some, e2, Option.bind_some, e3, Option.bind_some, if_neg (by omega)]
      have hw : 0 ≤ wrap64 (wrap64 (wrap64 (v * 65536) + wrap64 (v2 * 256)) + v3) := by unfold wrap64; omega
      have := tmod_in hw (show 0 < n by omega)
      exact ⟨_, _, _, rfl, this.1, fun _ => this.2, hp3⟩

/-! spec_l27Law -/
theorem spec_l27Law.ok (l : List Int) (hl : l.length ≤ 1048576) (p q : Int) (hp : Cur p) : ∃ r p' q', spec_l27Law.f l p q = some (r, p', q') ∧ r.length ≤ 2 ∧ (∀ x ∈ r, 0 ≤ x) ∧ Cur p' := by
  obtain ⟨v, p1, q1, e1, h0, h7, hp1⟩ := spec_l1Below.ok l hl p q 7 hp
  have h7' := h7 (by omega)
  have hm : rd_L2 ([[], [4], [5], [4, 5], [5, 4], [3], [4, 6]] : List (List Int)) v ∈ ([[], [4], [5], [4, 5], [5, 4], [3], [4, 6]] : List (List Int)) := getD_mem _ [] (show v.toNat < 7 by omega)
  refine ⟨rd_L2 ([[], [4], [5], [4, 5], [5, 4], [3], [4, 6]] : List (List Int)) v, p1, q1, ?_, ?_⟩
  · unfold spec_l27Law.f
    rw [Option.bind_some, e1, Option.bind_some, if_pos h0, if_pos (show v < (([[], [4], [5], [4, 5], [5, 4], [3], [4, 6]] : List (List Int)).length : Int) from h7')]
  · generalize rd_L2 ([[], [4], [5], [4, 5], [5, 4], [3], [4, 6]] : List (List Int)) v = r at hm
    simp only [List.mem_cons, List.not_mem_nil, or_false] at hm
    rcases hm with rfl | rfl | rfl | rfl | rfl | rfl | rfl <;> exact ⟨by decide, by decide, hp1⟩

/-! spec_l1In -/
theorem spec_l1In.val (a lo hi : Int) : spec_l1In.f a lo hi = some (inR a lo hi) := by
  unfold spec_l1In.f inR
  by_cases h : a ≥ lo
  · rw [if_pos h]; simp [h]
  · rw [if_neg h]; simp; omega

/-! spec_l17Frame -/
theorem spec_l17Frame.ok (a b c : Int) : ∃ r, spec_l17Frame.f a b c = some r := by
  unfold spec_l17Frame.f
  simp only [spec_l1In.val, Option.bind_some]
  split
  · split
    · exact ⟨_, rfl⟩
    · exact ⟨_, rfl⟩
  · exact ⟨_, rfl⟩

/-! d_isSpan -/
def isSpan (a b : Int) : Bool := decide (0 ≤ a) && decide (b ≤ 1000) && decide (a < b)

/-! spec_IsSpan -/
theorem spec_IsSpan.val (a b : Int) : spec_IsSpan.f a b = some (isSpan a b) := by
  unfold spec_IsSpan.f isSpan
  by_cases h : a ≥ 0
  · rw [if_pos h]
    by_cases h2 : b ≤ 1000
    · rw [if_pos h2]; simp [h, h2]
    · rw [if_neg h2]; simp; omega
  · rw [if_neg h]; simp; omega

/-! spec_IsContact -/
theorem spec_IsContact.ok (a b c d n : Int) : ∃ r, spec_IsContact.f a b c d n = some r := by
  unfold spec_IsContact.f
  simp only [spec_IsSpan.val, Option.bind_some]
  split
  · split
    · split
      · exact ⟨_, rfl⟩
      · exact ⟨_, rfl⟩
    · exact ⟨_, rfl⟩
  · exact ⟨_, rfl⟩

/-! spec_l11Before -/
theorem spec_l11Before.ok (a b c d e f g h : Int) : ∃ r, spec_l11Before.f a b c d e f g h = some r := by
  unfold spec_l11Before.f
  split
  · split
    · exact ⟨_, rfl⟩
    · exact ⟨_, rfl⟩
  · exact ⟨_, rfl⟩

/-! spec_IsPlan -/
theorem spec_IsPlan.ok (p : List S91) (hp : p.length ≤ 1048576) (n : Int) : ∃ r, Ev (fun k => spec_IsPlan.f k p n) r := by
  have : ∀ e j : Nat, j + e = p.length → ∃ r, Ev (fun k => spec_IsPlan.l0 k p n (j : Int)) r := by
    intro e
    induction e with
    | zero =>
      intro j hj
      exact ⟨true, Ev.one fun k => by simp only [spec_IsPlan.l0]; rw [if_neg (by omega)]⟩
    | succ e ih =>
      intro j hj
      obtain ⟨r, hr⟩ := ih (j + 1) (by omega)
      obtain ⟨b, hb⟩ := spec_IsContact.ok ((rd_T91 p (j : Int)).f0) ((rd_T91 p (j : Int)).f1) ((rd_T91 p (j : Int)).f2) ((rd_T91 p (j : Int)).f3) n
      cases b with
      | false => exact ⟨false, Ev.one fun k => by simp only [spec_IsPlan.l0]; rw [if_pos (by omega), if_pos (by omega), hb, Option.bind_some, if_neg (by simp)]⟩
      | true =>
        by_cases c : (j : Int) > 0
        · obtain ⟨b2, hb2⟩ := spec_l11Before.ok ((rd_T91 p ((j - 1 : Nat) : Int)).f0) ((rd_T91 p ((j - 1 : Nat) : Int)).f1) ((rd_T91 p ((j - 1 : Nat) : Int)).f2) ((rd_T91 p ((j - 1 : Nat) : Int)).f3) ((rd_T91 p (j : Int)).f0) ((rd_T91 p (j : Int)).f1) ((rd_T91 p (j : Int)).f2) ((rd_T91 p (j : Int)).f3)
          cases b2 with
          | false => exact ⟨false, Ev.one fun k => by simp only [spec_IsPlan.l0]; rw [if_pos (by omega), if_pos (by omega), hb, Option.bind_some, if_pos rfl, if_pos c, wrap_pred (by omega) (by omega), if_pos (by omega), if_pos (by omega), hb2, Option.bind_some, if_neg (by simp)]⟩
          | true => exact ⟨r, Ev.step (fun k => by simp only [spec_IsPlan.l0]; rw [if_pos (by omega), if_pos (by omega), hb, Option.bind_some, if_pos rfl, if_pos c, wrap_pred (by omega) (by omega), if_pos (by omega), if_pos (by omega), hb2, Option.bind_some, if_pos rfl, wrap_nat (by omega)]) hr⟩
        · exact ⟨r, Ev.step (fun k => by simp only [spec_IsPlan.l0]; rw [if_pos (by omega), if_pos (by omega), hb, Option.bind_some, if_pos rfl, if_neg c, wrap_nat (by omega)]) hr⟩
  exact this p.length 0 (by omega)

/-! d_inSpan -/
def inSpan (a b t : Int) : Bool := isSpan a b && decide (a ≤ t) && decide (t < b)

/-! spec_InSpan -/
theorem spec_InSpan.val (a b t : Int) : spec_InSpan.f a b t = some (inSpan a b t) := by
  unfold spec_InSpan.f inSpan
  rw [spec_IsSpan.val, Option.bind_some]
  by_cases h : isSpan a b = true
  · rw [if_pos h]
    by_cases h2 : a ≤ t
    · rw [if_pos h2]; simp [h, h2]
    · rw [if_neg h2]; simp; omega
  · rw [if_neg h]; simp [h]

/-! spec_LinksAt -/
theorem spec_LinksAt.ok (p : List S91) (hp : p.length ≤ 1048576) (t : Int) : ∃ r, Ev (fun k => spec_LinksAt.f k p t) r ∧ r.length ≤ p.length := by
  have inner : ∀ (o : List S96) (j : Nat) (a b : Int), j < p.length → o.length ≤ j →
      (∀ o' : List S96, o'.length ≤ j + 1 → ∃ r, Ev (fun k => spec_LinksAt.l0 k p t o' (wrap64 ((j : Int) + 1))) r ∧ r.length ≤ p.length) →
      ∀ (e i : Nat) (f : Bool), i + e = o.length → ∃ r, Ev (fun k => spec_LinksAt.l1 k p t o (j : Int) f (i : Int) a b) r ∧ r.length ≤ p.length := by
    intro o j a b hj ho hnext e
    induction e with
    | zero =>
      intro i f hi
      cases f with
      | true =>
        obtain ⟨r, hr, hl⟩ := hnext o (by omega)
        exact ⟨r, Ev.step (fun k => by simp only [spec_LinksAt.l1]; rw [if_neg (by omega), if_pos trivial]) hr, hl⟩
      | false =>
        by_cases c : inSpan ((rd_T91 p (j : Int)).f2) ((rd_T91 p (j : Int)).f3) t = true
        · obtain ⟨r, hr, hl⟩ := hnext (o ++ [⟨a, b⟩]) (by rw [List.length_append, List.length_singleton]; omega)
          exact ⟨r, Ev.step (fun k => by simp only [spec_LinksAt.l1]; rw [if_neg (by omega), if_neg (by simp), if_pos (by omega), if_pos (by omega), spec_InSpan.val, Option.bind_some, if_pos c, if_pos (by omega)]) hr, hl⟩
        · obtain ⟨r, hr, hl⟩ := hnext o (by omega)
          exact ⟨r, Ev.step (fun k => by simp only [spec_LinksAt.l1]; rw [if_neg (by omega), if_neg (by simp), if_pos (by omega), if_pos (by omega), spec_InSpan.val, Option.bind_some, if_neg c]) hr, hl⟩
    | succ e ih =>
      intro i f hi
      cases f with
      | true =>
        obtain ⟨r, hr, hl⟩ := ih (i + 1) true (by omega)
        exact ⟨r, Ev.step (fun k => by simp only [spec_LinksAt.l1]; rw [if_pos (by omega), if_pos trivial, wrap_nat (by omega)]) hr, hl⟩
      | false =>
        obtain ⟨r, hr, hl⟩ := ih (i + 1) (((rd_T96 o (i : Int)).f0) == a && (((rd_T96 o (i : Int)).f1) == b)) (by omega)
        exact ⟨r, Ev.step (fun k => by simp only [spec_LinksAt.l1]; rw [if_pos (by omega), if_neg (by simp), if_pos (by omega), wrap_nat (by omega)]) hr, hl⟩
  have : ∀ e j : Nat, j + e = p.length → ∀ o : List S96, o.length ≤ j → ∃ r, Ev (fun k => spec_LinksAt.l0 k p t o (j : Int)) r ∧ r.length ≤ p.length := by
    intro e
    induction e with
    | zero =>
      intro j hj o ho
      exact ⟨o, Ev.one fun k => by simp only [spec_LinksAt.l0]; rw [if_neg (by omega)], by omega⟩
    | succ e ih =>
      intro j hj o ho
      obtain ⟨r, hr, hl⟩ := inner o j ((rd_T91 p (j : Int)).f0) ((rd_T91 p (j : Int)).f1) (by omega) ho (fun o' ho' => by rw [wrap_nat (by omega)]; exact ih (j + 1) (by omega) o' ho') o.length 0 false (by omega)
      exact ⟨r, Ev.step (fun k => by simp only [spec_LinksAt.l0]; rw [if_pos (by omega), if_pos (by omega)]; rfl) hr, hl⟩
  exact this p.length 0 (by omega) [] (by simp)

/-! spec_Min -/
theorem spec_Min.val (a b : Int) : spec_Min.f a b = some (mn a b) := by
  unfold spec_Min.f mn
  split <;> rfl

/-! spec_Max -/
theorem spec_Max.val (a b : Int) : spec_Max.f a b = some (mx a b) := by
  unfold spec_Max.f mx
  by_cases h : b > a
  · rw [if_pos h, if_pos (by omega)]
  · rw [if_neg h, if_neg (by omega)]

/-! spec_SameLinks -/
theorem spec_SameLinks.ok (a b : List S96) (ha : a.length ≤ 1048576) : ∃ r, Ev (fun k => spec_SameLinks.f k a b) r := by
  by_cases c : (a.length : Int) = (b.length : Int)
  · have h := find_index (g := fun k i => spec_SameLinks.l0 k a b i) (q := fun i => (!(((rd_T96 a (i : Int)).f0) == ((rd_T96 b (i : Int)).f0)) || (!(((rd_T96 a (i : Int)).f1) == ((rd_T96 b (i : Int)).f1))))) (r := false) (e := true) a.length
      (Ev.one fun k => by simp only [spec_SameLinks.l0]; rw [if_neg (by omega)])
      (fun i k hi => by simp only [spec_SameLinks.l0]; rw [if_pos (by omega), if_pos (by omega), if_pos (by omega), wrap_nat (by omega)])
    exact ⟨_, Ev.congr (fun k => by unfold spec_SameLinks.f; rw [if_pos c]) h⟩
  · exact ⟨false, Ev.all fun k => by unfold spec_SameLinks.f; rw [if_neg c]⟩

/-! spec_ChangesOf -/
theorem spec_ChangesOf.ok (p : List S91) (hp : p.length ≤ 1048576) (T : Nat) (hT1 : 1 ≤ T) (hT2 : T ≤ 1000) : ∃ r, Ev (fun k => spec_ChangesOf.f k p 0 (T : Int)) r ∧ r.length ≤ T ∧ (∀ x ∈ r, 1 ≤ x ∧ x < (T : Int)) ∧ r.Pairwise (fun a b => a < b) := by
  have : ∀ e j : Nat, j + e = T → 1 ≤ j → ∀ o : List Int, o.length ≤ j → (∀ x ∈ o, 1 ≤ x ∧ x < (j : Int)) → o.Pairwise (fun a b => a < b) → ∃ r, Ev (fun k => spec_ChangesOf.l0 k p o (T : Int) (j : Int)) r ∧ r.length ≤ T ∧ (∀ x ∈ r, 1 ≤ x ∧ x < (T : Int)) ∧ r.Pairwise (fun a b => a < b) := by
    intro e
    induction e with
    | zero =>
      intro j hj _ o ho ho1 ho2
      exact ⟨o, Ev.one fun k => by simp only [spec_ChangesOf.l0]; rw [if_neg (by omega)], by omega, fun x hx => by have := ho1 x hx; omega, ho2⟩
    | succ e ih =>
      intro j hj h1 o ho ho1 ho2
      obtain ⟨a, ha, hal⟩ := spec_LinksAt.ok p hp ((j - 1 : Nat) : Int)
      obtain ⟨b, hb, hbl⟩ := spec_LinksAt.ok p hp (j : Int)
      obtain ⟨s, hs⟩ := spec_SameLinks.ok a b (by omega)
      have hst : ∀ R, Ev (fun k => if s = true then spec_ChangesOf.l0 k p o (T : Int) (wrap64 ((j : Int) + 1)) else if o.length < 17592186044416 then spec_ChangesOf.l0 k p (o ++ [(j : Int)]) (T : Int) (wrap64 ((j : Int) + 1)) else none) R → Ev (fun k => spec_ChangesOf.l0 k p o (T : Int) (j : Int)) R := fun R h =>
        Ev.step (fun k => by simp only [spec_ChangesOf.l0]; rw [if_pos (by omega), wrap_pred (by omega) (by omega)]) (Ev.bind ha (Ev.bind hb (Ev.bind hs h)))
      cases s with
      | true =>
        obtain ⟨r, hr, hl⟩ := ih (j + 1) (by omega) (by omega) o (by omega) (fun x hx => by have := ho1 x hx; omega) ho2
        exact ⟨r, hst _ (Ev.congr (fun k => by rw [if_pos rfl, wrap_nat (by omega)]) hr), hl⟩
      | false =>
        obtain ⟨r, hr, hl⟩ := ih (j + 1) (by omega) (by omega) (o ++ [(j : Int)]) (by rw [List.length_append, List.length_singleton]; omega) (fun x hx => by
          rcases List.mem_append.1 hx with hx | hx
          · have := ho1 x hx; omega
          · rw [List.mem_singleton] at hx; omega) (List.pairwise_append.2 ⟨ho2, List.pairwise_singleton _ _, fun x hx y hy => by rw [List.mem_singleton] at hy; have := ho1 x hx; omega⟩)
        exact ⟨r, hst _ (Ev.congr (fun k => by rw [if_neg (by simp), if_pos (by omega), wrap_nat (by omega)]) hr), hl⟩
  obtain ⟨r, hr, hl⟩ := this (T - 1) 1 (by omega) (by omega) [] (by simp) (fun x hx => by cases hx) List.Pairwise.nil
  exact ⟨r, Ev.congr (fun k => by unfold spec_ChangesOf.f; rw [spec_Max.val, Option.bind_some, spec_Min.val, Option.bind_some, spec_Min.val, Option.bind_some, show mn 1000 (T : Int) = (T : Int) by unfold mn; split <;> omega, show wrap64 (mn 1000 (mx 0 0) + 1) = ((1 : Nat) : Int) by rw [show mn 1000 (mx 0 0) = 0 by decide]; unfold wrap64; omega]) hr, hl⟩

/-! spec_PiecesOf -/
theorem take_snocS {α : Type} (l : List α) (z : α) {i : Nat} (h : i < l.length) : l.take (i + 1) = l.take i ++ [l.getD i z] := by
  rw [List.take_add_one, List.getD_eq_getElem?_getD, List.getElem?_eq_getElem h]; rfl
def okS (l : List S56) : Prop := (∀ x ∈ l, isSpan x.f0 x.f1 = true) ∧ l.Pairwise fun a b => a.f1 ≤ b.f0
theorem spec_PiecesOf.ok (p : List S91) (hp : p.length ≤ 1048576) (T : Nat) (hT1 : 1 ≤ T) (hT2 : T ≤ 1000) : ∃ r, Ev (fun k => spec_PiecesOf.f k p 0 (T : Int)) r ∧ r.length ≤ T + 1 ∧ okS r := by
  obtain ⟨c, hc, hcl, hc1, hc2⟩ := spec_ChangesOf.ok p hp T hT1 hT2
  have hL : (c ++ [(T : Int)]).length ≤ T + 1 := by rw [List.length_append, List.length_singleton]; omega
  have hd1 : ∀ x ∈ c ++ [(T : Int)], 1 ≤ x ∧ x ≤ (T : Int) := fun x hx => by
    rcases List.mem_append.1 hx with hx | hx
    · have := hc1 x hx; omega
    · rw [List.mem_singleton] at hx; omega
  have hd2 : (c ++ [(T : Int)]).Pairwise fun a b => a < b := List.pairwise_append.2 ⟨hc2, List.pairwise_singleton _ _, fun x hx y hy => by rw [List.mem_singleton] at hy; have := hc1 x hx; omega⟩
  generalize hD : c ++ [(T : Int)] = D at hL hd1 hd2
  have hget : ∀ j : Nat, j < D.length → rd D ((j : Nat) : Int) ∈ D := fun j hj => by rw [rd_nat]; exact getD_mem D 0 hj
  have hmono : ∀ i j : Nat, i < j → j < D.length → rd D ((i : Nat) : Int) < rd D ((j : Nat) : Int) := fun i j hij hj => by
    have h := List.pairwise_iff_getElem.1 hd2 i j (by omega) hj hij
    rw [rd_nat, rd_nat, List.getD_eq_getElem?_getD, List.getD_eq_getElem?_getD, List.getElem?_eq_getElem (show i < D.length by omega), List.getElem?_eq_getElem hj]
    exact h
  have : ∀ e j : Nat, j + e = D.length → ∀ (o : List S56) (x : Int), o.length ≤ j → 0 ≤ x → (∀ i : Nat, j ≤ i → i < D.length → x < rd D ((i : Nat) : Int)) → okS o → (∀ y ∈ o, y.f1 ≤ x) → ∃ r, Ev (fun k => spec_PiecesOf.l0 k o x D (j : Int)) r ∧ r.length ≤ D.length ∧ okS r := by
    intro e
    induction e with
    | zero =>
      intro j hj o x ho _ _ hS _
      exact ⟨o, Ev.one fun k => by simp only [spec_PiecesOf.l0]; rw [if_neg (by omega)], by omega, hS⟩
    | succ e ih =>
      intro j hj o x ho hx0 hx hS hlast
      have h1 := hx j (by omega) (by omega)
      have h2 := hd1 _ (hget j (by omega))
      obtain ⟨r, hr, hl, hS2⟩ := ih (j + 1) (by omega) (o ++ [⟨x, rd D (j : Int)⟩]) (rd D (j : Int)) (by rw [List.length_append, List.length_singleton]; omega) (by omega) (fun i hi hi2 => hmono j i (by omega) hi2)
        ⟨fun y hy => by
          rcases List.mem_append.1 hy with hy | hy
          · exact hS.1 y hy
          · rw [List.mem_singleton] at hy
            subst hy
            unfold isSpan
            simp only [Bool.and_eq_true, decide_eq_true_eq]
            omega, List.pairwise_append.2 ⟨hS.2, List.pairwise_singleton _ _, fun y hy z hz => by
          rw [List.mem_singleton] at hz
          subst hz
          exact hlast y hy⟩⟩
        (fun y hy => by
          rcases List.mem_append.1 hy with hy | hy
          · have := hlast y hy; omega
          · rw [List.mem_singleton] at hy
            subst hy
            exact Int.le_refl _)
      exact ⟨r, Ev.step (fun k => by simp only [spec_PiecesOf.l0]; rw [if_pos (by omega), if_pos (by omega), if_pos (by omega), wrap_nat (by omega)]) hr, hl, hS2⟩
  obtain ⟨r, hr, hl, hS⟩ := this D.length 0 (by omega) [] 0 (by simp) (by omega) (fun i _ hi => by have := hd1 _ (hget i hi); omega) ⟨(fun x hx => by cases hx), List.Pairwise.nil⟩ (fun x hx => by cases hx)
  refine ⟨r, Ev.congr (fun k => by unfold spec_PiecesOf.f; rw [Option.bind_some, spec_IsSpan.val, Option.bind_some, if_pos (by unfold isSpan; simp only [Bool.and_eq_true, decide_eq_true_eq]; omega)]) (Ev.bind hc (Ev.congr (fun k => by rw [if_pos (by omega), hD]; rfl) hr)), by omega, hS⟩

/-! spec_l14Ok -/
theorem spec_l14Ok.ok (n d : Int) : ∃ b, spec_l14Ok.f n d = some b ∧ (b = true → 1 ≤ n ∧ n ≤ 12 ∧ 0 ≤ d ∧ d < n) := by
  unfold spec_l14Ok.f
  rw [spec_l1In.val, Option.bind_some]
  by_cases h : inR n 1 12 = true
  · rw [if_pos h, spec_l1In.val, Option.bind_some]
    refine ⟨_, rfl, fun hb => ?_⟩
    unfold inR at h hb
    simp only [Bool.and_eq_true, decide_eq_true_eq] at h hb
    have hw : wrap64 (n - 1) = n - 1 := by unfold wrap64; omega
    rw [hw] at hb
    omega
  · rw [if_neg h]
    exact ⟨false, rfl, fun hb => by cases hb⟩

/-! d_neigh -/
theorem strict_ext : ∀ (l1 l2 : List Int), l1.Pairwise (· < ·) → l2.Pairwise (· < ·) → (∀ x, x ∈ l1 ↔ x ∈ l2) → l1 = l2
  | [], [], _, _, _ => rfl
  | [], y :: l2, _, _, h => absurd ((h y).2 List.mem_cons_self) (by simp)
  | x :: l1, [], _, _, h => absurd ((h x).1 List.mem_cons_self) (by simp)
  | x :: l1, y :: l2, h1, h2, h => by
    rw [List.pairwise_cons] at h1 h2
    have hx : x = y := by
      rcases List.mem_cons.1 ((h x).1 List.mem_cons_self) with e | e
      · exact e
      · have a := h2.1 x e
        rcases List.mem_cons.1 ((h y).2 List.mem_cons_self) with e' | e'
        · omega
        · have b := h1.1 y e'
          omega
    subst hx
    rw [strict_ext l1 l2 h1.2 h2.2 fun z => ?_]
    constructor
    · intro hz
      have a := h1.1 z hz
      rcases List.mem_cons.1 ((h z).1 (List.mem_cons_of_mem _ hz)) with e | e
      · omega
      · exact e
    · intro hz
      have a := h2.1 z hz
      rcases List.mem_cons.1 ((h z).2 (List.mem_cons_of_mem _ hz)) with e | e
      · omega
      · exact e
def posU (n : Int) : List Int → Nat
  | [] => 0
  | x :: l => if x < n then posU n l + 1 else 0
def insU (n : Int) (out : List Int) : List Int := if posU n out = out.length ∨ ¬ out.getD (posU n out) 0 = n then out.take (posU n out) ++ [n] ++ out.drop (posU n out) else out
theorem insU_lt {x n : Int} (h : x < n) (l : List Int) : insU n (x :: l) = x :: insU n l := by
  unfold insU
  simp only [posU, if_pos h, List.length_cons, List.getD_cons_succ, List.take_succ_cons, List.drop_succ_cons, Nat.add_right_cancel_iff]
  split <;> simp
theorem insU_ge {x n : Int} (h : ¬ x < n) (l : List Int) : insU n (x :: l) = if x = n then x :: l else n :: x :: l := by
  unfold insU
  simp only [posU, if_neg h, List.length_cons, List.getD_cons_zero, List.take_zero, List.drop_zero, List.nil_append]
  by_cases e : x = n
  · rw [if_neg (by simp [e]), if_pos e]
  · rw [if_pos (Or.inr e), if_neg e]; rfl
theorem insU_mem (n : Int) : ∀ (l : List Int) (z : Int), z ∈ insU n l ↔ z = n ∨ z ∈ l
  | [], z => by simp [insU, posU]
  | x :: l, z => by
    by_cases h : x < n
    · rw [insU_lt h, List.mem_cons, insU_mem n l z, List.mem_cons]
      constructor
      · rintro (e | e | e)
        · exact .inr (.inl e)
        · exact .inl e
        · exact .inr (.inr e)
      · rintro (e | e | e)
        · exact .inr (.inl e)
        · exact .inl e
        · exact .inr (.inr e)
    · rw [insU_ge h]
      split
      · rename_i e
        simp only [List.mem_cons]
        constructor
        · exact .inr
        · rintro (e' | e')
          · exact .inl (by omega)
          · exact e'
      · simp only [List.mem_cons]
theorem insU_strict (n : Int) : ∀ (l : List Int), l.Pairwise (· < ·) → (insU n l).Pairwise (· < ·)
  | [], _ => by simp [insU, posU]
  | x :: l, h => by
    have h' := List.pairwise_cons.1 h
    by_cases hx : x < n
    · rw [insU_lt hx, List.pairwise_cons]
      refine ⟨fun z hz => ?_, insU_strict n l h'.2⟩
      rcases (insU_mem n l z).1 hz with e | e
      · omega
      · exact h'.1 z e
    · rw [insU_ge hx]
      split
      · exact h
      · rw [List.pairwise_cons]
        refine ⟨fun z hz => ?_, h⟩
        rcases List.mem_cons.1 hz with e | e
        · omega
        · have := h'.1 z e
          omega
theorem fold_insU : ∀ (l o : List Int), o.Pairwise (· < ·) → (l.foldl (fun o n => insU n o) o).Pairwise (· < ·) ∧ ∀ z, z ∈ l.foldl (fun o n => insU n o) o ↔ z ∈ o ∨ z ∈ l
  | [], o, h => ⟨h, fun z => by simp⟩
  | n :: l, o, h => by
    obtain ⟨h1, h2⟩ := fold_insU l (insU n o) (insU_strict n o h)
    refine ⟨h1, fun z => ?_⟩
    rw [List.foldl_cons, h2 z, insU_mem, List.mem_cons]
    constructor
    · rintro ((e | e) | e)
      · exact .inr (.inl e)
      · exact .inl e
      · exact .inr (.inr e)
    · rintro (e | e | e)
      · exact .inl (.inr e)
      · exact .inl (.inl e)
      · exact .inr e

/-! d_nbs -/
theorem insU_len (n : Int) (o : List Int) : (insU n o).length ≤ o.length + 1 := by
  unfold insU
  split
  · simp; omega
  · omega
theorem posU_le (n : Int) : ∀ l : List Int, posU n l ≤ l.length
  | [] => Nat.le_refl _
  | x :: l => by
    rw [posU]
    have := posU_le n l
    split
    · simp only [List.length_cons]; omega
    · simp
theorem insU_idem (n : Int) (o : List Int) (h : o.Pairwise (· < ·)) : insU n (insU n o) = insU n o :=
  strict_ext _ _ (insU_strict n _ (insU_strict n o h)) (insU_strict n o h) fun z => by
    rw [insU_mem, insU_mem]
    constructor
    · rintro (e | e)
      · exact .inl e
      · exact e
    · exact .inr
def nbStep (node : Int) (o : List Int) (x : S96) : List Int := if x.f0 = node then insU x.f1 o else if x.f1 = node then insU x.f0 o else o
def nbs (l : List S96) (node : Int) : List Int := l.foldl (nbStep node) []
theorem nbStep_len (node : Int) (o : List Int) (x : S96) : (nbStep node o x).length ≤ o.length + 1 := by
  unfold nbStep
  split
  · exact insU_len _ _
  · split
    · exact insU_len _ _
    · omega
theorem nbs_len (l : List S96) (node : Int) : (nbs l node).length ≤ l.length := by
  have : ∀ (l : List S96) (o : List Int), (l.foldl (nbStep node) o).length ≤ o.length + l.length := by
    intro l
    induction l with
    | nil => intro o; simp
    | cons x l ih =>
      intro o
      have h1 := ih (nbStep node o x)
      have h2 := nbStep_len node o x
      simp only [List.foldl_cons, List.length_cons]
      omega
  simpa [nbs] using this l []
def rawStep (node : Int) (r : List Int) (x : S96) : List Int := if x.f1 = node then (if x.f0 = node then r ++ [x.f1] else r) ++ [x.f0] else if x.f0 = node then r ++ [x.f1] else r
theorem raw_nbs (node : Int) : ∀ (l : List S96) (r : List Int), (l.foldl (rawStep node) r).foldl (fun o n => insU n o) [] = l.foldl (nbStep node) (r.foldl (fun o n => insU n o) [])
  | [], r => rfl
  | x :: l, r => by
    have hs := (fold_insU r [] List.Pairwise.nil).1
    rw [List.foldl_cons, List.foldl_cons, raw_nbs node l]
    congr 1
    unfold rawStep nbStep
    by_cases h0 : x.f0 = node
    · by_cases h1 : x.f1 = node
      · rw [if_pos h1, if_pos h0, if_pos h0, List.foldl_append, List.foldl_append]
        simp only [List.foldl_cons, List.foldl_nil]
        rw [h0, h1]
        exact insU_idem _ _ hs
      · rw [if_neg h1, if_pos h0, if_pos h0, List.foldl_append]
        rfl
    · by_cases h1 : x.f1 = node
      · rw [if_pos h1, if_neg h0, if_neg h0, if_pos h1, List.foldl_append]
        rfl
      · rw [if_neg h1, if_neg h0, if_neg h0, if_neg h1]
theorem raw_len (node : Int) : ∀ (l : List S96) (r : List Int), (l.foldl (rawStep node) r).length ≤ r.length + 2 * l.length
  | [], r => by simp
  | x :: l, r => by
    have h1 := raw_len node l (rawStep node r x)
    have h2 : (rawStep node r x).length ≤ r.length + 2 := by
      unfold rawStep
      repeat' split
      all_goals simp
    simp only [List.foldl_cons, List.length_cons]
    omega

/-! spec_NeighborsIn -/
theorem spec_NeighborsIn.ev_l1 (l : List S96) (node : Int) (o : List Int) (x6 : Int) (n : Int) (ho : o.length ≤ 4000000) (R : List Int) (h6 : Ev (fun k => spec_NeighborsIn.l0 k l node (insU n o) (wrap64 (x6 + 1))) R) :
    ∀ (d i : Nat), i + d = o.length → posU n o = i + posU n (o.drop i) → Ev (fun k => spec_NeighborsIn.l1 k l node o x6 n i) R := by
  have put : ∀ i : Nat, i ≤ o.length → posU n o = i → (i = o.length ∨ ¬ o.getD i 0 = n) → ∀ b : Bool, b = true → Ev (fun k => spec_NeighborsIn.j4 k l node o x6 n i b) R := fun i hi hp hc b hb => by
    have e : insU n o = o.take i ++ [n] ++ o.drop i := by
      unfold insU
      rw [hp, if_pos hc]
    rw [e] at h6
    refine Ev.step (fun k => ?_) h6
    simp only [spec_NeighborsIn.j4]
    rw [if_pos hb, Option.bind_some, if_pos (by omega), if_pos (by omega), Option.bind_some, Int.toNat_natCast, if_pos (by simp; omega), Option.bind_some, Option.bind_some, if_pos (by simp; omega), Option.bind_some, Option.bind_some, if_pos (by simp; omega), List.nil_append]
  intro d
  induction d with
  | zero =>
    intro i hi hp
    rw [List.drop_eq_nil_of_le (by omega)] at hp
    have hp' : posU n o = i := by simpa [posU] using hp
    refine Ev.step (fun k => by simp only [spec_NeighborsIn.l1]; rw [if_neg (by omega)]) ?_
    refine Ev.step (fun k => by simp only [spec_NeighborsIn.j3]; rw [if_neg (by simp), if_pos (by omega)]) (put i (by omega) hp' (.inl (by omega)) true rfl)
  | succ d ih =>
    intro i hi hp
    rw [drop_cons o 0 (by omega), posU] at hp
    refine Ev.step (fun k => by simp only [spec_NeighborsIn.l1]; rw [if_pos (by omega), if_pos (by omega), rd_nat]) ?_
    by_cases hx : o.getD i 0 < n
    · rw [if_pos hx] at hp
      exact Ev.step (fun k => by simp only [spec_NeighborsIn.j3]; rw [if_pos (decide_eq_true hx), wrap_nat (by omega)]) (ih (i + 1) (by omega) (by omega))
    · rw [if_neg hx] at hp
      have hp' : posU n o = i := by omega
      refine Ev.step (fun k => by simp only [spec_NeighborsIn.j3]; rw [if_neg (by simpa using hx), if_neg (by omega), if_pos (by omega), if_pos (by omega), rd_nat]) ?_
      by_cases he : o.getD i 0 = n
      · have e : insU n o = o := by
          unfold insU
          rw [hp', if_neg (by rintro (h | h); omega; exact h he)]
        rw [e] at h6
        exact Ev.step (fun k => by simp only [spec_NeighborsIn.j4]; rw [if_neg (by simpa using he)]) h6
      · exact put i (by omega) hp' (.inr he) _ (by simpa using he)
theorem spec_NeighborsIn.ev (l : List S96) (node : Int) (hl : l.length ≤ 1048576) : Ev (fun k => spec_NeighborsIn.f k l node) (nbs l node) := by
  have h := foldE_index (g := fun k o i => spec_NeighborsIn.l0 k l node o i) (f := fun j o => nbStep node o (l.getD j z96)) (fin := fun o => o) (fun i o => o.length ≤ i) l.length [] (by simp)
    (fun o ho => Ev.one fun k => by simp only [spec_NeighborsIn.l0]; rw [if_neg (by omega)])
    (fun i o hi ho => by
      refine ⟨Nat.le_trans (nbStep_len _ _ _) (by omega), fun r hr => ?_⟩
      rw [show (((i + 1 : Nat) : Int)) = wrap64 ((i : Int) + 1) from (wrap_nat (by omega)).symm] at hr
      have one : ∀ n, nbStep node o (l.getD i z96) = insU n o → Ev (fun k => spec_NeighborsIn.j1 k l node o i n) r := fun n e => by
        rw [e] at hr
        exact Ev.step (fun k => by simp only [spec_NeighborsIn.j1]; rfl) (spec_NeighborsIn.ev_l1 l node o i n (by omega) r hr o.length 0 (by omega) (by simp))
      have rdE : rd_T96 l (i : Int) = l.getD i z96 := rfl
      by_cases h0 : (l.getD i z96).f0 = node
      · exact Ev.step (fun k => by simp only [spec_NeighborsIn.l0]; rw [if_pos (by omega), if_pos (by omega), rdE, if_pos h0]) (one _ (by unfold nbStep; rw [if_pos h0]))
      · by_cases h1 : (l.getD i z96).f1 = node
        · exact Ev.step (fun k => by simp only [spec_NeighborsIn.l0]; rw [if_pos (by omega), if_pos (by omega), rdE, if_neg h0, if_pos h1]) (one _ (by unfold nbStep; rw [if_neg h0, if_pos h1]))
        · have e : nbStep node o (l.getD i z96) = o := by unfold nbStep; rw [if_neg h0, if_neg h1]
          rw [e] at hr
          exact Ev.step (fun k => by simp only [spec_NeighborsIn.l0]; rw [if_pos (by omega), if_pos (by omega), rdE, if_neg h0, if_neg h1]) hr)
  rw [foldl_index l z96 (fun o x => nbStep node o x) []] at h
  exact h

/-! d_negs -/
def negs : List Int → Nat
  | [] => 0
  | x :: l => (if x < 0 then 1 else 0) + negs l
theorem negs_set : ∀ (l : List Int) (j : Nat) (v : Int), j < l.length → l.getD j 0 < 0 → 0 ≤ v → negs (l.set j v) + 1 = negs l
  | [], j, _, h, _, _ => absurd h (Nat.not_lt_zero j)
  | x :: l, 0, v, _, h, hv => by
    rw [List.getD_cons_zero] at h
    rw [List.set_cons_zero, negs, negs, if_neg (by omega), if_pos h]
    omega
  | x :: l, j + 1, v, hj, h, hv => by
    rw [List.getD_cons_succ] at h
    rw [List.set_cons_succ, negs, negs]
    have := negs_set l j v (by simpa using hj) h hv
    omega
theorem negs_rep (n : Nat) : negs (List.replicate n (-1)) = n := by
  induction n with
  | zero => rfl
  | succ n ih => rw [List.replicate_succ, negs, ih, if_pos (by omega)]; omega
theorem rep_get (n j : Nat) (h : j < n) : (List.replicate n (-1 : Int)).getD j 0 = -1 := by
  rw [List.getD_eq_getElem?_getD, List.getElem?_replicate, if_pos h]
  rfl
structure DInv (n : Nat) (d todo : List Int) : Prop where
  len : d.length = n
  neg : todo.length + negs d ≤ n
  mem : ∀ x ∈ todo, 0 ≤ x ∧ x < (n : Int) ∧ 0 ≤ d.getD x.toNat 0
  le : ∀ x ∈ d, x ≤ (todo.length : Int)
theorem DInv.step {n : Nat} {d todo : List Int} (h : DInv n d todo) (at_ x : Int) (ha : 0 ≤ at_ ∧ at_ < (n : Int) ∧ 0 ≤ d.getD at_.toNat 0) (hx0 : 0 ≤ x) (hx1 : x < (n : Int)) (hd : d.getD x.toNat 0 < 0) : DInv n (d.set x.toNat (d.getD at_.toNat 0 + 1)) (todo ++ [x]) := by
  have hle := h.le _ (getD_mem d 0 (show at_.toNat < d.length by rw [h.len]; omega))
  have hs := negs_set d x.toNat (d.getD at_.toNat 0 + 1) (by rw [h.len]; omega) hd (by omega)
  have hn := h.neg
  have hg : ∀ y : Int, 0 ≤ y → y < (n : Int) → 0 ≤ d.getD y.toNat 0 → 0 ≤ (d.set x.toNat (d.getD at_.toNat 0 + 1)).getD y.toNat 0 := fun y h0 h1 h2 => by
    by_cases e : x.toNat = y.toNat
    · rw [e, getD_set_self _ 0 _ (by rw [h.len]; omega)]; omega
    · rw [List.getD_eq_getElem?_getD, List.getElem?_set_ne e, ← List.getD_eq_getElem?_getD]; exact h2
  refine ⟨by rw [List.length_set]; exact h.len, by rw [List.length_append, List.length_singleton]; omega, fun y hy => ?_, fun y hy => ?_⟩
  · rcases List.mem_append.1 hy with hy | hy
    · obtain ⟨a, b, c⟩ := h.mem y hy
      exact ⟨a, b, hg y a b c⟩
    · rw [List.mem_singleton] at hy
      subst hy
      exact ⟨hx0, hx1, by rw [getD_set_self _ 0 _ (by rw [h.len]; omega)]; omega⟩
  · rw [List.length_append, List.length_singleton]
    rcases List.mem_or_eq_of_mem_set hy with hy | hy
    · have := h.le y hy; omega
    · omega

/-! spec_DistancesTo -/
theorem spec_DistancesTo.l2_ok (l : List S96) (nn : Nat) (first dst : Int) (hn : nn ≤ 12) (at_ x12 : Int) (near : List Int) (hN : near.length ≤ 1048576)
    (hnext : ∀ d todo, DInv nn d todo → ∃ r, Ev (fun k => spec_DistancesTo.l1 k l nn first dst d todo (wrap64 (x12 + 1))) r ∧ r.length = nn) :
    ∀ (e i : Nat) (d todo : List Int), i + e = near.length → DInv nn d todo → 0 ≤ at_ ∧ at_ < (nn : Int) ∧ 0 ≤ d.getD at_.toNat 0 → ∃ r, Ev (fun k => spec_DistancesTo.l2 k l nn first dst d todo x12 at_ near (i : Int)) r ∧ r.length = nn := by
  intro e
  induction e with
  | zero =>
    intro i d todo hi h ha
    obtain ⟨r, hr, hl⟩ := hnext d todo h
    exact ⟨r, Ev.step (fun k => by simp only [spec_DistancesTo.l2]; rw [if_neg (by omega)]) hr, hl⟩
  | succ e ih =>
    intro i d todo hi h ha
    have hlen := h.len
    have hneg := h.neg
    have hw : wrap64 ((nn : Int) - 1) = (nn : Int) - 1 := by unfold wrap64; omega
    by_cases c : inR (rd near (i : Int)) 0 ((nn : Int) - 1) = true
    · have c' := c
      unfold inR at c'
      simp only [Bool.and_eq_true, decide_eq_true_eq] at c'
      by_cases c2 : rd d (rd near (i : Int)) < 0
      · have hle := h.le _ (getD_mem d 0 (show at_.toNat < d.length by omega))
        have h2 := h.step at_ (rd near (i : Int)) ha c'.1 (by omega) c2
        obtain ⟨r, hr, hl⟩ := ih (i + 1) _ _ (by omega) h2 ⟨ha.1, ha.2.1, by
          by_cases e2 : (rd near (i : Int)).toNat = at_.toNat
          · rw [e2, getD_set_self _ 0 _ (by omega)]; omega
          · rw [List.getD_eq_getElem?_getD, List.getElem?_set_ne e2, ← List.getD_eq_getElem?_getD]; exact ha.2.2⟩
        refine ⟨r, Ev.step (fun k => ?_) hr, hl⟩
        simp only [spec_DistancesTo.l2]
        rw [if_pos (by omega), if_pos (by omega), spec_l1In.val, Option.bind_some, hw, if_pos c, if_pos c'.1, if_pos (by omega), if_pos c2, if_pos ha.1, if_pos (by omega), if_pos (by omega), wrap_nat (by omega), show wrap64 (rd d at_ + 1) = d.getD at_.toNat 0 + 1 by show wrap64 (d.getD at_.toNat 0 + 1) = _; have := ha.2.2; unfold wrap64; omega]
      · obtain ⟨r, hr, hl⟩ := ih (i + 1) _ _ (by omega) h ha
        refine ⟨r, Ev.step (fun k => ?_) hr, hl⟩
        simp only [spec_DistancesTo.l2]
        rw [if_pos (by omega), if_pos (by omega), spec_l1In.val, Option.bind_some, hw, if_pos c, if_pos c'.1, if_pos (by omega), if_neg c2, wrap_nat (by omega)]
    · obtain ⟨r, hr, hl⟩ := ih (i + 1) _ _ (by omega) h ha
      refine ⟨r, Ev.step (fun k => ?_) hr, hl⟩
      simp only [spec_DistancesTo.l2]
      rw [if_pos (by omega), if_pos (by omega), spec_l1In.val, Option.bind_some, hw, if_neg c, wrap_nat (by omega)]
theorem spec_DistancesTo.l1_ok (l : List S96) (hl : l.length ≤ 1048576) (nn : Nat) (first dst : Int) (hn : nn ≤ 12) :
    ∀ (m i : Nat) (d todo : List Int), nn ≤ i + m → DInv nn d todo → ∃ r, Ev (fun k => spec_DistancesTo.l1 k l nn first dst d todo (i : Int)) r ∧ r.length = nn := by
  intro m
  induction m with
  | zero =>
    intro i d todo hi h
    have hneg := h.neg
    exact ⟨d, Ev.one fun k => by simp only [spec_DistancesTo.l1]; rw [if_neg (by omega)], h.len⟩
  | succ m ih =>
    intro i d todo hi h
    have hneg := h.neg
    by_cases c : (i : Int) < (todo.length : Int)
    · have hmem := h.mem _ (getD_mem todo 0 (show i < todo.length by omega))
      have key : ∀ b : Bool, ∃ r, Ev (fun k => spec_DistancesTo.j2 k l nn first dst d todo (i : Int) (rd todo (i : Int)) b) r ∧ r.length = nn := fun b => by
        have hw : wrap64 ((i : Int) + 1) = ((i + 1 : Nat) : Int) := wrap_nat (by omega)
        cases b with
        | true =>
          obtain ⟨r, hr, hl2⟩ := ih (i + 1) d todo (by omega) h
          exact ⟨r, Ev.step (fun k => by simp only [spec_DistancesTo.j2]; rw [if_pos trivial, hw]) hr, hl2⟩
        | false =>
          have hnl := nbs_len l (rd todo (i : Int))
          obtain ⟨r, hr, hl2⟩ := spec_DistancesTo.l2_ok l nn first dst hn (rd todo (i : Int)) (i : Int) (nbs l (rd todo (i : Int))) (by omega) (fun d' t' h' => by rw [hw]; exact ih (i + 1) d' t' (by omega) h') (nbs l (rd todo (i : Int))).length 0 d todo (by omega) h hmem
          exact ⟨r, Ev.step (fun k => by simp only [spec_DistancesTo.j2]; rw [if_neg (by simp)]) (Ev.bind (spec_NeighborsIn.ev l _ hl) hr), hl2⟩
      by_cases c2 : rd todo (i : Int) = dst
      · obtain ⟨r, hr, hl2⟩ := key false
        exact ⟨r, Ev.step (fun k => by simp only [spec_DistancesTo.l1]; rw [if_pos c, if_pos (by omega), if_pos c2]) hr, hl2⟩
      · obtain ⟨r, hr, hl2⟩ := key (decide (rd todo (i : Int) ≥ first))
        exact ⟨r, Ev.step (fun k => by simp only [spec_DistancesTo.l1]; rw [if_pos c, if_pos (by omega), if_neg c2]) hr, hl2⟩
    · exact ⟨d, Ev.one fun k => by simp only [spec_DistancesTo.l1]; rw [if_neg c], h.len⟩
theorem spec_DistancesTo.ok (l : List S96) (hl : l.length ≤ 1048576) (n first dst : Int) : ∃ r, Ev (fun k => spec_DistancesTo.f k l n first dst) r ∧ r.length ≤ 12 ∧ (r ≠ [] → (r.length : Int) = n) := by
  obtain ⟨b, hb, h⟩ := spec_l14Ok.ok n dst
  cases b with
  | false => exact ⟨[], Ev.all fun k => by unfold spec_DistancesTo.f; rw [hb, Option.bind_some, if_neg (by simp)], by simp, fun h => absurd rfl h⟩
  | true =>
    obtain ⟨h1, h2, h3, h4⟩ := h rfl
    obtain ⟨nn, rfl⟩ : ∃ nn : Nat, n = (nn : Int) := ⟨n.toNat, by omega⟩
    have hI : DInv nn ((List.replicate nn (-1 : Int)).set dst.toNat 0) [dst] := by
      have hs := negs_set (List.replicate nn (-1 : Int)) dst.toNat 0 (by rw [List.length_replicate]; omega) (by rw [rep_get _ _ (by omega)]; omega) (by omega)
      rw [negs_rep] at hs
      refine ⟨by rw [List.length_set, List.length_replicate], by rw [List.length_singleton]; omega, fun x hx => ?_, fun x hx => ?_⟩
      · rw [List.mem_singleton] at hx
        subst hx
        exact ⟨h3, h4, by rw [getD_set_self _ 0 _ (by rw [List.length_replicate]; omega)]; omega⟩
      · rw [List.length_singleton]
        rcases List.mem_or_eq_of_mem_set hx with hx | hx
        · have := (List.mem_replicate.1 hx).2; omega
        · omega
    obtain ⟨r, hr, hl2⟩ := spec_DistancesTo.l1_ok l hl nn first dst (by omega) nn 0 _ _ (by omega) hI
    refine ⟨r, ?_, by omega, fun _ => by rw [hl2]⟩
    refine Ev.congr (fun k => by unfold spec_DistancesTo.f; rw [hb, Option.bind_some, if_pos rfl]) ?_
    have : ∀ e i : Nat, i + e = nn → Ev (fun k => spec_DistancesTo.l0 k l (nn : Int) first dst (List.replicate i (-1)) (i : Int)) r := by
      intro e
      induction e with
      | zero =>
        intro i hi
        have : i = nn := by omega
        subst this
        exact Ev.step (fun k => by simp only [spec_DistancesTo.l0]; rw [if_neg (by omega), if_pos h3, if_pos (by rw [List.length_replicate]; omega)]; rfl) hr
      | succ e ih =>
        intro i hi
        refine Ev.step (fun k => ?_) (ih (i + 1) (by omega))
        simp only [spec_DistancesTo.l0]
        rw [if_pos (by omega), if_pos (by rw [List.length_replicate]; omega), wrap_nat (by omega), List.replicate_succ']
    exact this nn 0 (by omega)

/-! spec_NextTo -/
theorem spec_NextTo.l1_ok (l : List S96) (n first dst : Int) (o d : List Int) (j : Nat) (hj : j < d.length) (hd : d.length ≤ 12) (hn : (d.length : Int) = n) (ho : o.length = j) (near : List Int) (hN : near.length ≤ 1048576)
    (hnext : ∀ x : Int, ∃ r, Ev (fun k => spec_NextTo.l0 k l n first dst (o ++ [x]) d (wrap64 ((j : Int) + 1))) r ∧ r.length = d.length) :
    ∀ (e i : Nat) (x12 : Int), i + e = near.length → ∃ r, Ev (fun k => spec_NextTo.l1 k l n first dst o d (j : Int) x12 near (i : Int)) r ∧ r.length = d.length := by
  have fin : ∀ (x12 x14 : Int), ∃ r, Ev (fun k => spec_NextTo.j2 k l n first dst o d (j : Int) x12 near x14 false) r ∧ r.length = d.length := fun x12 x14 => by
    obtain ⟨r, hr, hl⟩ := hnext x12
    exact ⟨r, Ev.step (fun k => by simp only [spec_NextTo.j2]; rw [if_neg (by simp), if_pos (by omega)]) hr, hl⟩
  intro e
  induction e with
  | zero =>
    intro i x12 hi
    obtain ⟨r, hr, hl⟩ := fin x12 (i : Int)
    exact ⟨r, Ev.step (fun k => by simp only [spec_NextTo.l1]; rw [if_neg (by omega)]) hr, hl⟩
  | succ e ih =>
    intro i x12 hi
    have hw : wrap64 (n - 1) = n - 1 := by unfold wrap64; omega
    have key : ∀ b : Bool, ∃ r, Ev (fun k => spec_NextTo.j2 k l n first dst o d (j : Int) x12 near (i : Int) b) r ∧ r.length = d.length := fun b => by
      cases b with
      | false => exact fin x12 (i : Int)
      | true =>
        obtain ⟨r0, hr0, hl0⟩ := ih (i + 1) x12 (by omega)
        obtain ⟨r1, hr1, hl1⟩ := ih (i + 1) (rd near (i : Int)) (by omega)
        by_cases c : inR (rd near (i : Int)) 0 (n - 1) = true
        · have c' := c
          unfold inR at c'
          simp only [Bool.and_eq_true, decide_eq_true_eq] at c'
          by_cases c2 : rd near (i : Int) < first
          · by_cases c3 : rd d (rd near (i : Int)) = wrap64 (rd d (j : Int) - 1)
            · exact ⟨r1, Ev.step (fun k => by simp only [spec_NextTo.j2]; rw [if_pos trivial, if_pos (by omega), if_pos (by omega), spec_l1In.val, Option.bind_some, hw, if_pos c, if_pos c2, if_pos c'.1, if_pos (by omega), if_pos (by omega), if_pos (by omega), if_pos c3, wrap_nat (by omega)]) hr1, hl1⟩
            · exact ⟨r0, Ev.step (fun k => by simp only [spec_NextTo.j2]; rw [if_pos trivial, if_pos (by omega), if_pos (by omega), spec_l1In.val, Option.bind_some, hw, if_pos c, if_pos c2, if_pos c'.1, if_pos (by omega), if_pos (by omega), if_pos (by omega), if_neg c3, wrap_nat (by omega)]) hr0, hl0⟩
          · by_cases c4 : rd near (i : Int) = dst
            · by_cases c3 : rd d (rd near (i : Int)) = wrap64 (rd d (j : Int) - 1)
              · exact ⟨r1, Ev.step (fun k => by simp only [spec_NextTo.j2]; rw [if_pos trivial, if_pos (by omega), if_pos (by omega), spec_l1In.val, Option.bind_some, hw, if_pos c, if_neg c2, if_pos c4, if_pos c'.1, if_pos (by omega), if_pos (by omega), if_pos (by omega), if_pos c3, wrap_nat (by omega)]) hr1, hl1⟩
              · exact ⟨r0, Ev.step (fun k => by simp only [spec_NextTo.j2]; rw [if_pos trivial, if_pos (by omega), if_pos (by omega), spec_l1In.val, Option.bind_some, hw, if_pos c, if_neg c2, if_pos c4, if_pos c'.1, if_pos (by omega), if_pos (by omega), if_pos (by omega), if_neg c3, wrap_nat (by omega)]) hr0, hl0⟩
            · exact ⟨r0, Ev.step (fun k => by simp only [spec_NextTo.j2]; rw [if_pos trivial, if_pos (by omega), if_pos (by omega), spec_l1In.val, Option.bind_some, hw, if_pos c, if_neg c2, if_neg c4, wrap_nat (by omega)]) hr0, hl0⟩
        · exact ⟨r0, Ev.step (fun k => by simp only [spec_NextTo.j2]; rw [if_pos trivial, if_pos (by omega), if_pos (by omega), spec_l1In.val, Option.bind_some, hw, if_neg c, wrap_nat (by omega)]) hr0, hl0⟩
    by_cases c : rd d (j : Int) > 0
    · obtain ⟨r, hr, hl⟩ := key (decide (x12 < 0))
      exact ⟨r, Ev.step (fun k => by simp only [spec_NextTo.l1]; rw [if_pos (by omega), if_pos (by omega), if_pos (by omega), if_pos c]) hr, hl⟩
    · obtain ⟨r, hr, hl⟩ := key false
      exact ⟨r, Ev.step (fun k => by simp only [spec_NextTo.l1]; rw [if_pos (by omega), if_pos (by omega), if_pos (by omega), if_neg c]) hr, hl⟩
theorem spec_NextTo.ok (l : List S96) (hl : l.length ≤ 1048576) (n first dst : Int) : ∃ r, Ev (fun k => spec_NextTo.f k l n first dst) r ∧ r.length ≤ 12 := by
  obtain ⟨d, hd, hd12, hdn⟩ := spec_DistancesTo.ok l hl n first dst
  have : ∀ e j : Nat, j + e = d.length → ∀ o : List Int, o.length = j → ∃ r, Ev (fun k => spec_NextTo.l0 k l n first dst o d (j : Int)) r ∧ r.length = d.length := by
    intro e
    induction e with
    | zero =>
      intro j hj o ho
      exact ⟨o, Ev.one fun k => by simp only [spec_NextTo.l0]; rw [if_neg (by omega)], by omega⟩
    | succ e ih =>
      intro j hj o ho
      have hnl := nbs_len l (j : Int)
      have hne : d ≠ [] := fun h => by rw [h] at hj; simp at hj
      obtain ⟨r, hr, hl2⟩ := spec_NextTo.l1_ok l n first dst o d j (by omega) hd12 (hdn hne) ho (nbs l (j : Int)) (by omega) (fun x => by rw [wrap_nat (by omega)]; exact ih (j + 1) (by omega) _ (by rw [List.length_append, List.length_singleton]; omega)) (nbs l (j : Int)).length 0 (-1) (by omega)
      exact ⟨r, Ev.step (fun k => by simp only [spec_NextTo.l0]; rw [if_pos (by omega)]) (Ev.bind (spec_NeighborsIn.ev l _ hl) hr), hl2⟩
  obtain ⟨r, hr, hl2⟩ := this d.length 0 (by omega) [] rfl
  exact ⟨r, Ev.bind hd hr, by omega⟩

/-! spec_TableOf -/
theorem spec_TableOf.ok (l : List S96) (hl : l.length ≤ 1048576) (n first dst : Int) : ∃ D N, Ev (fun k => spec_TableOf.f k l n first dst) (dst, D, N) ∧ D.length ≤ 12 ∧ N.length ≤ 12 := by
  obtain ⟨D, hD, h1, _⟩ := spec_DistancesTo.ok l hl n first dst
  obtain ⟨N, hN, h2⟩ := spec_NextTo.ok l hl n first dst
  exact ⟨D, N, Ev.bind hD (Ev.bind hN (Ev.now _)), h1, h2⟩

/-! d_fitTi -/
def fitTi (n : Nat) (x : S36) : Prop := x.f1.length ≤ n ∧ x.f2.length ≤ n

/-! spec_l17Tables -/
theorem spec_l17Tables.ok (l : List S96) (hl : l.length ≤ 1048576) (n : Nat) (first : Int) (hn : n ≤ 12) : ∃ r, Ev (fun k => spec_l17Tables.f k l (n : Int) first) r ∧ r.length ≤ 12 ∧ (∀ t ∈ r, fitTi 12 t) ∧ ∀ q, q < r.length → (r.getD q z36).f0 = ((q : Nat) : Int) := by
  have : ∀ e j : Nat, j + e = n → ∀ o : List S36, o.length = j → (∀ t ∈ o, fitTi 12 t) → (∀ q, q < o.length → (o.getD q z36).f0 = ((q : Nat) : Int)) → ∃ r, Ev (fun k => spec_l17Tables.l0 k l (n : Int) first o (j : Int)) r ∧ r.length ≤ n ∧ (∀ t ∈ r, fitTi 12 t) ∧ ∀ q, q < r.length → (r.getD q z36).f0 = ((q : Nat) : Int) := by
    intro e
    induction e with
    | zero =>
      intro j hj o ho hf hd
      exact ⟨o, Ev.one fun k => by simp only [spec_l17Tables.l0]; rw [if_neg (by omega)], by omega, hf, hd⟩
    | succ e ih =>
      intro j hj o ho hf hd
      obtain ⟨D, N, ht, h1, h2⟩ := spec_TableOf.ok l hl (n : Int) first (j : Int)
      obtain ⟨r, hr, hl2, hf2, hd2⟩ := ih (j + 1) (by omega) (o ++ [⟨(j : Int), D, N⟩]) (by rw [List.length_append, List.length_singleton]; omega) (fun t ht => by
        rcases List.mem_append.1 ht with ht | ht
        · exact hf t ht
        · rw [List.mem_singleton] at ht; subst ht; exact ⟨h1, h2⟩) (fun q hq => by
        rw [List.length_append, List.length_singleton] at hq
        by_cases c : q < o.length
        · rw [List.getD_eq_getElem?_getD, List.getElem?_append_left c, ← List.getD_eq_getElem?_getD]; exact hd q c
        · have e : q = o.length := by omega
          subst e
          rw [List.getD_eq_getElem?_getD, List.getElem?_append_right (Nat.le_refl _), Nat.sub_self]
          show ((j : Nat) : Int) = _
          rw [ho])
      exact ⟨r, Ev.step (fun k => by simp only [spec_l17Tables.l0]; rw [if_pos (by omega)]) (Ev.bind ht (Ev.congr (fun k => by rw [if_pos (by omega), wrap_nat (by omega)]) hr)), hl2, hf2, hd2⟩
  obtain ⟨r, hr, hl2, hf, hd⟩ := this n 0 (by omega) [] (by simp) (fun t ht => by cases ht) (fun q hq => by simp at hq)
  exact ⟨r, hr, by omega, hf, hd⟩

/-! d_fitPi -/
def fitPi (n : Nat) (x : S60) : Prop := x.f1.length ≤ n ∧ x.f2.length ≤ n ∧ ∀ t ∈ x.f2, fitTi n t
def fitQi (n : Nat) (l : List S60) : Prop := l.length ≤ n ∧ ∀ x ∈ l, fitPi n x

/-! spec_BuildProgram -/
theorem fitQ_nil : fitQi 1048576 [] := ⟨by simp, fun x hx => by cases hx⟩
def okDst (p : List S60) : Prop := ∀ x ∈ p, ∀ q, q < x.f2.length → (x.f2.getD q z36).f0 = ((q : Nat) : Int)
theorem okDst_nil : okDst [] := fun x hx => by cases hx
def okP (p : List S60) : Prop := okS (p.map (·.f0))
theorem okP_nil : okP [] := ⟨(fun x hx => by cases hx), List.Pairwise.nil⟩
theorem spec_BuildProgram.okS (pl : List S91) (hp : pl.length ≤ 1048576) (nn T : Nat) (fi sk : Int) (hn : nn ≤ 12) (hT1 : 1 ≤ T) (hT2 : T ≤ 1000) : ∃ x y z p b, Ev (fun k => spec_BuildProgram.f k pl (nn : Int) fi 0 (T : Int) sk) (x, y, z, p, b) ∧ fitQi 1048576 p ∧ okDst p ∧ okP p ∧ 0 ≤ x := by
  have bad : Ev (fun k => spec_BuildProgram.j0 k pl (nn : Int) fi 0 (T : Int) sk true) (0, 0, 0, [], false) := Ev.one fun k => by simp only [spec_BuildProgram.j0]; simp
  obtain ⟨fr, hfr⟩ := spec_l17Frame.ok (nn : Int) fi sk
  cases fr with
  | false => exact ⟨_, _, _, _, _, Ev.congr (fun k => by unfold spec_BuildProgram.f; rw [hfr, Option.bind_some, if_neg (by simp)]) bad, fitQ_nil, okDst_nil, okP_nil, Int.le_refl 0⟩
  | true =>
    obtain ⟨ip, hip⟩ := spec_IsPlan.ok pl hp (nn : Int)
    cases ip with
    | false => exact ⟨_, _, _, _, _, Ev.congr (fun k => by unfold spec_BuildProgram.f; rw [hfr, Option.bind_some, if_pos rfl]) (Ev.bind hip bad), fitQ_nil, okDst_nil, okP_nil, Int.le_refl 0⟩
    | true =>
      obtain ⟨sp, hsp, hsl, hspS⟩ := spec_PiecesOf.ok pl hp T hT1 hT2
      have hgo : ∀ R, Ev (fun k => (spec_PiecesOf.f k pl 0 (T : Int)).bind fun t => (spec_l1In.f (t.length : Int) 1 40).bind fun u => if u = true then spec_BuildProgram.l0 k pl (nn : Int) fi t 0 (nn : Int) fi sk [] else some (0, 0, 0, [], false)) R → Ev (fun k => spec_BuildProgram.f k pl (nn : Int) fi 0 (T : Int) sk) R := fun R h =>
        Ev.congr (fun k => by unfold spec_BuildProgram.f; rw [hfr, Option.bind_some, if_pos rfl]) (Ev.bind hip (Ev.step (fun k => by simp only [spec_BuildProgram.j0]; rw [if_neg (by simp)]) h))
      by_cases c : inR (sp.length : Int) 1 40 = true
      · have : ∀ e j : Nat, j + e = sp.length → ∀ o : List S60, o.length ≤ j → (∀ x ∈ o, fitPi 1048576 x) → okDst o → o.map (·.f0) = sp.take j → ∃ r, Ev (fun k => spec_BuildProgram.l0 k pl (nn : Int) fi sp (j : Int) (nn : Int) fi sk o) ((nn : Int), fi, sk, r, true) ∧ r.length ≤ sp.length ∧ (∀ x ∈ r, fitPi 1048576 x) ∧ okDst r ∧ r.map (·.f0) = sp := by
          intro e
          induction e with
          | zero =>
            intro j hj o ho hf hdd hm
            exact ⟨o, Ev.one fun k => by simp only [spec_BuildProgram.l0]; rw [if_neg (by omega)], by omega, hf, hdd, by rw [hm]; exact List.take_of_length_le (by omega)⟩
          | succ e ih =>
            intro j hj o ho hf hdd hm
            obtain ⟨lk, hlk, hll⟩ := spec_LinksAt.ok pl hp ((rd_T56 sp (j : Int)).f0)
            obtain ⟨tb, htb, htl, htf, htd⟩ := spec_l17Tables.ok lk (by omega) nn fi hn
            obtain ⟨r, hr, hl, hf2, hd2, hm2⟩ := ih (j + 1) (by omega) (o ++ [⟨⟨(rd_T56 sp (j : Int)).f0, (rd_T56 sp (j : Int)).f1⟩, lk, tb⟩]) (by rw [List.length_append, List.length_singleton]; omega) (fun x hx => by
              rcases List.mem_append.1 hx with hx | hx
              · exact hf x hx
              · rw [List.mem_singleton] at hx
                subst hx
                exact ⟨by show lk.length ≤ _; omega, by show tb.length ≤ _; omega, fun t ht => by have := htf t ht; unfold fitTi at this ⊢; omega⟩) (fun x hx => by
              rcases List.mem_append.1 hx with hx | hx
              · exact hdd x hx
              · rw [List.mem_singleton] at hx
                subst hx
                exact htd) (by
              rw [List.map_append, hm, List.map_singleton, take_snocS sp z56 (show j < sp.length by omega)]
              rfl)
            refine ⟨r, Ev.step (fun k => by simp only [spec_BuildProgram.l0]; rw [if_pos (by omega), if_pos (by omega)]) ?_, hl, hf2, hd2, hm2⟩
            refine Ev.bind hlk (Ev.bind htb ?_)
            exact Ev.congr (fun k => by rw [if_pos (by omega), wrap_nat (by omega)]) hr
        obtain ⟨r, hr, hl, hf, hd3, hm3⟩ := this sp.length 0 (by omega) [] (by simp) (fun x hx => by cases hx) okDst_nil rfl
        exact ⟨_, _, _, _, _, hgo _ (Ev.bind hsp (Ev.congr (fun k => by rw [spec_l1In.val, Option.bind_some, if_pos c]; rfl) hr)), ⟨by omega, hf⟩, hd3, by unfold okP; rw [hm3]; exact hspS, by omega⟩
      · exact ⟨_, _, _, _, _, hgo _ (Ev.bind hsp (Ev.all fun k => by rw [spec_l1In.val, Option.bind_some, if_neg c])), fitQ_nil, okDst_nil, okP_nil, Int.le_refl 0⟩
theorem spec_BuildProgram.ok (pl : List S91) (hp : pl.length ≤ 1048576) (nn T : Nat) (fi sk : Int) (hn : nn ≤ 12) (hT1 : 1 ≤ T) (hT2 : T ≤ 1000) : ∃ x y z p b, Ev (fun k => spec_BuildProgram.f k pl (nn : Int) fi 0 (T : Int) sk) (x, y, z, p, b) ∧ fitQi 1048576 p ∧ okDst p := by
  obtain ⟨x, y, z, p, b, h, h1, h2, _⟩ := spec_BuildProgram.okS pl hp nn T fi sk hn hT1 hT2
  exact ⟨x, y, z, p, b, h, h1, h2⟩

/-! spec_l11Plan -/
theorem spec_l11Plan.l2_ok (l : List Int) (hl : l.length ≤ 1048576) (nn : Nat) (T : Int) (i j : Int) (B : Nat)
    (hnext : ∀ o p q, o.length ≤ B → Cur p → ∃ r p' q', Ev (fun k => spec_l11Plan.l1 k (nn : Int) T o i (wrap64 (j + 1)) l p q) (r, p', q') ∧ r.length ≤ 288 ∧ Cur p') :
    ∀ (m : Nat) (o : List S91) (x10 p q : Int), o.length + m ≤ B → B ≤ 288 → Cur p → ∃ r p' q', Ev (fun k => spec_l11Plan.l2 k (nn : Int) T o i j x10 (m : Int) l p q) (r, p', q') ∧ r.length ≤ 288 ∧ Cur p' := by
  have fin : ∀ (o : List S91) (x10 x11 p q : Int), o.length ≤ B → Cur p → ∃ r p' q', Ev (fun k => spec_l11Plan.j3 k (nn : Int) T o i j x10 x11 false l p q) (r, p', q') ∧ r.length ≤ 288 ∧ Cur p' := fun o x10 x11 p q ho hp => by
    obtain ⟨r, p', q', hr, h1, h2⟩ := hnext o p q ho hp
    exact ⟨r, p', q', Ev.step (fun k => by simp only [spec_l11Plan.j3]; rw [if_neg (by simp)]) hr, h1, h2⟩
  intro m
  induction m with
  | zero =>
    intro o x10 p q ho hB hp
    obtain ⟨r, p', q', hr, h1, h2⟩ := fin o x10 0 p q (by omega) hp
    exact ⟨r, p', q', Ev.step (fun k => by simp only [spec_l11Plan.l2]; rw [if_neg (by omega)]; rfl) hr, h1, h2⟩
  | succ m ih =>
    intro o x10 p q ho hB hp
    by_cases c : x10 < T
    · obtain ⟨v, p1, q1, e1, _, _, hp1⟩ := spec_l1Below.ok l hl p q 9 hp
      obtain ⟨u, p2, q2, e2, _, _, hp2⟩ := spec_l1Below.ok l hl p1 q1 6 hp1
      obtain ⟨r, p', q', hr, h1, h2⟩ := ih (o ++ [⟨i, j, x10, mn T (wrap64 (wrap64 (x10 + 2) + v))⟩]) (wrap64 (wrap64 (mn T (wrap64 (wrap64 (x10 + 2) + v)) + 1) + u)) p2 q2 (by rw [List.length_append, List.length_singleton]; omega) hB hp2
      refine ⟨r, p', q', Ev.step (fun k => ?_) (Ev.step (f := fun k => spec_l11Plan.l2 k (nn : Int) T (o ++ [⟨i, j, x10, mn T (wrap64 (wrap64 (x10 + 2) + v))⟩]) i j (wrap64 (wrap64 (mn T (wrap64 (wrap64 (x10 + 2) + v)) + 1) + u)) (m : Int) l p2 q2) (g := fun k => spec_l11Plan.j3 k (nn : Int) T o i j x10 ((m + 1 : Nat) : Int) true l p q) (fun k => ?_) hr), h1, h2⟩
      · simp only [spec_l11Plan.l2]
        rw [if_pos (by omega), decide_eq_true c]
      · simp only [spec_l11Plan.j3]
        rw [if_pos trivial, e1, Option.bind_some, spec_Min.val, Option.bind_some, if_pos (by omega), e2, Option.bind_some, show wrap64 (((m + 1 : Nat) : Int) - 1) = (m : Int) by unfold wrap64; omega]
    · obtain ⟨r, p', q', hr, h1, h2⟩ := fin o x10 ((m + 1 : Nat) : Int) p q (by omega) hp
      exact ⟨r, p', q', Ev.step (fun k => by simp only [spec_l11Plan.l2]; rw [if_pos (by omega), decide_eq_false c]) hr, h1, h2⟩
theorem spec_l11Plan.l1_ok (l : List Int) (hl : l.length ≤ 1048576) (nn : Nat) (hn : nn ≤ 12) (T : Int) (i : Nat) (hi : i < nn)
    (hnext : ∀ o p q, o.length ≤ 24 * (i + 1) → Cur p → ∃ r p' q', Ev (fun k => spec_l11Plan.l0 k (nn : Int) T o (wrap64 ((i : Int) + 1)) l p q) (r, p', q') ∧ r.length ≤ 288 ∧ Cur p') :
    ∀ (e j : Nat) (o : List S91) (p q : Int), j + e = nn → o.length ≤ 24 * i + 2 * j → Cur p → ∃ r p' q', Ev (fun k => spec_l11Plan.l1 k (nn : Int) T o (i : Int) (j : Int) l p q) (r, p', q') ∧ r.length ≤ 288 ∧ Cur p' := by
  intro e
  induction e with
  | zero =>
    intro j o p q hj ho hp
    obtain ⟨r, p', q', hr, h1, h2⟩ := hnext o p q (by omega) hp
    exact ⟨r, p', q', Ev.step (fun k => by simp only [spec_l11Plan.l1]; rw [if_neg (by omega)]) hr, h1, h2⟩
  | succ e ih =>
    intro j o p q hj ho hp
    obtain ⟨v, p1, q1, e1, _, _, hp1⟩ := spec_l1Below.ok l hl p q 5 hp
    obtain ⟨u, p2, q2, e2, hu0, hu3, hp2⟩ := spec_l1Below.ok l hl p1 q1 3 hp1
    have hu3' := hu3 (by omega)
    obtain ⟨r, p', q', hr, h1, h2⟩ := spec_l11Plan.l2_ok l hl nn T (i : Int) (j : Int) (24 * i + 2 * (j + 1)) (fun o' p' q' ho' hp' => by rw [wrap_nat (by omega)]; exact ih (j + 1) o' p' q' (by omega) ho' hp') u.toNat o v p2 q2 (by omega) (by omega) hp2
    rw [Int.toNat_of_nonneg hu0] at hr
    exact ⟨r, p', q', Ev.step (fun k => by simp only [spec_l11Plan.l1]; rw [if_pos (by omega), e1, Option.bind_some, e2, Option.bind_some]) hr, h1, h2⟩
theorem spec_l11Plan.ok (l : List Int) (hl : l.length ≤ 1048576) (nn : Nat) (hn : nn ≤ 12) (T : Int) (p q : Int) (hp : Cur p) : ∃ r p' q', Ev (fun k => spec_l11Plan.f k l p q (nn : Int) T) (r, p', q') ∧ r.length ≤ 288 ∧ Cur p' := by
  have : ∀ (e i : Nat) (o : List S91) (p q : Int), i + e = nn → o.length ≤ 24 * i → Cur p → ∃ r p' q', Ev (fun k => spec_l11Plan.l0 k (nn : Int) T o (i : Int) l p q) (r, p', q') ∧ r.length ≤ 288 ∧ Cur p' := by
    intro e
    induction e with
    | zero =>
      intro i o p q hi ho hp
      exact ⟨o, p, q, Ev.one fun k => by simp only [spec_l11Plan.l0]; rw [if_neg (by omega)], by omega, hp⟩
    | succ e ih =>
      intro i o p q hi ho hp
      obtain ⟨r, p', q', hr, h1, h2⟩ := spec_l11Plan.l1_ok l hl nn hn T i (by omega) (fun o' p' q' ho' hp' => by rw [wrap_nat (by omega)]; exact ih (i + 1) o' p' q' (by omega) ho' hp') (nn - (i + 1)) (i + 1) o p q (by omega) (by omega) hp
      exact ⟨r, p', q', Ev.step (fun k => by simp only [spec_l11Plan.l0]; rw [if_pos (by omega), wrap_nat (by omega)]) hr, h1, h2⟩
  exact this nn 0 [] p q (by omega) (by simp) hp

/-! spec_l27Draw -/
theorem spec_l27Draw.okN (l : List Int) (hl : l.length ≤ 1048576) (p q : Int) (hp : Cur p) : ∃ x y z pp p' q', Ev (fun k => spec_l27Draw.f k l p q) (x, y, z, pp, p', q') ∧ fitQi 1048576 pp ∧ okDst pp ∧ okP pp ∧ Cur p' ∧ 0 ≤ x := by
  obtain ⟨pl, p1, q1, h1, hpl, hp1⟩ := spec_l11Plan.ok l hl 6 (by omega) 20 p q hp
  have h1' : Ev (fun k => spec_l11Plan.f k l p q 6 20) (pl, p1, q1) := h1
  obtain ⟨v, p2, q2, e2, _, _, hp2⟩ := spec_l1Below.ok l hl p1 q1 2 hp1
  obtain ⟨x, y, z, pp, b, h3, hf, hd, hS, hx⟩ := spec_BuildProgram.okS pl (by omega) 6 20 4 v (by omega) (by omega) (by omega)
  have h3' : Ev (fun k => spec_BuildProgram.f k pl 6 4 0 20 v) (x, y, z, pp, b) := h3
  exact ⟨x, y, z, pp, p2, q2, Ev.bind h1' (Ev.congr (fun k => by rw [e2, Option.bind_some]) (Ev.bind h3' (Ev.now _))), hf, hd, hS, hp2, hx⟩
theorem spec_l27Draw.okS (l : List Int) (hl : l.length ≤ 1048576) (p q : Int) (hp : Cur p) : ∃ x y z pp p' q', Ev (fun k => spec_l27Draw.f k l p q) (x, y, z, pp, p', q') ∧ fitQi 1048576 pp ∧ okDst pp ∧ okP pp ∧ Cur p' := by
  obtain ⟨x, y, z, pp, p', q', h, h1, h2, h3, h4, _⟩ := spec_l27Draw.okN l hl p q hp
  exact ⟨x, y, z, pp, p', q', h, h1, h2, h3, h4⟩
theorem spec_l27Draw.ok (l : List Int) (hl : l.length ≤ 1048576) (p q : Int) (hp : Cur p) : ∃ x y z pp p' q', Ev (fun k => spec_l27Draw.f k l p q) (x, y, z, pp, p', q') ∧ fitQi 1048576 pp ∧ okDst pp ∧ Cur p' := by
  obtain ⟨x, y, z, pp, p', q', h, h1, h2, _, h4⟩ := spec_l27Draw.okS l hl p q hp
  exact ⟨x, y, z, pp, p', q', h, h1, h2, h4⟩

/-! spec_DrawIsLaw -/
theorem spec_DrawIsLaw.ok (l : List Int) (hl : l.length ≤ 1048576) : ∃ r x y z pp, Ev (fun k => spec_DrawIsLaw.f k l) (r, x, y, z, pp) ∧ r.length ≤ 2 ∧ (∀ v ∈ r, 0 ≤ v) ∧ fitQi 1048576 pp ∧ 0 ≤ x := by
  obtain ⟨q0, h0⟩ := spec_l1New.ev l hl
  obtain ⟨r, p1, q1, e1, h1, h2, hp1⟩ := spec_l27Law.ok l hl 0 q0 ⟨by omega, by omega⟩
  obtain ⟨x, y, z, pp, p2, q2, h3, hf, _, _, _, hx⟩ := spec_l27Draw.okN l hl p1 q1 hp1
  exact ⟨r, x, y, z, pp, Ev.bind h0 (Ev.congr (fun k => by rw [e1, Option.bind_some]) (Ev.bind h3 (Ev.now _))), h1, h2, hf, hx⟩

/-! spec_DrawIsLanding -/
theorem spec_DrawIsLanding.ok (l : List Int) (hl : l.length ≤ 1048576) : ∃ r x y z pp n, Ev (fun k => spec_DrawIsLanding.f k l) (r, x, y, z, pp, n) ∧ r.length ≤ 2 ∧ (∀ v ∈ r, 0 ≤ v) ∧ fitQi 1048576 pp ∧ 0 ≤ x := by
  obtain ⟨r, x, y, z, pp, h1, hr⟩ := spec_DrawIsLaw.ok l hl
  obtain ⟨q0, h0⟩ := spec_l1New.ev l hl
  obtain ⟨v, p1, q1, e1, _, _, _⟩ := spec_l1Below.ok l hl 0 q0 8 ⟨by omega, by omega⟩
  exact ⟨r, x, y, z, pp, wrap64 (v - 1), Ev.bind h1 (Ev.bind h0 (Ev.all fun k => by rw [e1, Option.bind_some])), hr⟩

/-! spec_DrawLandingFor -/
theorem spec_DrawLandingFor.ok (l : List Int) (hl : l.length ≤ 1048576) : ∃ r x y z pp n t, Ev (fun k => spec_DrawLandingFor.f k l) (r, x, y, z, pp, n, t) ∧ r.length ≤ 2 ∧ (∀ v ∈ r, 0 ≤ v) ∧ fitQi 1048576 pp ∧ 0 ≤ x := by
  obtain ⟨r, x, y, z, pp, n, h1, hr⟩ := spec_DrawIsLanding.ok l hl
  obtain ⟨q0, h0⟩ := spec_l1New.ev l hl
  obtain ⟨v, p1, q1, e1, _, _, _⟩ := spec_l1Below.ok l hl 0 q0 22 ⟨by omega, by omega⟩
  exact ⟨r, x, y, z, pp, n, wrap64 (v - 1), Ev.bind h1 (Ev.bind h0 (Ev.all fun k => by rw [e1, Option.bind_some])), hr⟩

/-! slices_IndexFunc_impl_Piece_impl_Piece -/
theorem slices_IndexFunc_impl_Piece_impl_Piece.first (q : S60 → Bool) : ∀ (l : List S60) (i : Nat), slices_IndexFunc_impl_Piece_impl_Piece.idxAt q l i = firstAt q l i
  | [], i => rfl
  | x :: l, i => by rw [slices_IndexFunc_impl_Piece_impl_Piece.idxAt, firstAt, slices_IndexFunc_impl_Piece_impl_Piece.first q l (i + 1)]

/-! d_pieceAt -/
def pieceAt (p : List S60) (t : Int) : Int := firstAt (fun x => inSpan x.f0.f0 x.f0.f1 t) p 0

/-! impl_PieceAt -/
theorem impl_PieceAt.val (a b c : Int) (p : List S60) (t : Int) : impl_PieceAt.f a b c p t = some (pieceAt p t) := by
  unfold impl_PieceAt.f pieceAt slices_IndexFunc_impl_Piece_impl_Piece.idx
  rw [slices_IndexFunc_impl_Piece_impl_Piece.first]
  have : (fun x : S60 => impl_PieceAt.has x.f0.f0 x.f0.f1 t) = fun x => inSpan x.f0.f0 x.f0.f1 t := by
    funext x
    unfold impl_PieceAt.has inSpan isSpan
    rfl
  rw [this]

/-! impl_isIndex -/
theorem impl_isIndex.val (a n : Int) : impl_isIndex.f a n = some (decide (0 ≤ a) && decide (a < n)) := by
  unfold impl_isIndex.f
  by_cases h : a ≥ 0
  · rw [if_pos h]; simp [h]
  · rw [if_neg h]; simp; omega
theorem impl_isIndex.nat (a : Int) (n : Nat) : impl_isIndex.f a (n : Int) = some (idxB a n) := impl_isIndex.val a n

/-! slices_Clone_int_int -/
theorem slices_Clone_int_int.val (l : List Int) (hl : l.length ≤ 1048576) : slices_Clone_int_int.f l = some l := by
  unfold slices_Clone_int_int.f
  rw [if_pos (by omega)]

/-! impl_cloneTable -/
theorem impl_cloneTable.val (x : Int) (l m : List Int) (hl : l.length ≤ 1048576) (hm : m.length ≤ 1048576) : impl_cloneTable.f x l m = some (x, l, m) := by
  unfold impl_cloneTable.f
  rw [slices_Clone_int_int.val l hl, Option.bind_some, slices_Clone_int_int.val m hm, Option.bind_some]

/-! d_tableIn -/
def tableIn (p : List S60) (k d : Int) : Int × List Int × List Int × Bool :=
  if idxB k p.length = true then (if idxB d (rd_T60 p k).f2.length = true then ((rd_T36 (rd_T60 p k).f2 d).f0, (rd_T36 (rd_T60 p k).f2 d).f1, (rd_T36 (rd_T60 p k).f2 d).f2, true) else (0, [], [], false)) else (0, [], [], false)
theorem fit_rd {n : Nat} {p : List S60} (hp : fitQi n p) {k : Int} (hk : idxB k p.length = true) : fitPi n (rd_T60 p k) := by
  obtain ⟨h0, h1⟩ := (idxB_iff _ _).1 hk
  exact hp.2 _ (getD_mem p z60 (by omega))
theorem fit_rdT {n : Nat} {p : List S60} (hp : fitQi n p) {k d : Int} (hk : idxB k p.length = true) (hd : idxB d (rd_T60 p k).f2.length = true) : fitTi n (rd_T36 (rd_T60 p k).f2 d) := by
  obtain ⟨h0, h1⟩ := (idxB_iff _ _).1 hd
  exact (fit_rd hp hk).2.2 _ (getD_mem _ z36 (by omega))
theorem tableIn_len {p : List S60} (hp : fitQi 1048576 p) (k d : Int) : (tableIn p k d).2.1.length ≤ 1048576 ∧ (tableIn p k d).2.2.1.length ≤ 1048576 := by
  unfold tableIn
  split
  · split
    · rename_i h1 h2
      exact fit_rdT hp h1 h2
    · exact ⟨by simp, by simp⟩
  · exact ⟨by simp, by simp⟩

/-! impl_TableIn -/
theorem impl_TableIn.val (a b c : Int) (p : List S60) (k d : Int) (hp : fitQi 1048576 p) : impl_TableIn.f a b c p k d = some (tableIn p k d) := by
  unfold impl_TableIn.f tableIn
  rw [impl_isIndex.nat, Option.bind_some]
  by_cases h : idxB k p.length = true
  · have hf := fit_rd hp h
    obtain ⟨h0, h1⟩ := (idxB_iff _ _).1 h
    rw [if_pos h, if_pos h, if_pos h0, if_pos h1, impl_isIndex.nat, Option.bind_some]
    by_cases h2 : idxB d (rd_T60 p k).f2.length = true
    · have hg := fit_rdT hp h h2
      obtain ⟨h3, h4⟩ := (idxB_iff _ _).1 h2
      rw [if_pos h2, if_pos h2, if_pos h3, if_pos h4, impl_cloneTable.val _ _ _ hg.1 hg.2]; rfl
    · rw [if_neg h2, if_neg h2]
  · rw [if_neg h, if_neg h]

/-! d_land -/
def landUp (node : Int) (T : Int × List Int × List Int × Bool) (site : Int) (s : Int × Int) : Int × Int :=
  if T.2.2.2 = true then (if idxB node T.2.1.length = true then (if rd T.2.1 node < 0 then s else if s.1 < 0 then (site, rd T.2.1 node) else if rd T.2.1 node < s.2 then (site, rd T.2.1 node) else if rd T.2.1 node = s.2 then (if site < s.1 then (site, rd T.2.1 node) else s) else s) else s) else s
def landing (l : List Int) (p : List S60) (node t : Int) : Int := ((List.range' 0 l.length).foldl (fun s j => landUp node (tableIn p (pieceAt p t) (rd l ((j : Nat) : Int))) (rd l ((j : Nat) : Int)) s) (-1, 0)).1

/-! impl_LandingFor -/
theorem impl_LandingFor.ev (l : List Int) (a b c : Int) (p : List S60) (node t : Int) (hl : l.length ≤ 1048576) (hp : fitQi 1048576 p) : Ev (fun k => impl_LandingFor.f k l a b c p node t) (landing l p node t) := by
  refine Ev.congr (fun k => by unfold impl_LandingFor.f; rw [impl_PieceAt.val, Option.bind_some]) ?_
  generalize hq : pieceAt p t = kk
  unfold landing
  rw [hq]
  refine foldE_index (g := fun k (s : Int × Int) i => impl_LandingFor.l0 k node s.1 s.2 kk l l.length i a b c p) (f := fun j s => landUp node (tableIn p kk (rd l ((j : Nat) : Int))) (rd l ((j : Nat) : Int)) s) (fin := fun s => s.1) (fun _ _ => True) l.length (-1, 0) trivial (fun s _ => Ev.one fun k => by simp only [impl_LandingFor.l0]; rw [if_neg (by omega)]) (fun i s hi _ => ⟨trivial, fun r hr => ?_⟩)
  have hlen := (tableIn_len hp kk (rd l ((i : Nat) : Int))).1
  refine Ev.step (fun k => by simp only [impl_LandingFor.l0]; rw [if_pos (by omega), if_pos (by omega), if_pos (by omega), impl_TableIn.val _ _ _ _ _ _ hp, Option.bind_some]) ?_
  generalize tableIn p kk (rd l ((i : Nat) : Int)) = T at hr hlen
  obtain ⟨t0, t1, t2, ok⟩ := T
  have hj : ∀ q, q = true → Ev (fun k => impl_LandingFor.l0 k node s.1 s.2 kk l l.length ((i + 1 : Nat) : Int) a b c p) r → Ev (fun k => impl_LandingFor.j1 k node s.1 s.2 kk (rd l ((i : Nat) : Int)) l l.length i q a b c p t0 t1 t2) r := fun q hq h => Ev.step (fun k => by simp only [impl_LandingFor.j1]; rw [if_pos hq, wrap_nat (by omega)]) h
  dsimp only at hlen hr ⊢
  unfold landUp at hr
  dsimp only at hr
  by_cases h1 : ok = true
  · rw [if_pos h1] at hr
    refine Ev.congr (fun k => by rw [if_pos h1, impl_isIndex.nat, Option.bind_some]) ?_
    by_cases h2 : idxB node t1.length = true
    · rw [if_pos h2] at hr
      obtain ⟨h3, h4⟩ := (idxB_iff _ _).1 h2
      refine Ev.congr (fun k => by rw [if_pos h2, if_pos h3, if_pos h4]) ?_
      by_cases h5 : rd t1 node < 0
      · rw [if_pos h5] at hr
        exact hj _ (decide_eq_true h5) hr
      · rw [if_neg h5] at hr
        refine Ev.step (fun k => by simp only [impl_LandingFor.j1]; rw [if_neg (by simpa using h5), wrap_nat (by omega), if_pos h3, if_pos h4]) ?_
        by_cases h6 : s.1 < 0
        · rw [if_pos h6] at hr
          exact Ev.congr (fun k => by rw [if_pos h6]) hr
        · rw [if_neg h6] at hr
          refine Ev.congr (fun k => by rw [if_neg h6]) ?_
          by_cases h7 : rd t1 node < s.2
          · rw [if_pos h7] at hr
            exact Ev.congr (fun k => by rw [if_pos h7]) hr
          · rw [if_neg h7] at hr
            refine Ev.congr (fun k => by rw [if_neg h7]) ?_
            by_cases h8 : rd t1 node = s.2
            · rw [if_pos h8] at hr
              refine Ev.congr (fun k => by rw [if_pos h8]) ?_
              by_cases h9 : rd l ((i : Nat) : Int) < s.1
              · rw [if_pos h9] at hr
                exact Ev.congr (fun k => by rw [if_pos h9]) hr
              · rw [if_neg h9] at hr
                exact Ev.congr (fun k => by rw [if_neg h9]) hr
            · rw [if_neg h8] at hr
              exact Ev.congr (fun k => by rw [if_neg h8]) hr
    · rw [if_neg h2] at hr
      exact Ev.congr (fun k => by rw [if_neg h2]) (hj _ rfl hr)
  · rw [if_neg h1] at hr
    exact Ev.congr (fun k => by rw [if_neg h1]) (hj _ rfl hr)

/-! laws_contains -/
theorem laws_contains.ev (l : List Int) (a : Int) (hl : l.length ≤ 1048576) : Ev (fun k => laws_contains.f k l a) (hasB l a) := by
  have h := find_list (g := fun k i => laws_contains.l0 k l a i) (q := fun x => x == a) (r := true) (e := false) l 0
    (Ev.one fun k => by simp only [laws_contains.l0]; rw [if_neg (by omega)])
    (fun i k hi => by
      simp only [laws_contains.l0]
      rw [if_pos (by omega), if_pos (by omega), wrap_nat (by omega), rd_nat]
      by_cases h : l.getD i 0 = a
      · rw [if_pos h, if_pos (by simpa using h)]
      · rw [if_neg h, if_neg (by simpa using h)])
  rw [ite_bool] at h
  exact h

/-! spec_l1Once -/
theorem spec_l1Once.ok (l : List Int) (hl : l.length ≤ 1048576) (p q n : Int) (hp : Cur p) : ∃ b p' q', spec_l1Once.f l p q n = some (b, p', q') ∧ Cur p' := by
  unfold spec_l1Once.f
  obtain ⟨v, p1, q1, e, h0, h1, hp1⟩ := spec_l1Below.ok l hl p q n hp
  rw [e]
  exact ⟨_, _, _, rfl, hp1⟩

/-! spec_l26Flow -/
theorem spec_l26Flow.ok (l : List Int) (hl : l.length ≤ 1048576) (p q : Int) (hp : Cur p) : ∃ a b c d p' q', spec_l26Flow.f l p q = some (a, b, c, d, p', q') ∧ Cur p' := by
  obtain ⟨v1, p1, q1, e1, _, _, hp1⟩ := spec_l1Below.ok l hl p q 5 hp
  obtain ⟨v2, p2, q2, e2, _, _, hp2⟩ := spec_l1Below.ok l hl p1 q1 9 hp1
  obtain ⟨v3, p3, q3, e3, _, _, hp3⟩ := spec_l1Below.ok l hl p2 q2 4 hp2
  obtain ⟨v4, p4, q4, e4, _, _, hp4⟩ := spec_l1Below.ok l hl p3 q3 3 hp3
  exact ⟨_, _, _, _, p4, q4, by unfold spec_l26Flow.f; rw [e1, Option.bind_some, e2, Option.bind_some, e3, Option.bind_some, e4, Option.bind_some], hp4⟩

/-! spec_l26List -/
theorem spec_l26List.ok_l (l : List Int) (hl : l.length ≤ 1048576) (n : Nat) (hn : n ≤ 8) : ∀ (e i : Nat) (o : List S45) (p q : Int), i + e = n → o.length ≤ i → Cur p → ∃ r p' q', Ev (fun k => spec_l26List.l0 k o (n : Int) (i : Int) l p q) (r, p', q') ∧ r.length ≤ 8 ∧ Cur p' := by
  intro e
  induction e with
  | zero =>
    intro i o p q hi ho hp
    exact ⟨o, p, q, Ev.one fun k => by simp only [spec_l26List.l0]; rw [if_neg (by omega)], by omega, hp⟩
  | succ e ih =>
    intro i o p q hi ho hp
    obtain ⟨a, b, c, d, p1, q1, e1, hp1⟩ := spec_l26Flow.ok l hl p q hp
    obtain ⟨r, p', q', hr, h1, h2⟩ := ih (i + 1) (o ++ [⟨wrap64 (20 + (i : Int)), b, c, d⟩]) p1 q1 (by omega) (by rw [List.length_append, List.length_singleton]; omega) hp1
    exact ⟨r, p', q', Ev.step (fun k => by simp only [spec_l26List.l0]; rw [if_pos (by omega), e1, Option.bind_some, if_pos (by omega), wrap_nat (by omega)]) hr, h1, h2⟩
theorem spec_l26List.ok (l : List Int) (hl : l.length ≤ 1048576) (p q : Int) (hp : Cur p) : ∃ r p' q', Ev (fun k => spec_l26List.f k l p q) (r, p', q') ∧ r.length ≤ 8 ∧ Cur p' := by
  obtain ⟨v, p1, q1, e1, h0, h5, hp1⟩ := spec_l1Below.ok l hl p q 5 hp
  have h5' := h5 (by omega)
  obtain ⟨b, p2, q2, e2, hp2⟩ := spec_l1Once.ok l hl p1 q1 10 hp1
  cases b with
  | true =>
    obtain ⟨r, p', q', hr, h1, h2⟩ := spec_l26List.ok_l l hl 8 (by omega) 8 0 [] p2 q2 (by omega) (by simp) hp2
    have hr' : Ev (fun k => spec_l26List.l0 k [] 8 0 l p2 q2) (r, p', q') := hr
    exact ⟨r, p', q', Ev.congr (fun k => by unfold spec_l26List.f; rw [Option.bind_some, e1, Option.bind_some, e2, Option.bind_some, if_pos rfl]) (Ev.step (g := fun k => spec_l26List.j0 k [] 8 l p2 q2) (fun k => by simp only [spec_l26List.j0]) hr'), h1, h2⟩
  | false =>
    obtain ⟨r, p', q', hr, h1, h2⟩ := spec_l26List.ok_l l hl v.toNat (by omega) v.toNat 0 [] p2 q2 (by omega) (by simp) hp2
    rw [Int.toNat_of_nonneg h0] at hr
    have hr' : Ev (fun k => spec_l26List.l0 k [] v 0 l p2 q2) (r, p', q') := hr
    exact ⟨r, p', q', Ev.congr (fun k => by unfold spec_l26List.f; rw [Option.bind_some, e1, Option.bind_some, e2, Option.bind_some, if_neg (by simp)]) (Ev.step (g := fun k => spec_l26List.j0 k [] v l p2 q2) (fun k => by simp only [spec_l26List.j0]) hr'), h1, h2⟩

/-! spec_DrawLawfulFlows -/
theorem spec_DrawLawfulFlows.ok (l : List Int) (hl : l.length ≤ 1048576) : ∃ r x y z pp fs, Ev (fun k => spec_DrawLawfulFlows.f k l) (r, x, y, z, pp, fs) ∧ r.length ≤ 2 ∧ fs.length ≤ 8 := by
  obtain ⟨r, x, y, z, pp, h1, hr, _⟩ := spec_DrawIsLaw.ok l hl
  obtain ⟨q0, h0⟩ := spec_l1New.ev l hl
  obtain ⟨fl, p2, q2, h2, hfl, _⟩ := spec_l26List.ok l hl 0 q0 ⟨by omega, by omega⟩
  by_cases c : (fl.length : Int) > 0
  · exact ⟨r, x, y, z, pp, _, Ev.bind h1 (Ev.bind h0 (Ev.bind h2 (Ev.all fun k => by rw [if_pos c, if_pos (show 0 < (fl.length : Int) from c)]))), hr, by rw [List.length_set]; exact hfl⟩
  · exact ⟨r, x, y, z, pp, fl, Ev.bind h1 (Ev.bind h0 (Ev.bind h2 (Ev.all fun k => by rw [if_neg c]))), hr, hfl⟩

/-! slices_Index_int_int -/
theorem slices_Index_int_int.ev_l (l : List Int) (a : Int) (hl : l.length ≤ 1048576) : ∀ (d i : Nat), i + d = l.length → ∃ r, Ev (fun k => slices_Index_int_int.l0 k l a l.length i) r ∧ decide (r ≥ 0) = (l.drop i).any (fun x => x == a) := by
  intro d
  induction d with
  | zero =>
    intro i hi
    exact ⟨-1, Ev.one fun k => by simp only [slices_Index_int_int.l0]; rw [if_neg (by omega)], by rw [List.drop_eq_nil_of_le (by omega)]; rfl⟩
  | succ d ih =>
    intro i hi
    rw [drop_cons l 0 (show i < l.length by omega), List.any_cons]
    by_cases h : a = l.getD i 0
    · refine ⟨(i : Int), Ev.one fun k => ?_, ?_⟩
      · simp only [slices_Index_int_int.l0]
        rw [if_pos (by omega), if_pos (by omega), if_pos (by omega), rd_nat, if_pos h]
      · rw [← h]; simp
    · obtain ⟨r, hr, hd⟩ := ih (i + 1) (by omega)
      refine ⟨r, Ev.step (fun k => ?_) hr, ?_⟩
      · simp only [slices_Index_int_int.l0]
        rw [if_pos (by omega), if_pos (by omega), if_pos (by omega), rd_nat, if_neg h, wrap_nat (by omega)]
      · have : (l.getD i 0 == a) = false := by rw [beq_eq_false_iff_ne]; exact fun e => h e.symm
        rw [this, Bool.false_or, hd]
theorem slices_Index_int_int.ev (l : List Int) (a : Int) (hl : l.length ≤ 1048576) : ∃ r, Ev (fun k => slices_Index_int_int.f k l a) r ∧ decide (r ≥ 0) = hasB l a := by
  have := slices_Index_int_int.ev_l l a hl l.length 0 (by omega)
  rw [List.drop_zero] at this
  exact this

/-! slices_Contains_int_int -/
theorem slices_Contains_int_int.ev (l : List Int) (a : Int) (hl : l.length ≤ 1048576) : Ev (fun k => slices_Contains_int_int.f k l a) (hasB l a) := by
  obtain ⟨r, hr, e⟩ := slices_Index_int_int.ev l a hl
  rw [← e]
  exact Ev.bind hr (Ev.now _)

/-! d_landB -/
def landB (l : List Int) (a b i : Int) : Bool := decide (0 ≤ i) && decide (i < a) && (decide (i < b) || hasB l i)

/-! impl_IsLanding -/
theorem impl_IsLanding.ev (l : List Int) (a b c : Int) (m : List S60) (i : Int) (hl : l.length ≤ 1048576) : Ev (fun k => impl_IsLanding.f k l a b c m i) (landB l a b i) := by
  unfold landB
  by_cases h : i ≥ 0
  · rw [decide_eq_true (show 0 ≤ i from h), Bool.true_and]
    refine Ev.congr (fun k => by unfold impl_IsLanding.f impl_isIndex.f; rw [if_pos h, Option.bind_some]) ?_
    by_cases h2 : i < a
    · rw [decide_eq_true h2, Bool.true_and]
      refine Ev.congr (fun k => by rw [if_pos rfl]) ?_
      by_cases h3 : i < b
      · exact Ev.all fun k => by rw [if_pos h3, decide_eq_true h3]; rfl
      · rw [decide_eq_false h3, Bool.false_or]
        exact Ev.congr (fun k => by rw [if_neg h3]) (Ev.bind (slices_Contains_int_int.ev l i hl) (Ev.now _))
    · exact Ev.all fun k => by rw [decide_eq_false h2, if_neg (by simp)]; rfl
  · exact Ev.all fun k => by unfold impl_IsLanding.f impl_isIndex.f; rw [if_neg h, Option.bind_some, if_neg (by simp), decide_eq_false (show ¬ 0 ≤ i by omega)]; rfl

/-! d_lawful -/
def lawful (l : List Int) (a b : Int) (fs : List S45) : List S45 := (List.range' 0 fs.length).foldl (fun o j => if landB l a b (rd_T45 fs ((j : Nat) : Int)).f2 = true then o ++ [rd_T45 fs ((j : Nat) : Int)] else o) []
theorem lawful_len (l : List Int) (a b : Int) (fs : List S45) : (lawful l a b fs).length ≤ fs.length := by
  have : ∀ d i (o : List S45), ((List.range' i d).foldl (fun o j => if landB l a b (rd_T45 fs ((j : Nat) : Int)).f2 = true then o ++ [rd_T45 fs ((j : Nat) : Int)] else o) o).length ≤ o.length + d := by
    intro d
    induction d with
    | zero => intro i o; exact Nat.le_refl _
    | succ d ih =>
      intro i o
      rw [List.range'_succ, List.foldl_cons]
      refine Nat.le_trans (ih (i + 1) _) ?_
      split
      · rw [List.length_append, List.length_singleton]; omega
      · omega
  have h := this fs.length 0 []
  simpa [lawful] using h

/-! impl_LawfulFlows -/
theorem impl_LawfulFlows.ev (l : List Int) (a b c : Int) (m : List S60) (fs : List S45) (hl : l.length ≤ 1048576) (hf : fs.length ≤ 1048576) : Ev (fun k => impl_LawfulFlows.f k l a b c m fs) (lawful l a b fs) := by
  refine foldE_index (g := fun k o i => impl_LawfulFlows.l0 k o fs fs.length i l a b c m) (f := fun j o => if landB l a b (rd_T45 fs ((j : Nat) : Int)).f2 = true then o ++ [rd_T45 fs ((j : Nat) : Int)] else o) (fin := fun o => o) (fun i o => o.length ≤ i) fs.length [] (by simp) (fun o _ => Ev.one fun k => by simp only [impl_LawfulFlows.l0]; rw [if_neg (by omega)]) (fun i o hi hI => ⟨ite_snoc_len o _ hI, fun R hR => ?_⟩)
  refine Ev.step (fun k => by simp only [impl_LawfulFlows.l0]; rw [if_pos (by omega), if_pos (by omega), if_pos (by omega), wrap_nat (by omega)]) (Ev.bind (impl_IsLanding.ev l a b c m _ hl) ?_)
  by_cases h : landB l a b (rd_T45 fs ((i : Nat) : Int)).f2 = true
  · rw [if_pos h] at hR
    exact Ev.congr (fun k => by rw [if_pos h, if_pos (by omega)]) hR
  · rw [if_neg h] at hR
    exact Ev.congr (fun k => by rw [if_neg h]) hR

/-! d_served -/
def servedBy (l : List Int) (p : List S60) (a t : Int) : Int := countP (fun j => decide (landing l p ((j : Nat) : Int) t ≥ 0)) (mn a 12).toNat

/-! impl_ServedBy -/
theorem impl_ServedBy.ev (l : List Int) (a b c : Int) (p : List S60) (t : Int) (hl : l.length ≤ 1048576) (hp : fitQi 1048576 p) : Ev (fun k => impl_ServedBy.f k l a b c p t) (servedBy l p a t) := by
  have hm : mn a 12 ≤ 12 := by unfold mn; split <;> omega
  have hx2 : ((mn a 12).toNat : Int) = mx 0 (mn a 12) := by unfold mx; split <;> omega
  have h := foldE_index (g := fun k s i => impl_ServedBy.l0 k t s (mx 0 (mn a 12)) i l a b c p) (f := fun i s => if (decide (landing l p ((i : Nat) : Int) t ≥ 0)) = true then wrap64 (s + 1) else s) (fin := fun s => s) (fun _ _ => True) (mn a 12).toNat 0 trivial
    (fun s _ => Ev.one fun k => by simp only [impl_ServedBy.l0]; rw [if_neg (by omega)])
    (fun i s hi _ => ⟨trivial, fun x hx => by
      refine Ev.step (fun k => by simp only [impl_ServedBy.l0]; rw [if_pos (by omega), wrap_nat (by omega)]) (Ev.bind (impl_LandingFor.ev l a b c p _ t hl hp) ?_)
      by_cases h1 : landing l p ((i : Nat) : Int) t ≥ 0
      · rw [if_pos (decide_eq_true h1)] at hx
        exact Ev.congr (fun k => by rw [if_pos h1]) hx
      · rw [if_neg (by simpa using h1)] at hx
        exact Ev.congr (fun k => by rw [if_neg h1]) hx⟩)
  rw [count_countP _ _ (by omega)] at h
  exact h

/-! d_lawB -/
def lawQ (l : List Int) (a b : Int) (i : Nat) : Bool := decide (rd l ((i : Nat) : Int) < b) || decide (rd l ((i : Nat) : Int) ≥ a) || decide (i > 0) && decide (rd l ((i - 1 : Nat) : Int) ≥ rd l ((i : Nat) : Int))
def lawB (l : List Int) (a b : Int) : Bool := if (List.range' 0 l.length).any (lawQ l a b) = true then false else true

/-! impl_IsLaw -/
theorem impl_IsLaw.ev (l : List Int) (a b c : Int) (m : List S60) (hl : l.length ≤ 1048576) : Ev (fun k => impl_IsLaw.f k l a b c m) (lawB l a b) := by
  refine find_index (g := fun k i => impl_IsLaw.l0 k l l.length i l a b c m) l.length (Ev.one fun k => by simp only [impl_IsLaw.l0]; rw [if_neg (by omega)]) (fun i k hi => ?_)
  simp only [impl_IsLaw.l0]
  rw [if_pos (by omega), if_pos (by omega), if_pos (by omega), wrap_nat (by omega)]
  unfold lawQ
  by_cases h1 : rd l ((i : Nat) : Int) < b
  · simp only [if_pos h1, decide_eq_true h1, Bool.true_or, if_true]
  · rw [if_neg h1]
    by_cases h2 : rd l ((i : Nat) : Int) ≥ a
    · simp only [if_pos h2, decide_eq_true h2, Bool.or_true, Bool.true_or, if_true]
    · rw [if_neg h2, decide_eq_false h1, decide_eq_false h2]
      by_cases h3 : i > 0
      · rw [if_pos (by omega), wrap_pred h3 (by omega), if_pos (by omega), if_pos (by omega), decide_eq_true h3]
        by_cases h4 : rd l ((i - 1 : Nat) : Int) ≥ rd l ((i : Nat) : Int)
        · rw [if_pos (show rd l ((i : Nat) : Int) ≤ rd l ((i - 1 : Nat) : Int) from h4), decide_eq_true h4]; rfl
        · rw [if_neg (show ¬ rd l ((i : Nat) : Int) ≤ rd l ((i - 1 : Nat) : Int) from h4), decide_eq_false h4]; rfl
      · rw [if_neg (by omega), decide_eq_false h3]; rfl

/-! d_fborders -/
def siteOk (node : Int) (T : Int × List Int × List Int × Bool) : Prop := T.2.2.2 = true ∧ idxB node T.2.1.length = true ∧ ¬ rd T.2.1 node < 0
theorem landUp_no {node : Int} {T : Int × List Int × List Int × Bool} (site : Int) (s : Int × Int) (h : ¬ siteOk node T) : landUp node T site s = s := by
  unfold landUp
  by_cases h1 : T.2.2.2 = true
  · rw [if_pos h1]
    by_cases h2 : idxB node T.2.1.length = true
    · rw [if_pos h2]
      by_cases h3 : rd T.2.1 node < 0
      · rw [if_pos h3]
      · exact absurd ⟨h1, h2, h3⟩ h
    · rw [if_neg h2]
  · rw [if_neg h1]
theorem landUp_yes {node : Int} {T : Int × List Int × List Int × Bool} (site : Int) (s : Int × Int) (h : siteOk node T) :
    (landUp node T site s = (site, rd T.2.1 node) ∧ (s.1 < 0 ∨ rd T.2.1 node ≤ s.2)) ∨ (landUp node T site s = s ∧ 0 ≤ s.1 ∧ s.2 ≤ rd T.2.1 node) := by
  obtain ⟨h1, h2, h3⟩ := h
  unfold landUp
  rw [if_pos h1, if_pos h2, if_neg h3]
  by_cases h6 : s.1 < 0
  · rw [if_pos h6]; exact Or.inl ⟨rfl, Or.inl h6⟩
  · rw [if_neg h6]
    by_cases h7 : rd T.2.1 node < s.2
    · rw [if_pos h7]; exact Or.inl ⟨rfl, Or.inr (by omega)⟩
    · rw [if_neg h7]
      by_cases h8 : rd T.2.1 node = s.2
      · rw [if_pos h8]
        by_cases h9 : site < s.1
        · rw [if_pos h9]; exact Or.inl ⟨rfl, Or.inr (by omega)⟩
        · rw [if_neg h9]; exact Or.inr ⟨rfl, by omega, by omega⟩
      · rw [if_neg h8]; exact Or.inr ⟨rfl, by omega, by omega⟩
structure LandI (l : List Int) (p : List S60) (kk node : Int) (j : Nat) (s : Int × Int) : Prop where
  least : ∀ i, i < j → siteOk node (tableIn p kk (l.getD i 0)) → 0 ≤ s.1 ∧ s.2 ≤ rd (tableIn p kk (l.getD i 0)).2.1 node
  best : 0 ≤ s.1 → s.1 ∈ l ∧ siteOk node (tableIn p kk s.1) ∧ rd (tableIn p kk s.1).2.1 node = s.2
theorem LandI.step {l : List Int} {p : List S60} {kk node : Int} {j : Nat} {s : Int × Int} (hl : ∀ x ∈ l, 0 ≤ x) (hj : j < l.length) (h : LandI l p kk node j s) :
    LandI l p kk node (j + 1) (landUp node (tableIn p kk (l.getD j 0)) (l.getD j 0) s) := by
  have hm : l.getD j 0 ∈ l := getD_mem l 0 hj
  have h0 := hl _ hm
  by_cases hs : siteOk node (tableIn p kk (l.getD j 0))
  · rcases landUp_yes (l.getD j 0) s hs with ⟨e, hc⟩ | ⟨e, h1, h2⟩
    · rw [e]
      refine ⟨fun i hi hi2 => ⟨h0, ?_⟩, fun _ => ⟨hm, hs, rfl⟩⟩
      by_cases c : i = j
      · subst c; exact Int.le_refl _
      · have := h.least i (by omega) hi2
        show rd (tableIn p kk (l.getD j 0)).2.1 node ≤ _
        omega
    · rw [e]
      refine ⟨fun i hi hi2 => ?_, h.best⟩
      by_cases c : i = j
      · subst c; exact ⟨h1, h2⟩
      · exact h.least i (by omega) hi2
  · rw [landUp_no _ _ hs]
    refine ⟨fun i hi hi2 => ?_, h.best⟩
    by_cases c : i = j
    · subst c; exact absurd hi2 hs
    · exact h.least i (by omega) hi2
theorem landing_inv (l : List Int) (p : List S60) (node t : Int) (hl : ∀ x ∈ l, 0 ≤ x) : ∃ m, LandI l p (pieceAt p t) node l.length (landing l p node t, m) := by
  have : ∀ (d i : Nat) (s : Int × Int), i + d = l.length → LandI l p (pieceAt p t) node i s → LandI l p (pieceAt p t) node l.length ((List.range' i d).foldl (fun s j => landUp node (tableIn p (pieceAt p t) (rd l ((j : Nat) : Int))) (rd l ((j : Nat) : Int)) s) s) := by
    intro d
    induction d with
    | zero => intro i s h hI; rw [show l.length = i by omega]; exact hI
    | succ d ih =>
      intro i s h hI
      rw [List.range'_succ, List.foldl_cons]
      exact ih (i + 1) _ (by omega) (hI.step hl (by omega))
  exact ⟨_, this l.length 0 (-1, 0) (by omega) ⟨fun i hi => absurd hi (Nat.not_lt_zero i), fun h => absurd h (by decide)⟩⟩
theorem lawful_all (l : List Int) (a b : Int) (fs : List S45) : ∀ x ∈ lawful l a b fs, landB l a b x.f2 = true := by
  have : ∀ d i (o : List S45), (∀ x ∈ o, landB l a b x.f2 = true) → ∀ x ∈ (List.range' i d).foldl (fun o j => if landB l a b (rd_T45 fs ((j : Nat) : Int)).f2 = true then o ++ [rd_T45 fs ((j : Nat) : Int)] else o) o, landB l a b x.f2 = true := by
    intro d
    induction d with
    | zero => intro i o h; exact h
    | succ d ih =>
      intro i o h
      rw [List.range'_succ, List.foldl_cons]
      refine ih (i + 1) _ ?_
      by_cases c : landB l a b (rd_T45 fs ((i : Nat) : Int)).f2 = true
      · rw [if_pos c]
        intro x hx
        rcases List.mem_append.1 hx with hx | hx
        · exact h x hx
        · rw [List.mem_singleton] at hx; subst hx; exact c
      · rw [if_neg c]; exact h
  exact this fs.length 0 [] (fun x hx => by cases hx)
theorem served_le (l : List Int) (p : List S60) (a t : Int) (h : 0 ≤ a) : servedBy l p a t ≤ a := by
  unfold servedBy
  have := (countP_le (fun j => decide (landing l p ((j : Nat) : Int) t ≥ 0)) (mn a 12).toNat).2
  have h2 : mn a 12 ≤ a := by unfold mn; split <;> omega
  omega
theorem law_land {l : List Int} {a b n : Int} (h : lawB l a b = true) (hn : 0 ≤ n) (hm : n ∈ l) : landB l a b n = true := by
  obtain ⟨i, hi, e⟩ := List.getElem_of_mem hm
  have hq : lawQ l a b i = false := by
    unfold lawB at h
    by_cases c : (List.range' 0 l.length).any (lawQ l a b) = true
    · rw [if_pos c] at h; cases h
    · rw [List.any_eq_true] at c
      cases hc : lawQ l a b i with
      | false => rfl
      | true => exact absurd ⟨i, List.mem_range'_1.2 ⟨Nat.zero_le i, by omega⟩, hc⟩ c
  have hr : rd l ((i : Nat) : Int) = n := by
    show l.getD i 0 = n
    rw [List.getD_eq_getElem?_getD, List.getElem?_eq_getElem hi]
    exact e
  unfold lawQ at hq
  rw [hr] at hq
  simp only [Bool.or_eq_false_iff, decide_eq_false_iff_not] at hq
  unfold landB
  rw [decide_eq_true hn, decide_eq_true (show n < a by omega), (hasB_iff l n).2 hm, Bool.or_true]
  rfl

/-! @@ FnBorders -/
theorem proved : Stated := by
  intro l0 ⟨hl, hw⟩
  refine Ev.rounds ?_
  refine Ev.congr (fun k => by unfold laws_FnBorders.f; rw [laws_big.val, Option.bind_some]) ?_
  by_cases hb : decide ((l0.length : Int) > 1048576) = true
  · exact Ev.all fun k => by rw [if_pos hb]
  have hb' : ¬ ((l0.length : Int) > 1048576) := fun h => hb (decide_eq_true h)
  obtain ⟨R, x, y, z, p, node, t, hdraw, hR, hR0, hp, hx⟩ := spec_DrawLandingFor.ok l0 (by omega)
  obtain ⟨R2, x2, y2, z2, p2, fs, hdraw2, hR2, hfs⟩ := spec_DrawLawfulFlows.ok l0 (by omega)
  refine Ev.congr (fun k => by rw [if_neg hb]) (Ev.bind hdraw (Ev.bind (impl_LandingFor.ev R x y z p node t (by omega) hp) ?_))
  dsimp only
  refine Ev.congr (fun k => by rw [impl_PieceAt.val, Option.bind_some]) ?_
  obtain ⟨m, hI⟩ := landing_inv R p node t hR0
  have hFl := lawful_len R2 x2 y2 fs
  have hFa := lawful_all R2 x2 y2 fs
  have hLF := impl_LawfulFlows.ev R2 x2 y2 z2 p2 fs (by omega) (by omega)
  generalize landing R p node t = n at hI
  generalize pieceAt p t = kk at hI
  generalize lawful R2 x2 y2 fs = F at hFl hFa hLF
  -- behind the flows
  have hend : Ev (fun k => laws_FnBorders.l1 k t n fs F (F.length : Int) R x y z p R2 x2 y2 z2 p2) true := by
    refine Ev.step (fun k => by simp only [laws_FnBorders.l1]; rw [if_neg (by omega), if_pos (by omega)]) (Ev.bind (impl_ServedBy.ev R x y z p t (by omega) hp) (Ev.congr (fun k => by rw [if_pos (served_le R p x t hx)]) (Ev.bind (impl_IsLaw.ev R x y z p (by omega)) ?_)))
    by_cases hlaw : lawB R x y = true
    · by_cases hn : n < 0
      · exact Ev.all fun k => by rw [if_pos hlaw, if_pos hn]
      · exact Ev.congr (fun k => by rw [if_pos hlaw, if_neg hn]) (Ev.bind (impl_IsLanding.ev R x y z p n (by omega)) (Ev.all fun k => by rw [law_land hlaw (by omega) (hI.best (show 0 ≤ n by omega)).1]))
    · exact Ev.all fun k => by rw [if_neg hlaw]
  have hl1 : ∀ d i : Nat, i + d = F.length → Ev (fun k => laws_FnBorders.l1 k t n fs F (i : Int) R x y z p R2 x2 y2 z2 p2) true := by
    intro d
    induction d with
    | zero =>
      intro i hi
      have : i = F.length := by omega
      subst this
      exact hend
    | succ d ih =>
      intro i hi
      have hm := hFa _ (getD_mem F z45 (show i < F.length by omega))
      refine Ev.step (fun k => by simp only [laws_FnBorders.l1]; rw [if_pos (by omega), if_pos (by omega), show rd_T45 F ((i : Nat) : Int) = F.getD i z45 from rfl]) (Ev.bind (impl_IsLanding.ev R2 x2 y2 z2 p2 _ (by omega)) ?_)
      exact Ev.congr (fun k => by rw [if_pos hm, wrap_nat (by omega)]) (ih (i + 1) (by omega))
  -- the sites
  have hl0 : ∀ d i : Nat, i + d = R.length → Ev (fun k => laws_FnBorders.l0 k l0 node t n kk (i : Int) R x y z p) true := by
    intro d
    induction d with
    | zero =>
      intro i hi
      exact Ev.step (fun k => by simp only [laws_FnBorders.l0]; rw [if_neg (by omega)]) (Ev.bind hdraw2 (Ev.bind hLF (hl1 F.length 0 (by omega))))
    | succ d ih =>
      intro i hi
      have hnext := ih (i + 1) (by omega)
      have hj : ∀ b, b = true → ∀ a c e, Ev (fun k => laws_FnBorders.j2 k l0 node t n kk (i : Int) b R x y z p a c e) true := fun b hb a c e => Ev.step (fun k => by simp only [laws_FnBorders.j2]; rw [if_pos hb, wrap_nat (by omega)]) hnext
      have hls := hI.least i (by omega)
      refine Ev.step (fun k => by simp only [laws_FnBorders.l0]; rw [if_pos (by omega), if_pos (by omega), impl_TableIn.val _ _ _ _ _ _ hp, Option.bind_some, show rd R ((i : Nat) : Int) = R.getD i 0 from rfl]) ?_
      generalize tableIn p kk (R.getD i 0) = T at hls
      by_cases c1 : T.2.2.2 = true
      · by_cases c2 : node < 0
        · exact Ev.congr (fun k => by rw [if_pos c1, if_pos c2]) (hj _ rfl _ _ _)
        · by_cases c3 : node ≥ (T.2.1.length : Int)
          · exact Ev.congr (fun k => by rw [if_pos c1, if_neg c2, if_pos c3]) (hj _ rfl _ _ _)
          · by_cases c4 : rd T.2.1 node < 0
            · exact Ev.congr (fun k => by rw [if_pos c1, if_neg c2, if_neg c3, if_pos (by omega), if_pos (by omega)]) (hj _ (decide_eq_true c4) _ _ _)
            · obtain ⟨hn0, hm⟩ := hls ⟨c1, (idxB_iff _ _).2 ⟨by omega, by omega⟩, c4⟩
              obtain ⟨_, hsn, hd⟩ := hI.best hn0
              change 0 ≤ n at hn0
              change m ≤ rd T.2.1 node at hm
              change siteOk node (tableIn p kk n) at hsn
              change rd (tableIn p kk n).2.1 node = m at hd
              have hx5 := ((idxB_iff _ _).1 hsn.2.1)
              refine Ev.congr (fun k => by rw [if_pos c1, if_neg c2, if_neg c3, if_pos (by omega), if_pos (by omega), decide_eq_false c4]) (Ev.step (fun k => by simp only [laws_FnBorders.j2]; rw [if_neg (by simp), if_neg (by omega), impl_TableIn.val _ _ _ _ _ _ hp, Option.bind_some]) ?_)
              exact Ev.congr (fun k => by rw [if_pos hsn.1, if_pos hx5.1, if_pos hx5.2, if_pos (by omega), if_neg (by omega), wrap_nat (by omega)]) hnext
      · exact Ev.congr (fun k => by rw [if_neg c1]) (hj _ rfl _ _ _)
  have hj0 : ∀ b, b = false → Ev (fun k => laws_FnBorders.j0 k l0 node t n kk b R x y z p) true := fun b hb => Ev.step (fun k => by simp only [laws_FnBorders.j0]; rw [if_neg (by rw [hb]; simp)]; rfl) (hl0 R.length 0 (by omega))
  by_cases hn : n ≥ 0
  · refine Ev.congr (fun k => by rw [if_pos hn]) (Ev.bind (laws_contains.ev R n (by omega)) (hj0 _ ?_))
    rw [(hasB_iff R n).2 (hI.best hn).1]
    rfl
  · exact Ev.congr (fun k => by rw [if_neg hn]) (hj0 _ rfl)

end Go.Proofs.Ythdknilfkbhalaa.PureFnBorders
