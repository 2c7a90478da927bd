/- FnStreams, over numbers and lists alone: what the program's function and the reference's answer is one. Conditions: the numbers are of their kinds. -/
import Derived.Test.YtegkplalnljgjaaKindsFnStreams
import Derived.Test.YtegkplalnljgjaaVFnStreamsBase
namespace Go.Proofs.Ytegkplalnljgjaa.PureFnStreams
open Go.RowKit Go.Proofs.Ytegkplalnljgjaa.PFnStreams Go.Proofs.YtegkplalnljgjaaW.PrintWords Go.Proofs.YtegkplalnljgjaaW.PrintLast Go.Proofs.YtegkplalnljgjaaW.PrintMore Go.Proofs.Ytegkplalnljgjaa.Base
set_option linter.unusedVariables false
set_option linter.unusedSimpArgs false

/-! laws_big -/
theorem laws_big.val (l : List Int) : laws_big.f l = some (decide ((l.length : Int) > 1048576)) := rfl

/-! d_cur -/
def Cur (p : Int) : Prop := 0 ≤ p ∧ p ≤ 1048576
theorem tmod_in {v n : Int} (hv : 0 ≤ v) (hn : 0 < n) : 0 ≤ Int.tmod v n ∧ Int.tmod v n < n := ⟨Int.tmod_nonneg n hv, Int.tmod_lt_of_pos v hn⟩

/-! spec_l1New -/
theorem spec_l1New.ev_l (l : List Int) (hl : l.length ≤ 1048576) : ∀ (d i : Nat), i + d = l.length → ∀ q, ∃ q', Ev (fun k => spec_l1New.l0 k l q i) (l, 0, q') := by
  intro d
  induction d with
  | zero =>
    intro i hi q
    exact ⟨q, Ev.one fun k => by simp only [spec_l1New.l0]; rw [if_neg (by omega)]⟩
  | succ d ih =>
    intro i hi q
    by_cases h : (i : Int) < 4000
    · obtain ⟨q', h'⟩ := ih (i + 1) (by omega) _
      exact ⟨q', Ev.step (fun k => by simp only [spec_l1New.l0]; rw [if_pos (by omega), if_pos h, if_pos (by omega), wrap_nat (by omega)]) h'⟩
    · exact ⟨q, Ev.one fun k => by simp only [spec_l1New.l0]; rw [if_pos (by omega), if_neg h]⟩
theorem spec_l1New.ev (l : List Int) (hl : l.length ≤ 1048576) : ∃ q', Ev (fun k => spec_l1New.f k l) (l, 0, q') :=
  spec_l1New.ev_l l hl l.length 0 (by omega) _

/-! spec_l1Byte -/
theorem spec_l1Byte.ok (l : List Int) (hl : l.length ≤ 1048576) (p q : Int) (hp : Cur p) : ∃ v p' q', spec_l1Byte.f l p q = some (v, p', q') ∧ 0 ≤ v ∧ v ≤ 255 ∧ Cur p' := by
  obtain ⟨h0, h1⟩ := hp
  unfold spec_l1Byte.f
  by_cases h : p < (l.length : Int)
  · rw [if_pos h, if_pos h0]
    refine ⟨_, _, _, rfl, (and255 _).1, (and255 _).2, ?_⟩
    rw [wrap_id (by omega) (by omega)]
    exact ⟨by omega, by omega⟩
  · rw [if_neg h]
    exact ⟨_, _, _, rfl, (and255 _).1, (and255 _).2, h0, h1⟩

/-! spec_l1Below -/
theorem spec_l1Below.ok (l : List Int) (hl : l.length ≤ 1048576) (p q n : Int) (hp : Cur p) : ∃ v p' q', spec_l1Below.f l p q n = some (v, p', q') ∧ 0 ≤ v ∧ (0 < n → v < n) ∧ Cur p' := by
  unfold spec_l1Below.f
  by_cases h : n ≤ 0
  · rw [if_pos h]
    exact ⟨_, _, _, rfl, by omega, by omega, hp⟩
  · rw [if_neg h]
    obtain ⟨v, p1, q1, e, h0, h1, hp1⟩ := spec_l1Byte.ok l hl p q hp
    by_cases h2 : n ≤ 256
    · rw [if_pos h2, e, Option.bind_some, if_neg (by omega)]
      have := tmod_in h0 (show 0 < n by omega)
      exact ⟨_, _, _, rfl, this.1, fun _ => this.2, hp1⟩
    · obtain ⟨v2, p2, q2, e2, h02, h12, hp2⟩ := spec_l1Byte.ok l hl p1 q1 hp1
      obtain ⟨v3, p3, q3, e3, h03, h13, hp3⟩ := spec_l1Byte.ok l hl p2 q2 hp2
      rw [if_neg h2, e, Option.bind_some, e2, Option.bind_some, e3, Option.bind_some, if_neg (by omega)]
      have hw : 0 ≤ wrap64 (wrap64 (wrap64 (v * 65536) + wrap64 (v2 * 256)) + v3) := by unfold wrap64; omega
      have := tmod_in hw (show 0 < n by omega)
      exact ⟨_, _, _, rfl, this.1, fun _ => this.2, hp3⟩

/-! spec_l25Draw -/
theorem spec_l25Draw.ev_l (l : List Int) (hl : l.length ≤ 1048576) (F N : Int) : ∀ (n : Nat) (x : Int) (xs : List Int) (p q : Int), xs.length + n ≤ 4 → Cur p → ∃ L p' q', Ev (fun k => spec_l25Draw.l0 k x n l p q F N xs) (F, N, L, p', q') ∧ L.length ≤ 4 ∧ Cur p' := by
  intro n
  induction n with
  | zero =>
    intro x xs p q hx hp
    exact ⟨xs, p, q, Ev.one fun k => by simp only [spec_l25Draw.l0]; rw [if_neg (by omega)], by omega, hp⟩
  | succ n ih =>
    intro x xs p q hx hp
    obtain ⟨v, p1, q1, e, h0, h1, hp1⟩ := spec_l1Below.ok l hl p q 3 hp
    obtain ⟨L, p2, q2, h, h2, h3⟩ := ih (wrap64 (wrap64 (x + 1) + v)) (xs ++ [wrap64 (wrap64 (x + 1) + v)]) p1 q1 (by rw [List.length_append, List.length_singleton]; omega) hp1
    refine ⟨L, p2, q2, Ev.step (fun k => ?_) h, h2, h3⟩
    simp only [spec_l25Draw.l0]
    rw [if_pos (by omega), e, Option.bind_some, if_pos (by omega), wrap_pred (by omega) (by omega)]
    rfl
theorem spec_l25Draw.ev (l : List Int) (hl : l.length ≤ 1048576) (p q : Int) (hp : Cur p) : ∃ F N L p' q', Ev (fun k => spec_l25Draw.f k l p q) (F, N, L, p', q') ∧ L.length ≤ 4 ∧ Cur p' := by
  obtain ⟨v1, p1, q1, e1, _, _, hp⟩ := spec_l1Below.ok l hl p q 3 hp
  obtain ⟨v2, p2, q2, e2, _, _, hp⟩ := spec_l1Below.ok l hl p1 q1 4 hp
  obtain ⟨v3, p3, q3, e3, h0, h1, hp⟩ := spec_l1Below.ok l hl p2 q2 4 hp
  have hv := h1 (by omega)
  obtain ⟨L, p4, q4, h, h2, h3⟩ := spec_l25Draw.ev_l l hl v1 v2 v3.toNat v2 [] p3 q3 (by simp; omega) hp
  refine ⟨v1, v2, L, p4, q4, Ev.congr (fun k => ?_) h, h2, h3⟩
  unfold spec_l25Draw.f
  rw [e1, Option.bind_some, e2, Option.bind_some, e3, Option.bind_some, show ((v3.toNat : Nat) : Int) = v3 by omega]

/-! spec_l1Int -/
theorem spec_l1Int.ok (l : List Int) (hl : l.length ≤ 1048576) (p q : Int) (xs : List Int) (hx : 0 < xs.length) (hp : Cur p) : ∃ (i : Nat) (p' q' : Int), spec_l1Int.f l p q xs = some (xs.getD i 0, p', q') ∧ i < xs.length ∧ Cur p' := by
  unfold spec_l1Int.f
  obtain ⟨v, p1, q1, e, h0, h1, hp1⟩ := spec_l1Below.ok l hl p q xs.length hp
  have hv := h1 (by omega)
  rw [e, Option.bind_some, if_pos h0, if_pos hv]
  exact ⟨v.toNat, _, _, rfl, by omega, hp1⟩

/-! spec_l25Any -/
theorem spec_l25Any.ev_l (F N : Int) (l : List Int) (p q : Int) : ∀ (d i : Nat) (xs : List Int), i + d = 20 → xs.length ≤ i → ∃ L, Ev (fun k => spec_l25Any.l0 k i l p q F N xs) (F, N, L, p, q) ∧ L.length ≤ 20 := by
  intro d
  induction d with
  | zero =>
    intro i xs hi hx
    exact ⟨xs, Ev.one fun k => by simp only [spec_l25Any.l0]; rw [if_neg (by omega)], by omega⟩
  | succ d ih =>
    intro i xs hi hx
    obtain ⟨L, h, h2⟩ := ih (i + 1) (xs ++ [wrap64 ((wrap64 (N + 1)) + i)]) (by omega) (by rw [List.length_append, List.length_singleton]; omega)
    refine ⟨L, Ev.step (fun k => ?_) h, h2⟩
    simp only [spec_l25Any.l0]
    rw [if_pos (by omega), if_pos (by omega), wrap_nat (by omega)]
theorem spec_l25Any.ev (l : List Int) (hl : l.length ≤ 1048576) (p q : Int) (hp : Cur p) : ∃ F N L p' q', Ev (fun k => spec_l25Any.f k l p q) (F, N, L, p', q') ∧ L.length ≤ 20 ∧ Cur p' := by
  obtain ⟨F, N, L, p1, q1, e1, hL, hp⟩ := spec_l25Draw.ev l hl p q hp
  obtain ⟨v, p2, q2, e2, _, _, hp⟩ := spec_l1Below.ok l hl p1 q1 8 hp
  by_cases h0 : v = 0
  · obtain ⟨i, p3, q3, e3, _, hp⟩ := spec_l1Int.ok l hl p2 q2 [(-1), 9999, 10000, 10001] (by decide) hp
    refine ⟨F, [(-1), 9999, 10000, 10001].getD i 0, L, p3, q3, Ev.congr (fun k => by unfold spec_l25Any.f; rfl) (Ev.bind e1 (Ev.all fun k => ?_)), by omega, hp⟩
    rw [e2, Option.bind_some, if_pos h0, e3, Option.bind_some]
  by_cases h1 : v = 1
  · obtain ⟨i, p3, q3, e3, _, hp⟩ := spec_l1Int.ok l hl p2 q2 [0, 9999, 10000] (by decide) hp
    refine ⟨F, N, L ++ [[0, 9999, 10000].getD i 0], p3, q3, Ev.congr (fun k => by unfold spec_l25Any.f; rfl) (Ev.bind e1 (Ev.all fun k => ?_)), by rw [List.length_append, List.length_singleton]; omega, hp⟩
    rw [e2, Option.bind_some, if_neg h0, if_pos h1, e3, Option.bind_some, if_pos (show L.length < 17592186044416 by omega)]
  by_cases h2 : v = 2
  · obtain ⟨i, p3, q3, e3, _, hp⟩ := spec_l1Int.ok l hl p2 q2 [(-1), 10000, 10001] (by decide) hp
    refine ⟨[(-1), 10000, 10001].getD i 0, N, L, p3, q3, Ev.congr (fun k => by unfold spec_l25Any.f; rfl) (Ev.bind e1 (Ev.all fun k => ?_)), by omega, hp⟩
    rw [e2, Option.bind_some, if_neg h0, if_neg h1, if_pos h2, e3, Option.bind_some]
  by_cases h3 : v = 3
  · obtain ⟨L', h, h4⟩ := spec_l25Any.ev_l F N l p2 q2 20 0 [] (by omega) (by simp)
    refine ⟨F, N, L', p2, q2, Ev.congr (fun k => by unfold spec_l25Any.f; rfl) (Ev.bind e1 (Ev.congr (fun k => ?_) h)), by omega, hp⟩
    rw [e2, Option.bind_some, if_neg h0, if_neg h1, if_neg h2, if_pos h3]
    rfl
  · refine ⟨F, N, L, p2, q2, Ev.congr (fun k => by unfold spec_l25Any.f; rfl) (Ev.bind e1 (Ev.all fun k => ?_)), by omega, hp⟩
    rw [e2, Option.bind_some, if_neg h0, if_neg h1, if_neg h2, if_neg h3]

/-! spec_DrawAcceptAll -/
theorem spec_DrawAcceptAll.ev_l (l : List Int) (hl : l.length ≤ 1048576) (F N : Int) (L : List Int) : ∀ (n : Nat) (xs : List Int) (p q : Int), xs.length + n ≤ 9 → Cur p → ∃ m, Ev (fun k => spec_DrawAcceptAll.l0 k xs n l p q F N L) (F, N, L, m) ∧ m.length ≤ 9 := by
  intro n
  induction n with
  | zero =>
    intro xs p q hx hp
    exact ⟨xs, Ev.one fun k => by simp only [spec_DrawAcceptAll.l0]; rw [if_neg (by omega)], by omega⟩
  | succ n ih =>
    intro xs p q hx hp
    obtain ⟨v, p1, q1, e, h0, h1, hp1⟩ := spec_l1Below.ok l hl p q 9 hp
    obtain ⟨m, h, h2⟩ := ih (xs ++ [v]) p1 q1 (by rw [List.length_append, List.length_singleton]; omega) hp1
    refine ⟨m, Ev.step (fun k => ?_) h, h2⟩
    simp only [spec_DrawAcceptAll.l0]
    rw [if_pos (by omega), e, Option.bind_some, if_pos (by omega), wrap_pred (by omega) (by omega)]
    rfl
theorem spec_DrawAcceptAll.ev (l : List Int) (hl : l.length ≤ 1048576) : ∃ F N L m, Ev (fun k => spec_DrawAcceptAll.f k l) (F, N, L, m) ∧ L.length ≤ 20 ∧ m.length ≤ 9 := by
  obtain ⟨q, e⟩ := spec_l1New.ev l hl
  obtain ⟨F, N, L, p1, q1, e1, hL, hp⟩ := spec_l25Any.ev l hl 0 q ⟨by omega, by omega⟩
  obtain ⟨v, p2, q2, e2, h0, h1, hp⟩ := spec_l1Below.ok l hl p1 q1 9 hp
  have hv := h1 (by omega)
  obtain ⟨m, h, h2⟩ := spec_DrawAcceptAll.ev_l l hl F N L v.toNat [] p2 q2 (by simp; omega) hp
  refine ⟨F, N, L, m, Ev.congr (fun k => by unfold spec_DrawAcceptAll.f; rfl) (Ev.bind e (Ev.bind e1 (Ev.congr (fun k => ?_) h))), hL, h2⟩
  rw [e2, Option.bind_some, show ((v.toNat : Nat) : Int) = v by omega]

/-! impl_InRange -/
theorem impl_InRange.val (a lo hi : Int) : impl_InRange.f a lo hi = some (inR a lo hi) := by
  unfold impl_InRange.f inR
  by_cases h : lo ≤ a
  · rw [if_pos h]; simp [h]
  · rw [if_neg h]; simp; omega

/-! d_streamB -/
def badK (next : Int) (l : List Int) (i : Nat) : Bool := decide (l.getD i 0 ≤ next) || decide (l.getD i 0 > 9999) || (decide (0 < i) && decide (l.getD i 0 ≤ l.getD (i - 1) 0))
def streamB (x y : Int) (l : List Int) : Bool := inR x 0 10000 && inR y 0 10000 && decide ((l.length : Int) ≤ 20) && !(List.range' 0 l.length).any (badK y l)

/-! impl_IsStream -/
theorem impl_IsStream.ev (x y : Int) (l : List Int) (hl : l.length ≤ 1048576) : Ev (fun k => impl_IsStream.f k x y l) (streamB x y l) := by
  have h := find_index (g := fun k i => impl_IsStream.l0 k l l.length i x y l) (q := badK y l) (r := false) (e := true) l.length
    (Ev.one fun k => by
      simp only [impl_IsStream.l0]
      rw [if_neg (by omega)])
    (fun i k hi => by
      simp only [impl_IsStream.l0]
      rw [if_pos (by omega), if_pos (by omega), if_pos (by omega), wrap_nat (by omega)]
      rcases Nat.eq_zero_or_pos i with rfl | hp
      · rw [if_neg (show ¬ ((0 : Nat) : Int) > 0 by omega)]
        show (if l.getD 0 0 ≤ y then _ else if l.getD 0 0 > 9999 then _ else _) = _
        unfold badK
        by_cases h1 : l.getD 0 0 ≤ y
        · rw [if_pos h1, if_pos (by simp only [h1, decide_true, Bool.true_or])]
        · rw [if_neg h1]
          by_cases h2 : l.getD 0 0 > 9999
          · rw [if_pos h2, if_pos (by simp only [h2, decide_true, Bool.true_or, Bool.or_true])]
          · rw [if_neg h2, if_neg (by simp only [h1, h2, decide_false, Bool.false_or, Nat.lt_irrefl, Bool.false_and]; simp)]
      · rw [wrap_pred hp (by omega), if_pos (show ((i : Nat) : Int) > 0 by omega), if_pos (show (0 : Int) ≤ ((i - 1 : Nat) : Int) by omega), if_pos (show ((i - 1 : Nat) : Int) < (l.length : Int) by omega)]
        show (if l.getD i 0 ≤ y then _ else if l.getD i 0 > 9999 then _ else if l.getD i 0 ≤ l.getD (i - 1) 0 then _ else _) = _
        unfold badK
        generalize l.getD i 0 = u
        generalize l.getD (i - 1) 0 = v
        by_cases h1 : u ≤ y <;> by_cases h2 : u > 9999 <;> by_cases h3 : u ≤ v <;> simp [h1, h2, h3, hp] <;> omega)
  rw [ite_notb] at h
  have bad : ∀ b : Bool, b = true → Ev (fun k => impl_IsStream.j0 k b x y l) false := fun b hb => Ev.one fun k => by simp only [impl_IsStream.j0]; rw [if_pos hb]
  have good : ∀ b : Bool, b = false → Ev (fun k => impl_IsStream.j0 k b x y l) (!(List.range' 0 l.length).any (badK y l)) := fun b hb => Ev.step (fun k => by simp only [impl_IsStream.j0]; rw [if_neg (by simp [hb])]) h
  refine Ev.congr (fun k => by unfold impl_IsStream.f; rw [impl_InRange.val, impl_InRange.val, Option.bind_some, Option.bind_some]) ?_
  unfold streamB
  by_cases h1 : inR x 0 10000 = true
  · by_cases h2 : inR y 0 10000 = true
    · refine Ev.congr (fun k => by rw [if_pos h1, if_pos h2]) ?_
      rw [h1, h2]
      by_cases h3 : (l.length : Int) ≤ 20
      · simp only [h3, decide_true, Bool.true_and]
        exact good _ (by simp; omega)
      · simp only [h3, decide_false, Bool.and_false, Bool.false_and, Bool.true_and]
        exact bad _ (by simp; omega)
    · refine Ev.congr (fun k => by rw [if_pos h1, if_neg h2]) ?_
      have h2' : inR y 0 10000 = false := by simpa using h2
      rw [h2']
      simpa using bad true rfl
  · refine Ev.congr (fun k => by rw [if_neg h1]) ?_
    have h1' : inR x 0 10000 = false := by simpa using h1
    rw [h1']
    simpa using bad true rfl

/-! slices_Index_int_int -/
theorem slices_Index_int_int.ev_l (l : List Int) (a : Int) (hl : l.length ≤ 1048576) : ∀ (d i : Nat), i + d = l.length → ∃ r, Ev (fun k => slices_Index_int_int.l0 k l a l.length i) r ∧ decide (r ≥ 0) = (l.drop i).any (fun x => x == a) := by
  intro d
  induction d with
  | zero =>
    intro i hi
    exact ⟨-1, Ev.one fun k => by simp only [slices_Index_int_int.l0]; rw [if_neg (by omega)], by rw [List.drop_eq_nil_of_le (by omega)]; rfl⟩
  | succ d ih =>
    intro i hi
    rw [drop_cons l 0 (show i < l.length by omega), List.any_cons]
    by_cases h : a = l.getD i 0
    · refine ⟨(i : Int), Ev.one fun k => ?_, ?_⟩
      · simp only [slices_Index_int_int.l0]
        rw [if_pos (by omega), if_pos (by omega), if_pos (by omega), rd_nat, if_pos h]
      · rw [← h]; simp
    · obtain ⟨r, hr, hd⟩ := ih (i + 1) (by omega)
      refine ⟨r, Ev.step (fun k => ?_) hr, ?_⟩
      · simp only [slices_Index_int_int.l0]
        rw [if_pos (by omega), if_pos (by omega), if_pos (by omega), rd_nat, if_neg h, wrap_nat (by omega)]
      · have : (l.getD i 0 == a) = false := by rw [beq_eq_false_iff_ne]; exact fun e => h e.symm
        rw [this, Bool.false_or, hd]
theorem slices_Index_int_int.ev (l : List Int) (a : Int) (hl : l.length ≤ 1048576) : ∃ r, Ev (fun k => slices_Index_int_int.f k l a) r ∧ decide (r ≥ 0) = hasB l a := by
  have := slices_Index_int_int.ev_l l a hl l.length 0 (by omega)
  rw [List.drop_zero] at this
  exact this

/-! slices_Contains_int_int -/
theorem slices_Contains_int_int.ev (l : List Int) (a : Int) (hl : l.length ≤ 1048576) : Ev (fun k => slices_Contains_int_int.f k l a) (hasB l a) := by
  obtain ⟨r, hr, e⟩ := slices_Index_int_int.ev l a hl
  rw [← e]
  exact Ev.bind hr (Ev.now _)

/-! slices_Clone_int_int -/
theorem slices_Clone_int_int.val (l : List Int) (hl : l.length ≤ 1048576) : slices_Clone_int_int.f l = some l := by
  unfold slices_Clone_int_int.f
  rw [if_pos (by omega)]

/-! impl_cloneStream -/
theorem impl_cloneStream.val (x y : Int) (l : List Int) (hl : l.length ≤ 1048576) : impl_cloneStream.f x y l = some (x, y, l) := by
  unfold impl_cloneStream.f slices_Clone_int_int.f
  rw [if_pos (by omega), Option.bind_some]

/-! cmp_Less_int -/
theorem cmp_Less_int.val (a b : Int) : cmp_Less_int.f a b = some (decide (a < b)) := by
  unfold cmp_Less_int.f cmp_isNaN_int.f
  simp

/-! d_accept -/
def giv : Int → List Int → List Int × Int × List Int
  | n, [] => ([], n, [])
  | n, x :: l => if x = n then (n :: (giv (wrap64 (n + 1)) l).1, (giv (wrap64 (n + 1)) l).2) else ([], n, x :: l)
theorem giv_len : ∀ (l : List Int) (n : Int), (giv n l).1.length ≤ l.length ∧ (giv n l).2.2.length ≤ l.length
  | [], n => by simp [giv]
  | x :: l, n => by
    obtain ⟨h1, h2⟩ := giv_len l (wrap64 (n + 1))
    rw [giv]
    split
    · simp only [List.length_cons]; omega
    · simp
def posA (n : Int) : List Int → Nat
  | [] => 0
  | x :: l => if x < n then posA n l + 1 else 0
theorem posA_le (n : Int) : ∀ l : List Int, posA n l ≤ l.length
  | [] => Nat.le_refl _
  | x :: l => by
    rw [posA]
    have := posA_le n l
    split
    · simp only [List.length_cons]; omega
    · simp
theorem posA_eq (n : Int) : ∀ (l : List Int) (i : Nat), i ≤ l.length → (∀ t, t < i → l.getD t 0 < n) → (i < l.length → ¬ l.getD i 0 < n) → posA n l = i
  | [], i, h, _, _ => by simp at h; simp [posA, h]
  | x :: l, 0, _, _, h2 => by
    have := h2 (by simp)
    rw [posA, if_neg (by simpa using this)]
  | x :: l, i + 1, h, h1, h2 => by
    rw [posA, if_pos (by simpa using h1 0 (by omega)), posA_eq n l i (by simpa using h) (fun t ht => by simpa using h1 (t + 1) (by omega)) (fun hi => by simpa using h2 (by simpa using hi))]
def ins1 (s : Int) (L : List Int) : List Int := L.take (posA s L) ++ [s] ++ L.drop (posA s L)
theorem ins1_length (s : Int) (L : List Int) : (ins1 s L).length = L.length + 1 := by
  have := posA_le s L
  simp [ins1]; omega
def accept (F N : Int) (L : List Int) (s : Int) : Int × Int × List Int × List Int × Bool :=
  if (streamB F N L && inR s 0 9999) = true then
    if (decide (s < N) || hasB L s) = true then (F, N, L, [], true)
    else if streamB F (giv N (ins1 s L)).2.1 (giv N (ins1 s L)).2.2 = true then (F, (giv N (ins1 s L)).2.1, (giv N (ins1 s L)).2.2, (giv N (ins1 s L)).1, true) else (F, N, L, [], false)
  else (F, N, L, [], false)
theorem streamB_len {x y : Int} {l : List Int} (h : streamB x y l = true) : l.length ≤ 20 := by
  unfold streamB at h
  simp only [Bool.and_eq_true, decide_eq_true_eq] at h
  omega
theorem streamB_mono {x y : Int} {l : List Int} (h : streamB x y l = true) : ∀ i, i + 1 < l.length → l.getD i 0 < l.getD (i + 1) 0 := by
  intro i hi
  unfold streamB at h
  simp only [Bool.and_eq_true, Bool.not_eq_true', List.any_eq_false] at h
  have h2 := h.2 (i + 1) (by simp [List.mem_range']; omega)
  unfold badK at h2
  simp at h2
  have := h2.2
  simp only [List.getD_eq_getElem?_getD]
  omega
theorem streamB_lt {x y : Int} {l : List Int} (h : streamB x y l = true) : ∀ d i, i + d + 1 < l.length → l.getD i 0 < l.getD (i + d + 1) 0 := by
  intro d
  induction d with
  | zero => intro i hi; exact streamB_mono h i hi
  | succ d ih =>
    intro i hi
    have h1 := ih i (by omega)
    have h2 := streamB_mono h (i + d + 1) (by omega)
    rw [show i + (d + 1) + 1 = i + d + 1 + 1 by omega]
    omega
theorem accept_len (F N : Int) (L : List Int) (s : Int) (hl : L.length ≤ 1048576) : (accept F N L s).2.2.1.length ≤ 1048576 ∧ (accept F N L s).2.2.2.1.length ≤ 21 := by
  unfold accept
  split
  · rename_i h
    simp only [Bool.and_eq_true] at h
    have h20 := streamB_len h.1
    split
    · exact ⟨hl, by simp⟩
    · have h1 := giv_len (ins1 s L) N
      rw [ins1_length] at h1
      split
      · exact ⟨by show (giv N (ins1 s L)).2.2.length ≤ _; omega, by show (giv N (ins1 s L)).1.length ≤ _; omega⟩
      · exact ⟨hl, by simp⟩
  · exact ⟨hl, by simp⟩

/-! slices_BinarySearch_int_int -/
theorem slices_BinarySearch_int_int.ev_l (L : List Int) (s : Int) (hL : L.length ≤ 1048576) (hm : ∀ a b, a < b → b < L.length → L.getD a 0 < L.getD b 0) : ∀ (d lo hi : Nat), hi ≤ lo + d → lo ≤ hi → hi ≤ L.length → (∀ t, t < lo → L.getD t 0 < s) → (∀ t, hi ≤ t → t < L.length → ¬ L.getD t 0 < s) →
    ∃ b, Ev (fun k => slices_BinarySearch_int_int.l0 k L s (L.length : Int) lo hi) ((posA s L : Int), b) := by
  have fin : ∀ lo : Nat, lo ≤ L.length → (∀ t, t < lo → L.getD t 0 < s) → (∀ t, lo ≤ t → t < L.length → ¬ L.getD t 0 < s) → ∃ b, Ev (fun k => slices_BinarySearch_int_int.l0 k L s (L.length : Int) lo lo) ((posA s L : Int), b) := by
    intro lo hlo h1 h2
    have hp := posA_eq s L lo hlo h1 (fun h => h2 lo (Nat.le_refl _) h)
    by_cases hlt : lo < L.length
    · by_cases he : L.getD lo 0 = s
      · refine ⟨true, Ev.one fun k => ?_⟩
        simp only [slices_BinarySearch_int_int.l0]
        rw [if_neg (by omega), if_pos (by omega), if_pos (by omega), if_pos (by omega), rd_nat, if_pos he, hp]
      · refine ⟨false, Ev.one fun k => ?_⟩
        simp only [slices_BinarySearch_int_int.l0]
        rw [if_neg (by omega), if_pos (by omega), if_pos (by omega), if_pos (by omega), rd_nat, if_neg he, hp]
        simp [slices_isNaN_int.f]
    · refine ⟨false, Ev.one fun k => ?_⟩
      simp only [slices_BinarySearch_int_int.l0]
      rw [if_neg (by omega), if_neg (by omega), hp]
  intro d
  induction d with
  | zero =>
    intro lo hi h1 h2 h3 h4 h5
    obtain rfl : hi = lo := by omega
    exact fin hi h3 h4 h5
  | succ d ih =>
    intro lo hi h1 h2 h3 h4 h5
    by_cases hlt : lo < hi
    · have hh : wrap64 ((IntKind.u64.wrap (wrap64 ((lo : Int) + (hi : Int)))) / 2) = (((lo + hi) / 2 : Nat) : Int) := by
        rw [wrap_id (x := (lo : Int) + (hi : Int)) (by omega) (by omega)]
        rw [show IntKind.u64.wrap ((lo : Int) + (hi : Int)) = (lo : Int) + (hi : Int) by simp [IntKind.wrap, IntKind.bits, IntKind.signed]; omega]
        rw [wrap_id (by omega) (by omega)]
        omega
      have hm1 : (lo + hi) / 2 < hi := by omega
      have hm2 : lo ≤ (lo + hi) / 2 := by omega
      by_cases hx : L.getD ((lo + hi) / 2) 0 < s
      · obtain ⟨b, hb⟩ := ih ((lo + hi) / 2 + 1) hi (by omega) (by omega) h3 (fun t ht => by
          by_cases e : t = (lo + hi) / 2
          · rw [e]; exact hx
          · have := hm t ((lo + hi) / 2) (by omega) (by omega)
            omega) h5
        refine ⟨b, Ev.step (fun k => ?_) hb⟩
        simp only [slices_BinarySearch_int_int.l0]
        rw [if_pos (by omega), hh, if_pos (by omega), if_pos (by omega), cmp_Less_int.val, Option.bind_some, rd_nat, if_pos (by simpa using hx), wrap_nat (by omega)]
      · obtain ⟨b, hb⟩ := ih lo ((lo + hi) / 2) (by omega) (by omega) (by omega) h4 (fun t ht htl => by
          by_cases e : t = (lo + hi) / 2
          · rw [e]; exact hx
          · have := hm ((lo + hi) / 2) t (by omega) htl
            omega)
        refine ⟨b, Ev.step (fun k => ?_) hb⟩
        simp only [slices_BinarySearch_int_int.l0]
        rw [if_pos (by omega), hh, if_pos (by omega), if_pos (by omega), cmp_Less_int.val, Option.bind_some, rd_nat, if_neg (by simpa using hx)]
    · obtain rfl : hi = lo := by omega
      exact fin hi h3 h4 h5
theorem slices_BinarySearch_int_int.ev (L : List Int) (s : Int) (hL : L.length ≤ 1048576) (hm : ∀ a b, a < b → b < L.length → L.getD a 0 < L.getD b 0) : ∃ b, Ev (fun k => slices_BinarySearch_int_int.f k L s) ((posA s L : Int), b) :=
  slices_BinarySearch_int_int.ev_l L s hL hm L.length 0 L.length (by omega) (by omega) (Nat.le_refl _) (fun t ht => by omega) (fun t h1 h2 => by omega)

/-! impl_AcceptSeq -/
theorem impl_AcceptSeq.ev_l0 (F N : Int) (L : List Int) (F0 : Int) (hL : L.length ≤ 1048576) : ∀ (l : List Int) (n : Int) (o : List Int), l.length ≤ 100 → o.length + l.length ≤ 1048576 →
    Ev (fun k => impl_AcceptSeq.l0 k o F N L F0 n l) (if streamB F0 (giv n l).2.1 (giv n l).2.2 = true then (F0, (giv n l).2.1, (giv n l).2.2, o ++ (giv n l).1, true) else (F, N, L, [], false))
  | [], n, o, hl, ho => by
    refine Ev.step (fun k => by simp only [impl_AcceptSeq.l0]; rw [if_neg (by simp)]) ?_
    refine Ev.step (fun k => by simp only [impl_AcceptSeq.j3]; rfl) ?_
    refine Ev.bind (impl_IsStream.ev F0 n [] (by simp)) (Ev.all fun k => ?_)
    rw [impl_cloneStream.val F N L hL, Option.bind_some]
    simp only [giv, List.append_nil]
    by_cases h : streamB F0 n [] = true
    · rw [if_pos h, if_pos h]
    · rw [if_neg h, if_neg h]
  | x :: l, n, o, hl, ho => by
    simp only [List.length_cons] at hl ho
    by_cases hx : x = n
    · have ih := impl_AcceptSeq.ev_l0 F N L F0 hL l (wrap64 (n + 1)) (o ++ [n]) (by omega) (by simp; omega)
      refine Ev.step (fun k => by
        simp only [impl_AcceptSeq.l0]
        rw [if_pos (by simp only [List.length_cons]; omega), if_pos (by simp only [List.length_cons]; omega), show rd (x :: l) 0 = x from rfl, if_pos hx, if_pos (by omega), if_pos (by simp only [List.length_cons]; omega)]) ?_
      rw [giv, if_pos hx]
      simp only [List.append_assoc, List.singleton_append] at ih
      exact ih
    · refine Ev.step (fun k => by
        simp only [impl_AcceptSeq.l0]
        rw [if_pos (by simp only [List.length_cons]; omega), if_pos (by simp only [List.length_cons]; omega), show rd (x :: l) 0 = x from rfl, if_neg hx]) ?_
      refine Ev.step (fun k => by simp only [impl_AcceptSeq.j3]; rfl) ?_
      refine Ev.bind (impl_IsStream.ev F0 n (x :: l) (by simp only [List.length_cons]; omega)) (Ev.all fun k => ?_)
      rw [impl_cloneStream.val F N L hL, Option.bind_some]
      rw [giv, if_neg hx]
      simp only [List.append_nil]
      by_cases h : streamB F0 n (x :: l) = true
      · rw [if_pos h, if_pos h]
      · rw [if_neg h, if_neg h]
theorem impl_AcceptSeq.ev (F N : Int) (L : List Int) (s : Int) (hL : L.length ≤ 1048576) : Ev (fun k => impl_AcceptSeq.f k F N L s) (accept F N L s) := by
  have bad : ∀ b : Bool, b = true → Ev (fun k => impl_AcceptSeq.j0 k s b F N L) (F, N, L, [], false) := fun b hb => Ev.one fun k => by simp only [impl_AcceptSeq.j0]; rw [if_pos hb, impl_cloneStream.val F N L hL, Option.bind_some]
  refine Ev.bind (impl_IsStream.ev F N L hL) ?_
  unfold accept
  by_cases h1 : streamB F N L = true
  · refine Ev.congr (fun k => by rw [if_pos h1, impl_InRange.val, Option.bind_some]) ?_
    have h20 := streamB_len h1
    by_cases h2 : inR s 0 9999 = true
    · rw [if_pos (by rw [h1, h2]; rfl)]
      have old : ∀ b : Bool, b = true → Ev (fun k => impl_AcceptSeq.j1 k s [] b F N L F N L) (F, N, L, [], true) := fun b hb => Ev.one fun k => by simp only [impl_AcceptSeq.j1]; rw [if_pos hb]
      by_cases h3 : s < N
      · rw [if_pos (by simp [h3])]
        exact Ev.step (fun k => by simp only [impl_AcceptSeq.j0]; rw [if_neg (by simp [h2]), impl_cloneStream.val F N L hL, Option.bind_some, Option.bind_some, if_pos h3]) (old true rfl)
      · refine Ev.step (fun k => by simp only [impl_AcceptSeq.j0]; rw [if_neg (by simp [h2]), impl_cloneStream.val F N L hL, Option.bind_some, Option.bind_some, if_neg h3]) (Ev.bind (slices_Contains_int_int.ev L s hL) ?_)
        by_cases h4 : hasB L s = true
        · rw [if_pos (by simp [h4])]
          exact old _ h4
        · rw [if_neg (by simp [h3, h4])]
          refine Ev.step (fun k => by simp only [impl_AcceptSeq.j1]; rw [if_neg h4]) ?_
          obtain ⟨b, hb⟩ := slices_BinarySearch_int_int.ev L s hL (fun p q hpq hq => by
            have := streamB_lt h1 (q - p - 1) p (by omega)
            rwa [show p + (q - p - 1) + 1 = q by omega] at this)
          have hp := posA_le s L
          have h5 := impl_AcceptSeq.ev_l0 F N L F hL (ins1 s L) N [] (by rw [ins1_length]; omega) (by rw [ins1_length]; simp; omega)
          rw [List.nil_append] at h5
          refine Ev.bind hb (Ev.congr (fun k => ?_) h5)
          unfold slices_Insert_int_int.f
          rw [if_pos ⟨by omega, by simp only [Int.toNat_natCast]; omega, rfl, by omega⟩, Option.bind_some, Int.toNat_natCast]
          rfl
    · rw [if_neg (by simp [h2])]
      exact bad _ (by simp [h2])
  · rw [if_neg (by simp [h1])]
    refine Ev.congr (fun k => by rw [if_neg h1]) ?_
    exact bad _ rfl

/-! d_accAll -/
def accStep (st : Int × Int × List Int × List Int) (s : Int) : Int × Int × List Int × List Int := ((accept st.1 st.2.1 st.2.2.1 s).1, (accept st.1 st.2.1 st.2.2.1 s).2.1, (accept st.1 st.2.1 st.2.2.1 s).2.2.1, st.2.2.2 ++ (accept st.1 st.2.1 st.2.2.1 s).2.2.2.1)
def accAll (l : List Int) (st : Int × Int × List Int × List Int) : Int × Int × List Int × List Int := l.foldl accStep st
theorem accAll_len : ∀ (l : List Int) (st : Int × Int × List Int × List Int), st.2.2.1.length ≤ 1048576 → (accAll l st).2.2.1.length ≤ 1048576 ∧ (accAll l st).2.2.2.length ≤ st.2.2.2.length + 21 * l.length
  | [], st, h => ⟨h, by simp [accAll]⟩
  | s :: l, (F, N, L, o), h => by
    obtain ⟨h1, h2⟩ := accept_len F N L s h
    obtain ⟨h3, h4⟩ := accAll_len l (accStep (F, N, L, o) s) h1
    refine ⟨h3, ?_⟩
    have h5 : (accStep (F, N, L, o) s).2.2.2.length = o.length + (accept F N L s).2.2.2.1.length := List.length_append
    rw [h5] at h4
    show (accAll l (accStep (F, N, L, o) s)).2.2.2.length ≤ o.length + 21 * (l.length + 1)
    omega

/-! impl_AcceptAll -/
theorem impl_AcceptAll.ev_l (l : List Int) (hl : l.length ≤ 4000000) : ∀ (d i : Nat) (F N : Int) (L o : List Int), i + d = l.length → L.length ≤ 1048576 → o.length ≤ 21 * i → Ev (fun k => impl_AcceptAll.l0 k o l (l.length : Int) i F N L) (accAll (l.drop i) (F, N, L, o)) := by
  intro d
  induction d with
  | zero =>
    intro i F N L o hi hL ho
    rw [List.drop_eq_nil_of_le (by omega)]
    exact Ev.one fun k => by simp only [impl_AcceptAll.l0]; rw [if_neg (by omega)]; rfl
  | succ d ih =>
    intro i F N L o hi hL ho
    rw [drop_cons l 0 (by omega)]
    obtain ⟨h1, h2⟩ := accept_len F N L (l.getD i 0) hL
    have h3 := ih (i + 1) (accept F N L (l.getD i 0)).1 (accept F N L (l.getD i 0)).2.1 (accept F N L (l.getD i 0)).2.2.1 (o ++ (accept F N L (l.getD i 0)).2.2.2.1) (by omega) h1 (by rw [List.length_append]; omega)
    refine Ev.step (fun k => by simp only [impl_AcceptAll.l0]; rw [if_pos (by omega), if_pos (by omega), if_pos (by omega), rd_nat, wrap_nat (by omega)]) (Ev.bind (impl_AcceptSeq.ev F N L (l.getD i 0) hL) ?_)
    exact Ev.congr (fun k => by rw [if_pos (by omega)]) h3
theorem impl_AcceptAll.ev (F N : Int) (L l : List Int) (hL : L.length ≤ 1048576) (hl : l.length ≤ 4000000) : Ev (fun k => impl_AcceptAll.f k F N L l) (accAll l (F, N, L, [])) := by
  have := impl_AcceptAll.ev_l l hl l.length 0 F N L [] (by omega) hL (by simp)
  exact Ev.congr (fun k => by unfold impl_AcceptAll.f; rw [impl_cloneStream.val F N L hL, Option.bind_some]; rfl) this

/-! d_eqL -/
def eqL (a b : List Int) : Bool := decide (a = b)
theorem eq_drop (a b : List Int) (i : Nat) (ha : i < a.length) (hb : i < b.length) : (a.drop i = b.drop i) ↔ (a.getD i 0 = b.getD i 0 ∧ a.drop (i + 1) = b.drop (i + 1)) := by
  rw [drop_cons a 0 ha, drop_cons b 0 hb, List.cons.injEq]

/-! slices_Equal_int_int -/
theorem slices_Equal_int_int.ev_l (a b : List Int) (hl : a.length ≤ 1048576) (he : a.length = b.length) : ∀ (d i : Nat), i + d = a.length → Ev (fun k => slices_Equal_int_int.l0 k a b a.length i) (decide (a.drop i = b.drop i)) := by
  intro d
  induction d with
  | zero =>
    intro i hi
    rw [List.drop_eq_nil_of_le (by omega), List.drop_eq_nil_of_le (by omega)]
    refine Ev.one fun k => ?_; simp only [slices_Equal_int_int.l0]; rw [if_neg (by omega)]; simp
  | succ d ih =>
    intro i hi
    by_cases h : a.getD i 0 = b.getD i 0
    · have e : decide (a.drop i = b.drop i) = decide (a.drop (i + 1) = b.drop (i + 1)) := by
        rw [decide_eq_decide, eq_drop a b i (by omega) (by omega)]; simp only [h, true_and]
      rw [e]
      refine Ev.step (fun k => ?_) (ih (i + 1) (by omega))
      simp only [slices_Equal_int_int.l0]
      rw [if_pos (by omega), if_pos (by omega), if_pos (by omega), if_pos (by omega), rd_nat, rd_nat, if_pos h, wrap_nat (by omega)]
    · have e : decide (a.drop i = b.drop i) = false := by
        rw [decide_eq_false_iff_not, eq_drop a b i (by omega) (by omega)]; exact fun hh => h hh.1
      rw [e]
      refine Ev.one fun k => ?_
      simp only [slices_Equal_int_int.l0]
      rw [if_pos (by omega), if_pos (by omega), if_pos (by omega), if_pos (by omega), rd_nat, rd_nat, if_neg h]
theorem slices_Equal_int_int.ev (a b : List Int) (hl : a.length ≤ 1048576) : Ev (fun k => slices_Equal_int_int.f k a b) (eqL a b) := by
  unfold eqL
  by_cases he : a.length = b.length
  · refine Ev.congr (fun k => by unfold slices_Equal_int_int.f; rw [if_pos (by omega)]) ?_
    have := slices_Equal_int_int.ev_l a b hl he a.length 0 (by omega)
    simpa using this
  · refine Ev.all (fun k => ?_)
    unfold slices_Equal_int_int.f
    rw [if_neg (by omega)]
    have : decide (a = b) = false := by rw [decide_eq_false_iff_not]; intro h; exact he (by rw [h])
    rw [this]

/-! impl_EqualStreams -/
theorem impl_EqualStreams.ev (a b : Int) (l : List Int) (c d : Int) (m : List Int) (hl : l.length ≤ 1048576) : Ev (fun k => impl_EqualStreams.f k a b l c d m) (decide (a = c) && decide (b = d) && eqL l m) := by
  by_cases h1 : a = c
  · by_cases h2 : b = d
    · refine Ev.congr (fun k => by unfold impl_EqualStreams.f; rw [if_pos h1, if_pos h2]) ?_
      have e : (decide (a = c) && decide (b = d) && eqL l m) = eqL l m := by simp [h1, h2]
      rw [e]
      exact Ev.bind (slices_Equal_int_int.ev l m hl) (Ev.now _)
    · exact Ev.all fun k => by unfold impl_EqualStreams.f; rw [if_pos h1, if_neg h2]; simp [h2]
  · exact Ev.all fun k => by unfold impl_EqualStreams.f; rw [if_neg h1]; simp [h1]

/-! d_waits -/
def waits (x y : Int) (l : List Int) : Int := if streamB x y l = true then (if (l.length : Int) = 0 then 0 else wrap64 (wrap64 (wrap64 (rd l (wrap64 ((l.length : Int) - 1)) - y) + 1) - (l.length : Int))) else 0

/-! impl_WaitsFor -/
theorem impl_WaitsFor.ev (x y : Int) (l : List Int) (hl : l.length ≤ 1048576) : Ev (fun k => impl_WaitsFor.f k x y l) (waits x y l) := by
  refine Ev.bind (impl_IsStream.ev x y l hl) (Ev.all fun k => ?_)
  unfold waits
  by_cases h : streamB x y l = true
  · rw [if_pos h, if_pos h]
    by_cases h0 : (l.length : Int) = 0
    · rw [if_pos h0, if_pos h0]
    · rw [if_neg h0, if_neg h0, if_pos (by rw [wrap_id (by omega) (by omega)]; omega), if_pos (by rw [wrap_id (by omega) (by omega)]; omega)]
  · rw [if_neg h, if_neg h]

/-! impl_EqualInts -/
theorem impl_EqualInts.ev (a b : List Int) (hl : a.length ≤ 1048576) : Ev (fun k => impl_EqualInts.f k a b) (eqL a b) := Ev.bind (slices_Equal_int_int.ev a b hl) (Ev.now _)

/-! d_streamSet -/
theorem streamB_iff (x y : Int) (l : List Int) : streamB x y l = true ↔ (0 ≤ x ∧ x ≤ 10000) ∧ (0 ≤ y ∧ y ≤ 10000) ∧ l.length ≤ 20 ∧ (∀ t ∈ l, y < t ∧ t ≤ 9999) ∧ l.Pairwise (· < ·) := by
  constructor
  · intro h
    have hlt := fun p q (hpq : p < q) (hq : q < l.length) => (show l.getD p 0 < l.getD q 0 by
      have := streamB_lt h (q - p - 1) p (by omega)
      rwa [show p + (q - p - 1) + 1 = q by omega] at this)
    have h20 := streamB_len h
    unfold streamB inR at h
    simp only [Bool.and_eq_true, decide_eq_true_eq, Bool.not_eq_true', List.any_eq_false] at h
    refine ⟨h.1.1.1, h.1.1.2, h20, fun t ht => ?_, List.pairwise_iff_getElem.2 fun p q hp hq hpq => ?_⟩
    · obtain ⟨i, hi, e⟩ := mem_getD l 0 t ht
      have h2 := h.2 i (by simp [List.mem_range']; omega)
      unfold badK at h2
      rw [← e]
      simp only [Bool.or_eq_true, decide_eq_true_eq, not_or] at h2
      omega
    · have := hlt p q hpq hq
      rw [List.getD_eq_getElem?_getD, List.getD_eq_getElem?_getD, List.getElem?_eq_getElem hp, List.getElem?_eq_getElem hq] at this
      exact this
  · rintro ⟨h1, h2, h3, h4, h5⟩
    unfold streamB inR
    simp only [Bool.and_eq_true, decide_eq_true_eq, Bool.not_eq_true', List.any_eq_false]
    refine ⟨⟨⟨h1, h2⟩, by omega⟩, fun i hi => ?_⟩
    have hi' : i < l.length := by simpa [List.mem_range'] using hi
    have h6 := h4 _ (getD_mem l 0 hi')
    unfold badK
    simp only [Bool.or_eq_true, decide_eq_true_eq, Bool.and_eq_true, not_or, not_and]
    refine ⟨⟨by omega, by omega⟩, fun hp => ?_⟩
    have := List.pairwise_iff_getElem.1 h5 (i - 1) i (by omega) hi' (by omega)
    rw [List.getD_eq_getElem?_getD, List.getD_eq_getElem?_getD, List.getElem?_eq_getElem hi', List.getElem?_eq_getElem (show i - 1 < l.length by omega)]
    show ¬ l[i] ≤ l[i - 1]
    omega
def rangeI (n : Int) (m : Nat) : List Int := (List.range m).map fun j => n + ((j : Nat) : Int)
theorem rangeI_succ (n : Int) (m : Nat) : rangeI n (m + 1) = n :: rangeI (n + 1) m := by
  unfold rangeI
  rw [List.range_succ_eq_map, List.map_cons, List.map_map]
  congr 1
  · simp
  · apply List.map_congr_left
    intro j _
    simp only [Function.comp]
    omega
theorem rangeI_append (n : Int) (a b : Nat) : rangeI n (a + b) = rangeI n a ++ rangeI (n + a) b := by
  unfold rangeI
  rw [List.range_add, List.map_append, List.map_map]
  congr 1
  apply List.map_congr_left
  intro j _
  simp only [Function.comp]
  omega
theorem rangeI_length (n : Int) (m : Nat) : (rangeI n m).length = m := by simp [rangeI]
theorem rangeI_getD (n : Int) (m i : Nat) (h : i < m) : (rangeI n m).getD i 0 = n + i := by
  unfold rangeI
  rw [getD_map _ _ 0 0 (by simpa using h), List.getD_eq_getElem?_getD]
  simp [h]
theorem giv_spec : ∀ (l : List Int) (n : Int), 0 ≤ n → n ≤ 10000 → l.Pairwise (· < ·) → (∀ t ∈ l, n ≤ t ∧ t ≤ 9999) →
    l = (giv n l).1 ++ (giv n l).2.2 ∧ (giv n l).2.1 = n + (giv n l).1.length ∧ (giv n l).1 = rangeI n (giv n l).1.length ∧ (∀ t ∈ (giv n l).2.2, (giv n l).2.1 < t) ∧ (giv n l).2.1 ≤ 10000
  | [], n, h0, h1, _, _ => ⟨rfl, by simp [giv], rfl, by simp [giv], h1⟩
  | x :: l, n, h0, h1, hp, hm => by
    rw [List.pairwise_cons] at hp
    have hx := hm x List.mem_cons_self
    by_cases e : x = n
    · subst e
      obtain ⟨g1, g2, g3, g4, g5⟩ := giv_spec l (x + 1) (by omega) (by omega) hp.2 (fun t ht => ⟨by have := hp.1 t ht; omega, (hm t (List.mem_cons_of_mem _ ht)).2⟩)
      rw [giv, if_pos rfl, wrap_id (by omega) (by omega)]
      refine ⟨by rw [List.cons_append, ← g1], ?_, ?_, g4, g5⟩
      · show (giv (x + 1) l).2.1 = x + ((giv (x + 1) l).1.length + 1 : Nat)
        rw [g2]; omega
      · show x :: (giv (x + 1) l).1 = rangeI x ((giv (x + 1) l).1.length + 1)
        rw [rangeI_succ, ← g3]
    · rw [giv, if_neg e]
      refine ⟨rfl, by simp, rfl, fun t ht => ?_, h1⟩
      show n < t
      cases ht with
      | head => omega
      | tail _ ht => have := hp.1 t ht; omega
theorem ins1_nil (s : Int) : ins1 s [] = [s] := rfl
theorem ins1_lt {x s : Int} (h : x < s) (l : List Int) : ins1 s (x :: l) = x :: ins1 s l := by simp [ins1, posA, if_pos h]
theorem ins1_ge {x s : Int} (h : ¬ x < s) (l : List Int) : ins1 s (x :: l) = s :: x :: l := by simp [ins1, posA, if_neg h]
theorem ins1_mem (s : Int) : ∀ (l : List Int) (t : Int), t ∈ ins1 s l ↔ t = s ∨ t ∈ l
  | [], t => by simp [ins1_nil]
  | x :: l, t => by
    by_cases h : x < s
    · rw [ins1_lt h, List.mem_cons, ins1_mem s l t, List.mem_cons]
      constructor
      · rintro (e | e | e)
        · exact .inr (.inl e)
        · exact .inl e
        · exact .inr (.inr e)
      · rintro (e | e | e)
        · exact .inr (.inl e)
        · exact .inl e
        · exact .inr (.inr e)
    · rw [ins1_ge h, List.mem_cons]
theorem ins1_sorted (s : Int) : ∀ (l : List Int), l.Pairwise (· < ·) → s ∉ l → (ins1 s l).Pairwise (· < ·)
  | [], _, _ => by simp [ins1_nil]
  | x :: l, hp, hs => by
    have hp' := List.pairwise_cons.1 hp
    rw [List.mem_cons, not_or] at hs
    by_cases h : x < s
    · rw [ins1_lt h, List.pairwise_cons]
      refine ⟨fun t ht => ?_, ins1_sorted s l hp'.2 hs.2⟩
      rcases (ins1_mem s l t).1 ht with e | e
      · omega
      · exact hp'.1 t e
    · rw [ins1_ge h, List.pairwise_cons]
      refine ⟨fun t ht => ?_, hp⟩
      rcases List.mem_cons.1 ht with e | e
      · omega
      · have := hp'.1 t e
        omega
/-- One acceptance, where the stream is lawful. -/
theorem accept_spec (F N : Int) (L : List Int) (s : Int) (h : streamB F N L = true) :
    (accept F N L s = (F, N, L, [], (accept F N L s).2.2.2.2) ∧ (0 ≤ s ∧ s ≤ 9999 → (s < N ∨ s ∈ L) ∨ 20 < (giv N (ins1 s L)).2.2.length)) ∨
    (0 ≤ s ∧ s ≤ 9999 ∧ N ≤ s ∧ s ∉ L ∧ accept F N L s = (F, (giv N (ins1 s L)).2.1, (giv N (ins1 s L)).2.2, (giv N (ins1 s L)).1, true) ∧ streamB F (giv N (ins1 s L)).2.1 (giv N (ins1 s L)).2.2 = true) := by
  unfold accept
  by_cases hs : inR s 0 9999 = true
  · rw [if_pos (by rw [h, hs]; rfl)]
    have hs' : 0 ≤ s ∧ s ≤ 9999 := by simpa [inR] using hs
    by_cases h2 : (decide (s < N) || hasB L s) = true
    · rw [if_pos h2]
      refine .inl ⟨rfl, fun _ => .inl ?_⟩
      rw [Bool.or_eq_true, decide_eq_true_eq, hasB_iff] at h2
      exact h2
    · rw [if_neg h2]
      rw [Bool.or_eq_true, decide_eq_true_eq, hasB_iff, not_or] at h2
      by_cases h3 : streamB F (giv N (ins1 s L)).2.1 (giv N (ins1 s L)).2.2 = true
      · rw [if_pos h3]
        exact .inr ⟨hs'.1, hs'.2, by omega, h2.2, rfl, h3⟩
      · rw [if_neg h3]
        refine .inl ⟨rfl, fun _ => .inr ?_⟩
        obtain ⟨a1, a2, a3, a4, a5⟩ := (streamB_iff F N L).1 h
        have g := giv_spec (ins1 s L) N a2.1 a2.2 (ins1_sorted s L a5 h2.2) (fun t ht => by
          rcases (ins1_mem s L t).1 ht with e | e
          · omega
          · have := a4 t e; omega)
        apply Classical.byContradiction
        intro hc
        apply h3
        rw [streamB_iff]
        refine ⟨a1, ⟨by rw [g.2.1]; omega, g.2.2.2.2⟩, by omega, fun t ht => ⟨g.2.2.2.1 t ht, ?_⟩, ?_⟩
        · have : t ∈ ins1 s L := by rw [g.1]; exact List.mem_append_right _ ht
          rcases (ins1_mem s L t).1 this with e | e
          · omega
          · exact (a4 t e).2
        · have := ins1_sorted s L a5 h2.2
          rw [g.1] at this
          exact (List.pairwise_append.1 this).2.1
  · rw [if_neg (by simp [hs])]
    refine .inl ⟨rfl, fun hh => absurd ?_ hs⟩
    simp [inR, hh.1, hh.2]
/-- What was given out, in order. -/
theorem accAll_range : ∀ (l : List Int) (F N : Int) (L : List Int) (N0 : Int) (m : Nat), streamB F N L = true → N = N0 + m →
    ∃ (N' : Int) (L' : List Int) (m' : Nat), accAll l (F, N, L, rangeI N0 m) = (F, N', L', rangeI N0 m') ∧ streamB F N' L' = true ∧ N' = N0 + m'
  | [], F, N, L, N0, m, h, hN => ⟨N, L, m, rfl, h, hN⟩
  | s :: l, F, N, L, N0, m, h, hN => by
    have ih := fun N1 L1 m1 => accAll_range l F N1 L1 N0 m1
    show ∃ N' L' m', accAll l (accStep (F, N, L, rangeI N0 m) s) = _ ∧ _
    rcases accept_spec F N L s h with ⟨h1, _⟩ | ⟨h1, h2, h3, h4, h5, h6⟩
    · have : accStep (F, N, L, rangeI N0 m) s = (F, N, L, rangeI N0 m) := by
        unfold accStep
        show ((accept F N L s).1, (accept F N L s).2.1, (accept F N L s).2.2.1, rangeI N0 m ++ (accept F N L s).2.2.2.1) = _
        rw [h1]; simp
      rw [this]
      exact ih N L m h hN
    · obtain ⟨a1, a2, a3, a4, a5⟩ := (streamB_iff F N L).1 h
      have g := giv_spec (ins1 s L) N a2.1 a2.2 (ins1_sorted s L a5 h4) (fun t ht => by
        rcases (ins1_mem s L t).1 ht with e | e
        · omega
        · have := a4 t e; omega)
      have : accStep (F, N, L, rangeI N0 m) s = (F, (giv N (ins1 s L)).2.1, (giv N (ins1 s L)).2.2, rangeI N0 (m + (giv N (ins1 s L)).1.length)) := by
        unfold accStep
        show ((accept F N L s).1, (accept F N L s).2.1, (accept F N L s).2.2.1, rangeI N0 m ++ (accept F N L s).2.2.2.1) = _
        rw [h5, rangeI_append, ← hN, ← g.2.2.1]
      rw [this]
      exact ih _ _ _ h6 (by rw [g.2.1]; omega)
theorem accAll_bad : ∀ (l : List Int) (F N : Int) (L o : List Int), ¬ streamB F N L = true → accAll l (F, N, L, o) = (F, N, L, o)
  | [], F, N, L, o, h => rfl
  | s :: l, F, N, L, o, h => by
    have h1 : accept F N L s = (F, N, L, [], false) := by unfold accept; rw [if_neg (by simp [h])]
    have : accStep (F, N, L, o) s = (F, N, L, o) := by
      unfold accStep
      show ((accept F N L s).1, (accept F N L s).2.1, (accept F N L s).2.2.1, o ++ (accept F N L s).2.2.2.1) = _
      rw [h1]; simp
    show accAll l (accStep (F, N, L, o) s) = _
    rw [this]
    exact accAll_bad l F N L o h
theorem nodup_le : ∀ (K M : List Int), K.Nodup → (∀ x ∈ K, x ∈ M) → K.length ≤ M.length
  | [], M, _, _ => Nat.zero_le _
  | x :: K, M, hn, hs => by
    rw [List.nodup_cons] at hn
    have h1 := nodup_le K (M.erase x) hn.2 (fun y hy => (List.mem_erase_of_ne (fun (e : y = x) => hn.1 (e ▸ hy))).2 (hs y (List.mem_cons_of_mem _ hy)))
    have h2 := List.length_erase_of_mem (hs x List.mem_cons_self)
    have h3 : 0 < M.length := List.length_pos_of_mem (hs x List.mem_cons_self)
    simp only [List.length_cons]
    omega
/-- What has come: a state tells it, and is told by it. -/
structure Came (N0 : Int) (P : Int → Prop) (N : Int) (L : List Int) : Prop where
  low : N0 ≤ N
  got : ∀ t, N0 ≤ t → t < N → P t
  gap : ¬ P N
  mem : ∀ t, t ∈ L ↔ P t ∧ N < t
theorem Came.uniq {N0 : Int} {P : Int → Prop} {N N' : Int} {L L' : List Int} (h : Came N0 P N L) (h' : Came N0 P N' L') (hs : L.Pairwise (· < ·)) (hs' : L'.Pairwise (· < ·)) : N = N' ∧ L = L' := by
  have e : N = N' := by
    apply Classical.byContradiction
    intro hc
    rcases (show N < N' ∨ N' < N by omega) with h1 | h1
    · exact h.gap (h'.got N h.low h1)
    · exact h'.gap (h.got N' h'.low h1)
  subst e
  refine ⟨rfl, ?_⟩
  have hm : ∀ t, t ∈ L ↔ t ∈ L' := fun t => (h.mem t).trans (h'.mem t).symm
  clear h h'
  induction L generalizing L' with
  | nil =>
    cases L' with
    | nil => rfl
    | cons y L' => exact absurd ((hm y).2 List.mem_cons_self) (by simp)
  | cons x L ih =>
    cases L' with
    | nil => exact absurd ((hm x).1 List.mem_cons_self) (by simp)
    | cons y L' =>
      rw [List.pairwise_cons] at hs hs'
      have hxy : x = y := by
        rcases List.mem_cons.1 ((hm x).1 List.mem_cons_self) with e | e
        · exact e
        · have a := hs'.1 x e
          rcases List.mem_cons.1 ((hm y).2 List.mem_cons_self) with e' | e'
          · omega
          · have b := hs.1 y e'
            omega
      subst hxy
      rw [ih hs.2 hs'.2 fun z => ?_]
      constructor
      · intro hz
        have a := hs.1 z hz
        rcases List.mem_cons.1 ((hm z).1 (List.mem_cons_of_mem _ hz)) with e | e
        · omega
        · exact e
      · intro hz
        have a := hs'.1 z hz
        rcases List.mem_cons.1 ((hm z).2 (List.mem_cons_of_mem _ hz)) with e | e
        · omega
        · exact e
theorem accept_came (F N : Int) (L : List Int) (s N0 : Int) (P : Int → Prop) (K : List Int) (hK : K.length ≤ 20) (h : streamB F N L = true) (hc : Came N0 P N L) (hP : ∀ t, P t → t ∈ K) (hs : 0 ≤ s ∧ s ≤ 9999 → s ∈ K) :
    streamB F (accept F N L s).2.1 (accept F N L s).2.2.1 = true ∧ Came N0 (fun t => P t ∨ (t = s ∧ 0 ≤ s ∧ s ≤ 9999 ∧ N0 ≤ s)) (accept F N L s).2.1 (accept F N L s).2.2.1 := by
  obtain ⟨a1, a2, a3, a4, a5⟩ := (streamB_iff F N L).1 h
  rcases accept_spec F N L s h with ⟨h1, h2⟩ | ⟨h1, h2, h3, h4, h5, h6⟩
  · rw [h1]
    refine ⟨h, ⟨hc.low, fun t x y => .inl (hc.got t x y), ?_, fun t => ?_⟩⟩
    · rintro (hp | ⟨e, r1, r2, _⟩)
      · exact hc.gap hp
      · rcases h2 ⟨r1, r2⟩ with (h3 | h3) | h3
        · have e' : N = s := e
          omega
        · exact hc.gap (by have := ((hc.mem s).1 h3).1; rwa [← e] at this)
        · exfalso
          by_cases hn : s ∈ L
          · exact hc.gap (by have := ((hc.mem s).1 hn).1; rwa [← e] at this)
          · have e' : N = s := e
            have g := giv_spec (ins1 s L) N a2.1 a2.2 (ins1_sorted s L a5 hn) (fun t ht => by
              rcases (ins1_mem s L t).1 ht with e | e
              · omega
              · have := a4 t e; omega)
            have := congrArg List.length g.1
            rw [ins1_length, List.length_append] at this
            have hnd : (giv N (ins1 s L)).2.2.Nodup := by
              have hh := ins1_sorted s L a5 hn
              rw [g.1] at hh
              exact (List.pairwise_append.1 hh).2.1.imp (fun h => by omega)
            have := nodup_le _ K hnd (fun x hx => by
              have : x ∈ ins1 s L := by rw [g.1]; exact List.mem_append_right _ hx
              rcases (ins1_mem s L x).1 this with e | e
              · rw [e]; exact hs ⟨r1, r2⟩
              · exact hP x ((hc.mem x).1 e).1)
            omega
    · constructor
      · intro ht
        have := (hc.mem t).1 ht
        exact ⟨.inl this.1, this.2⟩
      · rintro ⟨hp | ⟨e, r1, r2, _⟩, hn⟩
        · exact (hc.mem t).2 ⟨hp, hn⟩
        · have hn : N < t := hn
          rcases h2 ⟨r1, r2⟩ with (h3 | h3) | h3
          · omega
          · rw [e]; exact h3
          · by_cases hm : s ∈ L
            · rw [e]; exact hm
            · exfalso
              have g := giv_spec (ins1 s L) N a2.1 a2.2 (ins1_sorted s L a5 hm) (fun t ht => by
                rcases (ins1_mem s L t).1 ht with e | e
                · omega
                · have := a4 t e; omega)
              have hnd : (giv N (ins1 s L)).2.2.Nodup := by
                have hh := ins1_sorted s L a5 hm
                rw [g.1] at hh
                exact (List.pairwise_append.1 hh).2.1.imp (fun h => by omega)
              have := nodup_le _ K hnd (fun x hx => by
                have : x ∈ ins1 s L := by rw [g.1]; exact List.mem_append_right _ hx
                rcases (ins1_mem s L x).1 this with e | e
                · rw [e]; exact hs ⟨r1, r2⟩
                · exact hP x ((hc.mem x).1 e).1)
              omega
  · rw [h5]
    have g := giv_spec (ins1 s L) N a2.1 a2.2 (ins1_sorted s L a5 h4) (fun t ht => by
      rcases (ins1_mem s L t).1 ht with e | e
      · omega
      · have := a4 t e; omega)
    have hlow := hc.low
    have hsplit : ∀ t, t ∈ ins1 s L ↔ t ∈ (giv N (ins1 s L)).1 ∨ t ∈ (giv N (ins1 s L)).2.2 := fun t => (iff_of_eq (congrArg (fun l => t ∈ l) g.1)).trans List.mem_append
    have hrange : ∀ t, t ∈ (giv N (ins1 s L)).1 → t < (giv N (ins1 s L)).2.1 := fun t ht => by
      have ht2 := (iff_of_eq (congrArg (fun l => t ∈ l) g.2.2.1)).1 ht
      unfold rangeI at ht2
      obtain ⟨j, hj, e⟩ := List.mem_map.1 ht2
      have := List.mem_range.1 hj
      have := g.2.1
      omega
    refine ⟨h6, ⟨by show N0 ≤ (giv N (ins1 s L)).2.1; rw [g.2.1]; omega, fun t x y => ?_, ?_, fun t => ?_⟩⟩
    · have y : t < (giv N (ins1 s L)).2.1 := y
      by_cases ht : t < N
      · exact .inl (hc.got t x ht)
      · have hm : t ∈ ins1 s L := by
          rw [g.1]
          refine List.mem_append_left _ ?_
          rw [g.2.2.1]
          unfold rangeI
          rw [List.mem_map]
          exact ⟨(t - N).toNat, by rw [List.mem_range]; omega, by omega⟩
        rcases (ins1_mem s L t).1 hm with e | e
        · exact .inr ⟨e, h1, h2, by omega⟩
        · exact .inl ((hc.mem t).1 e).1
    · have nin : (giv N (ins1 s L)).2.1 ∉ ins1 s L := by
        rw [hsplit, not_or]
        constructor
        · intro hh
          have := hrange _ hh
          omega
        · intro hh
          have := g.2.2.2.1 _ hh
          omega
      rw [ins1_mem, not_or] at nin
      rintro (hp | ⟨e, _⟩)
      · by_cases e : (giv N (ins1 s L)).2.1 = N
        · have hp : P (giv N (ins1 s L)).2.1 := hp
          rw [e] at hp
          exact hc.gap hp
        · exact nin.2 ((hc.mem _).2 ⟨hp, by rw [g.2.1] at e ⊢; omega⟩)
      · exact nin.1 e
    · show t ∈ (giv N (ins1 s L)).2.2 ↔ _ ∧ (giv N (ins1 s L)).2.1 < t
      constructor
      · intro ht
        have hm : t ∈ ins1 s L := by rw [g.1]; exact List.mem_append_right _ ht
        refine ⟨?_, g.2.2.2.1 t ht⟩
        rcases (ins1_mem s L t).1 hm with e | e
        · exact .inr ⟨e, h1, h2, by omega⟩
        · exact .inl ((hc.mem t).1 e).1
      · rintro ⟨hp, hn⟩
        have hm : t ∈ ins1 s L := by
          rw [ins1_mem]
          rcases hp with hp | ⟨e, _⟩
          · exact .inr ((hc.mem t).2 ⟨hp, by rw [g.2.1] at hn; omega⟩)
          · exact .inl e
        rw [hsplit] at hm
        rcases hm with hm | hm
        · have := hrange t hm
          omega
        · exact hm
theorem accAll_came (F N0 : Int) (K : List Int) (hK : K.length ≤ 20) : ∀ (l : List Int) (N : Int) (L o : List Int) (P : Int → Prop), streamB F N L = true → Came N0 P N L → (∀ t, P t → t ∈ K) → (∀ s ∈ l, s ∈ K) →
    ∃ N' L' o', accAll l (F, N, L, o) = (F, N', L', o') ∧ streamB F N' L' = true ∧ Came N0 (fun t => P t ∨ (t ∈ l ∧ 0 ≤ t ∧ t ≤ 9999 ∧ N0 ≤ t)) N' L'
  | [], N, L, o, P, h, hc, hP, hl => ⟨N, L, o, rfl, h, by
    have e : (fun t => P t ∨ (t ∈ ([] : List Int) ∧ 0 ≤ t ∧ t ≤ 9999 ∧ N0 ≤ t)) = P := by
      funext t
      simp
    rw [e]
    exact hc⟩
  | s :: l, N, L, o, P, h, hc, hP, hl => by
    obtain ⟨h1, h2⟩ := accept_came F N L s N0 P K hK h hc hP (fun _ => hl s List.mem_cons_self)
    have hF : (accept F N L s).1 = F := by
      rcases accept_spec F N L s h with ⟨h1, _⟩ | ⟨_, _, _, _, h5, _⟩
      · rw [h1]
      · rw [h5]
    obtain ⟨N', L', o', e, h3, h4⟩ := accAll_came F N0 K hK l (accept F N L s).2.1 (accept F N L s).2.2.1 (o ++ (accept F N L s).2.2.2.1) _ h1 h2 (by
      rintro t (x | ⟨x, _⟩)
      · exact hP t x
      · rw [x]; exact hl s List.mem_cons_self) (fun t ht => hl t (List.mem_cons_of_mem _ ht))
    refine ⟨N', L', o', ?_, h3, ?_⟩
    · show accAll l (accStep (F, N, L, o) s) = _
      unfold accStep
      show accAll l ((accept F N L s).1, (accept F N L s).2.1, (accept F N L s).2.2.1, o ++ (accept F N L s).2.2.2.1) = _
      rw [hF]; exact e
    · have hq : (fun t => (P t ∨ (t = s ∧ 0 ≤ s ∧ s ≤ 9999 ∧ N0 ≤ s)) ∨ (t ∈ l ∧ 0 ≤ t ∧ t ≤ 9999 ∧ N0 ≤ t)) = fun t => P t ∨ (t ∈ s :: l ∧ 0 ≤ t ∧ t ≤ 9999 ∧ N0 ≤ t) := by
        funext t
        apply propext
        rw [List.mem_cons]
        constructor
        · rintro ((x | ⟨x, y⟩) | ⟨x, y⟩)
          · exact .inl x
          · subst x; exact .inr ⟨.inl rfl, y⟩
          · exact .inr ⟨.inr x, y⟩
        · rintro (x | ⟨x | x, y⟩)
          · exact .inl (.inl x)
          · subst x; exact .inl (.inr ⟨rfl, y⟩)
          · exact .inr ⟨x, y⟩
      rw [hq] at h4
      exact h4

/-! @@ FnStreams -/
def backL (l : List Int) : List Int := l.reverse.flatMap fun x => [x, x]
theorem dup_length : ∀ l : List Int, (l.flatMap fun x => [x, x]).length = 2 * l.length
  | [] => rfl
  | x :: l => by
    rw [List.flatMap_cons, List.length_append, dup_length l]
    simp only [List.length_cons, List.length_nil]
    omega
theorem backL_length (l : List Int) : (backL l).length = 2 * l.length := by
  unfold backL
  rw [dup_length, List.length_reverse]
theorem mem_backL (l : List Int) (t : Int) : t ∈ backL l ↔ t ∈ l := by
  unfold backL
  rw [List.mem_flatMap]
  constructor
  · rintro ⟨x, hx, ht⟩
    have : t = x := by simpa using ht
    rw [this]; exact List.mem_reverse.1 hx
  · intro ht
    exact ⟨t, List.mem_reverse.2 ht, by simp⟩
theorem came0 (F N : Int) (L : List Int) (h : streamB F N L = true) : Came N (fun t => t ∈ L) N L := by
  obtain ⟨a1, a2, a3, a4, a5⟩ := (streamB_iff F N L).1 h
  exact ⟨Int.le_refl _, fun t h1 h2 => by omega, fun hh => by have := a4 N hh; omega, fun t => ⟨fun ht => ⟨ht, (a4 t ht).1⟩, fun ht => ht.1⟩⟩
theorem same_back (F N : Int) (L l : List Int) (h : streamB F N L = true) (hl : L.length + l.length ≤ 20) : accAll l (F, N, L, []) = accAll (backL l) (F, N, L, []) := by
  have hl1 : (L ++ l).length ≤ 20 := by simpa using hl
  obtain ⟨N1, L1, o1, e1, s1, c1⟩ := accAll_came F N (L ++ l) hl1 l N L [] (fun t => t ∈ L) h (came0 F N L h) (fun t ht => List.mem_append_left _ ht) (fun s hs => List.mem_append_right _ hs)
  obtain ⟨N2, L2, o2, e2, s2, c2⟩ := accAll_came F N (L ++ l) hl1 (backL l) N L [] (fun t => t ∈ L) h (came0 F N L h) (fun t ht => List.mem_append_left _ ht) (fun s hs => List.mem_append_right _ ((mem_backL l s).1 hs))
  have hp : (fun t => t ∈ L ∨ (t ∈ backL l ∧ 0 ≤ t ∧ t ≤ 9999 ∧ N ≤ t)) = fun t => t ∈ L ∨ (t ∈ l ∧ 0 ≤ t ∧ t ≤ 9999 ∧ N ≤ t) := by
    funext t
    rw [mem_backL]
  rw [hp] at c2
  obtain ⟨hN, hL⟩ := c1.uniq c2 ((streamB_iff _ _ _).1 s1).2.2.2.2 ((streamB_iff _ _ _).1 s2).2.2.2.2
  obtain ⟨N3, L3, m3, e3, _, h3⟩ := accAll_range l F N L N 0 h (by simp)
  obtain ⟨N4, L4, m4, e4, _, h4⟩ := accAll_range (backL l) F N L N 0 h (by simp)
  have r0 : rangeI N 0 = [] := rfl
  rw [r0] at e3 e4
  rw [e1] at e3
  rw [e2] at e4
  rw [e1, e2]
  simp only [Prod.mk.injEq] at e3 e4
  obtain ⟨_, e3a, e3b, e3c⟩ := e3
  obtain ⟨_, e4a, e4b, e4c⟩ := e4
  have : m3 = m4 := by omega
  rw [e3c, e4c, this, hN, hL]
theorem waits_nonneg (F N : Int) (L : List Int) (h : streamB F N L = true) : 0 ≤ waits F N L := by
  obtain ⟨a1, a2, a3, a4, a5⟩ := (streamB_iff F N L).1 h
  unfold waits
  rw [if_pos h]
  by_cases h0 : (L.length : Int) = 0
  · rw [if_pos h0]; omega
  · rw [if_neg h0]
    have hstep : ∀ i, i < L.length → N + 1 + i ≤ L.getD i 0 := by
      intro i
      induction i with
      | zero => intro hi; have := a4 _ (getD_mem L 0 hi); omega
      | succ i ih =>
        intro hi
        have h1 := ih (by omega)
        have h2 := streamB_mono h i hi
        omega
    have h1 := hstep (L.length - 1) (by omega)
    have h2 := a4 _ (getD_mem L 0 (show L.length - 1 < L.length by omega))
    rw [show wrap64 ((L.length : Int) - 1) = ((L.length - 1 : Nat) : Int) by rw [wrap_id (by omega) (by omega)]; omega, rd_nat]
    rw [wrap_id (x := L.getD (L.length - 1) 0 - N) (by omega) (by omega), wrap_id (x := L.getD (L.length - 1) 0 - N + 1) (by omega) (by omega), wrap_id (by omega) (by omega)]
    omega
theorem proved : Stated := by
  intro l ⟨hl, hw⟩
  refine Ev.rounds ?_
  refine Ev.congr (fun k => by unfold laws_FnStreams.f; rw [laws_big.val, Option.bind_some]) ?_
  by_cases hb : (l.length : Int) > 1048576
  · exact Ev.all fun k => by rw [if_pos (by simpa using hb)]
  refine Ev.congr (fun k => by rw [if_neg (by simpa using hb)]) ?_
  obtain ⟨F, N, L, m, hd, hL, hm⟩ := spec_DrawAcceptAll.ev l (by omega)
  refine Ev.bind hd (Ev.bind (impl_AcceptAll.ev F N L m (by omega) (by omega)) (Ev.bind (impl_IsStream.ev F N L (by omega)) ?_))
  by_cases hs : streamB F N L = true
  · obtain ⟨N', L', c, e, hs', hN⟩ := accAll_range m F N L N 0 hs (by simp)
    rw [show rangeI N 0 = [] from rfl] at e
    obtain ⟨a1, a2, a3, a4, a5⟩ := (streamB_iff F N L).1 hs
    obtain ⟨b1, b2, b3, b4, b5⟩ := (streamB_iff F N' L').1 hs'
    have hc : c ≤ 10000 := by omega
    refine Ev.congr (fun k => by rw [if_pos hs, e]) ?_
    have back : ∀ (d i : Nat) (o : List Int), i + d = m.length → o = backL (m.drop d) → Ev (fun k => laws_FnStreams.l1 k m (rangeI N c) o (wrap64 ((d : Int) - 1)) F N L F N' L') true := by
      intro d
      induction d with
      | zero =>
        intro i o hi ho
        rw [List.drop_zero] at ho
        have hlen : o.length ≤ 1000 := by rw [ho, backL_length]; omega
        refine Ev.step (fun k => by simp only [laws_FnStreams.l1]; rw [if_neg (by unfold wrap64; omega)]) (Ev.bind (impl_AcceptAll.ev F N L o (by omega) (by omega)) ?_)
        by_cases hcap : wrap64 ((L.length : Int) + (m.length : Int)) > 20
        · exact Ev.all fun k => by rw [if_pos hcap]
        · rw [wrap_id (by omega) (by omega)] at hcap
          rw [ho, ← same_back F N L m hs (by omega), e]
          refine Ev.congr (fun k => by rw [wrap_id (by omega) (by omega), if_neg hcap]) (Ev.bind (impl_EqualStreams.ev F N' L' F N' L' (by omega)) ?_)
          refine Ev.congr (fun k => by rw [if_pos (by simp [eqL])]) (Ev.bind (impl_EqualInts.ev _ _ (by rw [rangeI_length]; omega)) ?_)
          exact Ev.all fun k => by simp [eqL]
      | succ d ih =>
        intro i o hi ho
        have hd' : d < m.length := by omega
        have hlen : o.length ≤ 1000 := by rw [ho, backL_length]; simp; omega
        refine Ev.step (fun k => ?_) (ih (i + 1) (o ++ [rd m ((d : Nat) : Int), rd m ((d : Nat) : Int)]) (by omega) ?_)
        · simp only [laws_FnStreams.l1]
          rw [show wrap64 (((d + 1 : Nat) : Int) - 1) = ((d : Nat) : Int) by rw [wrap_id (by omega) (by omega)]; omega]
          rw [if_pos (by omega), if_pos (by omega), if_pos (by omega), Option.bind_some, if_pos (by simp only [List.length_cons, List.length_nil]; omega)]
        · rw [ho, drop_cons m 0 hd']
          unfold backL
          rw [List.reverse_cons, List.flatMap_append]
          simp [rd_nat]
    have fin := back m.length 0 [] (by omega) (by simp [backL])
    have scan : ∀ (d i : Nat), i + d = c → Ev (fun k => laws_FnStreams.l0 k m (rangeI N c) i F N L F N' L') true := by
      intro d
      induction d with
      | zero =>
        intro i hi
        refine Ev.step (fun k => by simp only [laws_FnStreams.l0]; rw [if_neg (by rw [rangeI_length]; omega)]) (Ev.bind (impl_IsStream.ev F N' L' (by omega)) ?_)
        refine Ev.congr (fun k => by rw [if_pos hs', if_pos (by rw [rangeI_length, wrap_id (by omega) (by omega)]; omega)]) (Ev.bind (impl_WaitsFor.ev F N' L' (by omega)) ?_)
        have := waits_nonneg F N' L' hs'
        refine Ev.step (fun k => by simp only [laws_FnStreams.j1]; rw [if_neg (by simp; omega)]) fin
      | succ d ih =>
        intro i hi
        refine Ev.step (fun k => by simp only [laws_FnStreams.l0]; rw [if_pos (by rw [rangeI_length]; omega), if_pos (by omega), rd_nat, rangeI_getD N c i (by omega), wrap_id (x := N + (i : Int)) (by omega) (by omega), if_pos rfl, wrap_nat (by omega)]) (ih (i + 1) (by omega))
    exact scan c 0 (by omega)
  · rw [accAll_bad m F N L [] hs]
    refine Ev.congr (fun k => by rw [if_neg hs, if_pos (by simp)]) (Ev.bind (impl_EqualStreams.ev F N L F N L (by omega)) ?_)
    exact Ev.all fun k => by simp [eqL]

end Go.Proofs.Ytegkplalnljgjaa.PureFnStreams
