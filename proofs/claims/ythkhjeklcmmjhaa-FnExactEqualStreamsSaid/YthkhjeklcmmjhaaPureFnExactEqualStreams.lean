/- FnExactEqualStreams, over numbers and lists alone: what the program's function and the reference's answer is one. Conditions: the numbers are of their kinds. -/
import Derived.Test.YthkhjeklcmmjhaaKindsFnExactEqualStreams
import Derived.Test.YthkhjeklcmmjhaaBase
namespace Go.Proofs.Ythkhjeklcmmjhaa.PureFnExactEqualStreams
open Go.RowKit Go.Proofs.Ythkhjeklcmmjhaa.PFnExactEqualStreams Go.Proofs.YthkhjeklcmmjhaaW.PrintWords Go.Proofs.YthkhjeklcmmjhaaW.PrintLast Go.Proofs.YthkhjeklcmmjhaaW.PrintMore Go.Proofs.Ythkhjeklcmmjhaa.Base
set_option linter.unusedVariables false
set_option linter.unusedSimpArgs false

/-! laws_szIntS -/
theorem laws_szIntS.val (l : List Int) (a : Int) (h0 : 0 ≤ a) (h1 : a ≤ 1048576) (hl : l.length ≤ maxLen) :
    ∃ t, laws_szIntS.f l a = some t ∧ t ≤ a ∧ (0 ≤ t → t = a - l.length ∧ l.length ≤ 1048576) := by
  unfold maxLen at hl
  unfold laws_szIntS.f
  rw [wrap_id (by omega) (by omega)]
  by_cases h : a - (l.length : Int) < 0
  · rw [if_pos h]; exact ⟨_, rfl, by omega, by omega⟩
  · rw [if_neg h]; exact ⟨_, rfl, by omega, by omega⟩

/-! laws_szStream -/
theorem laws_szStream.val (x y : Int) (l : List Int) (a : Int) (h0 : 0 ≤ a) (h1 : a ≤ 1048576) (hl : l.length ≤ maxLen) :
    ∃ t, laws_szStream.f x y l a = some t ∧ t ≤ a ∧ (0 ≤ t → t = a - l.length ∧ l.length ≤ 1048576) := by
  obtain ⟨t, h, h2, h3⟩ := laws_szIntS.val l a h0 h1 hl
  unfold laws_szStream.f
  rw [h, Option.bind_some]
  by_cases ht : t < 0
  · rw [if_pos ht]; exact ⟨_, rfl, by omega, by omega⟩
  · rw [if_neg ht]; exact ⟨_, rfl, h2, h3⟩

/-! laws_toIntS -/
theorem laws_toIntS.ev_l (l : List Int) (hl : l.length ≤ 1048576) : ∀ (d i : Nat) (o : List Int), i + d = l.length → o.length = l.length → o.take i = l.take i → Ev (fun k => laws_toIntS.l0 k l o i) l := by
  intro d
  induction d with
  | zero =>
    intro i o hi ho ht
    refine Ev.one fun k => ?_
    simp only [laws_toIntS.l0]
    rw [if_neg (by omega), take_full ho (by omega) ht]
  | succ d ih =>
    intro i o hi ho ht
    refine Ev.step (fun k => ?_) (ih (i + 1) (o.set i (l.getD i 0)) (by omega) (by simp [ho]) (set_take o l _ ho (get_of l 0 (by omega)) ht))
    simp only [laws_toIntS.l0]
    rw [if_pos (by omega), if_pos (by omega), if_pos (by omega), wrap_nat (by omega)]
    rfl
theorem laws_toIntS.ev (l : List Int) (hl : l.length ≤ 1048576) : Ev (fun k => laws_toIntS.f k l) l :=
  Ev.congr (fun k => by unfold laws_toIntS.f; rw [if_pos (by omega), if_pos (by omega)] <;> rfl) (laws_toIntS.ev_l l hl l.length 0 _ (by omega) (by simp) (by simp))

/-! laws_toStream -/
theorem laws_toStream.ev (x y : Int) (l : List Int) (hl : l.length ≤ 1048576) : Ev (fun k => laws_toStream.f k x y l) (x, y, l) := Ev.bind (laws_toIntS.ev l hl) (Ev.now _)

/-! laws_eqIntS -/
theorem laws_eqIntS.ev_l (l : List Int) (hl : l.length ≤ 1048576) : ∀ (d i : Nat), i + d = l.length → Ev (fun k => laws_eqIntS.l0 k l l i) true := by
  intro d
  induction d with
  | zero => intro i hi; refine Ev.one fun k => ?_; simp only [laws_eqIntS.l0]; rw [if_neg (by omega)]
  | succ d ih =>
    intro i hi
    refine Ev.step (fun k => ?_) (ih (i + 1) (by omega))
    simp only [laws_eqIntS.l0]
    rw [if_pos (by omega), if_pos (by omega), if_pos (by omega), if_pos trivial, wrap_nat (by omega)]
theorem laws_eqIntS.ev (l : List Int) (hl : l.length ≤ 1048576) : Ev (fun k => laws_eqIntS.f k l l) true :=
  Ev.congr (fun k => by unfold laws_eqIntS.f; rw [if_pos rfl] <;> rfl) (laws_eqIntS.ev_l l hl l.length 0 (by omega))

/-! laws_eqStream -/
theorem laws_eqStream.ev (x y : Int) (l : List Int) (hl : l.length ≤ 1048576) : Ev (fun k => laws_eqStream.f k x y l x y l) true := by
  refine Ev.congr (fun k => by unfold laws_eqStream.f; rw [if_pos rfl, if_pos rfl]) ?_
  exact Ev.bind (laws_eqIntS.ev l hl) (Ev.all fun k => rfl)

/-! d_eqL -/
def eqL (a b : List Int) : Bool := decide (a = b)
theorem eq_drop (a b : List Int) (i : Nat) (ha : i < a.length) (hb : i < b.length) : (a.drop i = b.drop i) ↔ (a.getD i 0 = b.getD i 0 ∧ a.drop (i + 1) = b.drop (i + 1)) := by
  rw [drop_cons a 0 ha, drop_cons b 0 hb, List.cons.injEq]

/-! spec_EqualInts -/
theorem spec_EqualInts.ev_l (a b : List Int) (hl : a.length ≤ 1048576) (he : a.length = b.length) : ∀ (d i : Nat), i + d = a.length → Ev (fun k => spec_EqualInts.l0 k a b i) (decide (a.drop i = b.drop i)) := by
  intro d
  induction d with
  | zero =>
    intro i hi
    rw [List.drop_eq_nil_of_le (by omega), List.drop_eq_nil_of_le (by omega)]
    refine Ev.one fun k => ?_; simp only [spec_EqualInts.l0]; rw [if_neg (by omega)]; simp
  | succ d ih =>
    intro i hi
    by_cases h : a.getD i 0 = b.getD i 0
    · have e : decide (a.drop i = b.drop i) = decide (a.drop (i + 1) = b.drop (i + 1)) := by
        rw [decide_eq_decide, eq_drop a b i (by omega) (by omega)]; simp only [h, true_and]
      rw [e]
      refine Ev.step (fun k => ?_) (ih (i + 1) (by omega))
      simp only [spec_EqualInts.l0]
      rw [if_pos (by omega), if_pos (by omega), if_pos (by omega), rd_nat, rd_nat, if_pos h, wrap_nat (by omega)]
    · have e : decide (a.drop i = b.drop i) = false := by
        rw [decide_eq_false_iff_not, eq_drop a b i (by omega) (by omega)]; exact fun hh => h hh.1
      rw [e]
      refine Ev.one fun k => ?_
      simp only [spec_EqualInts.l0]
      rw [if_pos (by omega), if_pos (by omega), if_pos (by omega), rd_nat, rd_nat, if_neg h]
theorem spec_EqualInts.ev (a b : List Int) (hl : a.length ≤ 1048576) : Ev (fun k => spec_EqualInts.f k a b) (eqL a b) := by
  unfold eqL
  by_cases he : a.length = b.length
  · refine Ev.congr (fun k => by unfold spec_EqualInts.f; rw [if_pos (by omega)]) ?_
    have := spec_EqualInts.ev_l a b hl he a.length 0 (by omega)
    simpa using this
  · refine Ev.all (fun k => ?_)
    unfold spec_EqualInts.f
    rw [if_neg (by omega)]
    have : decide (a = b) = false := by rw [decide_eq_false_iff_not]; intro h; exact he (by rw [h])
    rw [this]

/-! spec_EqualStreams -/
theorem spec_EqualStreams.ev (a b : Int) (l : List Int) (c d : Int) (m : List Int) (hl : l.length ≤ 1048576) : Ev (fun k => spec_EqualStreams.f k a b l c d m) (decide (a = c) && decide (b = d) && eqL l m) := by
  by_cases h1 : a = c
  · by_cases h2 : b = d
    · refine Ev.congr (fun k => by unfold spec_EqualStreams.f; rw [if_pos h1, if_pos h2]) ?_
      have e : (decide (a = c) && decide (b = d) && eqL l m) = eqL l m := by simp [h1, h2]
      rw [e]
      exact Ev.bind (spec_EqualInts.ev l m hl) (Ev.now _)
    · exact Ev.all fun k => by unfold spec_EqualStreams.f; rw [if_pos h1, if_neg h2]; simp [h2]
  · exact Ev.all fun k => by unfold spec_EqualStreams.f; rw [if_neg h1]; simp [h1]

/-! slices_Equal_int_int -/
theorem slices_Equal_int_int.ev_l (a b : List Int) (hl : a.length ≤ 1048576) (he : a.length = b.length) : ∀ (d i : Nat), i + d = a.length → Ev (fun k => slices_Equal_int_int.l0 k a b a.length i) (decide (a.drop i = b.drop i)) := by
  intro d
  induction d with
  | zero =>
    intro i hi
    rw [List.drop_eq_nil_of_le (by omega), List.drop_eq_nil_of_le (by omega)]
    refine Ev.one fun k => ?_; simp only [slices_Equal_int_int.l0]; rw [if_neg (by omega)]; simp
  | succ d ih =>
    intro i hi
    by_cases h : a.getD i 0 = b.getD i 0
    · have e : decide (a.drop i = b.drop i) = decide (a.drop (i + 1) = b.drop (i + 1)) := by
        rw [decide_eq_decide, eq_drop a b i (by omega) (by omega)]; simp only [h, true_and]
      rw [e]
      refine Ev.step (fun k => ?_) (ih (i + 1) (by omega))
      simp only [slices_Equal_int_int.l0]
      rw [if_pos (by omega), if_pos (by omega), if_pos (by omega), if_pos (by omega), rd_nat, rd_nat, if_pos h, wrap_nat (by omega)]
    · have e : decide (a.drop i = b.drop i) = false := by
        rw [decide_eq_false_iff_not, eq_drop a b i (by omega) (by omega)]; exact fun hh => h hh.1
      rw [e]
      refine Ev.one fun k => ?_
      simp only [slices_Equal_int_int.l0]
      rw [if_pos (by omega), if_pos (by omega), if_pos (by omega), if_pos (by omega), rd_nat, rd_nat, if_neg h]
theorem slices_Equal_int_int.ev (a b : List Int) (hl : a.length ≤ 1048576) : Ev (fun k => slices_Equal_int_int.f k a b) (eqL a b) := by
  unfold eqL
  by_cases he : a.length = b.length
  · refine Ev.congr (fun k => by unfold slices_Equal_int_int.f; rw [if_pos (by omega)]) ?_
    have := slices_Equal_int_int.ev_l a b hl he a.length 0 (by omega)
    simpa using this
  · refine Ev.all (fun k => ?_)
    unfold slices_Equal_int_int.f
    rw [if_neg (by omega)]
    have : decide (a = b) = false := by rw [decide_eq_false_iff_not]; intro h; exact he (by rw [h])
    rw [this]

/-! impl_EqualStreams -/
theorem impl_EqualStreams.ev (a b : Int) (l : List Int) (c d : Int) (m : List Int) (hl : l.length ≤ 1048576) : Ev (fun k => impl_EqualStreams.f k a b l c d m) (decide (a = c) && decide (b = d) && eqL l m) := by
  by_cases h1 : a = c
  · by_cases h2 : b = d
    · refine Ev.congr (fun k => by unfold impl_EqualStreams.f; rw [if_pos h1, if_pos h2]) ?_
      have e : (decide (a = c) && decide (b = d) && eqL l m) = eqL l m := by simp [h1, h2]
      rw [e]
      exact Ev.bind (slices_Equal_int_int.ev l m hl) (Ev.now _)
    · exact Ev.all fun k => by unfold impl_EqualStreams.f; rw [if_pos h1, if_neg h2]; simp [h2]
  · exact Ev.all fun k => by unfold impl_EqualStreams.f; rw [if_neg h1]; simp [h1]

/-! @@ FnExactEqualStreams -/
theorem proved : Stated := by
  intro x y l u v m _ _ ⟨hl, hw⟩ _ _ ⟨hm, _⟩
  obtain ⟨t, ht, hle, hp⟩ := laws_szStream.val x y l 1048576 (by omega) (by omega) hl
  refine Ev.rounds ?_
  refine Ev.congr (fun k => by unfold laws_FnExactEqualStreams.f; rw [ht, Option.bind_some]) ?_
  by_cases h : t < 0
  · exact Ev.all fun k => by rw [if_pos h]
  · obtain ⟨_, hl2⟩ := hp (by omega)
    obtain ⟨t2, ht2, hle2, hp2⟩ := laws_szStream.val u v m t (by omega) (by omega) hm
    refine Ev.congr (fun k => by rw [if_neg h, ht2, Option.bind_some]) ?_
    by_cases h2 : t2 < 0
    · exact Ev.all fun k => by rw [if_pos h2]
    · obtain ⟨_, hm2⟩ := hp2 (by omega)
      refine Ev.congr (fun k => by rw [if_neg h2]) ?_
      refine Ev.bind (laws_toStream.ev x y l hl2) (Ev.bind (laws_toStream.ev u v m hm2) (Ev.bind (spec_EqualStreams.ev x y l u v m hl2) (Ev.bind (laws_toStream.ev x y l hl2) (Ev.bind (laws_toStream.ev u v m hm2) (Ev.bind (impl_EqualStreams.ev x y l u v m hl2) ?_)))))
      refine Ev.congr (fun k => by rw [if_neg (by simp)]) ?_
      refine Ev.bind (laws_toStream.ev x y l hl2) (Ev.bind (laws_eqStream.ev x y l hl2) ?_)
      refine Ev.congr (fun k => by rw [if_pos rfl]) ?_
      refine Ev.bind (laws_toStream.ev u v m hm2) (Ev.bind (laws_eqStream.ev u v m hm2) ?_)
      exact Ev.all fun k => by simp

end Go.Proofs.Ythkhjeklcmmjhaa.PureFnExactEqualStreams
