/- FnExactIsSmooth, over numbers and lists alone: what the program's function and the reference's answer is one. Conditions: the numbers are of their kinds. -/
import Derived.Test.YtindlpkkapelhaaKindsFnExactIsSmooth
import Derived.Test.YtindlpkkapelhaaBase
namespace Go.Proofs.Ytindlpkkapelhaa.PureFnExactIsSmooth
open Go.RowKit Go.Proofs.Ytindlpkkapelhaa.PFnExactIsSmooth Go.Proofs.YtindlpkkapelhaaW.PrintWords Go.Proofs.YtindlpkkapelhaaW.PrintLast Go.Proofs.YtindlpkkapelhaaW.PrintMore Go.Proofs.Ytindlpkkapelhaa.Base
set_option linter.unusedVariables false
set_option linter.unusedSimpArgs false

/-! laws_szIntS -/
theorem laws_szIntS.val (l : List Int) (a : Int) (h0 : 0 ≤ a) (h1 : a ≤ 1048576) (hl : l.length ≤ maxLen) :
    ∃ t, laws_szIntS.f l a = some t ∧ t ≤ a ∧ (0 ≤ t → t = a - l.length ∧ l.length ≤ 1048576) := by
  unfold maxLen at hl
  unfold laws_szIntS.f
  rw [wrap_id (by omega) (by omega)]
  by_cases h : a - (l.length : Int) < 0
  · rw [if_pos h]; exact ⟨_, rfl, by omega, by omega⟩
  · rw [if_neg h]; exact ⟨_, rfl, by omega, by omega⟩

/-! laws_szHandover -/
theorem laws_szHandover.val (x : Int) (l m : List Int) (a : Int) (h0 : 0 ≤ a) (h1 : a ≤ 1048576) (hl : l.length ≤ maxLen) (hm : m.length ≤ maxLen) :
    ∃ t, laws_szHandover.f x l m a = some t ∧ t ≤ a ∧ (0 ≤ t → l.length ≤ 1048576 ∧ m.length ≤ 1048576) := by
  obtain ⟨t, h, h2, h3⟩ := laws_szIntS.val l a h0 h1 hl
  unfold laws_szHandover.f
  rw [h, Option.bind_some]
  by_cases ht : t < 0
  · rw [if_pos ht]; exact ⟨_, rfl, by omega, by omega⟩
  · obtain ⟨u, h4, h5, h6⟩ := laws_szIntS.val m t (by omega) (by omega) hm
    rw [if_neg ht, h4, Option.bind_some]
    by_cases hu : u < 0
    · rw [if_pos hu]; exact ⟨_, rfl, by omega, by omega⟩
    · rw [if_neg hu]; exact ⟨_, rfl, by omega, fun _ => ⟨(h3 (by omega)).2, (h6 (by omega)).2⟩⟩

/-! spec_l15Has -/
theorem spec_l15Has.ev (l : List Int) (a : Int) (hl : l.length ≤ 1048576) : Ev (fun k => spec_l15Has.f k l a) (hasB l a) := by
  have h := find_list (g := fun k i => spec_l15Has.l0 k l a i) (q := fun x => x == a) (r := true) (e := false) l 0
    (Ev.one fun k => by simp only [spec_l15Has.l0]; rw [if_neg (by omega)])
    (fun i k hi => by
      simp only [spec_l15Has.l0]
      rw [if_pos (by omega), if_pos (by omega), wrap_nat (by omega), rd_nat]
      by_cases h : l.getD i 0 = a
      · rw [if_pos h, if_pos (by simpa using h)]
      · rw [if_neg h, if_neg (by simpa using h)])
  rw [ite_bool] at h
  exact h

/-! spec_IsSmooth -/
theorem spec_IsSmooth.ev (x : Int) (l m : List Int) (hl : l.length ≤ 1048576) (hm : m.length ≤ 1048576) : Ev (fun k => spec_IsSmooth.f k x l m) (l.any fun y => hasB m y) := by
  have h := findE (g := fun k i => spec_IsSmooth.l0 k i x l m) (q := fun i => hasB m (l.getD i 0)) (r := true) (e := false) l.length (Ev.one fun k => by simp only [spec_IsSmooth.l0]; rw [if_neg (by omega)]) (fun i hi => by
    have hs : ∀ R, Ev (fun k => if hasB m (l.getD i 0) = true then some true else spec_IsSmooth.l0 k ((i + 1 : Nat) : Int) x l m) R → Ev (fun k => spec_IsSmooth.l0 k i x l m) R := fun R h =>
      Ev.step (fun k => by simp only [spec_IsSmooth.l0]; rw [if_pos (by omega), if_pos (by omega), wrap_nat (by omega)]; rfl) (Ev.bind (spec_l15Has.ev m (l.getD i 0) hm) h)
    by_cases hq : hasB m (l.getD i 0) = true
    · rw [if_pos hq]
      exact hs _ (Ev.all fun k => by rw [if_pos hq])
    · rw [if_neg hq]
      exact fun R hR => hs R (Ev.congr (fun k => by rw [if_neg hq]) hR))
  rw [any_index l 0 (fun y => hasB m y), ite_bool] at h
  exact h

/-! laws_toIntS -/
theorem laws_toIntS.ev_l (l : List Int) (hl : l.length ≤ 1048576) : ∀ (d i : Nat) (o : List Int), i + d = l.length → o.length = l.length → o.take i = l.take i → Ev (fun k => laws_toIntS.l0 k l o i) l := by
  intro d
  induction d with
  | zero =>
    intro i o hi ho ht
    refine Ev.one fun k => ?_
    simp only [laws_toIntS.l0]
    rw [if_neg (by omega), take_full ho (by omega) ht]
  | succ d ih =>
    intro i o hi ho ht
    refine Ev.step (fun k => ?_) (ih (i + 1) (o.set i (l.getD i 0)) (by omega) (by simp [ho]) (set_take o l _ ho (get_of l 0 (by omega)) ht))
    simp only [laws_toIntS.l0]
    rw [if_pos (by omega), if_pos (by omega), if_pos (by omega), wrap_nat (by omega)]
    rfl
theorem laws_toIntS.ev (l : List Int) (hl : l.length ≤ 1048576) : Ev (fun k => laws_toIntS.f k l) l :=
  Ev.congr (fun k => by unfold laws_toIntS.f; rw [if_pos (by omega), if_pos (by omega)] <;> rfl) (laws_toIntS.ev_l l hl l.length 0 _ (by omega) (by simp) (by simp))

/-! laws_toHandover -/
theorem laws_toHandover.ev (x : Int) (l m : List Int) (hl : l.length ≤ 1048576) (hm : m.length ≤ 1048576) : Ev (fun k => laws_toHandover.f k x l m) (x, l, m) :=
  Ev.bind (laws_toIntS.ev l hl) (Ev.bind (laws_toIntS.ev m hm) (Ev.now _))

/-! slices_Index_int_int -/
theorem slices_Index_int_int.ev_l (l : List Int) (a : Int) (hl : l.length ≤ 1048576) : ∀ (d i : Nat), i + d = l.length → ∃ r, Ev (fun k => slices_Index_int_int.l0 k l a l.length i) r ∧ decide (r ≥ 0) = (l.drop i).any (fun x => x == a) := by
  intro d
  induction d with
  | zero =>
    intro i hi
    exact ⟨-1, Ev.one fun k => by simp only [slices_Index_int_int.l0]; rw [if_neg (by omega)], by rw [List.drop_eq_nil_of_le (by omega)]; rfl⟩
  | succ d ih =>
    intro i hi
    rw [drop_cons l 0 (show i < l.length by omega), List.any_cons]
    by_cases h : a = l.getD i 0
    · refine ⟨(i : Int), Ev.one fun k => ?_, ?_⟩
      · simp only [slices_Index_int_int.l0]
        rw [if_pos (by omega), if_pos (by omega), if_pos (by omega), rd_nat, if_pos h]
      · rw [← h]; simp
    · obtain ⟨r, hr, hd⟩ := ih (i + 1) (by omega)
      refine ⟨r, Ev.step (fun k => ?_) hr, ?_⟩
      · simp only [slices_Index_int_int.l0]
        rw [if_pos (by omega), if_pos (by omega), if_pos (by omega), rd_nat, if_neg h, wrap_nat (by omega)]
      · have : (l.getD i 0 == a) = false := by rw [beq_eq_false_iff_ne]; exact fun e => h e.symm
        rw [this, Bool.false_or, hd]
theorem slices_Index_int_int.ev (l : List Int) (a : Int) (hl : l.length ≤ 1048576) : ∃ r, Ev (fun k => slices_Index_int_int.f k l a) r ∧ decide (r ≥ 0) = hasB l a := by
  have := slices_Index_int_int.ev_l l a hl l.length 0 (by omega)
  rw [List.drop_zero] at this
  exact this

/-! slices_Contains_int_int -/
theorem slices_Contains_int_int.ev (l : List Int) (a : Int) (hl : l.length ≤ 1048576) : Ev (fun k => slices_Contains_int_int.f k l a) (hasB l a) := by
  obtain ⟨r, hr, e⟩ := slices_Index_int_int.ev l a hl
  rw [← e]
  exact Ev.bind hr (Ev.now _)

/-! slices_IndexFunc_int_int -/
theorem slices_IndexFunc_int_int.first (q : Int → Bool) : ∀ (l : List Int) (i : Nat), slices_IndexFunc_int_int.idxAt q l i = firstAt q l i
  | [], i => rfl
  | x :: l, i => by rw [slices_IndexFunc_int_int.idxAt, firstAt, slices_IndexFunc_int_int.first q l (i + 1)]

/-! impl_IsSmooth -/
theorem impl_IsSmooth.val (x : Int) (l m : List Int) : impl_IsSmooth.f x l m = some (l.any fun y => hasB m y) := by
  unfold impl_IsSmooth.f slices_IndexFunc_int_int.idx
  rw [slices_IndexFunc_int_int.first, firstAt_any]
  rfl

/-! laws_eqIntS -/
theorem laws_eqIntS.ev_l (l : List Int) (hl : l.length ≤ 1048576) : ∀ (d i : Nat), i + d = l.length → Ev (fun k => laws_eqIntS.l0 k l l i) true := by
  intro d
  induction d with
  | zero => intro i hi; refine Ev.one fun k => ?_; simp only [laws_eqIntS.l0]; rw [if_neg (by omega)]
  | succ d ih =>
    intro i hi
    refine Ev.step (fun k => ?_) (ih (i + 1) (by omega))
    simp only [laws_eqIntS.l0]
    rw [if_pos (by omega), if_pos (by omega), if_pos (by omega), if_pos trivial, wrap_nat (by omega)]
theorem laws_eqIntS.ev (l : List Int) (hl : l.length ≤ 1048576) : Ev (fun k => laws_eqIntS.f k l l) true :=
  Ev.congr (fun k => by unfold laws_eqIntS.f; rw [if_pos rfl] <;> rfl) (laws_eqIntS.ev_l l hl l.length 0 (by omega))
theorem laws_eqIntS.ev' (l : List Int) (hl : l.length ≤ 4000000) : Ev (fun k => laws_eqIntS.f k l l) true := by
  refine Ev.congr (fun k => by unfold laws_eqIntS.f; rw [if_pos rfl]) (all_loop (g := fun k i => laws_eqIntS.l0 k l l i) l.length (Ev.one fun k => by simp only [laws_eqIntS.l0]; rw [if_neg (by omega)]) (fun i hi r hr => Ev.step (fun k => ?_) hr))
  simp only [laws_eqIntS.l0]
  rw [if_pos (by omega), if_pos (by omega), if_pos (by omega), if_pos trivial, wrap_nat (by omega)]

/-! laws_eqHandover -/
theorem laws_eqHandover.ev (x : Int) (l m : List Int) (hl : l.length ≤ 1048576) (hm : m.length ≤ 1048576) : Ev (fun k => laws_eqHandover.f k x l m x l m) true := by
  refine Ev.congr (fun k => by unfold laws_eqHandover.f; rw [if_pos rfl]) (Ev.bind (laws_eqIntS.ev l hl) ?_)
  exact Ev.congr (fun k => by rw [if_pos rfl]) (Ev.bindT (laws_eqIntS.ev m hm))

/-! @@ FnExactIsSmooth -/
theorem proved : Stated := by
  intro x l m _ hl hm
  refine Ev.rounds ?_
  obtain ⟨t, ht, hle, hp⟩ := laws_szHandover.val x l m 1048576 (by omega) (by omega) hl.1 hm.1
  refine Ev.congr (fun k => by unfold laws_FnExactIsSmooth.f; rw [ht, Option.bind_some]) ?_
  by_cases h : t < 0
  · exact Ev.all fun k => by rw [if_pos h]
  obtain ⟨h1, h2⟩ := hp (by omega)
  refine Ev.congr (fun k => by rw [if_neg h]) (Ev.bind (laws_toHandover.ev x l m h1 h2) (Ev.bind (spec_IsSmooth.ev x l m h1 h2) (Ev.bind (laws_toHandover.ev x l m h1 h2) ?_)))
  refine Ev.congr (fun k => by rw [impl_IsSmooth.val, Option.bind_some, if_neg (by simp)]) (Ev.bind (laws_toHandover.ev x l m h1 h2) (Ev.bindT (laws_eqHandover.ev x l m h1 h2)))

end Go.Proofs.Ytindlpkkapelhaa.PureFnExactIsSmooth
