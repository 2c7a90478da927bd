/- FnExactLendParts, over numbers and lists alone: what the program's function and the reference's answer is one. Conditions: the numbers are of their kinds. -/
import Derived.Test.YtindlpkkapelhaaKindsFnExactLendParts
import Derived.Test.YtindlpkkapelhaaBase
namespace Go.Proofs.Ytindlpkkapelhaa.PureFnExactLendParts
open Go.RowKit Go.Proofs.Ytindlpkkapelhaa.PFnExactLendParts Go.Proofs.YtindlpkkapelhaaW.PrintWords Go.Proofs.YtindlpkkapelhaaW.PrintLast Go.Proofs.YtindlpkkapelhaaW.PrintMore Go.Proofs.Ytindlpkkapelhaa.Base
set_option linter.unusedVariables false
set_option linter.unusedSimpArgs false

/-! laws_szIntS -/
theorem laws_szIntS.val (l : List Int) (a : Int) (h0 : 0 ≤ a) (h1 : a ≤ 1048576) (hl : l.length ≤ maxLen) :
    ∃ t, laws_szIntS.f l a = some t ∧ t ≤ a ∧ (0 ≤ t → t = a - l.length ∧ l.length ≤ 1048576) := by
  unfold maxLen at hl
  unfold laws_szIntS.f
  rw [wrap_id (by omega) (by omega)]
  by_cases h : a - (l.length : Int) < 0
  · rw [if_pos h]; exact ⟨_, rfl, by omega, by omega⟩
  · rw [if_neg h]; exact ⟨_, rfl, by omega, by omega⟩

/-! laws_szContract -/
theorem laws_szContract.val (l : List Int) (a : Int) (h0 : 0 ≤ a) (h1 : a ≤ 1048576) (hl : l.length ≤ maxLen) :
    ∃ t, laws_szContract.f l a = some t ∧ t ≤ a ∧ (0 ≤ t → t = a - l.length ∧ l.length ≤ 1048576) := by
  obtain ⟨t, h, h2, h3⟩ := laws_szIntS.val l a h0 h1 hl
  unfold laws_szContract.f
  rw [h, Option.bind_some]
  by_cases ht : t < 0
  · rw [if_pos ht]; exact ⟨_, rfl, by omega, by omega⟩
  · rw [if_neg ht]; exact ⟨_, rfl, h2, h3⟩

/-! spec_l1In -/
theorem spec_l1In.val (a lo hi : Int) : spec_l1In.f a lo hi = some (inR a lo hi) := by
  unfold spec_l1In.f inR
  by_cases h : a ≥ lo
  · rw [if_pos h]; simp [h]
  · rw [if_neg h]; simp; omega

/-! d_wsum -/
def wsum (s : Int) (l : List Int) : Int := l.foldl (fun a b => wrap64 (a + b)) s

/-! d_contractB -/
def badP (x : Int) : Bool := !inR x 0 100
def contractB (l : List Int) : Bool := !l.any badP && inR (l.length : Int) 1 6 && decide (wsum 0 l > 0)

/-! spec_IsContract -/
theorem spec_IsContract.ev (l : List Int) (hl : l.length ≤ 1048576) : Ev (fun k => spec_IsContract.f k l) (contractB l) := by
  have h := ff_list (g := fun k s i => spec_IsContract.l0 k s i l) (q := badP) (f := fun a b => wrap64 (a + b)) (r := false) (fin := fun s => inR (l.length : Int) 1 6 && decide (s > 0)) l 0 0
    (fun s => Ev.one fun k => by
      simp only [spec_IsContract.l0, spec_l1In.val, Option.bind_some]
      rw [if_neg (by omega)]
      by_cases h1 : inR (l.length : Int) 1 6 = true <;> simp [h1])
    (fun i s k hi => by
      simp only [spec_IsContract.l0, spec_l1In.val, Option.bind_some]
      rw [if_pos (by omega), if_pos (by omega), wrap_nat (by omega)]
      show (if inR (l.getD i 0) 0 100 = true then _ else _) = (if badP (l.getD i 0) = true then _ else _)
      unfold badP
      by_cases h1 : inR (l.getD i 0) 0 100 = true
      · rw [if_pos h1, if_neg (by rw [h1]; simp)]; rfl
      · rw [if_neg h1, if_pos (by simpa using h1)])
  have e : (if l.any badP = true then false else inR (l.length : Int) 1 6 && decide (l.foldl (fun a b => wrap64 (a + b)) 0 > 0)) = contractB l := by
    unfold contractB wsum
    generalize l.any badP = b
    cases b <;> simp
  rw [e] at h
  exact h

/-! d_lend -/
def lendBad (l : List Int) (a b n : Int) : Bool := !(idxB a l.length && idxB b l.length && !decide (n < 0) && !decide (n > rd l a))
def lendY (l : List Int) (a b n : Int) : List Int := (l.set a.toNat (wrap64 (rd l a - n))).set b.toNat (wrap64 (rd (l.set a.toNat (wrap64 (rd l a - n))) b + n))
def lend (l : List Int) (a b n : Int) : List Int × Bool := if lendBad l a b n = true then (l, false) else if contractB (lendY l a b n) = true then (lendY l a b n, true) else (l, false)
theorem lend_len (l : List Int) (a b n : Int) : (lend l a b n).1.length = l.length := by
  unfold lend
  split
  · rfl
  · split
    · simp [lendY]
    · rfl

/-! spec_LendParts -/
theorem spec_LendParts.ev (l : List Int) (a b n : Int) (hl : l.length ≤ 1048576) : Ev (fun k => spec_LendParts.f k l a b n) (lend l a b n) := by
  have bad : ∀ x : Bool, x = true → Ev (fun k => spec_LendParts.j0 k a b n x l l) (l, false) := fun x hx => Ev.one fun k => by simp only [spec_LendParts.j0]; rw [if_pos hx]
  refine Ev.congr (fun k => by unfold spec_LendParts.f; rw [Option.bind_some, if_pos (by simp only [List.length_nil]; omega), Option.bind_some, List.nil_append, spec_l1In.val, Option.bind_some, spec_l1In.val, inR_idx _ _ hl, inR_idx _ _ hl]) ?_
  unfold lend lendBad
  by_cases ha : idxB a l.length = true
  · have ha' := (idxB_iff _ _).1 ha
    refine Ev.congr (fun k => by rw [if_pos ha, Option.bind_some]) ?_
    by_cases hb : idxB b l.length = true
    · have hb' := (idxB_iff _ _).1 hb
      refine Ev.congr (fun k => by rw [if_pos hb]) ?_
      by_cases hn : n < 0
      · refine Ev.congr (fun k => by rw [if_pos hn]) ?_
        rw [if_pos (by simp [hn])]
        exact bad true rfl
      · refine Ev.congr (fun k => by rw [if_neg hn, if_pos ha'.1, if_pos ha'.2]) ?_
        by_cases hg : n > rd l a
        · rw [if_pos (by simp [hg])]
          exact bad _ (by simp [hg])
        · rw [if_neg (by simp [ha, hb, hn, hg])]
          refine Ev.step (fun k => by simp only [spec_LendParts.j0, Option.bind_some]; rw [if_neg (by simp [hg]), if_pos ha'.1, if_pos ha'.2, if_pos hb'.1, if_pos hb'.2]) ?_
          refine Ev.bind (spec_IsContract.ev (lendY l a b n) (by simp [lendY]; omega)) ?_
          by_cases hc : contractB (lendY l a b n) = true
          · rw [if_pos hc]
            exact Ev.all fun k => by rw [if_pos hc]; rfl
          · rw [if_neg hc]
            exact Ev.all fun k => by rw [if_neg hc, List.nil_append, if_pos (by simp only [List.length_nil]; omega)]
    · refine Ev.congr (fun k => by rw [if_neg hb]) ?_
      rw [if_pos (by simp [hb])]
      exact bad true rfl
  · refine Ev.congr (fun k => by rw [if_neg ha]) ?_
    rw [if_pos (by simp [ha])]
    exact bad true rfl

/-! laws_toIntS -/
theorem laws_toIntS.ev_l (l : List Int) (hl : l.length ≤ 1048576) : ∀ (d i : Nat) (o : List Int), i + d = l.length → o.length = l.length → o.take i = l.take i → Ev (fun k => laws_toIntS.l0 k l o i) l := by
  intro d
  induction d with
  | zero =>
    intro i o hi ho ht
    refine Ev.one fun k => ?_
    simp only [laws_toIntS.l0]
    rw [if_neg (by omega), take_full ho (by omega) ht]
  | succ d ih =>
    intro i o hi ho ht
    refine Ev.step (fun k => ?_) (ih (i + 1) (o.set i (l.getD i 0)) (by omega) (by simp [ho]) (set_take o l _ ho (get_of l 0 (by omega)) ht))
    simp only [laws_toIntS.l0]
    rw [if_pos (by omega), if_pos (by omega), if_pos (by omega), wrap_nat (by omega)]
    rfl
theorem laws_toIntS.ev (l : List Int) (hl : l.length ≤ 1048576) : Ev (fun k => laws_toIntS.f k l) l :=
  Ev.congr (fun k => by unfold laws_toIntS.f; rw [if_pos (by omega), if_pos (by omega)] <;> rfl) (laws_toIntS.ev_l l hl l.length 0 _ (by omega) (by simp) (by simp))

/-! laws_toContract -/
theorem laws_toContract.ev (l : List Int) (hl : l.length ≤ 1048576) : Ev (fun k => laws_toContract.f k l) l := Ev.bind (laws_toIntS.ev l hl) (Ev.now _)

/-! impl_InRange -/
theorem impl_InRange.val (a lo hi : Int) : impl_InRange.f a lo hi = some (inR a lo hi) := by
  unfold impl_InRange.f inR
  by_cases h : lo ≤ a
  · rw [if_pos h]; simp [h]
  · rw [if_neg h]; simp; omega

/-! impl_sumOf -/
theorem impl_sumOf.ev (l : List Int) (hl : l.length ≤ 1048576) : Ev (fun k => impl_sumOf.f k l) (wsum 0 l) :=
  fold_list (g := fun k s i => impl_sumOf.l0 k s l l.length i) (f := fun a b => wrap64 (a + b)) (fin := fun s => s) l 0 0
    (fun s => Ev.one fun k => by simp only [impl_sumOf.l0]; rw [if_neg (by omega)])
    (fun i s k hi => by
      simp only [impl_sumOf.l0]
      rw [if_pos (by omega), if_pos (by omega), if_pos (by omega), wrap_nat (by omega)]
      rfl)

/-! impl_IsContract -/
theorem impl_IsContract.ev (l : List Int) (hl : l.length ≤ 1048576) : Ev (fun k => impl_IsContract.f k l) (contractB l) := by
  have h := find_list (g := fun k i => impl_IsContract.l0 k l l.length i l) (q := badP) (r := false) (e := inR (l.length : Int) 1 6 && decide (wsum 0 l > 0)) l 0
    (by
      refine Ev.step (f := fun k => if inR (l.length : Int) 1 6 = true then (impl_sumOf.f k l).bind fun t => some (decide (t > 0)) else some false) (fun k => by simp only [impl_IsContract.l0, impl_InRange.val, Option.bind_some]; rw [if_neg (by omega)]) ?_
      by_cases h1 : inR (l.length : Int) 1 6 = true
      · refine Ev.congr (fun k => by rw [if_pos h1]) ?_
        rw [h1, Bool.true_and]
        exact Ev.bind (impl_sumOf.ev l hl) (Ev.now _)
      · exact Ev.all fun k => by rw [if_neg h1]; simp [h1])
    (fun i k hi => by
      simp only [impl_IsContract.l0, impl_InRange.val, Option.bind_some]
      rw [if_pos (by omega), if_pos (by omega), if_pos (by omega), wrap_nat (by omega)]
      show (if inR (l.getD i 0) 0 100 = true then _ else _) = (if badP (l.getD i 0) = true then _ else _)
      unfold badP
      by_cases h1 : inR (l.getD i 0) 0 100 = true
      · rw [if_pos h1, if_neg (by rw [h1]; simp)]
      · rw [if_neg h1, if_pos (by simpa using h1)])
  have e : (if l.any badP = true then false else inR (l.length : Int) 1 6 && decide (wsum 0 l > 0)) = contractB l := by
    unfold contractB
    generalize l.any badP = b
    cases b <;> simp
  rw [e] at h
  exact h

/-! slices_Clone_int_int -/
theorem slices_Clone_int_int.val (l : List Int) (hl : l.length ≤ 1048576) : slices_Clone_int_int.f l = some l := by
  unfold slices_Clone_int_int.f
  rw [if_pos (by omega)]

/-! impl_isIndex -/
theorem impl_isIndex.val (a n : Int) : impl_isIndex.f a n = some (decide (0 ≤ a) && decide (a < n)) := by
  unfold impl_isIndex.f
  by_cases h : a ≥ 0
  · rw [if_pos h]; simp [h]
  · rw [if_neg h]; simp; omega
theorem impl_isIndex.nat (a : Int) (n : Nat) : impl_isIndex.f a (n : Int) = some (idxB a n) := impl_isIndex.val a n

/-! impl_LendParts -/
theorem impl_LendParts.ev (l : List Int) (a b n : Int) (hl : l.length ≤ 1048576) : Ev (fun k => impl_LendParts.f k l a b n) (lend l a b n) := by
  have bad : ∀ x : Bool, x = true → Ev (fun k => impl_LendParts.j0 k a b n x l l) (l, false) := fun x hx => Ev.one fun k => by simp only [impl_LendParts.j0]; rw [if_pos hx]
  refine Ev.congr (fun k => by unfold impl_LendParts.f; rw [slices_Clone_int_int.val l hl, Option.bind_some, impl_isIndex.nat, Option.bind_some, impl_isIndex.nat]) ?_
  unfold lend lendBad
  by_cases ha : idxB a l.length = true
  · have ha' := (idxB_iff _ _).1 ha
    refine Ev.congr (fun k => by rw [if_pos ha, Option.bind_some]) ?_
    by_cases hb : idxB b l.length = true
    · have hb' := (idxB_iff _ _).1 hb
      refine Ev.congr (fun k => by rw [if_pos hb]) ?_
      by_cases hn : n < 0
      · refine Ev.congr (fun k => by rw [if_pos hn]) ?_
        rw [if_pos (by simp [hn])]
        exact bad true rfl
      · refine Ev.congr (fun k => by rw [if_neg hn, if_pos ha'.1, if_pos ha'.2]) ?_
        by_cases hg : n > rd l a
        · rw [if_pos (by simp [hg])]
          exact bad _ (by simp [hg])
        · rw [if_neg (by simp [ha, hb, hn, hg])]
          refine Ev.step (fun k => by simp only [impl_LendParts.j0, Option.bind_some]; rw [if_neg (by simp [hg]), if_pos ha'.1, if_pos ha'.2, if_pos hb'.1, if_pos hb'.2]) ?_
          refine Ev.bind (impl_IsContract.ev (lendY l a b n) (by simp [lendY]; omega)) ?_
          by_cases hc : contractB (lendY l a b n) = true
          · rw [if_pos hc]
            exact Ev.all fun k => by rw [if_pos hc]; rfl
          · rw [if_neg hc]
            exact Ev.all fun k => by rw [if_neg hc, slices_Clone_int_int.val l hl]; rfl
    · refine Ev.congr (fun k => by rw [if_neg hb]) ?_
      rw [if_pos (by simp [hb])]
      exact bad true rfl
  · refine Ev.congr (fun k => by rw [if_neg ha]) ?_
    rw [if_pos (by simp [ha])]
    exact bad true rfl

/-! laws_eqIntS -/
theorem laws_eqIntS.ev_l (l : List Int) (hl : l.length ≤ 1048576) : ∀ (d i : Nat), i + d = l.length → Ev (fun k => laws_eqIntS.l0 k l l i) true := by
  intro d
  induction d with
  | zero => intro i hi; refine Ev.one fun k => ?_; simp only [laws_eqIntS.l0]; rw [if_neg (by omega)]
  | succ d ih =>
    intro i hi
    refine Ev.step (fun k => ?_) (ih (i + 1) (by omega))
    simp only [laws_eqIntS.l0]
    rw [if_pos (by omega), if_pos (by omega), if_pos (by omega), if_pos trivial, wrap_nat (by omega)]
theorem laws_eqIntS.ev (l : List Int) (hl : l.length ≤ 1048576) : Ev (fun k => laws_eqIntS.f k l l) true :=
  Ev.congr (fun k => by unfold laws_eqIntS.f; rw [if_pos rfl] <;> rfl) (laws_eqIntS.ev_l l hl l.length 0 (by omega))

/-! laws_eqContract -/
theorem laws_eqContract.ev (l : List Int) (hl : l.length ≤ 1048576) : Ev (fun k => laws_eqContract.f k l l) true := Ev.bind (laws_eqIntS.ev l hl) (Ev.all fun k => rfl)

/-! laws_markIntS -/
theorem laws_markIntS.ev_l (a : Int) (n : Nat) (h0 : 0 ≤ a) (h1 : a + n ≤ 4611686018427387904) : ∀ (d i : Nat) (o : List Int), i + d = n → o.length = n → o.take i = (marks a n).take i →
    Ev (fun k => laws_markIntS.l0 k o (a + i) i) (a + n, marks a n) := by
  intro d
  induction d with
  | zero =>
    intro i o hi ho ht
    refine Ev.one fun k => ?_
    simp only [laws_markIntS.l0]
    rw [if_neg (by omega), take_full (by rw [marks_length]; exact ho) (by rw [marks_length]; omega) ht, show i = n by omega]
  | succ d ih =>
    intro i o hi ho ht
    refine Ev.step (fun k => ?_) (ih (i + 1) (o.set i (a + i)) (by omega) (by simp [ho]) (set_take o _ _ (by rw [marks_length]; exact ho) (marks_get a n i (by omega)) ht))
    simp only [laws_markIntS.l0]
    rw [if_pos (by omega), if_pos (by omega), wrap_nat (by omega), wrap_id (by omega) (by omega)]
    rw [show a + (i : Int) + 1 = a + ((i + 1 : Nat) : Int) by omega]
    rfl
theorem laws_markIntS.ev (l : List Int) (a : Int) (h0 : 0 ≤ a) (h1 : a + l.length ≤ 4611686018427387904) : Ev (fun k => laws_markIntS.f k l a) (a + l.length, marks a l.length) := by
  have := laws_markIntS.ev_l a l.length h0 h1 l.length 0 l (by omega) rfl (by simp)
  rw [show a + ((0 : Nat) : Int) = a by omega] at this
  exact this

/-! laws_markContract -/
theorem laws_markContract.ev (l : List Int) (a : Int) (h0 : 0 ≤ a) (h1 : a ≤ 4000000000) (hl : l.length ≤ 1048576) : Ev (fun k => laws_markContract.f k l a) (a + l.length, marks a l.length) :=
  Ev.bind (laws_markIntS.ev l a h0 (by omega)) (Ev.now _)

/-! laws_heldIntS -/
theorem laws_heldIntS.ev_l (a : Int) (n : Nat) (h0 : 0 ≤ a) (h1 : a + n ≤ 4611686018427387904) : ∀ (d i : Nat), i + d = n → Ev (fun k => laws_heldIntS.l0 k (marks a n) (a + i) i) (a + n) := by
  intro d
  induction d with
  | zero =>
    intro i hi
    refine Ev.one fun k => ?_
    simp only [laws_heldIntS.l0]
    rw [if_neg (by rw [marks_length]; omega), show i = n by omega]
  | succ d ih =>
    intro i hi
    refine Ev.step (fun k => ?_) (ih (i + 1) (by omega))
    simp only [laws_heldIntS.l0]
    rw [if_pos (by rw [marks_length]; omega), if_pos (by omega), rd_nat, if_pos (marks_getD a n i (by omega)), wrap_nat (by omega), wrap_id (by omega) (by omega)]
    rw [show a + (i : Int) + 1 = a + ((i + 1 : Nat) : Int) by omega]
theorem laws_heldIntS.ev (a : Int) (n : Nat) (h0 : 0 ≤ a) (h1 : a + n ≤ 4611686018427387904) : Ev (fun k => laws_heldIntS.f k (marks a n) a) (a + n) := by
  have := laws_heldIntS.ev_l a n h0 h1 n 0 (by omega)
  rw [show a + ((0 : Nat) : Int) = a by omega] at this
  exact this

/-! laws_heldContract -/
theorem laws_heldContract.ev (a : Int) (n : Nat) (h0 : 0 ≤ a) (h1 : a ≤ 4000000000) (hn : n ≤ 1048576) : Ev (fun k => laws_heldContract.f k (marks a n) a) (a + n) :=
  Ev.bind (laws_heldIntS.ev a n h0 (by omega)) (Ev.all fun k => by rw [if_neg (by omega)])

/-! @@ FnExactLendParts -/
theorem proved : Stated := by
  intro l a b n ⟨hl, hw⟩ _ _ _
  obtain ⟨t, ht, hle, hp⟩ := laws_szContract.val l 1048576 (by omega) (by omega) hl
  refine Ev.rounds ?_
  refine Ev.congr (fun k => by unfold laws_FnExactLendParts.f; rw [ht, Option.bind_some]) ?_
  by_cases h : t < 0
  · exact Ev.all fun k => by rw [if_pos h]
  · obtain ⟨_, hl2⟩ := hp (by omega)
    have hx : (lend l a b n).1.length ≤ 1048576 := by rw [lend_len]; exact hl2
    refine Ev.congr (fun k => by rw [if_neg h]) ?_
    refine Ev.bind (laws_toContract.ev l hl2) (Ev.bind (spec_LendParts.ev l a b n hl2) (Ev.bind (laws_toContract.ev l hl2) (Ev.bind (impl_LendParts.ev l a b n hl2) (Ev.bind (laws_eqContract.ev _ hx) ?_))))
    refine Ev.congr (fun k => by rw [if_pos rfl]) ?_
    refine Ev.step (fun k => by simp only [laws_FnExactLendParts.j0]; rw [if_neg (by simp)]) ?_
    refine Ev.bind (laws_toContract.ev l hl2) (Ev.bind (laws_eqContract.ev l hl2) ?_)
    refine Ev.congr (fun k => by rw [if_pos rfl]) ?_
    refine Ev.bind (laws_markContract.ev l 1 (by omega) (by omega) hl2) ?_
    refine Ev.congr (fun k => by rw [if_neg (by omega)]) ?_
    refine Ev.bind (laws_eqContract.ev _ hx) ?_
    refine Ev.congr (fun k => by rw [if_pos rfl]) ?_
    refine Ev.step (fun k => by simp only [laws_FnExactLendParts.j1]; rw [if_neg (by simp)]) ?_
    refine Ev.bind (laws_markContract.ev _ 1 (by omega) (by omega) hx) (Ev.bind (laws_heldContract.ev 1 _ (by omega) (by omega) hx) ?_)
    refine Ev.congr (fun k => by rw [if_neg (by omega), if_pos rfl]) ?_
    refine Ev.bind (laws_toContract.ev l hl2) (Ev.bind (impl_LendParts.ev l a b n hl2) (Ev.bind (laws_eqContract.ev _ hx) ?_))
    refine Ev.congr (fun k => by rw [if_pos rfl]) ?_
    refine Ev.step (fun k => by simp only [laws_FnExactLendParts.j2]; rw [if_neg (by simp)]) ?_
    refine Ev.bind (laws_heldContract.ev 1 _ (by omega) (by omega) hx) ?_
    exact Ev.all fun k => by rw [if_neg (by omega), if_pos rfl]

end Go.Proofs.Ytindlpkkapelhaa.PureFnExactLendParts
