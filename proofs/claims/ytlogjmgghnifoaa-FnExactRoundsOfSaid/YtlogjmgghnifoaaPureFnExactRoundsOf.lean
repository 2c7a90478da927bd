/- FnExactRoundsOf, over numbers and lists alone: what the program's function and the reference's answer is one. Conditions: the numbers are of their kinds. -/
import Derived.Test.YtlogjmgghnifoaaKindsFnExactRoundsOf
import Derived.Test.YtlogjmgghnifoaaBase
namespace Go.Proofs.Ytlogjmgghnifoaa.PureFnExactRoundsOf
open Go.RowKit Go.Proofs.Ytlogjmgghnifoaa.PFnExactRoundsOf Go.Proofs.YtlogjmgghnifoaaW.PrintWords Go.Proofs.YtlogjmgghnifoaaW.PrintLast Go.Proofs.YtlogjmgghnifoaaW.PrintMore Go.Proofs.Ytlogjmgghnifoaa.Base
set_option linter.unusedVariables false
set_option linter.unusedSimpArgs false

/-! laws_eqIntS -/
theorem laws_eqIntS.ev_l (l : List Int) (hl : l.length ≤ 1048576) : ∀ (d i : Nat), i + d = l.length → Ev (fun k => laws_eqIntS.l0 k l l i) true := by
  intro d
  induction d with
  | zero => intro i hi; refine Ev.one fun k => ?_; simp only [laws_eqIntS.l0]; rw [if_neg (by omega)]
  | succ d ih =>
    intro i hi
    refine Ev.step (fun k => ?_) (ih (i + 1) (by omega))
    simp only [laws_eqIntS.l0]
    rw [if_pos (by omega), if_pos (by omega), if_pos (by omega), if_pos trivial, wrap_nat (by omega)]
theorem laws_eqIntS.ev (l : List Int) (hl : l.length ≤ 1048576) : Ev (fun k => laws_eqIntS.f k l l) true :=
  Ev.congr (fun k => by unfold laws_eqIntS.f; rw [if_pos rfl] <;> rfl) (laws_eqIntS.ev_l l hl l.length 0 (by omega))
theorem laws_eqIntS.ev' (l : List Int) (hl : l.length ≤ 4000000) : Ev (fun k => laws_eqIntS.f k l l) true := by
  refine Ev.congr (fun k => by unfold laws_eqIntS.f; rw [if_pos rfl]) (all_loop (g := fun k i => laws_eqIntS.l0 k l l i) l.length (Ev.one fun k => by simp only [laws_eqIntS.l0]; rw [if_neg (by omega)]) (fun i hi r hr => Ev.step (fun k => ?_) hr))
  simp only [laws_eqIntS.l0]
  rw [if_pos (by omega), if_pos (by omega), if_pos (by omega), if_pos trivial, wrap_nat (by omega)]

/-! laws_markIntS -/
theorem laws_markIntS.ev_l (a : Int) (n : Nat) (h0 : 0 ≤ a) (h1 : a + n ≤ 4611686018427387904) : ∀ (d i : Nat) (o : List Int), i + d = n → o.length = n → o.take i = (marks a n).take i →
    Ev (fun k => laws_markIntS.l0 k o (a + i) i) (a + n, marks a n) := by
  intro d
  induction d with
  | zero =>
    intro i o hi ho ht
    refine Ev.one fun k => ?_
    simp only [laws_markIntS.l0]
    rw [if_neg (by omega), take_full (by rw [marks_length]; exact ho) (by rw [marks_length]; omega) ht, show i = n by omega]
  | succ d ih =>
    intro i o hi ho ht
    refine Ev.step (fun k => ?_) (ih (i + 1) (o.set i (a + i)) (by omega) (by simp [ho]) (set_take o _ _ (by rw [marks_length]; exact ho) (marks_get a n i (by omega)) ht))
    simp only [laws_markIntS.l0]
    rw [if_pos (by omega), if_pos (by omega), wrap_nat (by omega), wrap_id (by omega) (by omega)]
    rw [show a + (i : Int) + 1 = a + ((i + 1 : Nat) : Int) by omega]
    rfl
theorem laws_markIntS.ev (l : List Int) (a : Int) (h0 : 0 ≤ a) (h1 : a + l.length ≤ 4611686018427387904) : Ev (fun k => laws_markIntS.f k l a) (a + l.length, marks a l.length) := by
  have := laws_markIntS.ev_l a l.length h0 h1 l.length 0 l (by omega) rfl (by simp)
  rw [show a + ((0 : Nat) : Int) = a by omega] at this
  exact this

/-! laws_heldIntS -/
theorem laws_heldIntS.ev_l (a : Int) (n : Nat) (h0 : 0 ≤ a) (h1 : a + n ≤ 4611686018427387904) : ∀ (d i : Nat), i + d = n → Ev (fun k => laws_heldIntS.l0 k (marks a n) (a + i) i) (a + n) := by
  intro d
  induction d with
  | zero =>
    intro i hi
    refine Ev.one fun k => ?_
    simp only [laws_heldIntS.l0]
    rw [if_neg (by rw [marks_length]; omega), show i = n by omega]
  | succ d ih =>
    intro i hi
    refine Ev.step (fun k => ?_) (ih (i + 1) (by omega))
    simp only [laws_heldIntS.l0]
    rw [if_pos (by rw [marks_length]; omega), if_pos (by omega), rd_nat, if_pos (marks_getD a n i (by omega)), wrap_nat (by omega), wrap_id (by omega) (by omega)]
    rw [show a + (i : Int) + 1 = a + ((i + 1 : Nat) : Int) by omega]
theorem laws_heldIntS.ev (a : Int) (n : Nat) (h0 : 0 ≤ a) (h1 : a + n ≤ 4611686018427387904) : Ev (fun k => laws_heldIntS.f k (marks a n) a) (a + n) := by
  have := laws_heldIntS.ev_l a n h0 h1 n 0 (by omega)
  rw [show a + ((0 : Nat) : Int) = a by omega] at this
  exact this

/-! laws_szLinkS -/
theorem laws_szLinkS.val (l : List S168) (a : Int) (h0 : 0 ≤ a) (h1 : a ≤ 1048576) (hl : l.length ≤ maxLen) :
    ∃ t, laws_szLinkS.f l a = some t ∧ t ≤ a ∧ (0 ≤ t → t = a - l.length ∧ l.length ≤ 1048576) := by
  unfold maxLen at hl
  unfold laws_szLinkS.f
  rw [wrap_id (by omega) (by omega)]
  by_cases h : a - (l.length : Int) < 0
  · rw [if_pos h]; exact ⟨_, rfl, by omega, by omega⟩
  · rw [if_neg h]; exact ⟨_, rfl, by omega, by omega⟩

/-! spec_l15Has -/
theorem spec_l15Has.ev (l : List Int) (a : Int) (hl : l.length ≤ 1048576) : Ev (fun k => spec_l15Has.f k l a) (hasB l a) := by
  have h := find_list (g := fun k i => spec_l15Has.l0 k l a i) (q := fun x => x == a) (r := true) (e := false) l 0
    (Ev.one fun k => by simp only [spec_l15Has.l0]; rw [if_neg (by omega)])
    (fun i k hi => by
      simp only [spec_l15Has.l0]
      rw [if_pos (by omega), if_pos (by omega), wrap_nat (by omega), rd_nat]
      by_cases h : l.getD i 0 = a
      · rw [if_pos h, if_pos (by simpa using h)]
      · rw [if_neg h, if_neg (by simpa using h)])
  rw [ite_bool] at h
  exact h

/-! spec_l1In -/
theorem spec_l1In.val (a lo hi : Int) : spec_l1In.f a lo hi = some (inR a lo hi) := by
  unfold spec_l1In.f inR
  by_cases h : a ≥ lo
  · rw [if_pos h]; simp [h]
  · rw [if_neg h]; simp; omega

/-! d_neigh -/
theorem strict_ext : ∀ (l1 l2 : List Int), l1.Pairwise (· < ·) → l2.Pairwise (· < ·) → (∀ x, x ∈ l1 ↔ x ∈ l2) → l1 = l2
  | [], [], _, _, _ => rfl
  | [], y :: l2, _, _, h => absurd ((h y).2 List.mem_cons_self) (by simp)
  | x :: l1, [], _, _, h => absurd ((h x).1 List.mem_cons_self) (by simp)
  | x :: l1, y :: l2, h1, h2, h => by
    rw [List.pairwise_cons] at h1 h2
    have hx : x = y := by
      rcases List.mem_cons.1 ((h x).1 List.mem_cons_self) with e | e
      · exact e
      · have a := h2.1 x e
        rcases List.mem_cons.1 ((h y).2 List.mem_cons_self) with e' | e'
        · omega
        · have b := h1.1 y e'
          omega
    subst hx
    rw [strict_ext l1 l2 h1.2 h2.2 fun z => ?_]
    constructor
    · intro hz
      have a := h1.1 z hz
      rcases List.mem_cons.1 ((h z).1 (List.mem_cons_of_mem _ hz)) with e | e
      · omega
      · exact e
    · intro hz
      have a := h2.1 z hz
      rcases List.mem_cons.1 ((h z).2 (List.mem_cons_of_mem _ hz)) with e | e
      · omega
      · exact e
def posU (n : Int) : List Int → Nat
  | [] => 0
  | x :: l => if x < n then posU n l + 1 else 0
def insU (n : Int) (out : List Int) : List Int := if posU n out = out.length ∨ ¬ out.getD (posU n out) 0 = n then out.take (posU n out) ++ [n] ++ out.drop (posU n out) else out
theorem insU_lt {x n : Int} (h : x < n) (l : List Int) : insU n (x :: l) = x :: insU n l := by
  unfold insU
  simp only [posU, if_pos h, List.length_cons, List.getD_cons_succ, List.take_succ_cons, List.drop_succ_cons, Nat.add_right_cancel_iff]
  split <;> simp
theorem insU_ge {x n : Int} (h : ¬ x < n) (l : List Int) : insU n (x :: l) = if x = n then x :: l else n :: x :: l := by
  unfold insU
  simp only [posU, if_neg h, List.length_cons, List.getD_cons_zero, List.take_zero, List.drop_zero, List.nil_append]
  by_cases e : x = n
  · rw [if_neg (by simp [e]), if_pos e]
  · rw [if_pos (Or.inr e), if_neg e]; rfl
theorem insU_mem (n : Int) : ∀ (l : List Int) (z : Int), z ∈ insU n l ↔ z = n ∨ z ∈ l
  | [], z => by simp [insU, posU]
  | x :: l, z => by
    by_cases h : x < n
    · rw [insU_lt h, List.mem_cons, insU_mem n l z, List.mem_cons]
      constructor
      · rintro (e | e | e)
        · exact .inr (.inl e)
        · exact .inl e
        · exact .inr (.inr e)
      · rintro (e | e | e)
        · exact .inr (.inl e)
        · exact .inl e
        · exact .inr (.inr e)
    · rw [insU_ge h]
      split
      · rename_i e
        simp only [List.mem_cons]
        constructor
        · exact .inr
        · rintro (e' | e')
          · exact .inl (by omega)
          · exact e'
      · simp only [List.mem_cons]
theorem insU_strict (n : Int) : ∀ (l : List Int), l.Pairwise (· < ·) → (insU n l).Pairwise (· < ·)
  | [], _ => by simp [insU, posU]
  | x :: l, h => by
    have h' := List.pairwise_cons.1 h
    by_cases hx : x < n
    · rw [insU_lt hx, List.pairwise_cons]
      refine ⟨fun z hz => ?_, insU_strict n l h'.2⟩
      rcases (insU_mem n l z).1 hz with e | e
      · omega
      · exact h'.1 z e
    · rw [insU_ge hx]
      split
      · exact h
      · rw [List.pairwise_cons]
        refine ⟨fun z hz => ?_, h⟩
        rcases List.mem_cons.1 hz with e | e
        · omega
        · have := h'.1 z e
          omega
theorem compact_sorted (zs : List Int) (hs : ∀ i j, i ≤ j → j < zs.length → zs.toArray[i]! ≤ zs.toArray[j]!) : ∀ m, m ≤ zs.length → (Go.Lib.compactUpTo zs.toArray m).Pairwise (· < ·) ∧ ∀ z, z ∈ Go.Lib.compactUpTo zs.toArray m ↔ ∃ j, j < m ∧ zs.toArray[j]! = z := by
  intro m
  induction m with
  | zero => intro _; exact ⟨by simp [Go.Lib.compactUpTo], fun z => by simp [Go.Lib.compactUpTo]⟩
  | succ m ih =>
    intro hm
    obtain ⟨h1, h2⟩ := ih (by omega)
    rw [Go.Lib.compactUpTo_succ]
    by_cases hk : Go.Lib.keeps zs.toArray m = true
    · rw [if_pos hk]
      refine ⟨List.pairwise_append.2 ⟨h1, by simp, fun z hz y hy => ?_⟩, fun z => ?_⟩
      · rw [List.mem_singleton] at hy
        subst hy
        obtain ⟨j, hj, e⟩ := (h2 z).1 hz
        unfold Go.Lib.keeps at hk
        rcases of_decide_eq_true hk with h0 | h0
        · omega
        · have a := hs j (m - 1) (by omega) (by omega)
          have b := hs (m - 1) m (by omega) (by omega)
          omega
      · rw [List.mem_append, List.mem_singleton, h2 z]
        constructor
        · rintro (⟨j, hj, e⟩ | e)
          · exact ⟨j, by omega, e⟩
          · exact ⟨m, by omega, e.symm⟩
        · rintro ⟨j, hj, e⟩
          by_cases hjm : j = m
          · exact .inr (by rw [← e, hjm])
          · exact .inl ⟨j, by omega, e⟩
    · rw [if_neg hk, List.append_nil]
      refine ⟨h1, fun z => ?_⟩
      rw [h2 z]
      have hk' : Go.Lib.keeps zs.toArray m = false := by simpa using hk
      unfold Go.Lib.keeps at hk'
      have h0 := of_decide_eq_false hk'
      constructor
      · rintro ⟨j, hj, e⟩
        exact ⟨j, by omega, e⟩
      · rintro ⟨j, hj, e⟩
        by_cases hjm : j = m
        · refine ⟨m - 1, by omega, ?_⟩
          have : zs.toArray[m]! = zs.toArray[m - 1]! := Classical.byContradiction fun h => h0 (.inr h)
          rw [← this, ← hjm]; exact e
        · exact ⟨j, by omega, e⟩
theorem fold_insU : ∀ (l o : List Int), o.Pairwise (· < ·) → (l.foldl (fun o n => insU n o) o).Pairwise (· < ·) ∧ ∀ z, z ∈ l.foldl (fun o n => insU n o) o ↔ z ∈ o ∨ z ∈ l
  | [], o, h => ⟨h, fun z => by simp⟩
  | n :: l, o, h => by
    obtain ⟨h1, h2⟩ := fold_insU l (insU n o) (insU_strict n o h)
    refine ⟨h1, fun z => ?_⟩
    rw [List.foldl_cons, h2 z, insU_mem, List.mem_cons]
    constructor
    · rintro ((e | e) | e)
      · exact .inr (.inl e)
      · exact .inl e
      · exact .inr (.inr e)
    · rintro (e | e | e)
      · exact .inl (.inr e)
      · exact .inl (.inl e)
      · exact .inr e
theorem compact_sort (l : List Int) : Go.Lib.compact (l.mergeSort fun x y => decide (x ≤ y)) = l.foldl (fun o n => insU n o) [] := by
  have hp : (l.mergeSort fun x y => decide (x ≤ y)).Pairwise fun x y => decide (x ≤ y) = true := List.pairwise_mergeSort (fun a b c h1 h2 => by simp only [decide_eq_true_eq] at *; omega) (fun a b => by simp only [Bool.or_eq_true, decide_eq_true_eq]; omega) l
  have hm : ∀ z, z ∈ (l.mergeSort fun x y => decide (x ≤ y)) ↔ z ∈ l := fun z => List.mem_mergeSort
  generalize (l.mergeSort fun x y => decide (x ≤ y)) = zs at hp hm
  have hg : ∀ j, j < zs.length → zs.toArray[j]! = zs.getD j 0 := fun j hj => by
    rw [List.getD_eq_getElem?_getD, List.getElem?_eq_getElem hj]
    simp [hj]
  have hs : ∀ i j, i ≤ j → j < zs.length → zs.toArray[i]! ≤ zs.toArray[j]! := fun i j hij hj => by
    rcases Nat.lt_or_ge i j with h | h
    · have := List.pairwise_iff_getElem.1 hp i j (by omega) hj h
      simp only [decide_eq_true_eq] at this
      rw [hg i (by omega), hg j hj, List.getD_eq_getElem?_getD, List.getD_eq_getElem?_getD, List.getElem?_eq_getElem hj, List.getElem?_eq_getElem (show i < zs.length by omega)]
      exact this
    · rw [show i = j by omega]; exact Int.le_refl _
  obtain ⟨h1, h2⟩ := compact_sorted zs hs zs.length (Nat.le_refl _)
  obtain ⟨h3, h4⟩ := fold_insU l [] List.Pairwise.nil
  refine strict_ext _ _ h1 h3 fun z => ?_
  show z ∈ Go.Lib.compactUpTo zs.toArray zs.length ↔ _
  rw [h2 z, h4 z, ← hm z]
  constructor
  · rintro ⟨j, hj, e⟩
    refine .inr ?_
    rw [← e, hg j hj, List.getD_eq_getElem?_getD, List.getElem?_eq_getElem hj]
    exact List.getElem_mem hj
  · rintro (e | e)
    · cases e
    · obtain ⟨j, hj, e⟩ := List.getElem_of_mem e
      exact ⟨j, hj, by rw [hg j hj, List.getD_eq_getElem?_getD, List.getElem?_eq_getElem hj]; exact e⟩

/-! d_nbs -/
theorem insU_len (n : Int) (o : List Int) : (insU n o).length ≤ o.length + 1 := by
  unfold insU
  split
  · simp; omega
  · omega
theorem posU_le (n : Int) : ∀ l : List Int, posU n l ≤ l.length
  | [] => Nat.le_refl _
  | x :: l => by
    rw [posU]
    have := posU_le n l
    split
    · simp only [List.length_cons]; omega
    · simp
theorem insU_idem (n : Int) (o : List Int) (h : o.Pairwise (· < ·)) : insU n (insU n o) = insU n o :=
  strict_ext _ _ (insU_strict n _ (insU_strict n o h)) (insU_strict n o h) fun z => by
    rw [insU_mem, insU_mem]
    constructor
    · rintro (e | e)
      · exact .inl e
      · exact e
    · exact .inr
def nbStep (node : Int) (o : List Int) (x : S166) : List Int := if x.f0 = node then insU x.f1 o else if x.f1 = node then insU x.f0 o else o
def nbs (l : List S166) (node : Int) : List Int := l.foldl (nbStep node) []
theorem nbStep_len (node : Int) (o : List Int) (x : S166) : (nbStep node o x).length ≤ o.length + 1 := by
  unfold nbStep
  split
  · exact insU_len _ _
  · split
    · exact insU_len _ _
    · omega
theorem nbs_len (l : List S166) (node : Int) : (nbs l node).length ≤ l.length := by
  have : ∀ (l : List S166) (o : List Int), (l.foldl (nbStep node) o).length ≤ o.length + l.length := by
    intro l
    induction l with
    | nil => intro o; simp
    | cons x l ih =>
      intro o
      have h1 := ih (nbStep node o x)
      have h2 := nbStep_len node o x
      simp only [List.foldl_cons, List.length_cons]
      omega
  simpa [nbs] using this l []
def rawStep (node : Int) (r : List Int) (x : S166) : List Int := if x.f1 = node then (if x.f0 = node then r ++ [x.f1] else r) ++ [x.f0] else if x.f0 = node then r ++ [x.f1] else r
theorem raw_nbs (node : Int) : ∀ (l : List S166) (r : List Int), (l.foldl (rawStep node) r).foldl (fun o n => insU n o) [] = l.foldl (nbStep node) (r.foldl (fun o n => insU n o) [])
  | [], r => rfl
  | x :: l, r => by
    have hs := (fold_insU r [] List.Pairwise.nil).1
    rw [List.foldl_cons, List.foldl_cons, raw_nbs node l]
    congr 1
    unfold rawStep nbStep
    by_cases h0 : x.f0 = node
    · by_cases h1 : x.f1 = node
      · rw [if_pos h1, if_pos h0, if_pos h0, List.foldl_append, List.foldl_append]
        simp only [List.foldl_cons, List.foldl_nil]
        rw [h0, h1]
        exact insU_idem _ _ hs
      · rw [if_neg h1, if_pos h0, if_pos h0, List.foldl_append]
        rfl
    · by_cases h1 : x.f1 = node
      · rw [if_pos h1, if_neg h0, if_neg h0, if_pos h1, List.foldl_append]
        rfl
      · rw [if_neg h1, if_neg h0, if_neg h0, if_neg h1]
theorem raw_len (node : Int) : ∀ (l : List S166) (r : List Int), (l.foldl (rawStep node) r).length ≤ r.length + 2 * l.length
  | [], r => by simp
  | x :: l, r => by
    have h1 := raw_len node l (rawStep node r x)
    have h2 : (rawStep node r x).length ≤ r.length + 2 := by
      unfold rawStep
      repeat' split
      all_goals simp
    simp only [List.foldl_cons, List.length_cons]
    omega

/-! spec_NeighborsIn -/
theorem spec_NeighborsIn.ev_l1 (l : List S166) (node : Int) (o : List Int) (x6 : Int) (n : Int) (ho : o.length ≤ 4000000) (R : List Int) (h6 : Ev (fun k => spec_NeighborsIn.l0 k l node (insU n o) (wrap64 (x6 + 1))) R) :
    ∀ (d i : Nat), i + d = o.length → posU n o = i + posU n (o.drop i) → Ev (fun k => spec_NeighborsIn.l1 k l node o x6 n i) R := by
  have put : ∀ i : Nat, i ≤ o.length → posU n o = i → (i = o.length ∨ ¬ o.getD i 0 = n) → ∀ b : Bool, b = true → Ev (fun k => spec_NeighborsIn.j4 k l node o x6 n i b) R := fun i hi hp hc b hb => by
    have e : insU n o = o.take i ++ [n] ++ o.drop i := by
      unfold insU
      rw [hp, if_pos hc]
    rw [e] at h6
    refine Ev.step (fun k => ?_) h6
    simp only [spec_NeighborsIn.j4]
    rw [if_pos hb, Option.bind_some, if_pos (by omega), if_pos (by omega), Option.bind_some, Int.toNat_natCast, if_pos (by simp; omega), Option.bind_some, Option.bind_some, if_pos (by simp; omega), Option.bind_some, Option.bind_some, if_pos (by simp; omega), List.nil_append]
  intro d
  induction d with
  | zero =>
    intro i hi hp
    rw [List.drop_eq_nil_of_le (by omega)] at hp
    have hp' : posU n o = i := by simpa [posU] using hp
    refine Ev.step (fun k => by simp only [spec_NeighborsIn.l1]; rw [if_neg (by omega)]) ?_
    refine Ev.step (fun k => by simp only [spec_NeighborsIn.j3]; rw [if_neg (by simp), if_pos (by omega)]) (put i (by omega) hp' (.inl (by omega)) true rfl)
  | succ d ih =>
    intro i hi hp
    rw [drop_cons o 0 (by omega), posU] at hp
    refine Ev.step (fun k => by simp only [spec_NeighborsIn.l1]; rw [if_pos (by omega), if_pos (by omega), rd_nat]) ?_
    by_cases hx : o.getD i 0 < n
    · rw [if_pos hx] at hp
      exact Ev.step (fun k => by simp only [spec_NeighborsIn.j3]; rw [if_pos (decide_eq_true hx), wrap_nat (by omega)]) (ih (i + 1) (by omega) (by omega))
    · rw [if_neg hx] at hp
      have hp' : posU n o = i := by omega
      refine Ev.step (fun k => by simp only [spec_NeighborsIn.j3]; rw [if_neg (by simpa using hx), if_neg (by omega), if_pos (by omega), if_pos (by omega), rd_nat]) ?_
      by_cases he : o.getD i 0 = n
      · have e : insU n o = o := by
          unfold insU
          rw [hp', if_neg (by rintro (h | h); omega; exact h he)]
        rw [e] at h6
        exact Ev.step (fun k => by simp only [spec_NeighborsIn.j4]; rw [if_neg (by simpa using he)]) h6
      · exact put i (by omega) hp' (.inr he) _ (by simpa using he)
theorem spec_NeighborsIn.ev (l : List S166) (node : Int) (hl : l.length ≤ 1048576) : Ev (fun k => spec_NeighborsIn.f k l node) (nbs l node) := by
  have h := foldE_index (g := fun k o i => spec_NeighborsIn.l0 k l node o i) (f := fun j o => nbStep node o (l.getD j z166)) (fin := fun o => o) (fun i o => o.length ≤ i) l.length [] (by simp)
    (fun o ho => Ev.one fun k => by simp only [spec_NeighborsIn.l0]; rw [if_neg (by omega)])
    (fun i o hi ho => by
      refine ⟨Nat.le_trans (nbStep_len _ _ _) (by omega), fun r hr => ?_⟩
      rw [show (((i + 1 : Nat) : Int)) = wrap64 ((i : Int) + 1) from (wrap_nat (by omega)).symm] at hr
      have one : ∀ n, nbStep node o (l.getD i z166) = insU n o → Ev (fun k => spec_NeighborsIn.j1 k l node o i n) r := fun n e => by
        rw [e] at hr
        exact Ev.step (fun k => by simp only [spec_NeighborsIn.j1]; rfl) (spec_NeighborsIn.ev_l1 l node o i n (by omega) r hr o.length 0 (by omega) (by simp))
      have rdE : rd_T166 l (i : Int) = l.getD i z166 := rfl
      by_cases h0 : (l.getD i z166).f0 = node
      · exact Ev.step (fun k => by simp only [spec_NeighborsIn.l0]; rw [if_pos (by omega), if_pos (by omega), rdE, if_pos h0]) (one _ (by unfold nbStep; rw [if_pos h0]))
      · by_cases h1 : (l.getD i z166).f1 = node
        · exact Ev.step (fun k => by simp only [spec_NeighborsIn.l0]; rw [if_pos (by omega), if_pos (by omega), rdE, if_neg h0, if_pos h1]) (one _ (by unfold nbStep; rw [if_neg h0, if_pos h1]))
        · have e : nbStep node o (l.getD i z166) = o := by unfold nbStep; rw [if_neg h0, if_neg h1]
          rw [e] at hr
          exact Ev.step (fun k => by simp only [spec_NeighborsIn.l0]; rw [if_pos (by omega), if_pos (by omega), rdE, if_neg h0, if_neg h1]) hr)
  rw [foldl_index l z166 (fun o x => nbStep node o x) []] at h
  exact h

/-! d_rounds -/
def mexFrom (t : List Int) : Nat → Nat → Nat
  | 0, r => r
  | d + 1, r => if (r : Int) ∈ t then mexFrom t d (r + 1) else r
theorem mex_le (t : List Int) : ∀ d r : Nat, mexFrom t d r ≤ r + d
  | 0, r => by simp [mexFrom]
  | d + 1, r => by
    rw [mexFrom]
    have := mex_le t d (r + 1)
    split <;> omega
def takeStep (o : List Int) (node : Int) (t : List Int) (n : Int) : List Int := if 0 ≤ n ∧ n < node then t ++ [o.getD n.toNat 0] else t
def takenOf (o : List Int) (node : Int) (near : List Int) : List Int := near.foldl (takeStep o node) []
def roundStep (l : List S166) (o : List Int) (i : Nat) : List Int := o ++ [((mexFrom (takenOf o (i : Int) (nbs l (i : Int))) i 0 : Nat) : Int)]
def rounds (l : List S166) (nodes : Int) : List Int := if inR nodes 1 12 = true then (List.range' 0 nodes.toNat).foldl (fun s j => roundStep l s j) [] else []
theorem rounds_len (l : List S166) (nodes : Int) : (rounds l nodes).length ≤ 12 := by
  have : ∀ (d i : Nat) (s : List Int), ((List.range' i d).foldl (fun s j => roundStep l s j) s).length = s.length + d := by
    intro d
    induction d with
    | zero => intro i s; simp
    | succ d ih =>
      intro i s
      rw [List.range'_succ, List.foldl_cons, ih]
      unfold roundStep
      simp
      omega
  unfold rounds inR
  split
  · rename_i h
    rw [this]
    simp at h ⊢
    omega
  · simp
theorem taken_mem (o : List Int) (node : Int) (B : Int) (hn : node = (o.length : Int)) (ho : ∀ x ∈ o, x < B) : ∀ (near t : List Int), (∀ x ∈ t, x < B) → ∀ x ∈ near.foldl (takeStep o node) t, x < B
  | [], t, ht => ht
  | n :: near, t, ht => by
    rw [List.foldl_cons]
    refine taken_mem o node B hn ho near _ ?_
    unfold takeStep
    split
    · rename_i h
      intro x hx
      rcases List.mem_append.1 hx with h1 | h1
      · exact ht x h1
      · rw [List.mem_singleton.1 h1, List.getD_eq_getElem?_getD, List.getElem?_eq_getElem (by omega)]
        exact ho _ (List.getElem_mem _)
    · exact ht
theorem takeStep_len (o : List Int) (node : Int) (t : List Int) (n : Int) : (takeStep o node t n).length ≤ t.length + 1 := by
  unfold takeStep
  split <;> simp
theorem taken_len (o : List Int) (node : Int) (near : List Int) : (takenOf o node near).length ≤ near.length := by
  have : ∀ (near t : List Int), (near.foldl (takeStep o node) t).length ≤ t.length + near.length := by
    intro near
    induction near with
    | nil => intro t; simp
    | cons n near ih =>
      intro t
      have h1 := ih (takeStep o node t n)
      have h2 := takeStep_len o node t n
      simp only [List.foldl_cons, List.length_cons]
      omega
  simpa [takenOf] using this near []
theorem hasB_mem (l : List Int) (a : Int) : (hasB l a = true) = (a ∈ l) := by
  unfold hasB
  simp
theorem roundStep_lt (l : List S166) (o : List Int) (i : Nat) (hi : o.length = i) (ho : ∀ x ∈ o, x < (i : Int)) : (roundStep l o i).length = i + 1 ∧ ∀ x ∈ roundStep l o i, x < ((i + 1 : Nat) : Int) := by
  unfold roundStep
  refine ⟨by simp [hi], fun x hx => ?_⟩
  rcases List.mem_append.1 hx with h1 | h1
  · have := ho x h1; omega
  · rw [List.mem_singleton.1 h1]
    have := mex_le (takenOf o (i : Int) (nbs l (i : Int))) i 0
    omega

/-! spec_RoundsOf -/
theorem spec_RoundsOf.ev_l1 (l : List S166) (nodes : Int) (o : List Int) (i : Int) (near T r : List Int) (hn : near.length ≤ 1048576) (ho : (o.length : Int) = i) (hi : i ≤ 12) (hr : Ev (fun k => spec_RoundsOf.l2 k l nodes o i T 0) r) :
    ∀ (d j : Nat) (t : List Int), j + d = near.length → t.length ≤ j → (near.drop j).foldl (takeStep o i) t = T → Ev (fun k => spec_RoundsOf.l1 k l nodes o i t near (j : Int)) r := by
  intro d
  induction d with
  | zero =>
    intro j t hj ht hT
    rw [List.drop_eq_nil_of_le (by omega), List.foldl_nil] at hT
    subst hT
    exact Ev.step (fun k => by simp only [spec_RoundsOf.l1]; rw [if_neg (by omega)]) hr
  | succ d ih =>
    intro j t hj ht hT
    rw [drop_cons near 0 (by omega), List.foldl_cons] at hT
    refine Ev.step (fun k => ?_) (ih (j + 1) _ (by omega) (by have := takeStep_len o i t (near.getD j 0); omega) hT)
    simp only [spec_RoundsOf.l1]
    rw [if_pos (by omega), if_pos (by omega), rd_nat, spec_l1In.val, Option.bind_some, wrap_nat (by omega), wrap_id (by omega) (by omega)]
    unfold takeStep inR
    by_cases h : 0 ≤ near.getD j 0 ∧ near.getD j 0 < i
    · rw [if_pos (by simp only [Bool.and_eq_true, decide_eq_true_eq]; omega), if_pos h.1, if_pos (by omega), if_pos (by omega), if_pos h]; rfl
    · rw [if_neg (by simp only [Bool.and_eq_true, decide_eq_true_eq]; omega), if_neg h]
theorem spec_RoundsOf.ev_l2 (l : List S166) (nodes : Int) (o : List Int) (i : Int) (T R : List Int) (hT : T.length ≤ 1048576) (ho : o.length ≤ 12) : ∀ (d q : Nat), (∀ x ∈ T, x < ((q + d : Nat) : Int)) → q + d ≤ 12 →
    Ev (fun k => spec_RoundsOf.l0 k l nodes (o ++ [((mexFrom T d q : Nat) : Int)]) (wrap64 (i + 1))) R → Ev (fun k => spec_RoundsOf.l2 k l nodes o i T (q : Int)) R := by
  have out : ∀ q : Nat, ¬ (q : Int) ∈ T → Ev (fun k => spec_RoundsOf.l0 k l nodes (o ++ [(q : Int)]) (wrap64 (i + 1))) R → Ev (fun k => spec_RoundsOf.l2 k l nodes o i T (q : Int)) R := fun q hm h => by
    refine Ev.step (fun k => by simp only [spec_RoundsOf.l2]; rfl) ?_
    refine Ev.bind (spec_l15Has.ev T q hT) ?_
    exact Ev.congr (fun k => by rw [if_neg (by rw [hasB_mem]; exact hm), if_pos (by omega)]) h
  intro d
  induction d with
  | zero =>
    intro q hx hq h
    exact out q (fun hm => by have := hx _ hm; omega) h
  | succ d ih =>
    intro q hx hq h
    rw [mexFrom] at h
    by_cases hm : (q : Int) ∈ T
    · rw [if_pos hm] at h
      refine Ev.step (fun k => by simp only [spec_RoundsOf.l2]; rfl) ?_
      refine Ev.bind (spec_l15Has.ev T q hT) ?_
      exact Ev.congr (fun k => by rw [if_pos (by rw [hasB_mem]; exact hm), wrap_nat (by omega)]) (ih (q + 1) (fun x hx' => by have := hx x hx'; omega) (by omega) h)
    · rw [if_neg hm] at h
      exact out q hm h
theorem spec_RoundsOf.ev (l : List S166) (nodes : Int) (hl : l.length ≤ 1048576) : Ev (fun k => spec_RoundsOf.f k l nodes) (rounds l nodes) := by
  unfold spec_RoundsOf.f rounds
  refine Ev.congr (fun k => by rw [Option.bind_some, spec_l1In.val, Option.bind_some]) ?_
  by_cases hb : inR nodes 1 12 = true
  · have hnn : 1 ≤ nodes ∧ nodes ≤ 12 := by unfold inR at hb; simpa using hb
    rw [if_pos hb]
    refine Ev.congr (fun k => by rw [if_pos hb]) ?_
    exact foldE_index (g := fun k s i => spec_RoundsOf.l0 k l nodes s i) (f := fun i s => roundStep l s i) (fin := fun s => s) (fun i s => s.length = i ∧ ∀ x ∈ s, x < (i : Int)) nodes.toNat [] ⟨rfl, by simp⟩
      (fun s hs => Ev.one fun k => by simp only [spec_RoundsOf.l0]; rw [if_neg (by omega)])
      (fun i s hi hs => ⟨roundStep_lt l s i hs.1 hs.2, fun r hr => by
        rw [show (((i + 1 : Nat) : Int)) = wrap64 ((i : Int) + 1) from (wrap_nat (by omega)).symm] at hr
        have hln := nbs_len l (i : Int)
        refine Ev.step (fun k => by simp only [spec_RoundsOf.l0]; rw [if_pos (by omega)]) (Ev.bind (spec_NeighborsIn.ev l i hl) ?_)
        have hT : (takenOf s (i : Int) (nbs l (i : Int))).length ≤ 1048576 := Nat.le_trans (taken_len _ _ _) (by omega)
        have := spec_RoundsOf.ev_l2 l nodes s (i : Int) (takenOf s (i : Int) (nbs l (i : Int))) r hT (by omega) i 0 (fun x hx => by rw [Nat.zero_add]; exact taken_mem s i i (by omega) hs.2 _ [] (by simp) x hx) (by omega) hr
        exact spec_RoundsOf.ev_l1 l nodes s i (nbs l i) _ r (by omega) (by omega) (by omega) this (nbs l (i : Int)).length 0 [] (by omega) (by simp) rfl⟩)
  · rw [if_neg hb]
    exact Ev.all fun k => by rw [if_neg hb]

/-! laws_toLinkS -/
def cLink (x : S168) : S166 := ⟨x.f0, x.f1⟩
theorem laws_toLinkS.ev_l (l : List S168) (hl : l.length ≤ 1048576) : ∀ (d i : Nat) (o : List S166), i + d = l.length → o.length = l.length → o.take i = (l.map cLink).take i → Ev (fun k => laws_toLinkS.l0 k l o i) (l.map cLink) := by
  intro d
  induction d with
  | zero =>
    intro i o hi ho ht
    refine Ev.one fun k => ?_
    simp only [laws_toLinkS.l0]
    rw [if_neg (by omega), take_full (by simpa using ho) (by simp; omega) ht]
  | succ d ih =>
    intro i o hi ho ht
    refine Ev.step (fun k => ?_) (ih (i + 1) (o.set i (cLink (l.getD i z168))) (by omega) (by simp [ho]) (set_take o _ _ (by simpa using ho) (get_map cLink l z168 (by omega)) ht))
    simp only [laws_toLinkS.l0, laws_toLink.f, Option.bind_some]
    rw [if_pos (by omega), if_pos (by omega), if_pos (by omega), wrap_nat (by omega)]
    rfl
theorem laws_toLinkS.ev (l : List S168) (hl : l.length ≤ 1048576) : Ev (fun k => laws_toLinkS.f k l) (l.map cLink) :=
  Ev.congr (fun k => by unfold laws_toLinkS.f; rw [if_pos (by omega), if_pos (by omega)] <;> rfl) (laws_toLinkS.ev_l l hl l.length 0 _ (by omega) (by simp) (by simp))

/-! impl_NeighborsIn -/
theorem rawStep_len (node : Int) (r : List Int) (x : S166) : (rawStep node r x).length ≤ r.length + 2 := by
  unfold rawStep
  repeat' split
  all_goals simp
theorem impl_NeighborsIn.step (l : List S166) (node : Int) (s : List Int) (i k : Nat) (hl : l.length ≤ 1048576) (hi : i < l.length) (hs : s.length ≤ 2 * i) :
    impl_NeighborsIn.l0 (k + 1) node s l (l.length : Int) i = impl_NeighborsIn.l0 k node (rawStep node s (l.getD i z166)) l (l.length : Int) ((i + 1 : Nat) : Int) := by
  simp only [impl_NeighborsIn.l0]
  rw [if_pos (by omega), if_pos (by omega), if_pos (by omega), wrap_nat (by omega), show rd_T166 l (i : Int) = l.getD i z166 from rfl]
  unfold rawStep
  by_cases h0 : (l.getD i z166).f0 = node
  · rw [if_pos h0, if_pos (by omega), Option.bind_some]
    by_cases h1 : (l.getD i z166).f1 = node
    · rw [if_pos h1, if_pos (by rw [List.length_append, List.length_singleton]; omega), if_pos h1, if_pos h0]
    · rw [if_neg h1, if_neg h1, if_pos h0]
  · rw [if_neg h0]
    by_cases h1 : (l.getD i z166).f1 = node
    · rw [if_pos h1, if_pos (by omega), if_pos h1, if_neg h0]
    · rw [if_neg h1, if_neg h1, if_neg h0]
theorem impl_NeighborsIn.ev (l : List S166) (node : Int) (hl : l.length ≤ 1048576) : Ev (fun k => impl_NeighborsIn.f k l node) (nbs l node) := by
  have h := fold_index (g := fun k s i => impl_NeighborsIn.l0 k node s l (l.length : Int) i) (f := fun i s => rawStep node s (l.getD i z166)) (fin := fun s => s.foldl (fun o n => insU n o) []) (fun i s => s.length ≤ 2 * i) l.length [] (by simp)
    (fun s hs => Ev.one fun k => by
      simp only [impl_NeighborsIn.l0]
      rw [if_neg (by omega)]
      unfold slices_Sort_int_int.f slices_Compact_int_int.f
      rw [if_pos (by omega), Option.bind_some, Option.bind_some]
      exact congrArg some (compact_sort s))
    (fun i s hi hs => ⟨Nat.le_trans (rawStep_len _ _ _) (by omega), fun k => impl_NeighborsIn.step l node s i k hl hi hs⟩)
  rw [foldl_index l z166 (fun s x => rawStep node s x) [], raw_nbs node l []] at h
  exact h

/-! slices_Index_int_int -/
theorem slices_Index_int_int.ev_l (l : List Int) (a : Int) (hl : l.length ≤ 1048576) : ∀ (d i : Nat), i + d = l.length → ∃ r, Ev (fun k => slices_Index_int_int.l0 k l a l.length i) r ∧ decide (r ≥ 0) = (l.drop i).any (fun x => x == a) := by
  intro d
  induction d with
  | zero =>
    intro i hi
    exact ⟨-1, Ev.one fun k => by simp only [slices_Index_int_int.l0]; rw [if_neg (by omega)], by rw [List.drop_eq_nil_of_le (by omega)]; rfl⟩
  | succ d ih =>
    intro i hi
    rw [drop_cons l 0 (show i < l.length by omega), List.any_cons]
    by_cases h : a = l.getD i 0
    · refine ⟨(i : Int), Ev.one fun k => ?_, ?_⟩
      · simp only [slices_Index_int_int.l0]
        rw [if_pos (by omega), if_pos (by omega), if_pos (by omega), rd_nat, if_pos h]
      · rw [← h]; simp
    · obtain ⟨r, hr, hd⟩ := ih (i + 1) (by omega)
      refine ⟨r, Ev.step (fun k => ?_) hr, ?_⟩
      · simp only [slices_Index_int_int.l0]
        rw [if_pos (by omega), if_pos (by omega), if_pos (by omega), rd_nat, if_neg h, wrap_nat (by omega)]
      · have : (l.getD i 0 == a) = false := by rw [beq_eq_false_iff_ne]; exact fun e => h e.symm
        rw [this, Bool.false_or, hd]
theorem slices_Index_int_int.ev (l : List Int) (a : Int) (hl : l.length ≤ 1048576) : ∃ r, Ev (fun k => slices_Index_int_int.f k l a) r ∧ decide (r ≥ 0) = hasB l a := by
  have := slices_Index_int_int.ev_l l a hl l.length 0 (by omega)
  rw [List.drop_zero] at this
  exact this

/-! slices_Contains_int_int -/
theorem slices_Contains_int_int.ev (l : List Int) (a : Int) (hl : l.length ≤ 1048576) : Ev (fun k => slices_Contains_int_int.f k l a) (hasB l a) := by
  obtain ⟨r, hr, e⟩ := slices_Index_int_int.ev l a hl
  rw [← e]
  exact Ev.bind hr (Ev.now _)

/-! impl_isIndex -/
theorem impl_isIndex.val (a n : Int) : impl_isIndex.f a n = some (decide (0 ≤ a) && decide (a < n)) := by
  unfold impl_isIndex.f
  by_cases h : a ≥ 0
  · rw [if_pos h]; simp [h]
  · rw [if_neg h]; simp; omega
theorem impl_isIndex.nat (a : Int) (n : Nat) : impl_isIndex.f a (n : Int) = some (idxB a n) := impl_isIndex.val a n

/-! impl_InRange -/
theorem impl_InRange.val (a lo hi : Int) : impl_InRange.f a lo hi = some (inR a lo hi) := by
  unfold impl_InRange.f inR
  by_cases h : lo ≤ a
  · rw [if_pos h]; simp [h]
  · rw [if_neg h]; simp; omega

/-! impl_isNumber -/
theorem impl_isNumber.val (a : Int) : impl_isNumber.f a = some (inR a 1 12) := by
  unfold impl_isNumber.f
  rw [impl_InRange.val]; rfl

/-! impl_RoundsOf -/
theorem impl_RoundsOf.ev_l1 (l : List S166) (nodes : Int) (o : List Int) (i : Int) (near T r : List Int) (hn : near.length ≤ 1048576) (ho : (o.length : Int) = i) (hi : i ≤ 12) (hr : Ev (fun k => impl_RoundsOf.l2 k l o T 0 nodes i) r) :
    ∀ (d j : Nat) (t : List Int), j + d = near.length → t.length ≤ j → (near.drop j).foldl (takeStep o i) t = T → Ev (fun k => impl_RoundsOf.l1 k l o i t nodes i near (near.length : Int) (j : Int)) r := by
  intro d
  induction d with
  | zero =>
    intro j t hj ht hT
    rw [List.drop_eq_nil_of_le (by omega), List.foldl_nil] at hT
    subst hT
    exact Ev.step (fun k => by simp only [impl_RoundsOf.l1]; rw [if_neg (by omega)]) hr
  | succ d ih =>
    intro j t hj ht hT
    rw [drop_cons near 0 (by omega), List.foldl_cons] at hT
    refine Ev.step (fun k => ?_) (ih (j + 1) _ (by omega) (by have := takeStep_len o i t (near.getD j 0); omega) hT)
    simp only [impl_RoundsOf.l1]
    rw [if_pos (by omega), if_pos (by omega), if_pos (by omega), rd_nat, impl_isIndex.val, Option.bind_some, wrap_nat (by omega)]
    unfold takeStep
    by_cases h : 0 ≤ near.getD j 0 ∧ near.getD j 0 < i
    · rw [if_pos (by simp only [Bool.and_eq_true, decide_eq_true_eq]; omega), if_pos h.1, if_pos (by omega), if_pos (by omega), if_pos h]; rfl
    · rw [if_neg (by simp only [Bool.and_eq_true, decide_eq_true_eq]; omega), if_neg h]
theorem impl_RoundsOf.ev_l2 (l : List S166) (nodes : Int) (o : List Int) (i : Int) (T R : List Int) (hT : T.length ≤ 1048576) (ho : o.length ≤ 12) : ∀ (d q : Nat), (∀ x ∈ T, x < ((q + d : Nat) : Int)) → q + d ≤ 12 →
    Ev (fun k => impl_RoundsOf.l0 k l (o ++ [((mexFrom T d q : Nat) : Int)]) nodes (wrap64 (i + 1))) R → Ev (fun k => impl_RoundsOf.l2 k l o T (q : Int) nodes i) R := by
  have out : ∀ q : Nat, ¬ (q : Int) ∈ T → Ev (fun k => impl_RoundsOf.l0 k l (o ++ [(q : Int)]) nodes (wrap64 (i + 1))) R → Ev (fun k => impl_RoundsOf.l2 k l o T (q : Int) nodes i) R := fun q hm h => by
    refine Ev.step (fun k => by simp only [impl_RoundsOf.l2]; rfl) ?_
    refine Ev.bind (slices_Contains_int_int.ev T q hT) ?_
    exact Ev.congr (fun k => by rw [if_neg (by rw [hasB_mem]; exact hm), if_pos (by omega)]) h
  intro d
  induction d with
  | zero =>
    intro q hx hq h
    exact out q (fun hm => by have := hx _ hm; omega) h
  | succ d ih =>
    intro q hx hq h
    rw [mexFrom] at h
    by_cases hm : (q : Int) ∈ T
    · rw [if_pos hm] at h
      refine Ev.step (fun k => by simp only [impl_RoundsOf.l2]; rfl) ?_
      refine Ev.bind (slices_Contains_int_int.ev T q hT) ?_
      exact Ev.congr (fun k => by rw [if_pos (by rw [hasB_mem]; exact hm), wrap_nat (by omega)]) (ih (q + 1) (fun x hx' => by have := hx x hx'; omega) (by omega) h)
    · rw [if_neg hm] at h
      exact out q hm h
theorem impl_RoundsOf.ev (l : List S166) (nodes : Int) (hl : l.length ≤ 1048576) : Ev (fun k => impl_RoundsOf.f k l nodes) (rounds l nodes) := by
  unfold impl_RoundsOf.f rounds
  refine Ev.congr (fun k => by rw [Option.bind_some, impl_isNumber.val, Option.bind_some]) ?_
  by_cases hb : inR nodes 1 12 = true
  · have hnn : 1 ≤ nodes ∧ nodes ≤ 12 := by unfold inR at hb; simpa using hb
    rw [if_pos hb]
    refine Ev.congr (fun k => by rw [if_pos hb]) ?_
    exact foldE_index (g := fun k s i => impl_RoundsOf.l0 k l s nodes i) (f := fun i s => roundStep l s i) (fin := fun s => s) (fun i s => s.length = i ∧ ∀ x ∈ s, x < (i : Int)) nodes.toNat [] ⟨rfl, by simp⟩
      (fun s hs => Ev.one fun k => by simp only [impl_RoundsOf.l0]; rw [if_neg (by omega)])
      (fun i s hi hs => ⟨roundStep_lt l s i hs.1 hs.2, fun r hr => by
        rw [show (((i + 1 : Nat) : Int)) = wrap64 ((i : Int) + 1) from (wrap_nat (by omega)).symm] at hr
        have hln := nbs_len l (i : Int)
        refine Ev.step (fun k => by simp only [impl_RoundsOf.l0]; rw [if_pos (by omega)]) (Ev.bind (impl_NeighborsIn.ev l i hl) ?_)
        have hT : (takenOf s (i : Int) (nbs l (i : Int))).length ≤ 1048576 := Nat.le_trans (taken_len _ _ _) (by omega)
        have := impl_RoundsOf.ev_l2 l nodes s (i : Int) (takenOf s (i : Int) (nbs l (i : Int))) r hT (by omega) i 0 (fun x hx => by rw [Nat.zero_add]; exact taken_mem s i i (by omega) hs.2 _ [] (by simp) x hx) (by omega) hr
        exact impl_RoundsOf.ev_l1 l nodes s i (nbs l i) _ r (by omega) (by omega) (by omega) this (nbs l (i : Int)).length 0 [] (by omega) (by simp) rfl⟩)
  · rw [if_neg hb]
    exact Ev.all fun k => by rw [if_neg hb]

/-! laws_eqLink -/
theorem laws_eqLink.val (x : S166) : laws_eqLink.f x.f0 x.f1 x.f0 x.f1 = some true := by
  unfold laws_eqLink.f
  simp

/-! laws_eqLinkS -/
theorem laws_eqLinkS.ev_l (l : List S166) (hl : l.length ≤ 1048576) : ∀ (d i : Nat), i + d = l.length → Ev (fun k => laws_eqLinkS.l0 k l l i) true := by
  intro d
  induction d with
  | zero => intro i hi; refine Ev.one fun k => ?_; simp only [laws_eqLinkS.l0]; rw [if_neg (by omega)]
  | succ d ih =>
    intro i hi
    refine Ev.step (fun k => ?_) (ih (i + 1) (by omega))
    simp only [laws_eqLinkS.l0, laws_eqLink.val, Option.bind_some]
    rw [if_pos (by omega), if_pos (by omega), if_pos (by omega), if_pos trivial, wrap_nat (by omega)]
theorem laws_eqLinkS.ev (l : List S166) (hl : l.length ≤ 1048576) : Ev (fun k => laws_eqLinkS.f k l l) true :=
  Ev.congr (fun k => by unfold laws_eqLinkS.f; rw [if_pos rfl] <;> rfl) (laws_eqLinkS.ev_l l hl l.length 0 (by omega))

/-! laws_markLinkS -/
def mkLink (a : Int) (j : Nat) : S166 := ⟨a + 2 * (j : Int), a + 2 * (j : Int) + 1⟩
def marksLink (a : Int) (n : Nat) : List S166 := (List.range n).map (mkLink a)
theorem marksLink_length (a : Int) (n : Nat) : (marksLink a n).length = n := by simp [marksLink]
theorem marksLink_get (a : Int) (n i : Nat) (h : i < n) : (marksLink a n)[i]? = some (mkLink a i) := by simp [marksLink, h]
theorem marksLink_getD (a : Int) (n i : Nat) (h : i < n) : (marksLink a n).getD i z166 = mkLink a i := by rw [List.getD_eq_getElem?_getD, marksLink_get a n i h]; rfl
theorem laws_markLinkS.ev_l (a : Int) (n : Nat) (h0 : 0 ≤ a) (h1 : a + 2 * n ≤ 4611686018427387904) : ∀ (d i : Nat) (o : List S166), i + d = n → o.length = n → o.take i = (marksLink a n).take i →
    Ev (fun k => laws_markLinkS.l0 k o (a + 2 * (i : Int)) i) (a + 2 * (n : Int), marksLink a n) := by
  intro d
  induction d with
  | zero =>
    intro i o hi ho ht
    refine Ev.one fun k => ?_
    simp only [laws_markLinkS.l0]
    rw [if_neg (by omega), take_full (by rw [marksLink_length]; exact ho) (by rw [marksLink_length]; omega) ht, show i = n by omega]
  | succ d ih =>
    intro i o hi ho ht
    refine Ev.step (fun k => ?_) (ih (i + 1) (o.set i (mkLink a i)) (by omega) (by simp [ho]) (set_take o _ _ (by rw [marksLink_length]; exact ho) (marksLink_get a n i (by omega)) ht))
    have e : ∀ v, rd_T166 (o.set i v) (i : Int) = v := fun v => getD_set_self o _ v (by omega)
    simp only [laws_markLinkS.l0, Option.bind_some, Int.toNat_natCast, e, List.set_set]
    rw [if_pos (by omega), if_pos (by omega), wrap_nat (by omega)]
    rw [wrap_id (x := a + 2 * (i : Int) + 1) (by omega) (by omega)]
    rw [wrap_id (x := a + 2 * (i : Int) + 1 + 1) (by omega) (by omega)]
    rw [show a + 2 * (i : Int) + 1 + 1 = a + 2 * ((i + 1 : Nat) : Int) by omega]
    rfl
theorem laws_markLinkS.ev (l : List S166) (a : Int) (h0 : 0 ≤ a) (h1 : a ≤ 4000000000) (hl : l.length ≤ 1048576) : Ev (fun k => laws_markLinkS.f k l a) (a + 2 * (l.length : Int), marksLink a l.length) := by
  have := laws_markLinkS.ev_l a l.length h0 (by omega) l.length 0 l (by omega) rfl (by simp)
  rw [show a + 2 * ((0 : Nat) : Int) = a by omega] at this
  exact this

/-! @@ FnExactRoundsOf -/
theorem proved : Stated := by
  intro l a ⟨hl, hw⟩ _
  refine Ev.rounds ?_
  obtain ⟨t, ht, hle, hp⟩ := laws_szLinkS.val l 1048576 (by omega) (by omega) hl
  refine Ev.congr (fun k => by unfold laws_FnExactRoundsOf.f; rw [ht, Option.bind_some]) ?_
  by_cases h : t < 0
  · exact Ev.all fun k => by rw [if_pos h]
  obtain ⟨_, hl2⟩ := hp (by omega)
  have hl3 : (l.map cLink).length ≤ 1048576 := by simpa using hl2
  have hs := spec_RoundsOf.ev (l.map cLink) a hl3
  have hi := impl_RoundsOf.ev (l.map cLink) a hl3
  have hlen := rounds_len (l.map cLink) a
  generalize rounds (l.map cLink) a = R at hs hi hlen
  have hR : Ev (fun k => laws_eqIntS.f k R R) true := laws_eqIntS.ev R (by omega)
  refine Ev.congr (fun k => by rw [if_neg h]) (Ev.bind (laws_toLinkS.ev l hl2) (Ev.bind hs (Ev.bind (laws_toLinkS.ev l hl2) (Ev.bind hi (Ev.bind hR ?_)))))
  refine Ev.congr (fun k => by rw [if_pos rfl]) (Ev.bind (laws_toLinkS.ev l hl2) (Ev.bind (laws_eqLinkS.ev _ hl3) ?_))
  refine Ev.congr (fun k => by rw [if_pos rfl]) (Ev.bind (laws_markLinkS.ev _ 1 (by omega) (by omega) hl3) ?_)
  refine Ev.congr (fun k => by rw [if_neg (by omega)]) (Ev.bind hR ?_)
  refine Ev.step (fun k => by simp only [laws_FnExactRoundsOf.j0]; rw [if_neg (by simp)]) ?_
  refine Ev.bind (laws_markIntS.ev R 1 (by omega) (by omega)) (Ev.bind (laws_heldIntS.ev 1 _ (by omega) (by omega)) ?_)
  refine Ev.congr (fun k => by rw [if_neg (by omega), if_pos rfl]) (Ev.bind (laws_toLinkS.ev l hl2) (Ev.bind hi (Ev.bind hR ?_)))
  refine Ev.congr (fun k => by rw [if_pos rfl]) (Ev.bind (laws_heldIntS.ev 1 _ (by omega) (by omega)) ?_)
  exact Ev.all fun k => by rw [if_neg (by omega), if_pos rfl]

end Go.Proofs.Ytlogjmgghnifoaa.PureFnExactRoundsOf
