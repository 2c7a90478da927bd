/- FnUpgrades, over numbers and lists alone: what the program's function and the reference's answer is one. Conditions: the numbers are of their kinds. -/
import Derived.Test.YtlogjmgghnifoaaKindsFnUpgrades
import Derived.Test.YtlogjmgghnifoaaBase
namespace Go.Proofs.Ytlogjmgghnifoaa.PureFnUpgrades
open Go.RowKit Go.Proofs.Ytlogjmgghnifoaa.PFnUpgrades Go.Proofs.YtlogjmgghnifoaaW.PrintWords Go.Proofs.YtlogjmgghnifoaaW.PrintLast Go.Proofs.YtlogjmgghnifoaaW.PrintMore Go.Proofs.Ytlogjmgghnifoaa.Base
set_option linter.unusedVariables false
set_option linter.unusedSimpArgs false

/-! laws_big -/
theorem laws_big.val (l : List Int) : laws_big.f l = some (decide ((l.length : Int) > 1048576)) := rfl

/-! d_neigh -/
theorem strict_ext : ∀ (l1 l2 : List Int), l1.Pairwise (· < ·) → l2.Pairwise (· < ·) → (∀ x, x ∈ l1 ↔ x ∈ l2) → l1 = l2
  | [], [], _, _, _ => rfl
  | [], y :: l2, _, _, h => absurd ((h y).2 List.mem_cons_self) (by simp)
  | x :: l1, [], _, _, h => absurd ((h x).1 List.mem_cons_self) (by simp)
  | x :: l1, y :: l2, h1, h2, h => by
    rw [List.pairwise_cons] at h1 h2
    have hx : x = y := by
      rcases List.mem_cons.1 ((h x).1 List.mem_cons_self) with e | e
      · exact e
      · have a := h2.1 x e
        rcases List.mem_cons.1 ((h y).2 List.mem_cons_self) with e' | e'
        · omega
        · have b := h1.1 y e'
          omega
    subst hx
    rw [strict_ext l1 l2 h1.2 h2.2 fun z => ?_]
    constructor
    · intro hz
      have a := h1.1 z hz
      rcases List.mem_cons.1 ((h z).1 (List.mem_cons_of_mem _ hz)) with e | e
      · omega
      · exact e
    · intro hz
      have a := h2.1 z hz
      rcases List.mem_cons.1 ((h z).2 (List.mem_cons_of_mem _ hz)) with e | e
      · omega
      · exact e
def posU (n : Int) : List Int → Nat
  | [] => 0
  | x :: l => if x < n then posU n l + 1 else 0
def insU (n : Int) (out : List Int) : List Int := if posU n out = out.length ∨ ¬ out.getD (posU n out) 0 = n then out.take (posU n out) ++ [n] ++ out.drop (posU n out) else out
theorem insU_lt {x n : Int} (h : x < n) (l : List Int) : insU n (x :: l) = x :: insU n l := by
  unfold insU
  simp only [posU, if_pos h, List.length_cons, List.getD_cons_succ, List.take_succ_cons, List.drop_succ_cons, Nat.add_right_cancel_iff]
  split <;> simp
theorem insU_ge {x n : Int} (h : ¬ x < n) (l : List Int) : insU n (x :: l) = if x = n then x :: l else n :: x :: l := by
  unfold insU
  simp only [posU, if_neg h, List.length_cons, List.getD_cons_zero, List.take_zero, List.drop_zero, List.nil_append]
  by_cases e : x = n
  · rw [if_neg (by simp [e]), if_pos e]
  · rw [if_pos (Or.inr e), if_neg e]; rfl
theorem insU_mem (n : Int) : ∀ (l : List Int) (z : Int), z ∈ insU n l ↔ z = n ∨ z ∈ l
  | [], z => by simp [insU, posU]
  | x :: l, z => by
    by_cases h : x < n
    · rw [insU_lt h, List.mem_cons, insU_mem n l z, List.mem_cons]
      constructor
      · rintro (e | e | e)
        · exact .inr (.inl e)
        · exact .inl e
        · exact .inr (.inr e)
      · rintro (e | e | e)
        · exact .inr (.inl e)
        · exact .inl e
        · exact .inr (.inr e)
    · rw [insU_ge h]
      split
      · rename_i e
        simp only [List.mem_cons]
        constructor
        · exact .inr
        · rintro (e' | e')
          · exact .inl (by omega)
          · exact e'
      · simp only [List.mem_cons]
theorem insU_strict (n : Int) : ∀ (l : List Int), l.Pairwise (· < ·) → (insU n l).Pairwise (· < ·)
  | [], _ => by simp [insU, posU]
  | x :: l, h => by
    have h' := List.pairwise_cons.1 h
    by_cases hx : x < n
    · rw [insU_lt hx, List.pairwise_cons]
      refine ⟨fun z hz => ?_, insU_strict n l h'.2⟩
      rcases (insU_mem n l z).1 hz with e | e
      · omega
      · exact h'.1 z e
    · rw [insU_ge hx]
      split
      · exact h
      · rw [List.pairwise_cons]
        refine ⟨fun z hz => ?_, h⟩
        rcases List.mem_cons.1 hz with e | e
        · omega
        · have := h'.1 z e
          omega
theorem compact_sorted (zs : List Int) (hs : ∀ i j, i ≤ j → j < zs.length → zs.toArray[i]! ≤ zs.toArray[j]!) : ∀ m, m ≤ zs.length → (Go.Lib.compactUpTo zs.toArray m).Pairwise (· < ·) ∧ ∀ z, z ∈ Go.Lib.compactUpTo zs.toArray m ↔ ∃ j, j < m ∧ zs.toArray[j]! = z := by
  intro m
  induction m with
  | zero => intro _; exact ⟨by simp [Go.Lib.compactUpTo], fun z => by simp [Go.Lib.compactUpTo]⟩
  | succ m ih =>
    intro hm
    obtain ⟨h1, h2⟩ := ih (by omega)
    rw [Go.Lib.compactUpTo_succ]
    by_cases hk : Go.Lib.keeps zs.toArray m = true
    · rw [if_pos hk]
      refine ⟨List.pairwise_append.2 ⟨h1, by simp, fun z hz y hy => ?_⟩, fun z => ?_⟩
      · rw [List.mem_singleton] at hy
        subst hy
        obtain ⟨j, hj, e⟩ := (h2 z).1 hz
        unfold Go.Lib.keeps at hk
        rcases of_decide_eq_true hk with h0 | h0
        · omega
        · have a := hs j (m - 1) (by omega) (by omega)
          have b := hs (m - 1) m (by omega) (by omega)
          omega
      · rw [List.mem_append, List.mem_singleton, h2 z]
        constructor
        · rintro (⟨j, hj, e⟩ | e)
          · exact ⟨j, by omega, e⟩
          · exact ⟨m, by omega, e.symm⟩
        · rintro ⟨j, hj, e⟩
          by_cases hjm : j = m
          · exact .inr (by rw [← e, hjm])
          · exact .inl ⟨j, by omega, e⟩
    · rw [if_neg hk, List.append_nil]
      refine ⟨h1, fun z => ?_⟩
      rw [h2 z]
      have hk' : Go.Lib.keeps zs.toArray m = false := by simpa using hk
      unfold Go.Lib.keeps at hk'
      have h0 := of_decide_eq_false hk'
      constructor
      · rintro ⟨j, hj, e⟩
        exact ⟨j, by omega, e⟩
      · rintro ⟨j, hj, e⟩
        by_cases hjm : j = m
        · refine ⟨m - 1, by omega, ?_⟩
          have : zs.toArray[m]! = zs.toArray[m - 1]! := Classical.byContradiction fun h => h0 (.inr h)
          rw [← this, ← hjm]; exact e
        · exact ⟨j, by omega, e⟩
theorem fold_insU : ∀ (l o : List Int), o.Pairwise (· < ·) → (l.foldl (fun o n => insU n o) o).Pairwise (· < ·) ∧ ∀ z, z ∈ l.foldl (fun o n => insU n o) o ↔ z ∈ o ∨ z ∈ l
  | [], o, h => ⟨h, fun z => by simp⟩
  | n :: l, o, h => by
    obtain ⟨h1, h2⟩ := fold_insU l (insU n o) (insU_strict n o h)
    refine ⟨h1, fun z => ?_⟩
    rw [List.foldl_cons, h2 z, insU_mem, List.mem_cons]
    constructor
    · rintro ((e | e) | e)
      · exact .inr (.inl e)
      · exact .inl e
      · exact .inr (.inr e)
    · rintro (e | e | e)
      · exact .inl (.inr e)
      · exact .inl (.inl e)
      · exact .inr e
theorem compact_sort (l : List Int) : Go.Lib.compact (l.mergeSort fun x y => decide (x ≤ y)) = l.foldl (fun o n => insU n o) [] := by
  have hp : (l.mergeSort fun x y => decide (x ≤ y)).Pairwise fun x y => decide (x ≤ y) = true := List.pairwise_mergeSort (fun a b c h1 h2 => by simp only [decide_eq_true_eq] at *; omega) (fun a b => by simp only [Bool.or_eq_true, decide_eq_true_eq]; omega) l
  have hm : ∀ z, z ∈ (l.mergeSort fun x y => decide (x ≤ y)) ↔ z ∈ l := fun z => List.mem_mergeSort
  generalize (l.mergeSort fun x y => decide (x ≤ y)) = zs at hp hm
  have hg : ∀ j, j < zs.length → zs.toArray[j]! = zs.getD j 0 := fun j hj => by
    rw [List.getD_eq_getElem?_getD, List.getElem?_eq_getElem hj]
    simp [hj]
  have hs : ∀ i j, i ≤ j → j < zs.length → zs.toArray[i]! ≤ zs.toArray[j]! := fun i j hij hj => by
    rcases Nat.lt_or_ge i j with h | h
    · have := List.pairwise_iff_getElem.1 hp i j (by omega) hj h
      simp only [decide_eq_true_eq] at this
      rw [hg i (by omega), hg j hj, List.getD_eq_getElem?_getD, List.getD_eq_getElem?_getD, List.getElem?_eq_getElem hj, List.getElem?_eq_getElem (show i < zs.length by omega)]
      exact this
    · rw [show i = j by omega]; exact Int.le_refl _
  obtain ⟨h1, h2⟩ := compact_sorted zs hs zs.length (Nat.le_refl _)
  obtain ⟨h3, h4⟩ := fold_insU l [] List.Pairwise.nil
  refine strict_ext _ _ h1 h3 fun z => ?_
  show z ∈ Go.Lib.compactUpTo zs.toArray zs.length ↔ _
  rw [h2 z, h4 z, ← hm z]
  constructor
  · rintro ⟨j, hj, e⟩
    refine .inr ?_
    rw [← e, hg j hj, List.getD_eq_getElem?_getD, List.getElem?_eq_getElem hj]
    exact List.getElem_mem hj
  · rintro (e | e)
    · cases e
    · obtain ⟨j, hj, e⟩ := List.getElem_of_mem e
      exact ⟨j, hj, by rw [hg j hj, List.getD_eq_getElem?_getD, List.getElem?_eq_getElem hj]; exact e⟩

/-! d_nbs -/
theorem insU_len (n : Int) (o : List Int) : (insU n o).length ≤ o.length + 1 := by
  unfold insU
  split
  · simp; omega
  · omega
theorem posU_le (n : Int) : ∀ l : List Int, posU n l ≤ l.length
  | [] => Nat.le_refl _
  | x :: l => by
    rw [posU]
    have := posU_le n l
    split
    · simp only [List.length_cons]; omega
    · simp
theorem insU_idem (n : Int) (o : List Int) (h : o.Pairwise (· < ·)) : insU n (insU n o) = insU n o :=
  strict_ext _ _ (insU_strict n _ (insU_strict n o h)) (insU_strict n o h) fun z => by
    rw [insU_mem, insU_mem]
    constructor
    · rintro (e | e)
      · exact .inl e
      · exact e
    · exact .inr
def nbStep (node : Int) (o : List Int) (x : S166) : List Int := if x.f0 = node then insU x.f1 o else if x.f1 = node then insU x.f0 o else o
def nbs (l : List S166) (node : Int) : List Int := l.foldl (nbStep node) []
theorem nbStep_len (node : Int) (o : List Int) (x : S166) : (nbStep node o x).length ≤ o.length + 1 := by
  unfold nbStep
  split
  · exact insU_len _ _
  · split
    · exact insU_len _ _
    · omega
theorem nbs_len (l : List S166) (node : Int) : (nbs l node).length ≤ l.length := by
  have : ∀ (l : List S166) (o : List Int), (l.foldl (nbStep node) o).length ≤ o.length + l.length := by
    intro l
    induction l with
    | nil => intro o; simp
    | cons x l ih =>
      intro o
      have h1 := ih (nbStep node o x)
      have h2 := nbStep_len node o x
      simp only [List.foldl_cons, List.length_cons]
      omega
  simpa [nbs] using this l []
def rawStep (node : Int) (r : List Int) (x : S166) : List Int := if x.f1 = node then (if x.f0 = node then r ++ [x.f1] else r) ++ [x.f0] else if x.f0 = node then r ++ [x.f1] else r
theorem raw_nbs (node : Int) : ∀ (l : List S166) (r : List Int), (l.foldl (rawStep node) r).foldl (fun o n => insU n o) [] = l.foldl (nbStep node) (r.foldl (fun o n => insU n o) [])
  | [], r => rfl
  | x :: l, r => by
    have hs := (fold_insU r [] List.Pairwise.nil).1
    rw [List.foldl_cons, List.foldl_cons, raw_nbs node l]
    congr 1
    unfold rawStep nbStep
    by_cases h0 : x.f0 = node
    · by_cases h1 : x.f1 = node
      · rw [if_pos h1, if_pos h0, if_pos h0, List.foldl_append, List.foldl_append]
        simp only [List.foldl_cons, List.foldl_nil]
        rw [h0, h1]
        exact insU_idem _ _ hs
      · rw [if_neg h1, if_pos h0, if_pos h0, List.foldl_append]
        rfl
    · by_cases h1 : x.f1 = node
      · rw [if_pos h1, if_neg h0, if_neg h0, if_pos h1, List.foldl_append]
        rfl
      · rw [if_neg h1, if_neg h0, if_neg h0, if_neg h1]
theorem raw_len (node : Int) : ∀ (l : List S166) (r : List Int), (l.foldl (rawStep node) r).length ≤ r.length + 2 * l.length
  | [], r => by simp
  | x :: l, r => by
    have h1 := raw_len node l (rawStep node r x)
    have h2 : (rawStep node r x).length ≤ r.length + 2 := by
      unfold rawStep
      repeat' split
      all_goals simp
    simp only [List.foldl_cons, List.length_cons]
    omega

/-! impl_NeighborsIn -/
theorem rawStep_len (node : Int) (r : List Int) (x : S166) : (rawStep node r x).length ≤ r.length + 2 := by
  unfold rawStep
  repeat' split
  all_goals simp
theorem impl_NeighborsIn.step (l : List S166) (node : Int) (s : List Int) (i k : Nat) (hl : l.length ≤ 1048576) (hi : i < l.length) (hs : s.length ≤ 2 * i) :
    impl_NeighborsIn.l0 (k + 1) node s l (l.length : Int) i = impl_NeighborsIn.l0 k node (rawStep node s (l.getD i z166)) l (l.length : Int) ((i + 1 : Nat) : Int) := by
  simp only [impl_NeighborsIn.l0]
  rw [if_pos (by omega), if_pos (by omega), if_pos (by omega), wrap_nat (by omega), show rd_T166 l (i : Int) = l.getD i z166 from rfl]
  unfold rawStep
  by_cases h0 : (l.getD i z166).f0 = node
  · rw [if_pos h0, if_pos (by omega), Option.bind_some]
    by_cases h1 : (l.getD i z166).f1 = node
    · rw [if_pos h1, if_pos (by rw [List.length_append, List.length_singleton]; omega), if_pos h1, if_pos h0]
    · rw [if_neg h1, if_neg h1, if_pos h0]
  · rw [if_neg h0]
    by_cases h1 : (l.getD i z166).f1 = node
    · rw [if_pos h1, if_pos (by omega), if_pos h1, if_neg h0]
    · rw [if_neg h1, if_neg h1, if_neg h0]
theorem impl_NeighborsIn.ev (l : List S166) (node : Int) (hl : l.length ≤ 1048576) : Ev (fun k => impl_NeighborsIn.f k l node) (nbs l node) := by
  have h := fold_index (g := fun k s i => impl_NeighborsIn.l0 k node s l (l.length : Int) i) (f := fun i s => rawStep node s (l.getD i z166)) (fin := fun s => s.foldl (fun o n => insU n o) []) (fun i s => s.length ≤ 2 * i) l.length [] (by simp)
    (fun s hs => Ev.one fun k => by
      simp only [impl_NeighborsIn.l0]
      rw [if_neg (by omega)]
      unfold slices_Sort_int_int.f slices_Compact_int_int.f
      rw [if_pos (by omega), Option.bind_some, Option.bind_some]
      exact congrArg some (compact_sort s))
    (fun i s hi hs => ⟨Nat.le_trans (rawStep_len _ _ _) (by omega), fun k => impl_NeighborsIn.step l node s i k hl hi hs⟩)
  rw [foldl_index l z166 (fun s x => rawStep node s x) [], raw_nbs node l []] at h
  exact h

/-! slices_Index_int_int -/
theorem slices_Index_int_int.ev_l (l : List Int) (a : Int) (hl : l.length ≤ 1048576) : ∀ (d i : Nat), i + d = l.length → ∃ r, Ev (fun k => slices_Index_int_int.l0 k l a l.length i) r ∧ decide (r ≥ 0) = (l.drop i).any (fun x => x == a) := by
  intro d
  induction d with
  | zero =>
    intro i hi
    exact ⟨-1, Ev.one fun k => by simp only [slices_Index_int_int.l0]; rw [if_neg (by omega)], by rw [List.drop_eq_nil_of_le (by omega)]; rfl⟩
  | succ d ih =>
    intro i hi
    rw [drop_cons l 0 (show i < l.length by omega), List.any_cons]
    by_cases h : a = l.getD i 0
    · refine ⟨(i : Int), Ev.one fun k => ?_, ?_⟩
      · simp only [slices_Index_int_int.l0]
        rw [if_pos (by omega), if_pos (by omega), if_pos (by omega), rd_nat, if_pos h]
      · rw [← h]; simp
    · obtain ⟨r, hr, hd⟩ := ih (i + 1) (by omega)
      refine ⟨r, Ev.step (fun k => ?_) hr, ?_⟩
      · simp only [slices_Index_int_int.l0]
        rw [if_pos (by omega), if_pos (by omega), if_pos (by omega), rd_nat, if_neg h, wrap_nat (by omega)]
      · have : (l.getD i 0 == a) = false := by rw [beq_eq_false_iff_ne]; exact fun e => h e.symm
        rw [this, Bool.false_or, hd]
theorem slices_Index_int_int.ev (l : List Int) (a : Int) (hl : l.length ≤ 1048576) : ∃ r, Ev (fun k => slices_Index_int_int.f k l a) r ∧ decide (r ≥ 0) = hasB l a := by
  have := slices_Index_int_int.ev_l l a hl l.length 0 (by omega)
  rw [List.drop_zero] at this
  exact this

/-! slices_Contains_int_int -/
theorem slices_Contains_int_int.ev (l : List Int) (a : Int) (hl : l.length ≤ 1048576) : Ev (fun k => slices_Contains_int_int.f k l a) (hasB l a) := by
  obtain ⟨r, hr, e⟩ := slices_Index_int_int.ev l a hl
  rw [← e]
  exact Ev.bind hr (Ev.now _)

/-! impl_isIndex -/
theorem impl_isIndex.val (a n : Int) : impl_isIndex.f a n = some (decide (0 ≤ a) && decide (a < n)) := by
  unfold impl_isIndex.f
  by_cases h : a ≥ 0
  · rw [if_pos h]; simp [h]
  · rw [if_neg h]; simp; omega
theorem impl_isIndex.nat (a : Int) (n : Nat) : impl_isIndex.f a (n : Int) = some (idxB a n) := impl_isIndex.val a n

/-! impl_InRange -/
theorem impl_InRange.val (a lo hi : Int) : impl_InRange.f a lo hi = some (inR a lo hi) := by
  unfold impl_InRange.f inR
  by_cases h : lo ≤ a
  · rw [if_pos h]; simp [h]
  · rw [if_neg h]; simp; omega

/-! impl_isNumber -/
theorem impl_isNumber.val (a : Int) : impl_isNumber.f a = some (inR a 1 12) := by
  unfold impl_isNumber.f
  rw [impl_InRange.val]; rfl

/-! d_rounds -/
def mexFrom (t : List Int) : Nat → Nat → Nat
  | 0, r => r
  | d + 1, r => if (r : Int) ∈ t then mexFrom t d (r + 1) else r
theorem mex_le (t : List Int) : ∀ d r : Nat, mexFrom t d r ≤ r + d
  | 0, r => by simp [mexFrom]
  | d + 1, r => by
    rw [mexFrom]
    have := mex_le t d (r + 1)
    split <;> omega
def takeStep (o : List Int) (node : Int) (t : List Int) (n : Int) : List Int := if 0 ≤ n ∧ n < node then t ++ [o.getD n.toNat 0] else t
def takenOf (o : List Int) (node : Int) (near : List Int) : List Int := near.foldl (takeStep o node) []
def roundStep (l : List S166) (o : List Int) (i : Nat) : List Int := o ++ [((mexFrom (takenOf o (i : Int) (nbs l (i : Int))) i 0 : Nat) : Int)]
def rounds (l : List S166) (nodes : Int) : List Int := if inR nodes 1 12 = true then (List.range' 0 nodes.toNat).foldl (fun s j => roundStep l s j) [] else []
theorem rounds_len (l : List S166) (nodes : Int) : (rounds l nodes).length ≤ 12 := by
  have : ∀ (d i : Nat) (s : List Int), ((List.range' i d).foldl (fun s j => roundStep l s j) s).length = s.length + d := by
    intro d
    induction d with
    | zero => intro i s; simp
    | succ d ih =>
      intro i s
      rw [List.range'_succ, List.foldl_cons, ih]
      unfold roundStep
      simp
      omega
  unfold rounds inR
  split
  · rename_i h
    rw [this]
    simp at h ⊢
    omega
  · simp
theorem taken_mem (o : List Int) (node : Int) (B : Int) (hn : node = (o.length : Int)) (ho : ∀ x ∈ o, x < B) : ∀ (near t : List Int), (∀ x ∈ t, x < B) → ∀ x ∈ near.foldl (takeStep o node) t, x < B
  | [], t, ht => ht
  | n :: near, t, ht => by
    rw [List.foldl_cons]
    refine taken_mem o node B hn ho near _ ?_
    unfold takeStep
    split
    · rename_i h
      intro x hx
      rcases List.mem_append.1 hx with h1 | h1
      · exact ht x h1
      · rw [List.mem_singleton.1 h1, List.getD_eq_getElem?_getD, List.getElem?_eq_getElem (by omega)]
        exact ho _ (List.getElem_mem _)
    · exact ht
theorem takeStep_len (o : List Int) (node : Int) (t : List Int) (n : Int) : (takeStep o node t n).length ≤ t.length + 1 := by
  unfold takeStep
  split <;> simp
theorem taken_len (o : List Int) (node : Int) (near : List Int) : (takenOf o node near).length ≤ near.length := by
  have : ∀ (near t : List Int), (near.foldl (takeStep o node) t).length ≤ t.length + near.length := by
    intro near
    induction near with
    | nil => intro t; simp
    | cons n near ih =>
      intro t
      have h1 := ih (takeStep o node t n)
      have h2 := takeStep_len o node t n
      simp only [List.foldl_cons, List.length_cons]
      omega
  simpa [takenOf] using this near []
theorem hasB_mem (l : List Int) (a : Int) : (hasB l a = true) = (a ∈ l) := by
  unfold hasB
  simp
theorem roundStep_lt (l : List S166) (o : List Int) (i : Nat) (hi : o.length = i) (ho : ∀ x ∈ o, x < (i : Int)) : (roundStep l o i).length = i + 1 ∧ ∀ x ∈ roundStep l o i, x < ((i + 1 : Nat) : Int) := by
  unfold roundStep
  refine ⟨by simp [hi], fun x hx => ?_⟩
  rcases List.mem_append.1 hx with h1 | h1
  · have := ho x h1; omega
  · rw [List.mem_singleton.1 h1]
    have := mex_le (takenOf o (i : Int) (nbs l (i : Int))) i 0
    omega

/-! impl_RoundsOf -/
theorem impl_RoundsOf.ev_l1 (l : List S166) (nodes : Int) (o : List Int) (i : Int) (near T r : List Int) (hn : near.length ≤ 1048576) (ho : (o.length : Int) = i) (hi : i ≤ 12) (hr : Ev (fun k => impl_RoundsOf.l2 k l o T 0 nodes i) r) :
    ∀ (d j : Nat) (t : List Int), j + d = near.length → t.length ≤ j → (near.drop j).foldl (takeStep o i) t = T → Ev (fun k => impl_RoundsOf.l1 k l o i t nodes i near (near.length : Int) (j : Int)) r := by
  intro d
  induction d with
  | zero =>
    intro j t hj ht hT
    rw [List.drop_eq_nil_of_le (by omega), List.foldl_nil] at hT
    subst hT
    exact Ev.step (fun k => by simp only [impl_RoundsOf.l1]; rw [if_neg (by omega)]) hr
  | succ d ih =>
    intro j t hj ht hT
    rw [drop_cons near 0 (by omega), List.foldl_cons] at hT
    refine Ev.step (fun k => ?_) (ih (j + 1) _ (by omega) (by have := takeStep_len o i t (near.getD j 0); omega) hT)
    simp only [impl_RoundsOf.l1]
    rw [if_pos (by omega), if_pos (by omega), if_pos (by omega), rd_nat, impl_isIndex.val, Option.bind_some, wrap_nat (by omega)]
    unfold takeStep
    by_cases h : 0 ≤ near.getD j 0 ∧ near.getD j 0 < i
    · rw [if_pos (by simp only [Bool.and_eq_true, decide_eq_true_eq]; omega), if_pos h.1, if_pos (by omega), if_pos (by omega), if_pos h]; rfl
    · rw [if_neg (by simp only [Bool.and_eq_true, decide_eq_true_eq]; omega), if_neg h]
theorem impl_RoundsOf.ev_l2 (l : List S166) (nodes : Int) (o : List Int) (i : Int) (T R : List Int) (hT : T.length ≤ 1048576) (ho : o.length ≤ 12) : ∀ (d q : Nat), (∀ x ∈ T, x < ((q + d : Nat) : Int)) → q + d ≤ 12 →
    Ev (fun k => impl_RoundsOf.l0 k l (o ++ [((mexFrom T d q : Nat) : Int)]) nodes (wrap64 (i + 1))) R → Ev (fun k => impl_RoundsOf.l2 k l o T (q : Int) nodes i) R := by
  have out : ∀ q : Nat, ¬ (q : Int) ∈ T → Ev (fun k => impl_RoundsOf.l0 k l (o ++ [(q : Int)]) nodes (wrap64 (i + 1))) R → Ev (fun k => impl_RoundsOf.l2 k l o T (q : Int) nodes i) R := fun q hm h => by
    refine Ev.step (fun k => by simp only [impl_RoundsOf.l2]; rfl) ?_
    refine Ev.bind (slices_Contains_int_int.ev T q hT) ?_
    exact Ev.congr (fun k => by rw [if_neg (by rw [hasB_mem]; exact hm), if_pos (by omega)]) h
  intro d
  induction d with
  | zero =>
    intro q hx hq h
    exact out q (fun hm => by have := hx _ hm; omega) h
  | succ d ih =>
    intro q hx hq h
    rw [mexFrom] at h
    by_cases hm : (q : Int) ∈ T
    · rw [if_pos hm] at h
      refine Ev.step (fun k => by simp only [impl_RoundsOf.l2]; rfl) ?_
      refine Ev.bind (slices_Contains_int_int.ev T q hT) ?_
      exact Ev.congr (fun k => by rw [if_pos (by rw [hasB_mem]; exact hm), wrap_nat (by omega)]) (ih (q + 1) (fun x hx' => by have := hx x hx'; omega) (by omega) h)
    · rw [if_neg hm] at h
      exact out q hm h
theorem impl_RoundsOf.ev (l : List S166) (nodes : Int) (hl : l.length ≤ 1048576) : Ev (fun k => impl_RoundsOf.f k l nodes) (rounds l nodes) := by
  unfold impl_RoundsOf.f rounds
  refine Ev.congr (fun k => by rw [Option.bind_some, impl_isNumber.val, Option.bind_some]) ?_
  by_cases hb : inR nodes 1 12 = true
  · have hnn : 1 ≤ nodes ∧ nodes ≤ 12 := by unfold inR at hb; simpa using hb
    rw [if_pos hb]
    refine Ev.congr (fun k => by rw [if_pos hb]) ?_
    exact foldE_index (g := fun k s i => impl_RoundsOf.l0 k l s nodes i) (f := fun i s => roundStep l s i) (fin := fun s => s) (fun i s => s.length = i ∧ ∀ x ∈ s, x < (i : Int)) nodes.toNat [] ⟨rfl, by simp⟩
      (fun s hs => Ev.one fun k => by simp only [impl_RoundsOf.l0]; rw [if_neg (by omega)])
      (fun i s hi hs => ⟨roundStep_lt l s i hs.1 hs.2, fun r hr => by
        rw [show (((i + 1 : Nat) : Int)) = wrap64 ((i : Int) + 1) from (wrap_nat (by omega)).symm] at hr
        have hln := nbs_len l (i : Int)
        refine Ev.step (fun k => by simp only [impl_RoundsOf.l0]; rw [if_pos (by omega)]) (Ev.bind (impl_NeighborsIn.ev l i hl) ?_)
        have hT : (takenOf s (i : Int) (nbs l (i : Int))).length ≤ 1048576 := Nat.le_trans (taken_len _ _ _) (by omega)
        have := impl_RoundsOf.ev_l2 l nodes s (i : Int) (takenOf s (i : Int) (nbs l (i : Int))) r hT (by omega) i 0 (fun x hx => by rw [Nat.zero_add]; exact taken_mem s i i (by omega) hs.2 _ [] (by simp) x hx) (by omega) hr
        exact impl_RoundsOf.ev_l1 l nodes s i (nbs l i) _ r (by omega) (by omega) (by omega) this (nbs l (i : Int)).length 0 [] (by omega) (by simp) rfl⟩)
  · rw [if_neg hb]
    exact Ev.all fun k => by rw [if_neg hb]

/-! d_cur -/
def Cur (p : Int) : Prop := 0 ≤ p ∧ p ≤ 1048576
theorem tmod_in {v n : Int} (hv : 0 ≤ v) (hn : 0 < n) : 0 ≤ Int.tmod v n ∧ Int.tmod v n < n := ⟨Int.tmod_nonneg n hv, Int.tmod_lt_of_pos v hn⟩

/-! spec_l1New -/
theorem spec_l1New.ev_l (l : List Int) (hl : l.length ≤ 1048576) : ∀ (d i : Nat), i + d = l.length → ∀ q, ∃ q', Ev (fun k => spec_l1New.l0 k l q i) (l, 0, q') := by
  intro d
  induction d with
  | zero =>
    intro i hi q
    exact ⟨q, Ev.one fun k => by simp only [spec_l1New.l0]; rw [if_neg (by omega)]⟩
  | succ d ih =>
    intro i hi q
    by_cases h : (i : Int) < 4000
    · obtain ⟨q', h'⟩ := ih (i + 1) (by omega) _
      exact ⟨q', Ev.step (fun k => by simp only [spec_l1New.l0]; rw [if_pos (by omega), if_pos h, if_pos (by omega), wrap_nat (by omega)]) h'⟩
    · exact ⟨q, Ev.one fun k => by simp only [spec_l1New.l0]; rw [if_pos (by omega), if_neg h]⟩
theorem spec_l1New.ev (l : List Int) (hl : l.length ≤ 1048576) : ∃ q', Ev (fun k => spec_l1New.f k l) (l, 0, q') :=
  spec_l1New.ev_l l hl l.length 0 (by omega) _

/-! spec_l1Byte -/
theorem spec_l1Byte.ok (l : List Int) (hl : l.length ≤ 1048576) (p q : Int) (hp : Cur p) : ∃ v p' q', spec_l1Byte.f l p q = some (v, p', q') ∧ 0 ≤ v ∧ v ≤ 255 ∧ Cur p' := by
  obtain ⟨h0, h1⟩ := hp
  unfold spec_l1Byte.f
  by_cases h : p < (l.length : Int)
  · rw [if_pos h, if_pos h0]
    refine ⟨_, _, _, rfl, (and255 _).1, (and255 _).2, ?_⟩
    rw [wrap_id (by omega) (by omega)]
    exact ⟨by omega, by omega⟩
  · rw [if_neg h]
    exact ⟨_, _, _, rfl, (and255 _).1, (and255 _).2, h0, h1⟩

/-! spec_l1Below -/
theorem spec_l1Below.ok (l : List Int) (hl : l.length ≤ 1048576) (p q n : Int) (hp : Cur p) : ∃ v p' q', spec_l1Below.f l p q n = some (v, p', q') ∧ 0 ≤ v ∧ (0 < n → v < n) ∧ Cur p' := by
  unfold spec_l1Below.f
  by_cases h : n ≤ 0
  · rw [if_pos h]
    exact ⟨_, _, _, rfl, by omega, by omega, hp⟩
  · rw [if_neg h]
    obtain ⟨v, p1, q1, e, h0, h1, hp1⟩ := spec_l1Byte.ok l hl p q hp
    by_cases h2 : n ≤ 256
    · rw [if_pos h2, e, Option.bind_some, if_neg (by omega)]
      have := tmod_in h0 (show 0 < n by omega)
      exact ⟨_, _, _, rfl, this.1, fun _ => this.2, hp1⟩
    · obtain ⟨v2, p2, q2, e2, h02, h12, hp2⟩ := spec_l1Byte.ok l hl p1 q1 hp1
      obtain ⟨v3, p3, q3, e3, h03, h13, hp3⟩ := spec_l1Byte.ok l hl p2 q2 hp2
      rw [if_neg h2, e, Option.bind_some, e2, Option.bind_some, e3, Option.bind_some, if_neg (by omega)]
      have hw : 0 ≤ wrap64 (wrap64 (wrap64 (v * 65536) + wrap64 (v2 * 256)) + v3) := by unfold wrap64; omega
      have := tmod_in hw (show 0 < n by omega)
      exact ⟨_, _, _, rfl, this.1, fun _ => this.2, hp3⟩

/-! spec_l1Once -/
theorem spec_l1Once.ok (l : List Int) (hl : l.length ≤ 1048576) (p q n : Int) (hp : Cur p) : ∃ b p' q', spec_l1Once.f l p q n = some (b, p', q') ∧ Cur p' := by
  unfold spec_l1Once.f
  obtain ⟨v, p1, q1, e, h0, h1, hp1⟩ := spec_l1Below.ok l hl p q n hp
  rw [e]
  exact ⟨_, _, _, rfl, hp1⟩

/-! d_slim -/
def slimL (xs : List S166) : Prop := ∀ x ∈ xs, x.f0 < x.f1
theorem slim_snoc {xs : List S166} (h : slimL xs) {a b : Int} (hab : a < b) : slimL (xs ++ [⟨a, b⟩]) := by
  intro x hx
  rcases List.mem_append.1 hx with h1 | h1
  · exact h x h1
  · rw [List.mem_singleton.1 h1]; exact hab

/-! spec_l13Links -/
theorem spec_l13Links.ev_in (l : List Int) (hl : l.length ≤ 1048576) (a : Nat) (ha : a < 6)
    (hP : ∀ (xs : List S166) (p q : Int), slimL xs → xs.length ≤ 6 * (a + 1) → Cur p → ∃ L p' q', Ev (fun k => spec_l13Links.l0 k 6 xs ((a + 1 : Nat) : Int) l p q) (L, p', q') ∧ slimL L ∧ L.length ≤ 36 ∧ Cur p') :
    ∀ (d b : Nat) (xs : List S166) (p q : Int), b + d = 6 → a < b → slimL xs → xs.length + d ≤ 6 * (a + 1) → Cur p → ∃ L p' q', Ev (fun k => spec_l13Links.l1 k 6 xs a b l p q) (L, p', q') ∧ slimL L ∧ L.length ≤ 36 ∧ Cur p' := by
  intro d
  induction d with
  | zero =>
    intro b xs p q hb hab hs hx hp
    obtain ⟨L, p', q', h, r⟩ := hP xs p q hs (by omega) hp
    exact ⟨L, p', q', Ev.step (fun k => by simp only [spec_l13Links.l1]; rw [if_neg (by omega), wrap_nat (by omega)]) h, r⟩
  | succ d ih =>
    intro b xs p q hb hab hs hx hp
    obtain ⟨o, p1, q1, e, hp1⟩ := spec_l1Once.ok l hl p q 2 hp
    cases o with
    | true =>
      obtain ⟨L, p', q', h, r⟩ := ih (b + 1) xs p1 q1 (by omega) (by omega) hs (by omega) hp1
      exact ⟨L, p', q', Ev.step (fun k => by simp only [spec_l13Links.l1]; rw [if_pos (by omega), e, Option.bind_some, if_pos rfl, wrap_nat (by omega)]) h, r⟩
    | false =>
      obtain ⟨L, p', q', h, r⟩ := ih (b + 1) (xs ++ [⟨(a : Int), (b : Int)⟩]) p1 q1 (by omega) (by omega) (slim_snoc hs (by omega)) (by rw [List.length_append, List.length_singleton]; omega) hp1
      exact ⟨L, p', q', Ev.step (fun k => by simp only [spec_l13Links.l1]; rw [if_pos (by omega), e, Option.bind_some, if_neg (by simp), if_pos (by omega), wrap_nat (by omega)]) h, r⟩
theorem spec_l13Links.ev_out (l : List Int) (hl : l.length ≤ 1048576) : ∀ (d a : Nat) (xs : List S166) (p q : Int), a + d = 6 → slimL xs → xs.length ≤ 6 * a → Cur p → ∃ L p' q', Ev (fun k => spec_l13Links.l0 k 6 xs a l p q) (L, p', q') ∧ slimL L ∧ L.length ≤ 36 ∧ Cur p' := by
  intro d
  induction d with
  | zero =>
    intro a xs p q ha hs hx hp
    exact ⟨xs, p, q, Ev.one fun k => by simp only [spec_l13Links.l0]; rw [if_neg (by omega)], hs, by omega, hp⟩
  | succ d ih =>
    intro a xs p q ha hs hx hp
    obtain ⟨L, p', q', h, r⟩ := spec_l13Links.ev_in l hl a (by omega) (fun xs p q h1 h2 h3 => ih (a + 1) xs p q (by omega) h1 h2 h3) (6 - (a + 1)) (a + 1) xs p q (by omega) (by omega) hs (by omega) hp
    exact ⟨L, p', q', Ev.step (fun k => by simp only [spec_l13Links.l0]; rw [if_pos (by omega), wrap_nat (by omega)]) h, r⟩

/-! spec_l1Int -/
theorem spec_l1Int.ok (l : List Int) (hl : l.length ≤ 1048576) (p q : Int) (xs : List Int) (hx : 0 < xs.length) (hp : Cur p) : ∃ (i : Nat) (p' q' : Int), spec_l1Int.f l p q xs = some (xs.getD i 0, p', q') ∧ i < xs.length ∧ Cur p' := by
  unfold spec_l1Int.f
  obtain ⟨v, p1, q1, e, h0, h1, hp1⟩ := spec_l1Below.ok l hl p q xs.length hp
  have hv := h1 (by omega)
  rw [e, Option.bind_some, if_pos h0, if_pos hv]
  exact ⟨v.toNat, _, _, rfl, by omega, hp1⟩

/-! spec_DrawRoundsOf -/
theorem spec_DrawRoundsOf.ev (l : List Int) (hl : l.length ≤ 1048576) : ∃ L n, Ev (fun k => spec_DrawRoundsOf.f k l) (L, n) ∧ slimL L ∧ L.length ≤ 36 := by
  obtain ⟨q, e⟩ := spec_l1New.ev l hl
  obtain ⟨L, p1, q1, e1, hs, hL, hp⟩ := spec_l13Links.ev_out l hl 6 0 [] 0 q (by omega) (fun x hx => by cases hx) (by simp) ⟨by omega, by omega⟩
  obtain ⟨i, p2, q2, e2, h2, hp⟩ := spec_l1Int.ok l hl p1 q1 [6, 6, 6, 4, 0, 12, 13] (by simp) hp
  refine ⟨L, [6, 6, 6, 4, 0, 12, 13].getD i 0, ?_, hs, hL⟩
  refine Ev.congr (fun k => by unfold spec_DrawRoundsOf.f; rfl) (Ev.bind e (Ev.bind e1 (Ev.all fun k => ?_)))
  rw [e2, Option.bind_some]

/-! d_upgradeB -/
def negB (x : Int) : Bool := decide (x < 0)
def sameR (r : List Int) (x : S166) : Bool := !decide (x.f0 = x.f1) && idxB x.f0 r.length && idxB x.f1 r.length && decide (rd r x.f0 = rd r x.f1)
def upgradeB (l : List S166) (r : List Int) : Bool := !r.any negB && !l.any (sameR r)
theorem same_ite {α : Type} (r : List Int) (x : S166) (p q n : α) :
    (if x.f0 = x.f1 then q else (if idxB x.f0 r.length = true then (if idxB x.f1 r.length = true then (if 0 ≤ x.f0 then (if x.f0 < (r.length : Int) then (if 0 ≤ x.f1 then (if x.f1 < (r.length : Int) then (if rd r x.f0 = rd r x.f1 then p else q) else n) else n) else n) else n) else q) else q)) = if sameR r x = true then p else q := by
  unfold sameR idxB
  by_cases h0 : x.f0 = x.f1
  · simp [h0]
  · by_cases h1 : 0 ≤ x.f0 <;> by_cases h2 : x.f0 < (r.length : Int) <;> by_cases h3 : 0 ≤ x.f1 <;> by_cases h4 : x.f1 < (r.length : Int) <;> simp [h0, h1, h2, h3, h4]

/-! impl_IsUpgrade -/
theorem impl_IsUpgrade.ev (l : List S166) (r : List Int) (hl : l.length ≤ 1048576) (hr : r.length ≤ 1048576) : Ev (fun k => impl_IsUpgrade.f k l r) (upgradeB l r) := by
  have h1 := find_list (g := fun k i => impl_IsUpgrade.l1 k r l l.length i) (q := sameR r) (r := false) (e := true) l z166
    (Ev.one fun k => by simp only [impl_IsUpgrade.l1]; rw [if_neg (by omega)])
    (fun i k hi => by
      simp only [impl_IsUpgrade.l1, impl_isIndex.val, Option.bind_some]
      rw [if_pos (by omega), if_pos (by omega), if_pos (by omega), wrap_nat (by omega)]
      exact same_ite r (l.getD i z166) _ _ _)
  have h := find_list (g := fun k i => impl_IsUpgrade.l0 k l r r r.length i) (q := negB) (r := false) (e := if l.any (sameR r) = true then false else true) r 0
    (Ev.step (fun k => by simp only [impl_IsUpgrade.l0]; rw [if_neg (by omega)]) h1)
    (fun i k hi => by
      simp only [impl_IsUpgrade.l0]
      rw [if_pos (by omega), if_pos (by omega), if_pos (by omega), wrap_nat (by omega)]
      show (if r.getD i 0 < 0 then _ else _) = _
      unfold negB
      simp only [decide_eq_true_eq])
  have e : (if r.any negB = true then false else if l.any (sameR r) = true then false else true) = upgradeB l r := by
    unfold upgradeB
    generalize r.any negB = b
    generalize l.any (sameR r) = c
    cases b <;> cases c <;> rfl
  rw [e] at h
  exact h

/-! d_lastR -/
def lastR (l : List Int) : Int := if (l.length : Int) = 0 then -1 else Lib.maxOf l

/-! impl_LastRound -/
theorem impl_LastRound.val (l : List Int) : impl_LastRound.f l = some (lastR l) := by
  unfold impl_LastRound.f slices_Max_int_int.f lastR
  by_cases h : (l.length : Int) = 0
  · rw [if_pos h, if_pos h]
  · rw [if_neg h, if_neg h, if_neg h]; rfl

/-! d_inRound -/
def inRoundF (k : Int) (l : List Int) (i : Nat) (o : List Int) : List Int := if l.getD i 0 = k then o ++ [((i : Nat) : Int)] else o
def inRound (l : List Int) (k : Int) : List Int := (List.range' 0 l.length).foldl (fun o i => inRoundF k l i o) []
theorem inRoundF_len (k : Int) (l o : List Int) (i : Nat) (h : o.length ≤ i) : (inRoundF k l i o).length ≤ i + 1 := by
  unfold inRoundF
  split
  · rw [List.length_append, List.length_singleton]; omega
  · omega
theorem inRound_len (l : List Int) (k : Int) : (inRound l k).length ≤ l.length := by
  have : ∀ d i (o : List Int), o.length ≤ i → ((List.range' i d).foldl (fun o i => inRoundF k l i o) o).length ≤ i + d := by
    intro d
    induction d with
    | zero => intro i o h; simpa using h
    | succ d ih => intro i o h; rw [List.range'_succ, List.foldl_cons]; have := ih (i + 1) _ (inRoundF_len k l o i h); omega
  have h := this l.length 0 [] (by simp)
  unfold inRound
  omega

/-! impl_InRound -/
theorem impl_InRound.ev (l : List Int) (a : Int) (hl : l.length ≤ 1048576) : Ev (fun k => impl_InRound.f k l a) (inRound l a) :=
  fold_index (g := fun k s i => impl_InRound.l0 k a s l l.length i) (f := inRoundF a l) (fin := fun s => s) (fun i s => s.length ≤ i) l.length [] (by simp)
    (fun s _ => Ev.one fun k => by simp only [impl_InRound.l0]; rw [if_neg (by omega)])
    (fun i s hi hI => ⟨inRoundF_len a l s i hI, fun k => by
      simp only [impl_InRound.l0]
      rw [if_pos (by omega), if_pos (by omega), if_pos (by omega), wrap_nat (by omega), rd_nat, if_pos (show s.length < 17592186044416 by omega)]
      unfold inRoundF
      split <;> rfl⟩)

/-! d_linksDown -/
def downL (o : List Int) (x : S166) : Bool := hasB o x.f0 || hasB o x.f1
def linksDown (l : List S166) (o : List Int) : Int := countP (fun i => downL o (l.getD i z166)) l.length

/-! impl_LinksDown -/
theorem impl_LinksDown.ev (l : List S166) (r : List Int) (a : Int) (hl : l.length ≤ 1048576) (hr : r.length ≤ 1048576) : Ev (fun k => impl_LinksDown.f k l r a) (linksDown l (inRound r a)) := by
  have ho := inRound_len r a
  refine Ev.bind (impl_InRound.ev r a hr) ?_
  generalize inRound r a = o at ho ⊢
  have h := foldE_index (g := fun k s i => impl_LinksDown.l0 k s o l l.length i) (f := fun i s => if downL o (l.getD i z166) = true then wrap64 (s + 1) else s) (fin := fun s => s) (fun _ _ => True) l.length 0 trivial
    (fun s _ => Ev.one fun k => by simp only [impl_LinksDown.l0]; rw [if_neg (by omega)])
    (fun i s hi _ => ⟨trivial, fun x hx => by
      refine Ev.step (f := fun k => (slices_Contains_int_int.f k o (l.getD i z166).f0).bind fun t113 => (if t113 = true then (impl_LinksDown.l0 k (wrap64 (s + 1)) o l l.length ((i + 1 : Nat) : Int)) else ((slices_Contains_int_int.f k o (l.getD i z166).f1).bind fun t115 => (if t115 = true then (impl_LinksDown.l0 k (wrap64 (s + 1)) o l l.length ((i + 1 : Nat) : Int)) else (impl_LinksDown.l0 k s o l l.length ((i + 1 : Nat) : Int)))))) (fun k => by
        simp only [impl_LinksDown.l0]
        rw [if_pos (by omega), if_pos (by omega), if_pos (by omega), wrap_nat (by omega)]
        rfl) ?_
      refine Ev.bind (slices_Contains_int_int.ev o _ (by omega)) ?_
      unfold downL at hx
      by_cases h1 : hasB o (l.getD i z166).f0 = true
      · rw [h1, Bool.true_or, if_pos rfl] at hx
        exact Ev.congr (fun k => by rw [if_pos h1]) hx
      · have h1' : hasB o (l.getD i z166).f0 = false := by simpa using h1
        refine Ev.congr (fun k => by rw [if_neg h1]) ?_
        refine Ev.bind (slices_Contains_int_int.ev o _ (by omega)) ?_
        rw [h1', Bool.false_or] at hx
        by_cases h2 : hasB o (l.getD i z166).f1 = true
        · rw [if_pos h2] at hx
          exact Ev.congr (fun k => by rw [if_pos h2]) hx
        · rw [if_neg h2] at hx
          exact Ev.congr (fun k => by rw [if_neg h2]) hx⟩)
  rw [count_countP _ _ (by omega)] at h
  exact h

/-! laws_contains -/
theorem laws_contains.ev (l : List Int) (a : Int) (hl : l.length ≤ 1048576) : Ev (fun k => laws_contains.f k l a) (hasB l a) := by
  have h := find_list (g := fun k i => laws_contains.l0 k l a i) (q := fun x => x == a) (r := true) (e := false) l 0
    (Ev.one fun k => by simp only [laws_contains.l0]; rw [if_neg (by omega)])
    (fun i k hi => by
      simp only [laws_contains.l0]
      rw [if_pos (by omega), if_pos (by omega), wrap_nat (by omega), rd_nat]
      by_cases h : l.getD i 0 = a
      · rw [if_pos h, if_pos (by simpa using h)]
      · rw [if_neg h, if_neg (by simpa using h)])
  rw [ite_bool] at h
  exact h

/-! d_fine -/
theorem nbs_mem (l : List S166) (node z : Int) : z ∈ nbs l node ↔ ∃ x ∈ l, (x.f0 = node ∧ z = x.f1) ∨ (x.f0 ≠ node ∧ x.f1 = node ∧ z = x.f0) := by
  have : ∀ (l : List S166) (o : List Int), z ∈ l.foldl (nbStep node) o ↔ z ∈ o ∨ ∃ x ∈ l, (x.f0 = node ∧ z = x.f1) ∨ (x.f0 ≠ node ∧ x.f1 = node ∧ z = x.f0) := by
    intro l
    induction l with
    | nil => intro o; simp
    | cons x l ih =>
      intro o
      rw [List.foldl_cons, ih]
      have one : z ∈ nbStep node o x ↔ z ∈ o ∨ (x.f0 = node ∧ z = x.f1) ∨ (x.f0 ≠ node ∧ x.f1 = node ∧ z = x.f0) := by
        unfold nbStep
        by_cases h0 : x.f0 = node
        · rw [if_pos h0, insU_mem]
          constructor
          · rintro (h | h)
            · exact .inr (.inl ⟨h0, h⟩)
            · exact .inl h
          · rintro (h | ⟨_, h⟩ | ⟨h, _⟩)
            · exact .inr h
            · exact .inl h
            · exact absurd h0 h
        · rw [if_neg h0]
          by_cases h1 : x.f1 = node
          · rw [if_pos h1, insU_mem]
            constructor
            · rintro (h | h)
              · exact .inr (.inr ⟨h0, h1, h⟩)
              · exact .inl h
            · rintro (h | ⟨h, _⟩ | ⟨_, _, h⟩)
              · exact .inr h
              · exact absurd h h0
              · exact .inl h
          · rw [if_neg h1]
            constructor
            · exact .inl
            · rintro (h | ⟨h, _⟩ | ⟨_, h, _⟩)
              · exact h
              · exact absurd h h0
              · exact absurd h h1
      rw [one]
      constructor
      · rintro ((h | h) | ⟨y, hy, h⟩)
        · exact .inl h
        · exact .inr ⟨x, List.mem_cons_self, h⟩
        · exact .inr ⟨y, List.mem_cons_of_mem _ hy, h⟩
      · rintro (h | ⟨y, hy, h⟩)
        · exact .inl (.inl h)
        · rcases List.mem_cons.1 hy with rfl | hy
          · exact .inl (.inr h)
          · exact .inr ⟨y, hy, h⟩
  have h := this l []
  unfold nbs
  rw [h]
  simp
theorem nbs_symm {l : List S166} (hs : slimL l) {u v : Int} (h : u ∈ nbs l v) : v ∈ nbs l u ∧ u ≠ v := by
  rw [nbs_mem] at h ⊢
  obtain ⟨x, hx, h⟩ := h
  have := hs x hx
  rcases h with ⟨rfl, rfl⟩ | ⟨h0, rfl, rfl⟩
  · exact ⟨⟨x, hx, .inr ⟨by omega, rfl, rfl⟩⟩, by omega⟩
  · exact ⟨⟨x, hx, .inl ⟨rfl, rfl⟩⟩, by omega⟩
theorem mex_spec (t : List Int) : ∀ d r : Nat, (∀ x ∈ t, x < ((r + d : Nat) : Int)) → ¬ ((mexFrom t d r : Nat) : Int) ∈ t ∧ ∀ q : Nat, r ≤ q → q < mexFrom t d r → (q : Int) ∈ t
  | 0, r, h => ⟨fun hm => by rw [mexFrom] at hm; have := h _ hm; omega, fun q h1 h2 => by rw [mexFrom] at h2; omega⟩
  | d + 1, r, h => by
    rw [mexFrom]
    by_cases hm : (r : Int) ∈ t
    · rw [if_pos hm]
      obtain ⟨h1, h2⟩ := mex_spec t d (r + 1) (fun x hx => by have := h x hx; omega)
      refine ⟨h1, fun q hq hq2 => ?_⟩
      by_cases e : q = r
      · rw [e]; exact hm
      · exact h2 q (by omega) hq2
    · rw [if_neg hm]
      exact ⟨hm, fun q h1 h2 => by omega⟩
theorem taken_iff (o : List Int) (i : Int) (near : List Int) (z : Int) : z ∈ takenOf o i near ↔ ∃ n ∈ near, 0 ≤ n ∧ n < i ∧ z = o.getD n.toNat 0 := by
  have : ∀ (near t : List Int), z ∈ near.foldl (takeStep o i) t ↔ z ∈ t ∨ ∃ n ∈ near, 0 ≤ n ∧ n < i ∧ z = o.getD n.toNat 0 := by
    intro near
    induction near with
    | nil => intro t; simp
    | cons n near ih =>
      intro t
      rw [List.foldl_cons, ih]
      unfold takeStep
      by_cases h : 0 ≤ n ∧ n < i
      · rw [if_pos h, List.mem_append, List.mem_singleton]
        constructor
        · rintro ((h1 | h1) | ⟨y, hy, h1⟩)
          · exact .inl h1
          · exact .inr ⟨n, List.mem_cons_self, h.1, h.2, h1⟩
          · exact .inr ⟨y, List.mem_cons_of_mem _ hy, h1⟩
        · rintro (h1 | ⟨y, hy, h1⟩)
          · exact .inl (.inl h1)
          · rcases List.mem_cons.1 hy with rfl | hy
            · exact .inl (.inr h1.2.2)
            · exact .inr ⟨y, hy, h1⟩
      · rw [if_neg h]
        constructor
        · rintro (h1 | ⟨y, hy, h1⟩)
          · exact .inl h1
          · exact .inr ⟨y, List.mem_cons_of_mem _ hy, h1⟩
        · rintro (h1 | ⟨y, hy, h1⟩)
          · exact .inl h1
          · rcases List.mem_cons.1 hy with rfl | hy
            · exact absurd ⟨h1.1, h1.2.1⟩ h
            · exact .inr ⟨y, hy, h1⟩
  unfold takenOf
  rw [this]
  simp
def Fine (l : List S166) (R : List Int) : Prop := ∀ i, i < R.length → ∃ m : Nat, R.getD i 0 = (m : Int) ∧ (∀ q, q < m → ∃ j, j < i ∧ ((j : Nat) : Int) ∈ nbs l (i : Int) ∧ R.getD j 0 = ((q : Nat) : Int)) ∧ ∀ j, j < i → ((j : Nat) : Int) ∈ nbs l (i : Int) → R.getD j 0 ≠ (m : Int)
theorem getD_snoc_lt (o : List Int) (m : Int) {j : Nat} (h : j < o.length) : (o ++ [m]).getD j 0 = o.getD j 0 := by
  simp [List.getD_eq_getElem?_getD, List.getElem?_append_left h]
theorem fine_step (l : List S166) (o : List Int) (i : Nat) (hi : o.length = i) (ho : ∀ x ∈ o, x < (i : Int)) (hf : Fine l o) : Fine l (roundStep l o i) := by
  obtain ⟨h1, h2⟩ := mex_spec (takenOf o (i : Int) (nbs l (i : Int))) i 0 (fun x hx => by rw [Nat.zero_add]; exact taken_mem o i i (by omega) ho _ [] (by simp) x hx)
  unfold roundStep
  intro j hj
  rw [List.length_append, List.length_singleton] at hj
  by_cases e : j = i
  · subst e
    refine ⟨mexFrom (takenOf o (j : Int) (nbs l (j : Int))) j 0, by simp [List.getD_eq_getElem?_getD, hi], fun q hq => ?_, fun u hu hn => ?_⟩
    · have hq' := h2 q (Nat.zero_le _) hq
      rw [taken_iff] at hq'
      obtain ⟨n, hn, a1, a2, a3⟩ := hq'
      exact ⟨n.toNat, by omega, by rw [Int.toNat_of_nonneg a1]; exact hn, by rw [getD_snoc_lt _ _ (by omega)]; exact a3.symm⟩
    · rw [getD_snoc_lt _ _ (by omega)]
      intro e
      refine h1 ?_
      rw [taken_iff]
      exact ⟨(u : Int), hn, by omega, by omega, by rw [Int.toNat_natCast]; exact e.symm⟩
  · obtain ⟨m, a1, a2, a3⟩ := hf j (by omega)
    refine ⟨m, by rw [getD_snoc_lt _ _ (by omega)]; exact a1, fun q hq => ?_, fun u hu hn => ?_⟩
    · obtain ⟨u, b1, b2, b3⟩ := a2 q hq
      exact ⟨u, b1, b2, by rw [getD_snoc_lt _ _ (by omega)]; exact b3⟩
    · rw [getD_snoc_lt _ _ (by omega)]
      exact a3 u hu hn
theorem fine_rounds (l : List S166) (nodes : Int) : Fine l (rounds l nodes) := by
  have : ∀ (d i : Nat) (s : List Int), s.length = i → (∀ x ∈ s, x < (i : Int)) → Fine l s → Fine l ((List.range' i d).foldl (fun s j => roundStep l s j) s) := by
    intro d
    induction d with
    | zero => intro i s _ _ h; simpa using h
    | succ d ih =>
      intro i s hi hs hf
      rw [List.range'_succ, List.foldl_cons]
      obtain ⟨h1, h2⟩ := roundStep_lt l s i hi hs
      exact ih (i + 1) _ h1 h2 (fine_step l s i hi hs hf)
  unfold rounds
  split
  · exact this _ 0 [] rfl (by simp) (fun i hi => absurd hi (by simp))
  · exact fun i hi => absurd hi (by simp)
theorem pigeon (f : Int → Int) : ∀ (k : Nat) (l : List Int), (∀ q, q < k → ∃ x ∈ l, f x = ((q : Nat) : Int)) → k ≤ l.length
  | 0, l, _ => Nat.zero_le _
  | k + 1, l, h => by
    obtain ⟨x, hx, e⟩ := h k (by omega)
    have := pigeon f k (l.erase x) (fun q hq => by
      obtain ⟨y, hy, e'⟩ := h q (by omega)
      exact ⟨y, (List.mem_erase_of_ne (by rintro rfl; omega)).2 hy, e'⟩)
    rw [List.length_erase_of_mem hx] at this
    have : 0 < l.length := List.length_pos_of_mem hx
    omega
theorem inRound_iff (R : List Int) (k z : Int) : z ∈ inRound R k ↔ ∃ i : Nat, i < R.length ∧ z = (i : Int) ∧ R.getD i 0 = k := by
  have : ∀ (d i : Nat) (o : List Int), i + d = R.length → (z ∈ (List.range' i d).foldl (fun o i => inRoundF k R i o) o ↔ z ∈ o ∨ ∃ j : Nat, i ≤ j ∧ j < R.length ∧ z = (j : Int) ∧ R.getD j 0 = k) := by
    intro d
    induction d with
    | zero =>
      intro i o hi
      constructor
      · exact fun h => .inl (by simpa using h)
      · rintro (h | ⟨j, h1, h2, _⟩)
        · simpa using h
        · omega
    | succ d ih =>
      intro i o hi
      rw [List.range'_succ, List.foldl_cons, ih (i + 1) _ (by omega)]
      unfold inRoundF
      by_cases h : R.getD i 0 = k
      · rw [if_pos h, List.mem_append, List.mem_singleton]
        constructor
        · rintro ((h1 | h1) | ⟨j, h1, h2⟩)
          · exact .inl h1
          · exact .inr ⟨i, Nat.le_refl _, by omega, h1, h⟩
          · exact .inr ⟨j, by omega, h2⟩
        · rintro (h1 | ⟨j, h1, h2⟩)
          · exact .inl (.inl h1)
          · by_cases e : j = i
            · exact .inl (.inr (by rw [h2.2.1, e]))
            · exact .inr ⟨j, by omega, h2⟩
      · rw [if_neg h]
        constructor
        · rintro (h1 | ⟨j, h1, h2⟩)
          · exact .inl h1
          · exact .inr ⟨j, by omega, h2⟩
        · rintro (h1 | ⟨j, h1, h2⟩)
          · exact .inl h1
          · by_cases e : j = i
            · exact absurd (e ▸ h2.2.2) h
            · exact .inr ⟨j, by omega, h2⟩
  unfold inRound
  rw [this R.length 0 [] (by omega)]
  simp
theorem inRound_count (R : List Int) (k : Int) : (inRound R k).length = R.countP (fun x => decide (x = k)) := by
  have : ∀ (d i : Nat) (o : List Int), i + d = R.length → ((List.range' i d).foldl (fun o i => inRoundF k R i o) o).length = o.length + (R.drop i).countP (fun x => decide (x = k)) := by
    intro d
    induction d with
    | zero => intro i o hi; rw [List.drop_eq_nil_of_le (by omega)]; simp
    | succ d ih =>
      intro i o hi
      rw [List.range'_succ, List.foldl_cons, ih (i + 1) _ (by omega), drop_cons R 0 (show i < R.length by omega), List.countP_cons]
      unfold inRoundF
      by_cases h : R.getD i 0 = k
      · rw [if_pos h, if_pos (by simpa using h), List.length_append, List.length_singleton]; omega
      · rw [if_neg h, if_neg (by simpa using h)]; omega
  unfold inRound
  rw [this R.length 0 [] (by omega)]
  simp
theorem count_next (R : List Int) (k : Int) : R.countP (fun x => decide (x < k + 1)) = R.countP (fun x => decide (x < k)) + R.countP (fun x => decide (x = k)) := by
  induction R with
  | nil => rfl
  | cons x R ih =>
    rw [List.countP_cons, List.countP_cons, List.countP_cons, ih]
    by_cases h1 : x < k
    · rw [if_pos (by simp; omega), if_pos (by simpa using h1), if_neg (by simp; omega)]; omega
    · by_cases h2 : x = k
      · rw [if_pos (by simp; omega), if_neg (by simpa using h1), if_pos (by simpa using h2)]; omega
      · rw [if_neg (by simp; omega), if_neg (by simpa using h1), if_neg (by simpa using h2)]; omega
theorem last_spec (R : List Int) (h : 0 < R.length) : (∃ j, j < R.length ∧ lastR R = R.getD j 0) ∧ ∀ j, j < R.length → R.getD j 0 ≤ lastR R := by
  have : ∀ i, 0 < i → i ≤ R.length → (∃ j, j < i ∧ Lib.maxOf (R.take i) = R.getD j 0) ∧ ∀ j, j < i → R.getD j 0 ≤ Lib.maxOf (R.take i) := by
    intro i
    induction i with
    | zero => intro h; omega
    | succ i ih =>
      intro _ hi
      by_cases h0 : i = 0
      · subst h0
        rw [Lib.maxOf_one]
        exact ⟨⟨0, by omega, rfl⟩, fun j hj => by rw [show j = 0 by omega]; exact Int.le_refl _⟩
      · obtain ⟨⟨j, hj, e⟩, h2⟩ := ih (by omega) (by omega)
        rw [Lib.maxOf_step R i (by omega) (by omega)]
        constructor
        · rcases Int.le_total (Lib.maxOf (R.take i)) (R.getD i 0) with h | h
          · rw [Int.max_eq_right h]; exact ⟨i, by omega, rfl⟩
          · rw [Int.max_eq_left h]; exact ⟨j, by omega, e⟩
        · intro u hu
          by_cases e : u = i
          · rw [e]; exact Int.le_max_right _ _
          · exact Int.le_trans (h2 u (by omega)) (Int.le_max_left _ _)
  have h := this R.length h (Nat.le_refl _)
  rw [List.take_of_length_le (Nat.le_refl _)] at h
  unfold lastR
  rw [if_neg (by omega)]
  exact h

/-! @@ FnUpgrades -/
theorem fine_apart {l : List S166} {R : List Int} (hs : slimL l) (hf : Fine l R) {u v : Nat} (hu : u < R.length) (hv : v < R.length) (hn : (u : Int) ∈ nbs l (v : Int)) : R.getD u 0 ≠ R.getD v 0 := by
  obtain ⟨h1, h2⟩ := nbs_symm hs hn
  rcases Nat.lt_or_ge u v with h | h
  · obtain ⟨m, a1, _, a3⟩ := hf v hv
    rw [a1]; exact a3 u h hn
  · obtain ⟨m, a1, _, a3⟩ := hf u hu
    rw [a1]; exact (a3 v (by omega) h1).symm
theorem fine_upgrade {l : List S166} {R : List Int} (hs : slimL l) (hf : Fine l R) : upgradeB l R = true := by
  unfold upgradeB
  have h1 : R.any negB = false := by
    rw [List.any_eq_false]
    intro x hx
    obtain ⟨i, hi, e⟩ := List.getElem_of_mem hx
    obtain ⟨m, a1, _⟩ := hf i hi
    rw [List.getD_eq_getElem?_getD, List.getElem?_eq_getElem hi, Option.getD_some, e] at a1
    unfold negB
    simp
    omega
  have h2 : l.any (sameR R) = false := by
    rw [List.any_eq_false]
    intro x hx he
    unfold sameR at he
    simp only [Bool.and_eq_true, decide_eq_true_eq] at he
    obtain ⟨⟨⟨_, b1⟩, b2⟩, b3⟩ := he
    obtain ⟨c1, c2⟩ := (idxB_iff _ _).1 b1
    obtain ⟨c3, c4⟩ := (idxB_iff _ _).1 b2
    have hlt := hs x hx
    have hn : ((x.f0.toNat : Nat) : Int) ∈ nbs l ((x.f1.toNat : Nat) : Int) := by
      rw [Int.toNat_of_nonneg c1, Int.toNat_of_nonneg c3, nbs_mem]
      exact ⟨x, hx, .inr ⟨by omega, rfl, rfl⟩⟩
    exact fine_apart hs hf (by omega) (by omega) hn b3
  rw [h1, h2]; rfl
theorem linksDown_le (l : List S166) (o : List Int) : linksDown l o ≤ (l.length : Int) := (countP_le _ _).2
theorem loop2 (L : List S166) (R : List Int) (s K : Int) (o near : List Int) (i : Int) (ho : o.length ≤ 12) (hn : near.length ≤ 1048576) (hx : ∀ z ∈ near, ¬ z ∈ o) (h : Ev (fun k => laws_FnUpgrades.l1 k L R s K o (wrap64 (i + 1))) true) :
    ∀ (d j : Nat), j + d = near.length → Ev (fun k => laws_FnUpgrades.l2 k L R s K o i near j) true := by
  intro d
  induction d with
  | zero =>
    intro j hj
    exact Ev.step (fun k => by simp only [laws_FnUpgrades.l2]; rw [if_neg (by omega)]) h
  | succ d ih =>
    intro j hj
    refine Ev.step (fun k => by simp only [laws_FnUpgrades.l2]; rw [if_pos (by omega), if_pos (by omega), rd_nat, wrap_nat (by omega)]) ?_
    refine Ev.bind (laws_contains.ev o (near.getD j 0) (by omega)) ?_
    exact Ev.congr (fun k => by rw [if_neg (by rw [hasB_mem]; exact hx _ (getD_mem near 0 (by omega)))]) (ih (j + 1) (by omega))
theorem loop1 (L : List S166) (R : List Int) (s K : Int) (o : List Int) (hL : L.length ≤ 36) (ho : o.length ≤ 12) (hx : ∀ v ∈ o, K ≤ ((nbs L v).length : Int) ∧ ∀ z ∈ nbs L v, ¬ z ∈ o) (h : Ev (fun k => laws_FnUpgrades.l0 k L R s (wrap64 (K + 1))) true) :
    ∀ (d i : Nat), i + d = o.length → Ev (fun k => laws_FnUpgrades.l1 k L R s K o i) true := by
  intro d
  induction d with
  | zero =>
    intro i hi
    exact Ev.step (fun k => by simp only [laws_FnUpgrades.l1]; rw [if_neg (by omega)]) h
  | succ d ih =>
    intro i hi
    obtain ⟨h1, h2⟩ := hx _ (getD_mem o 0 (show i < o.length by omega))
    have hln := nbs_len L (o.getD i 0)
    refine Ev.step (fun k => by simp only [laws_FnUpgrades.l1]; rw [if_pos (by omega), if_pos (by omega), rd_nat]) ?_
    refine Ev.bind (impl_NeighborsIn.ev L (o.getD i 0) (by omega)) ?_
    refine Ev.congr (fun k => by rw [if_neg (by omega)]) ?_
    exact loop2 L R s K o (nbs L (o.getD i 0)) i ho (by omega) h2 (by rw [wrap_nat (by omega)]; exact ih (i + 1) (by omega)) (nbs L (o.getD i 0)).length 0 (by omega)
theorem loop0 (L : List S166) (R : List Int) (hs : slimL L) (hL : L.length ≤ 36) (hR : R.length ≤ 12) (hf : Fine L R) (T : Nat) (hT : lastR R = (T : Int) - 1) (hT2 : T ≤ 12) (hall : R.countP (fun x => decide (x < (T : Int))) = R.length) :
    ∀ (d K : Nat), K + d = T → Ev (fun k => laws_FnUpgrades.l0 k L R ((R.countP (fun x => decide (x < (K : Int))) : Nat) : Int) K) true := by
  intro d
  induction d with
  | zero =>
    intro K hK
    refine Ev.one fun k => ?_
    simp only [laws_FnUpgrades.l0]
    rw [impl_LastRound.val, Option.bind_some, if_neg (by omega), show K = T by omega, hall]
    simp
  | succ d ih =>
    intro K hK
    have hpos : 0 < R.length := by
      rcases Nat.eq_zero_or_pos R.length with h | h
      · exfalso
        unfold lastR at hT
        rw [if_pos (by omega)] at hT
        omega
      · exact h
    obtain ⟨⟨u, hu, hmax⟩, _⟩ := last_spec R hpos
    have hne : ∃ v : Nat, v < R.length ∧ R.getD v 0 = (K : Int) := by
      obtain ⟨m, a1, a2, _⟩ := hf u hu
      by_cases e : m = K
      · exact ⟨u, hu, by rw [a1, e]⟩
      · obtain ⟨j, b1, _, b3⟩ := a2 K (by omega)
        exact ⟨j, by omega, b3⟩
    obtain ⟨v, hv, hvK⟩ := hne
    have hmem : ((v : Nat) : Int) ∈ inRound R K := (inRound_iff R K v).2 ⟨v, hv, rfl, hvK⟩
    have hlpos : 0 < (inRound R K).length := List.length_pos_of_mem hmem
    have hlen := inRound_len R (K : Int)
    have hc := count_next R (K : Int)
    have hic := inRound_count R (K : Int)
    have hle : R.countP (fun x => decide (x < (K : Int) + 1)) ≤ R.length := List.countP_le_length
    have hnext := ih (K + 1) (by omega)
    rw [show (((K + 1 : Nat) : Int)) = (K : Int) + 1 by omega, hc, ← hic] at hnext
    refine Ev.step (fun k => by simp only [laws_FnUpgrades.l0]; rw [impl_LastRound.val, Option.bind_some, if_pos (by omega)]) ?_
    refine Ev.bind (impl_InRound.ev R K (by omega)) ?_
    refine Ev.congr (fun k => by rw [if_neg (by omega)]) ?_
    refine Ev.bind (impl_LinksDown.ev L R K (by omega) (by omega)) ?_
    have hld := linksDown_le L (inRound R K)
    refine Ev.step (fun k => by simp only [laws_FnUpgrades.j1]; rw [if_neg (by simp only [decide_eq_true_eq]; omega)]) ?_
    rw [wrap_id (by omega) (by omega)]
    refine loop1 L R _ K (inRound R K) hL (by omega) (fun z hz => ?_) (by rw [wrap_id (by omega) (by omega), ← Int.natCast_add]; exact hnext) (inRound R K).length 0 (by omega)
    obtain ⟨i, hi, rfl, hiK⟩ := (inRound_iff R K z).1 hz
    obtain ⟨m, a1, a2, a3⟩ := hf i hi
    constructor
    · have := pigeon (fun z => R.getD z.toNat 0) m (nbs L (i : Int)) (fun q hq => by
        obtain ⟨j, b1, b2, b3⟩ := a2 q hq
        exact ⟨(j : Int), b2, by rw [Int.toNat_natCast]; exact b3⟩)
      omega
    · intro y hy hyo
      obtain ⟨j, hj, rfl, hjK⟩ := (inRound_iff R K y).1 hyo
      exact fine_apart hs hf hj hi hy (by rw [hjK, hiK])
theorem proved : Stated := by
  intro l ⟨_, _⟩
  refine Ev.rounds ?_
  refine Ev.congr (fun k => by unfold laws_FnUpgrades.f; rw [laws_big.val, Option.bind_some]) ?_
  by_cases hb : (l.length : Int) > 1048576
  · exact Ev.all fun k => by rw [if_pos (by simpa using hb)]
  refine Ev.congr (fun k => by rw [if_neg (by simpa using hb)]) ?_
  obtain ⟨L, n, hd, hs, hL⟩ := spec_DrawRoundsOf.ev l (by omega)
  refine Ev.bind hd (Ev.bind (impl_RoundsOf.ev L n (by omega)) ?_)
  have hf := fine_rounds L n
  have hR := rounds_len L n
  have hvals : ∀ j, j < (rounds L n).length → (rounds L n).getD j 0 < 12 := by
    intro j hj
    obtain ⟨m, a1, a2, _⟩ := hf j hj
    rw [a1]
    have := pigeon (fun z => (rounds L n).getD z.toNat 0) m ((List.range j).map fun q : Nat => (q : Int)) (fun q hq => by
      obtain ⟨u, b1, _, b3⟩ := a2 q hq
      exact ⟨(u : Int), List.mem_map.2 ⟨u, List.mem_range.2 b1, rfl⟩, by rw [Int.toNat_natCast]; exact b3⟩)
    simp at this
    omega
  generalize rounds L n = R at hf hR hvals
  refine Ev.bind (impl_IsUpgrade.ev L R (by omega) (by omega)) ?_
  refine Ev.congr (fun k => by rw [if_pos (fine_upgrade hs hf)]) ?_
  have h0 : R.countP (fun x => decide (x < ((0 : Nat) : Int))) = 0 := by
    rw [List.countP_eq_zero]
    intro x hx
    obtain ⟨i, hi, e⟩ := List.getElem_of_mem hx
    obtain ⟨m, a1, _⟩ := hf i hi
    rw [List.getD_eq_getElem?_getD, List.getElem?_eq_getElem hi, Option.getD_some, e] at a1
    simp
    omega
  by_cases hz : R.length = 0
  · have e : R = [] := List.eq_nil_of_length_eq_zero hz
    subst e
    have := loop0 L [] hs hL hR hf 0 rfl (by omega) rfl 0 0 rfl
    simpa using this
  · obtain ⟨⟨u, hu, hmax⟩, hge⟩ := last_spec R (by omega)
    obtain ⟨m, a1, _⟩ := hf u hu
    have := hvals u hu
    have hall : R.countP (fun x => decide (x < ((m + 1 : Nat) : Int))) = R.length := by
      rw [List.countP_eq_length]
      intro x hx
      obtain ⟨i, hi, e⟩ := List.getElem_of_mem hx
      have := hge i hi
      rw [List.getD_eq_getElem?_getD, List.getElem?_eq_getElem hi, Option.getD_some, e] at this
      simp
      omega
    have := loop0 L R hs hL hR hf (m + 1) (by omega) (by omega) hall (m + 1) 0 (by omega)
    rw [h0] at this
    exact this

end Go.Proofs.Ytlogjmgghnifoaa.PureFnUpgrades
