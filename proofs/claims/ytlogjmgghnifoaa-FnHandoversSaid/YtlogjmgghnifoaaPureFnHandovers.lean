/- FnHandovers, over numbers and lists alone: what the program's function and the reference's answer is one. Conditions: the numbers are of their kinds. -/
import Derived.Test.YtlogjmgghnifoaaKindsFnHandovers
import Derived.Test.YtlogjmgghnifoaaVFnHandoversBase
namespace Go.Proofs.Ytlogjmgghnifoaa.PureFnHandovers
open Go.RowKit Go.Proofs.Ytlogjmgghnifoaa.PFnHandovers Go.Proofs.YtlogjmgghnifoaaW.PrintWords Go.Proofs.YtlogjmgghnifoaaW.PrintLast Go.Proofs.YtlogjmgghnifoaaW.PrintMore Go.Proofs.Ytlogjmgghnifoaa.Base
set_option linter.unusedVariables false
set_option linter.unusedSimpArgs false

/-! d_neigh -/
theorem strict_ext : ∀ (l1 l2 : List Int), l1.Pairwise (· < ·) → l2.Pairwise (· < ·) → (∀ x, x ∈ l1 ↔ x ∈ l2) → l1 = l2
  | [], [], _, _, _ => rfl
  | [], y :: l2, _, _, h => absurd ((h y).2 List.mem_cons_self) (by simp)
  | x :: l1, [], _, _, h => absurd ((h x).1 List.mem_cons_self) (by simp)
  | x :: l1, y :: l2, h1, h2, h => by
    rw [List.pairwise_cons] at h1 h2
    have hx : x = y := by
      rcases List.mem_cons.1 ((h x).1 List.mem_cons_self) with e | e
      · exact e
      · have a := h2.1 x e
        rcases List.mem_cons.1 ((h y).2 List.mem_cons_self) with e' | e'
        · omega
        · have b := h1.1 y e'
          omega
    subst hx
    rw [strict_ext l1 l2 h1.2 h2.2 fun z => ?_]
    constructor
    · intro hz
      have a := h1.1 z hz
      rcases List.mem_cons.1 ((h z).1 (List.mem_cons_of_mem _ hz)) with e | e
      · omega
      · exact e
    · intro hz
      have a := h2.1 z hz
      rcases List.mem_cons.1 ((h z).2 (List.mem_cons_of_mem _ hz)) with e | e
      · omega
      · exact e
def posU (n : Int) : List Int → Nat
  | [] => 0
  | x :: l => if x < n then posU n l + 1 else 0
def insU (n : Int) (out : List Int) : List Int := if posU n out = out.length ∨ ¬ out.getD (posU n out) 0 = n then out.take (posU n out) ++ [n] ++ out.drop (posU n out) else out
theorem insU_lt {x n : Int} (h : x < n) (l : List Int) : insU n (x :: l) = x :: insU n l := by
  unfold insU
  simp only [posU, if_pos h, List.length_cons, List.getD_cons_succ, List.take_succ_cons, List.drop_succ_cons, Nat.add_right_cancel_iff]
  split <;> simp
theorem insU_ge {x n : Int} (h : ¬ x < n) (l : List Int) : insU n (x :: l) = if x = n then x :: l else n :: x :: l := by
  unfold insU
  simp only [posU, if_neg h, List.length_cons, List.getD_cons_zero, List.take_zero, List.drop_zero, List.nil_append]
  by_cases e : x = n
  · rw [if_neg (by simp [e]), if_pos e]
  · rw [if_pos (Or.inr e), if_neg e]; rfl
theorem insU_mem (n : Int) : ∀ (l : List Int) (z : Int), z ∈ insU n l ↔ z = n ∨ z ∈ l
  | [], z => by simp [insU, posU]
  | x :: l, z => by
    by_cases h : x < n
    · rw [insU_lt h, List.mem_cons, insU_mem n l z, List.mem_cons]
      constructor
      · rintro (e | e | e)
        · exact .inr (.inl e)
        · exact .inl e
        · exact .inr (.inr e)
      · rintro (e | e | e)
        · exact .inr (.inl e)
        · exact .inl e
        · exact .inr (.inr e)
    · rw [insU_ge h]
      split
      · rename_i e
        simp only [List.mem_cons]
        constructor
        · exact .inr
        · rintro (e' | e')
          · exact .inl (by omega)
          · exact e'
      · simp only [List.mem_cons]
theorem insU_strict (n : Int) : ∀ (l : List Int), l.Pairwise (· < ·) → (insU n l).Pairwise (· < ·)
  | [], _ => by simp [insU, posU]
  | x :: l, h => by
    have h' := List.pairwise_cons.1 h
    by_cases hx : x < n
    · rw [insU_lt hx, List.pairwise_cons]
      refine ⟨fun z hz => ?_, insU_strict n l h'.2⟩
      rcases (insU_mem n l z).1 hz with e | e
      · omega
      · exact h'.1 z e
    · rw [insU_ge hx]
      split
      · exact h
      · rw [List.pairwise_cons]
        refine ⟨fun z hz => ?_, h⟩
        rcases List.mem_cons.1 hz with e | e
        · omega
        · have := h'.1 z e
          omega
theorem fold_insU : ∀ (l o : List Int), o.Pairwise (· < ·) → (l.foldl (fun o n => insU n o) o).Pairwise (· < ·) ∧ ∀ z, z ∈ l.foldl (fun o n => insU n o) o ↔ z ∈ o ∨ z ∈ l
  | [], o, h => ⟨h, fun z => by simp⟩
  | n :: l, o, h => by
    obtain ⟨h1, h2⟩ := fold_insU l (insU n o) (insU_strict n o h)
    refine ⟨h1, fun z => ?_⟩
    rw [List.foldl_cons, h2 z, insU_mem, List.mem_cons]
    constructor
    · rintro ((e | e) | e)
      · exact .inr (.inl e)
      · exact .inl e
      · exact .inr (.inr e)
    · rintro (e | e | e)
      · exact .inl (.inr e)
      · exact .inl (.inl e)
      · exact .inr e

/-! d_nbs -/
theorem insU_len (n : Int) (o : List Int) : (insU n o).length ≤ o.length + 1 := by
  unfold insU
  split
  · simp; omega
  · omega
theorem posU_le (n : Int) : ∀ l : List Int, posU n l ≤ l.length
  | [] => Nat.le_refl _
  | x :: l => by
    rw [posU]
    have := posU_le n l
    split
    · simp only [List.length_cons]; omega
    · simp
theorem insU_idem (n : Int) (o : List Int) (h : o.Pairwise (· < ·)) : insU n (insU n o) = insU n o :=
  strict_ext _ _ (insU_strict n _ (insU_strict n o h)) (insU_strict n o h) fun z => by
    rw [insU_mem, insU_mem]
    constructor
    · rintro (e | e)
      · exact .inl e
      · exact e
    · exact .inr
def nbStep (node : Int) (o : List Int) (x : S166) : List Int := if x.f0 = node then insU x.f1 o else if x.f1 = node then insU x.f0 o else o
def nbs (l : List S166) (node : Int) : List Int := l.foldl (nbStep node) []
theorem nbStep_len (node : Int) (o : List Int) (x : S166) : (nbStep node o x).length ≤ o.length + 1 := by
  unfold nbStep
  split
  · exact insU_len _ _
  · split
    · exact insU_len _ _
    · omega
theorem nbs_len (l : List S166) (node : Int) : (nbs l node).length ≤ l.length := by
  have : ∀ (l : List S166) (o : List Int), (l.foldl (nbStep node) o).length ≤ o.length + l.length := by
    intro l
    induction l with
    | nil => intro o; simp
    | cons x l ih =>
      intro o
      have h1 := ih (nbStep node o x)
      have h2 := nbStep_len node o x
      simp only [List.foldl_cons, List.length_cons]
      omega
  simpa [nbs] using this l []
def rawStep (node : Int) (r : List Int) (x : S166) : List Int := if x.f1 = node then (if x.f0 = node then r ++ [x.f1] else r) ++ [x.f0] else if x.f0 = node then r ++ [x.f1] else r
theorem raw_nbs (node : Int) : ∀ (l : List S166) (r : List Int), (l.foldl (rawStep node) r).foldl (fun o n => insU n o) [] = l.foldl (nbStep node) (r.foldl (fun o n => insU n o) [])
  | [], r => rfl
  | x :: l, r => by
    have hs := (fold_insU r [] List.Pairwise.nil).1
    rw [List.foldl_cons, List.foldl_cons, raw_nbs node l]
    congr 1
    unfold rawStep nbStep
    by_cases h0 : x.f0 = node
    · by_cases h1 : x.f1 = node
      · rw [if_pos h1, if_pos h0, if_pos h0, List.foldl_append, List.foldl_append]
        simp only [List.foldl_cons, List.foldl_nil]
        rw [h0, h1]
        exact insU_idem _ _ hs
      · rw [if_neg h1, if_pos h0, if_pos h0, List.foldl_append]
        rfl
    · by_cases h1 : x.f1 = node
      · rw [if_pos h1, if_neg h0, if_neg h0, if_pos h1, List.foldl_append]
        rfl
      · rw [if_neg h1, if_neg h0, if_neg h0, if_neg h1]
theorem raw_len (node : Int) : ∀ (l : List S166) (r : List Int), (l.foldl (rawStep node) r).length ≤ r.length + 2 * l.length
  | [], r => by simp
  | x :: l, r => by
    have h1 := raw_len node l (rawStep node r x)
    have h2 : (rawStep node r x).length ≤ r.length + 2 := by
      unfold rawStep
      repeat' split
      all_goals simp
    simp only [List.foldl_cons, List.length_cons]
    omega

/-! d_neighC -/
theorem compact_sorted (zs : List Int) (hs : ∀ i j, i ≤ j → j < zs.length → zs.toArray[i]! ≤ zs.toArray[j]!) : ∀ m, m ≤ zs.length → (Go.Lib.compactUpTo zs.toArray m).Pairwise (· < ·) ∧ ∀ z, z ∈ Go.Lib.compactUpTo zs.toArray m ↔ ∃ j, j < m ∧ zs.toArray[j]! = z := by
  intro m
  induction m with
  | zero => intro _; exact ⟨by simp [Go.Lib.compactUpTo], fun z => by simp [Go.Lib.compactUpTo]⟩
  | succ m ih =>
    intro hm
    obtain ⟨h1, h2⟩ := ih (by omega)
    rw [Go.Lib.compactUpTo_succ]
    by_cases hk : Go.Lib.keeps zs.toArray m = true
    · rw [if_pos hk]
      refine ⟨List.pairwise_append.2 ⟨h1, by simp, fun z hz y hy => ?_⟩, fun z => ?_⟩
      · rw [List.mem_singleton] at hy
        subst hy
        obtain ⟨j, hj, e⟩ := (h2 z).1 hz
        unfold Go.Lib.keeps at hk
        rcases of_decide_eq_true hk with h0 | h0
        · omega
        · have a := hs j (m - 1) (by omega) (by omega)
          have b := hs (m - 1) m (by omega) (by omega)
          omega
      · rw [List.mem_append, List.mem_singleton, h2 z]
        constructor
        · rintro (⟨j, hj, e⟩ | e)
          · exact ⟨j, by omega, e⟩
          · exact ⟨m, by omega, e.symm⟩
        · rintro ⟨j, hj, e⟩
          by_cases hjm : j = m
          · exact .inr (by rw [← e, hjm])
          · exact .inl ⟨j, by omega, e⟩
    · rw [if_neg hk, List.append_nil]
      refine ⟨h1, fun z => ?_⟩
      rw [h2 z]
      have hk' : Go.Lib.keeps zs.toArray m = false := by simpa using hk
      unfold Go.Lib.keeps at hk'
      have h0 := of_decide_eq_false hk'
      constructor
      · rintro ⟨j, hj, e⟩
        exact ⟨j, by omega, e⟩
      · rintro ⟨j, hj, e⟩
        by_cases hjm : j = m
        · refine ⟨m - 1, by omega, ?_⟩
          have : zs.toArray[m]! = zs.toArray[m - 1]! := Classical.byContradiction fun h => h0 (.inr h)
          rw [← this, ← hjm]; exact e
        · exact ⟨j, by omega, e⟩
theorem compact_sort (l : List Int) : Go.Lib.compact (l.mergeSort fun x y => decide (x ≤ y)) = l.foldl (fun o n => insU n o) [] := by
  have hp : (l.mergeSort fun x y => decide (x ≤ y)).Pairwise fun x y => decide (x ≤ y) = true := List.pairwise_mergeSort (fun a b c h1 h2 => by simp only [decide_eq_true_eq] at *; omega) (fun a b => by simp only [Bool.or_eq_true, decide_eq_true_eq]; omega) l
  have hm : ∀ z, z ∈ (l.mergeSort fun x y => decide (x ≤ y)) ↔ z ∈ l := fun z => List.mem_mergeSort
  generalize (l.mergeSort fun x y => decide (x ≤ y)) = zs at hp hm
  have hg : ∀ j, j < zs.length → zs.toArray[j]! = zs.getD j 0 := fun j hj => by
    rw [List.getD_eq_getElem?_getD, List.getElem?_eq_getElem hj]
    simp [hj]
  have hs : ∀ i j, i ≤ j → j < zs.length → zs.toArray[i]! ≤ zs.toArray[j]! := fun i j hij hj => by
    rcases Nat.lt_or_ge i j with h | h
    · have := List.pairwise_iff_getElem.1 hp i j (by omega) hj h
      simp only [decide_eq_true_eq] at this
      rw [hg i (by omega), hg j hj, List.getD_eq_getElem?_getD, List.getD_eq_getElem?_getD, List.getElem?_eq_getElem hj, List.getElem?_eq_getElem (show i < zs.length by omega)]
      exact this
    · rw [show i = j by omega]; exact Int.le_refl _
  obtain ⟨h1, h2⟩ := compact_sorted zs hs zs.length (Nat.le_refl _)
  obtain ⟨h3, h4⟩ := fold_insU l [] List.Pairwise.nil
  refine strict_ext _ _ h1 h3 fun z => ?_
  show z ∈ Go.Lib.compactUpTo zs.toArray zs.length ↔ _
  rw [h2 z, h4 z, ← hm z]
  constructor
  · rintro ⟨j, hj, e⟩
    refine .inr ?_
    rw [← e, hg j hj, List.getD_eq_getElem?_getD, List.getElem?_eq_getElem hj]
    exact List.getElem_mem hj
  · rintro (e | e)
    · cases e
    · obtain ⟨j, hj, e⟩ := List.getElem_of_mem e
      exact ⟨j, hj, by rw [hg j hj, List.getD_eq_getElem?_getD, List.getElem?_eq_getElem hj]; exact e⟩

/-! impl_NeighborsIn -/
theorem rawStep_len (node : Int) (r : List Int) (x : S166) : (rawStep node r x).length ≤ r.length + 2 := by
  unfold rawStep
  repeat' split
  all_goals simp
theorem impl_NeighborsIn.step (l : List S166) (node : Int) (s : List Int) (i k : Nat) (hl : l.length ≤ 1048576) (hi : i < l.length) (hs : s.length ≤ 2 * i) :
    impl_NeighborsIn.l0 (k + 1) node s l (l.length : Int) i = impl_NeighborsIn.l0 k node (rawStep node s (l.getD i z166)) l (l.length : Int) ((i + 1 : Nat) : Int) := by
  simp only [impl_NeighborsIn.l0]
  rw [if_pos (by omega), if_pos (by omega), if_pos (by omega), wrap_nat (by omega), show rd_T166 l (i : Int) = l.getD i z166 from rfl]
  unfold rawStep
  by_cases h0 : (l.getD i z166).f0 = node
  · rw [if_pos h0, if_pos (by omega), Option.bind_some]
    by_cases h1 : (l.getD i z166).f1 = node
    · rw [if_pos h1, if_pos (by rw [List.length_append, List.length_singleton]; omega), if_pos h1, if_pos h0]
    · rw [if_neg h1, if_neg h1, if_pos h0]
  · rw [if_neg h0]
    by_cases h1 : (l.getD i z166).f1 = node
    · rw [if_pos h1, if_pos (by omega), if_pos h1, if_neg h0]
    · rw [if_neg h1, if_neg h1, if_neg h0]
theorem impl_NeighborsIn.ev (l : List S166) (node : Int) (hl : l.length ≤ 1048576) : Ev (fun k => impl_NeighborsIn.f k l node) (nbs l node) := by
  have h := fold_index (g := fun k s i => impl_NeighborsIn.l0 k node s l (l.length : Int) i) (f := fun i s => rawStep node s (l.getD i z166)) (fin := fun s => s.foldl (fun o n => insU n o) []) (fun i s => s.length ≤ 2 * i) l.length [] (by simp)
    (fun s hs => Ev.one fun k => by
      simp only [impl_NeighborsIn.l0]
      rw [if_neg (by omega)]
      unfold slices_Sort_int_int.f slices_Compact_int_int.f
      rw [if_pos (by omega), Option.bind_some, Option.bind_some]
      exact congrArg some (compact_sort s))
    (fun i s hi hs => ⟨Nat.le_trans (rawStep_len _ _ _) (by omega), fun k => impl_NeighborsIn.step l node s i k hl hi hs⟩)
  rw [foldl_index l z166 (fun s x => rawStep node s x) [], raw_nbs node l []] at h
  exact h

/-! impl_isIndex -/
theorem impl_isIndex.val (a n : Int) : impl_isIndex.f a n = some (decide (0 ≤ a) && decide (a < n)) := by
  unfold impl_isIndex.f
  by_cases h : a ≥ 0
  · rw [if_pos h]; simp [h]
  · rw [if_neg h]; simp; omega
theorem impl_isIndex.nat (a : Int) (n : Nat) : impl_isIndex.f a (n : Int) = some (idxB a n) := impl_isIndex.val a n

/-! d_fitTi -/
def fitTi (n : Nat) (x : S247) : Prop := x.f1.length ≤ n ∧ x.f2.length ≤ n

/-! d_fitPi -/
def fitPi (n : Nat) (x : S112) : Prop := x.f1.length ≤ n ∧ x.f2.length ≤ n ∧ ∀ t ∈ x.f2, fitTi n t
def fitQi (n : Nat) (l : List S112) : Prop := l.length ≤ n ∧ ∀ x ∈ l, fitPi n x

/-! d_hasLink -/
def linkQ (a b : Int) (x : S166) : Bool := (x.f0 == a) && (x.f1 == b) || (x.f0 == b) && (x.f1 == a)
def hasLink (p : List S112) (k a b : Int) : Bool := idxB k p.length && (rd_T112 p k).f1.any (linkQ a b)
theorem fit_links {n : Nat} {p : List S112} (hp : fitQi n p) {k : Int} (hk : idxB k p.length = true) : (rd_T112 p k).f1.length ≤ n := by
  obtain ⟨h0, h1⟩ := (idxB_iff _ _).1 hk
  exact (hp.2 _ (getD_mem p z112 (show k.toNat < p.length by omega))).1

/-! d_servers -/
def serversIn (p : List S112) (kk site : Int) : List Int := if idxB kk p.length = true then nbs (rd_T112 p kk).f1 site else []
theorem servers_len (p : List S112) (kk site : Int) (hp : fitQi 1048576 p) : (serversIn p kk site).length ≤ 1048576 := by
  unfold serversIn
  split
  · rename_i h
    exact Nat.le_trans (nbs_len _ _) (fit_links hp h)
  · simp

/-! impl_ServersIn -/
theorem impl_ServersIn.ev (x y z : Int) (p : List S112) (kk site : Int) (hp : fitQi 1048576 p) : Ev (fun k => impl_ServersIn.f k x y z p kk site) (serversIn p kk site) := by
  refine Ev.congr (fun k => by unfold impl_ServersIn.f; rw [impl_isIndex.nat, Option.bind_some]) ?_
  unfold serversIn
  by_cases h : idxB kk p.length = true
  · have hl := fit_links hp h
    obtain ⟨h0, h1⟩ := (idxB_iff _ _).1 h
    rw [if_pos h]
    refine Ev.congr (fun k => by rw [if_pos h, if_pos h0, if_pos h1]) ?_
    exact Ev.bind (impl_NeighborsIn.ev _ site hl) (Ev.now _)
  · rw [if_neg h]
    exact Ev.all fun k => by rw [if_neg h]

/-! d_isSpan -/
def isSpan (a b : Int) : Bool := decide (0 ≤ a) && decide (b ≤ 1000) && decide (a < b)

/-! impl_IsSpan -/
theorem impl_IsSpan.val (a b : Int) : impl_IsSpan.f a b = some (isSpan a b) := by
  unfold impl_IsSpan.f isSpan
  by_cases h : a ≥ 0
  · rw [if_pos h]
    by_cases h2 : b ≤ 1000
    · rw [if_pos h2]; simp [h, h2]
    · rw [if_neg h2]; simp; omega
  · rw [if_neg h]; simp; omega

/-! d_inSpan -/
def inSpan (a b t : Int) : Bool := isSpan a b && decide (a ≤ t) && decide (t < b)

/-! d_joinS -/
def covT (l : List S109) (t : Int) : Bool := l.any fun x => inSpan x.f0 x.f1 t
def putS (o : List S109) (t : Int) : List S109 := if 0 < o.length ∧ (o.getD (o.length - 1) z109).f1 = t then o.set (o.length - 1) ⟨(o.getD (o.length - 1) z109).f0, t + 1⟩ else o ++ [⟨t, t + 1⟩]
def joinStep (q : Int → Bool) (o : List S109) (j : Nat) : List S109 := if q (j : Int) = true then putS o (j : Int) else o
def joinS (l : List S109) : List S109 := (List.range' 0 1000).foldl (fun o j => joinStep (covT l) o j) []
theorem putS_len (o : List S109) (t : Int) : (putS o t).length ≤ o.length + 1 := by
  unfold putS
  split <;> simp
theorem joinStep_len (q : Int → Bool) (o : List S109) (j i : Nat) (h : o.length ≤ i) : (joinStep q o j).length ≤ i + 1 := by
  unfold joinStep
  split
  · have := putS_len o (j : Int); omega
  · omega
theorem joinS_len (l : List S109) : (joinS l).length ≤ 1000 := by
  have : ∀ d i (o : List S109), o.length ≤ i → ((List.range' i d).foldl (fun o j => joinStep (covT l) o j) o).length ≤ i + d := by
    intro d
    induction d with
    | zero => intro i o h; simpa using h
    | succ d ih => intro i o h; rw [List.range'_succ, List.foldl_cons]; have := ih (i + 1) _ (joinStep_len (covT l) o i i h); omega
  exact this 1000 0 [] (by simp)
def lastS (l : List S109) : Int := l.foldl (fun m x => if isSpan x.f0 x.f1 = true then mx m x.f1 else m) 0
theorem lastS_spec : ∀ (l : List S109) (m : Int), 0 ≤ m → m ≤ 1000 → 0 ≤ l.foldl (fun m x => if isSpan x.f0 x.f1 = true then mx m x.f1 else m) m ∧ l.foldl (fun m x => if isSpan x.f0 x.f1 = true then mx m x.f1 else m) m ≤ 1000 ∧ m ≤ l.foldl (fun m x => if isSpan x.f0 x.f1 = true then mx m x.f1 else m) m ∧
    ∀ x ∈ l, isSpan x.f0 x.f1 = true → x.f1 ≤ l.foldl (fun m x => if isSpan x.f0 x.f1 = true then mx m x.f1 else m) m
  | [], m, h0, h1 => ⟨h0, h1, Int.le_refl _, fun x hx => by cases hx⟩
  | y :: l, m, h0, h1 => by
    rw [List.foldl_cons]
    have one : 0 ≤ (if isSpan y.f0 y.f1 = true then mx m y.f1 else m) ∧ (if isSpan y.f0 y.f1 = true then mx m y.f1 else m) ≤ 1000 ∧ m ≤ (if isSpan y.f0 y.f1 = true then mx m y.f1 else m) ∧ (isSpan y.f0 y.f1 = true → y.f1 ≤ (if isSpan y.f0 y.f1 = true then mx m y.f1 else m)) := by
      split
      · rename_i h
        unfold isSpan at h
        simp only [Bool.and_eq_true, decide_eq_true_eq] at h
        unfold mx
        split <;> refine ⟨by omega, by omega, by omega, fun _ => by omega⟩
      · rename_i h
        exact ⟨h0, h1, Int.le_refl _, fun h' => absurd h' h⟩
    obtain ⟨a1, a2, a3, a4⟩ := lastS_spec l _ one.1 one.2.1
    refine ⟨a1, a2, Int.le_trans one.2.2.1 a3, fun x hx hs => ?_⟩
    rcases List.mem_cons.1 hx with rfl | hx
    · exact Int.le_trans (one.2.2.2 hs) a3
    · exact a4 x hx hs
theorem cov_last (l : List S109) (t : Int) (h : lastS l ≤ t) : covT l t = false := by
  unfold covT
  rw [List.any_eq_false]
  intro x hx he
  unfold inSpan at he
  simp only [Bool.and_eq_true, decide_eq_true_eq] at he
  have := (lastS_spec l 0 (by omega) (by omega)).2.2.2 x hx he.1.1
  unfold lastS at h
  omega
theorem joinS_short (l : List S109) : (List.range' 0 (lastS l).toNat).foldl (fun o j => joinStep (covT l) o j) [] = joinS l := by
  obtain ⟨h0, h1, _⟩ := lastS_spec l 0 (by omega) (by omega)
  have e : ∀ (d i : Nat) (o : List S109), lastS l ≤ (i : Int) → (List.range' i d).foldl (fun o j => joinStep (covT l) o j) o = o := by
    intro d
    induction d with
    | zero => intro i o _; rfl
    | succ d ih =>
      intro i o h
      rw [List.range'_succ, List.foldl_cons, show joinStep (covT l) o i = o by unfold joinStep; rw [cov_last l _ h]; rfl]
      exact ih (i + 1) o (by omega)
  have h0' : 0 ≤ lastS l := h0
  have h1' : lastS l ≤ 1000 := h1
  unfold joinS
  rw [show (1000 : Nat) = (lastS l).toNat + (1000 - (lastS l).toNat) by omega, ← List.range'_append_1, List.foldl_append]
  exact (e _ _ _ (by omega)).symm

/-! d_bits -/
def setR (b : List Bool) (t : Nat) : Nat → List Bool
  | 0 => b
  | d + 1 => setR (b.set t true) (t + 1) d
theorem setR_len : ∀ (d t : Nat) (b : List Bool), (setR b t d).length = b.length
  | 0, _, _ => rfl
  | d + 1, t, b => by rw [setR, setR_len d]; simp
theorem setR_get : ∀ (d t : Nat) (b : List Bool) (u : Nat), t + d ≤ b.length → (setR b t d).getD u false = (b.getD u false || (decide (t ≤ u) && decide (u < t + d)))
  | 0, t, b, u, _ => by
    rw [setR]
    have : (decide (t ≤ u) && decide (u < t + 0)) = false := by simp
    rw [this, Bool.or_false]
  | d + 1, t, b, u, h => by
    rw [setR, setR_get d (t + 1) (b.set t true) u (by simp; omega)]
    by_cases e : t = u
    · subst e
      rw [getD_set_self b false true (by omega)]
      simp
    · have e1 : (b.set t true).getD u false = b.getD u false := by simp [List.getD_eq_getElem?_getD, List.getElem?_set_ne e]
      rw [e1]
      congr 1
      rw [Bool.eq_iff_iff]
      simp
      omega
def bitS (b : List Bool) (x : S109) : List Bool := if isSpan x.f0 x.f1 = true then setR b x.f0.toNat (x.f1 - x.f0).toNat else b
theorem bitS_len (b : List Bool) (x : S109) : (bitS b x).length = b.length := by
  unfold bitS
  split
  · exact setR_len _ _ _
  · rfl
def bitsOf (l : List S109) : List Bool := l.foldl bitS (List.replicate 1000 false)
theorem bits_spec (t : Nat) : ∀ (l : List S109) (b : List Bool), b.length = 1000 → (l.foldl bitS b).length = 1000 ∧ (l.foldl bitS b).getD t false = (b.getD t false || covT l (t : Int))
  | [], b, h => ⟨h, by simp [covT]⟩
  | x :: l, b, h => by
    rw [List.foldl_cons]
    obtain ⟨h1, h2⟩ := bits_spec t l (bitS b x) (by rw [bitS_len]; exact h)
    refine ⟨h1, ?_⟩
    rw [h2]
    unfold covT
    rw [List.any_cons, ← Bool.or_assoc]
    congr 1
    unfold bitS inSpan
    by_cases hs : isSpan x.f0 x.f1 = true
    · rw [if_pos hs]
      have hs' := hs
      unfold isSpan at hs'
      simp only [Bool.and_eq_true, decide_eq_true_eq] at hs'
      rw [setR_get _ _ _ _ (by omega), hs]
      congr 1
      rw [Bool.eq_iff_iff]
      simp
      omega
    · rw [if_neg hs]
      have : isSpan x.f0 x.f1 = false := by simpa using hs
      rw [this]
      simp

/-! impl_ticks -/
theorem impl_ticks.ev_l1 (l : List S109) (n i a e : Int) (r : List Bool) : ∀ (d t : Nat) (b : List Bool), (t : Int) + d = e → t + d ≤ b.length → b.length ≤ 1000 →
    Ev (fun k => impl_ticks.l0 k (setR b t d) l n (wrap64 (i + 1))) r → Ev (fun k => impl_ticks.l1 k b t l n i a e) r := by
  intro d
  induction d with
  | zero =>
    intro t b h1 h2 h3 h
    exact Ev.step (fun k => by simp only [impl_ticks.l1]; rw [if_neg (by omega)]; rfl) h
  | succ d ih =>
    intro t b h1 h2 h3 h
    refine Ev.step (fun k => by simp only [impl_ticks.l1]; rw [if_pos (by omega), if_pos (by omega), if_pos (by omega), wrap_nat (by omega), Int.toNat_natCast]) (ih (t + 1) (b.set t true) (by omega) (by simp; omega) (by simpa using h3) h)
theorem impl_ticks.ev (l : List S109) (hl : l.length ≤ 1048576) : Ev (fun k => impl_ticks.f k l) (bitsOf l) := by
  have h := foldE_index (g := fun k b i => impl_ticks.l0 k b l (l.length : Int) i) (f := fun i b => bitS b (l.getD i z109)) (fin := fun b => b) (fun _ b => b.length = 1000) l.length (List.replicate 1000 false) List.length_replicate
    (fun s _ => Ev.one fun k => by simp only [impl_ticks.l0]; rw [if_neg (by omega)])
    (fun i b hi hb => ⟨by rw [bitS_len]; exact hb, fun r hr => by
      rw [show (((i + 1 : Nat) : Int)) = wrap64 ((i : Int) + 1) from (wrap_nat (by omega)).symm] at hr
      unfold bitS at hr
      by_cases hs : isSpan (l.getD i z109).f0 (l.getD i z109).f1 = true
      · rw [if_pos hs] at hr
        have hs' := hs
        unfold isSpan at hs'
        simp only [Bool.and_eq_true, decide_eq_true_eq] at hs'
        have := impl_ticks.ev_l1 l (l.length : Int) i (l.getD i z109).f0 (l.getD i z109).f1 r ((l.getD i z109).f1 - (l.getD i z109).f0).toNat (l.getD i z109).f0.toNat b (by omega) (by omega) (by omega) hr
        rw [Int.toNat_of_nonneg hs'.1.1] at this
        exact Ev.step (fun k => by simp only [impl_ticks.l0]; rw [if_pos (by omega), if_pos (by omega), if_pos (by omega), impl_IsSpan.val, Option.bind_some, show rd_T109 l (i : Int) = l.getD i z109 from rfl, if_pos hs]) this
      · rw [if_neg hs] at hr
        exact Ev.step (fun k => by simp only [impl_ticks.l0]; rw [if_pos (by omega), if_pos (by omega), if_pos (by omega), impl_IsSpan.val, Option.bind_some, show rd_T109 l (i : Int) = l.getD i z109 from rfl, if_neg hs]) hr⟩)
  rw [foldl_index l z109 bitS] at h
  exact Ev.congr (fun k => by unfold impl_ticks.f; rw [if_pos (by omega)]) h

/-! impl_JoinSpans -/
theorem impl_JoinSpans.ev (l : List S109) (hl : l.length ≤ 1048576) : Ev (fun k => impl_JoinSpans.f k l) (joinS l) := by
  refine Ev.bind (impl_ticks.ev l hl) ?_
  have hp : ∀ t : Nat, t < 1000 → impl_JoinSpans.p (bitsOf l) (t : Int) = some (covT l (t : Int)) := fun t ht => by
    obtain ⟨h1, h2⟩ := bits_spec t l (List.replicate 1000 false) List.length_replicate
    unfold impl_JoinSpans.p
    rw [if_pos ⟨by omega, by unfold bitsOf; omega⟩]
    show some ((bitsOf l).getD (t : Int).toNat false) = _
    rw [Int.toNat_natCast]
    unfold bitsOf
    rw [h2]
    have : (List.replicate 1000 false).getD t false = false := by rw [List.getD_eq_getElem?_getD, List.getElem?_replicate, if_pos ht]; rfl
    rw [this, Bool.false_or]
  have h := fold_index (g := fun k o i => impl_spansWhere.l0 k 1000 (impl_JoinSpans.p (bitsOf l)) o i) (f := fun i o => joinStep (covT l) o i) (fin := fun o => o) (fun i o => o.length ≤ i) 1000 [] (by simp)
    (fun s _ => Ev.one fun k => by simp only [impl_spansWhere.l0]; rw [if_neg (by unfold mn; simp)])
    (fun i o hi hs => ⟨joinStep_len _ _ _ _ hs, fun k => by
      simp only [impl_spansWhere.l0]
      rw [if_pos (by unfold mn; simp; omega), hp i hi, Option.bind_some, wrap_nat (by omega)]
      unfold joinStep putS
      by_cases hq : covT l (i : Int) = true
      · rw [if_pos hq, if_pos hq]
        by_cases hl0 : 0 < o.length
        · rw [show wrap64 ((o.length : Int) - 1) = ((o.length - 1 : Nat) : Int) by unfold wrap64; omega, if_pos (by omega), if_pos (by omega), if_pos (by omega), show rd_T109 o ((o.length - 1 : Nat) : Int) = o.getD (o.length - 1) z109 from rfl, Int.toNat_natCast]
          by_cases h : (o.getD (o.length - 1) z109).f1 = (i : Int)
          · rw [if_pos h, if_pos ⟨hl0, h⟩, h, show wrap64 ((i : Int) + 1) = (i : Int) + 1 by unfold wrap64; omega]
          · rw [if_neg h, if_pos (by omega), if_neg (fun h' => h h'.2)]
            rfl
        · rw [if_neg (by unfold wrap64; omega), if_pos (by omega), if_neg (fun h' => hl0 h'.1)]
          rfl
      · rw [if_neg hq, if_neg hq]⟩)
  exact h

/-! d_gaps -/
def gapQ (p : List S112) (site : Int) (j : Int) : Bool := decide (((serversIn p j site).length : Int) = 0)
def gapStep (p : List S112) (site : Int) (o : List S109) (j : Nat) : List S109 := if gapQ p site (j : Int) = true then o ++ [⟨(rd_T112 p (j : Int)).f0.f0, (rd_T112 p (j : Int)).f0.f1⟩] else o
def gapsL (p : List S112) (site : Int) : List S109 := (List.range' 0 p.length).foldl (fun o j => gapStep p site o j) []
theorem gapStep_len (p : List S112) (site : Int) (o : List S109) (j : Nat) (h : o.length ≤ j) : (gapStep p site o j).length ≤ j + 1 := by
  unfold gapStep
  split
  · rw [List.length_append, List.length_singleton]; omega
  · omega

/-! impl_spansOf -/
theorem impl_spansOf.agree (p : List S112) (P Q : Int → Option Bool) (h : ∀ t : Int, 0 ≤ t → t < (p.length : Int) → P t = Q t) : ∀ (k : Nat) (o : List S109) (i : Int), impl_spansOf.l0 k P o p (p.length : Int) i = impl_spansOf.l0 k Q o p (p.length : Int) i
  | 0, _, _ => rfl
  | k + 1, o, i => by
    simp only [impl_spansOf.l0]
    by_cases h1 : i < (p.length : Int)
    · by_cases h0 : 0 ≤ i
      · rw [h i h0 h1]
        simp only [impl_spansOf.agree p P Q h k]
      · rw [if_pos h1, if_neg h0, if_pos h1, if_neg h0]
    · rw [if_neg h1, if_neg h1]
theorem impl_spansOf.ev (p : List S112) (q : Int → Bool) (hp : p.length ≤ 1048576) : Ev (fun k => impl_spansOf.l0 k (fun t => some (q t)) [] p (p.length : Int) 0) (joinS ((List.range' 0 p.length).foldl (fun (o : List S109) (j : Nat) => if q ((j : Nat) : Int) = true then o ++ [(⟨(rd_T112 p ((j : Nat) : Int)).f0.f0, (rd_T112 p ((j : Nat) : Int)).f0.f1⟩ : S109)] else o) [])) :=
  foldE_index (g := fun k o i => impl_spansOf.l0 k (fun t => some (q t)) o p (p.length : Int) i) (f := fun (j : Nat) (o : List S109) => if q ((j : Nat) : Int) = true then o ++ [(⟨(rd_T112 p ((j : Nat) : Int)).f0.f0, (rd_T112 p ((j : Nat) : Int)).f0.f1⟩ : S109)] else o) (fin := fun o => joinS o) (fun i o => o.length ≤ i) p.length [] (by simp)
    (fun s hs => Ev.step (fun k => by simp only [impl_spansOf.l0]; rw [if_neg (by omega)]) (Ev.bind (impl_JoinSpans.ev s (by omega)) (Ev.now _)))
    (fun i o hi ho => ⟨by
      split
      · rw [List.length_append, List.length_singleton]; omega
      · omega, fun r hr => by
      refine Ev.step (fun k => ?_) hr
      simp only [impl_spansOf.l0]
      rw [if_pos (by omega), if_pos (by omega), if_pos (by omega), Option.bind_some, wrap_nat (by omega)]
      by_cases h : q (i : Int) = true
      · rw [if_pos h, if_pos h, if_pos (by omega)]
      · rw [if_neg h, if_neg h]⟩)

/-! impl_GapsOf -/
theorem impl_GapsOf.all (a b c : Int) (p : List S112) (site : Int) (hp : fitQi 1048576 p) : ∀ n : Nat, ∃ K, ∀ k, K ≤ k → ∀ t : Int, 0 ≤ t → t < (n : Int) → impl_GapsOf.p k a b c p site t = some (gapQ p site t)
  | 0 => ⟨0, fun k _ t h0 h1 => by omega⟩
  | n + 1 => by
    obtain ⟨K, hK⟩ := impl_GapsOf.all a b c p site hp n
    obtain ⟨K2, hK2⟩ := impl_ServersIn.ev a b c p (n : Int) site hp
    refine ⟨K + K2, fun k hk t h0 h1 => ?_⟩
    by_cases e : t < (n : Int)
    · exact hK k (by omega) t h0 e
    · have : t = (n : Int) := by omega
      subst this
      unfold impl_GapsOf.p
      rw [show impl_ServersIn.f k a b c p (n : Int) site = some (serversIn p (n : Int) site) from hK2 k (by omega), Option.bind_some]
      rfl
theorem impl_GapsOf.ev (a b c : Int) (p : List S112) (site : Int) (hp : fitQi 1048576 p) : Ev (fun k => impl_GapsOf.f k a b c p site) (joinS (gapsL p site)) := by
  obtain ⟨K, hK⟩ := impl_GapsOf.all a b c p site hp p.length
  obtain ⟨K2, hK2⟩ := impl_spansOf.ev p (gapQ p site) hp.1
  refine ⟨K + K2, fun k hk => ?_⟩
  show impl_spansOf.l0 k (impl_GapsOf.p k a b c p site) [] p (p.length : Int) 0 = _
  rw [impl_spansOf.agree p _ (fun t => some (gapQ p site t)) (fun t h0 h1 => hK k (by omega) t h0 h1) k]
  exact hK2 k (by omega)

/-! slices_Index_int_int -/
theorem slices_Index_int_int.ev_l (l : List Int) (a : Int) (hl : l.length ≤ 1048576) : ∀ (d i : Nat), i + d = l.length → ∃ r, Ev (fun k => slices_Index_int_int.l0 k l a l.length i) r ∧ decide (r ≥ 0) = (l.drop i).any (fun x => x == a) := by
  intro d
  induction d with
  | zero =>
    intro i hi
    exact ⟨-1, Ev.one fun k => by simp only [slices_Index_int_int.l0]; rw [if_neg (by omega)], by rw [List.drop_eq_nil_of_le (by omega)]; rfl⟩
  | succ d ih =>
    intro i hi
    rw [drop_cons l 0 (show i < l.length by omega), List.any_cons]
    by_cases h : a = l.getD i 0
    · refine ⟨(i : Int), Ev.one fun k => ?_, ?_⟩
      · simp only [slices_Index_int_int.l0]
        rw [if_pos (by omega), if_pos (by omega), if_pos (by omega), rd_nat, if_pos h]
      · rw [← h]; simp
    · obtain ⟨r, hr, hd⟩ := ih (i + 1) (by omega)
      refine ⟨r, Ev.step (fun k => ?_) hr, ?_⟩
      · simp only [slices_Index_int_int.l0]
        rw [if_pos (by omega), if_pos (by omega), if_pos (by omega), rd_nat, if_neg h, wrap_nat (by omega)]
      · have : (l.getD i 0 == a) = false := by rw [beq_eq_false_iff_ne]; exact fun e => h e.symm
        rw [this, Bool.false_or, hd]
theorem slices_Index_int_int.ev (l : List Int) (a : Int) (hl : l.length ≤ 1048576) : ∃ r, Ev (fun k => slices_Index_int_int.f k l a) r ∧ decide (r ≥ 0) = hasB l a := by
  have := slices_Index_int_int.ev_l l a hl l.length 0 (by omega)
  rw [List.drop_zero] at this
  exact this

/-! slices_Contains_int_int -/
theorem slices_Contains_int_int.ev (l : List Int) (a : Int) (hl : l.length ≤ 1048576) : Ev (fun k => slices_Contains_int_int.f k l a) (hasB l a) := by
  obtain ⟨r, hr, e⟩ := slices_Index_int_int.ev l a hl
  rw [← e]
  exact Ev.bind hr (Ev.now _)

/-! d_service -/
def srvQ (p : List S112) (site server : Int) (j : Int) : Bool := hasB (serversIn p j site) server
def srvStep (p : List S112) (site server : Int) (o : List S109) (j : Nat) : List S109 := if srvQ p site server (j : Int) = true then o ++ [⟨(rd_T112 p (j : Int)).f0.f0, (rd_T112 p (j : Int)).f0.f1⟩] else o
def serviceL (p : List S112) (site server : Int) : List S109 := (List.range' 0 p.length).foldl (fun o j => srvStep p site server o j) []
theorem srvStep_len (p : List S112) (site server : Int) (o : List S109) (j : Nat) (h : o.length ≤ j) : (srvStep p site server o j).length ≤ j + 1 := by
  unfold srvStep
  split
  · rw [List.length_append, List.length_singleton]; omega
  · omega

/-! impl_ServiceOf -/
theorem impl_ServiceOf.all (a b c : Int) (p : List S112) (site server : Int) (hp : fitQi 1048576 p) : ∀ n : Nat, ∃ K, ∀ k, K ≤ k → ∀ t : Int, 0 ≤ t → t < (n : Int) → impl_ServiceOf.p k a b c p site server t = some (srvQ p site server t)
  | 0 => ⟨0, fun k _ t h0 h1 => by omega⟩
  | n + 1 => by
    obtain ⟨K, hK⟩ := impl_ServiceOf.all a b c p site server hp n
    obtain ⟨K2, hK2⟩ := impl_ServersIn.ev a b c p (n : Int) site hp
    obtain ⟨K3, hK3⟩ := slices_Contains_int_int.ev (serversIn p (n : Int) site) server (servers_len p n site hp)
    refine ⟨K + K2 + K3, fun k hk t h0 h1 => ?_⟩
    by_cases e : t < (n : Int)
    · exact hK k (by omega) t h0 e
    · have : t = (n : Int) := by omega
      subst this
      unfold impl_ServiceOf.p
      rw [show impl_ServersIn.f k a b c p (n : Int) site = some (serversIn p (n : Int) site) from hK2 k (by omega), Option.bind_some]
      exact hK3 k (by omega)
theorem impl_ServiceOf.ev (a b c : Int) (p : List S112) (site server : Int) (hp : fitQi 1048576 p) : Ev (fun k => impl_ServiceOf.f k a b c p site server) (joinS (serviceL p site server)) := by
  obtain ⟨K, hK⟩ := impl_ServiceOf.all a b c p site server hp p.length
  obtain ⟨K2, hK2⟩ := impl_spansOf.ev p (srvQ p site server) hp.1
  refine ⟨K + K2, fun k hk => ?_⟩
  show impl_spansOf.l0 k (impl_ServiceOf.p k a b c p site server) [] p (p.length : Int) 0 = _
  rw [impl_spansOf.agree p _ (fun t => some (srvQ p site server t)) (fun t h0 h1 => hK k (by omega) t h0 h1) k]
  exact hK2 k (by omega)

/-! laws_big -/
theorem laws_big.val (l : List Int) : laws_big.f l = some (decide ((l.length : Int) > 1048576)) := rfl

/-! d_cur -/
def Cur (p : Int) : Prop := 0 ≤ p ∧ p ≤ 1048576
theorem tmod_in {v n : Int} (hv : 0 ≤ v) (hn : 0 < n) : 0 ≤ Int.tmod v n ∧ Int.tmod v n < n := ⟨Int.tmod_nonneg n hv, Int.tmod_lt_of_pos v hn⟩

/-! spec_l1New -/
theorem spec_l1New.ev_l (l : List Int) (hl : l.length ≤ 1048576) : ∀ (d i : Nat), i + d = l.length → ∀ q, ∃ q', Ev (fun k => spec_l1New.l0 k l q i) (l, 0, q') := by
  intro d
  induction d with
  | zero =>
    intro i hi q
    exact ⟨q, Ev.one fun k => by simp only [spec_l1New.l0]; rw [if_neg (by omega)]⟩
  | succ d ih =>
    intro i hi q
    by_cases h : (i : Int) < 4000
    · obtain ⟨q', h'⟩ := ih (i + 1) (by omega) _
      exact ⟨q', Ev.step (fun k => by simp only [spec_l1New.l0]; rw [if_pos (by omega), if_pos h, if_pos (by omega), wrap_nat (by omega)]) h'⟩
    · exact ⟨q, Ev.one fun k => by simp only [spec_l1New.l0]; rw [if_pos (by omega), if_neg h]⟩
theorem spec_l1New.ev (l : List Int) (hl : l.length ≤ 1048576) : ∃ q', Ev (fun k => spec_l1New.f k l) (l, 0, q') :=
  spec_l1New.ev_l l hl l.length 0 (by omega) _

/-! spec_l1Byte -/
theorem spec_l1Byte.ok (l : List Int) (hl : l.length ≤ 1048576) (p q : Int) (hp : Cur p) : ∃ v p' q', spec_l1Byte.f l p q = some (v, p', q') ∧ 0 ≤ v ∧ v ≤ 255 ∧ Cur p' := by
  obtain ⟨h0, h1⟩ := hp
  unfold spec_l1Byte.f
  by_cases h : p < (l.length : Int)
  · rw [if_pos h, if_pos h0]
    refine ⟨_, _, _, rfl, (and255 _).1, (and255 _).2, ?_⟩
    rw [wrap_id (by omega) (by omega)]
    exact ⟨by omega, by omega⟩
  · rw [if_neg h]
    exact ⟨_, _, _, rfl, (and255 _).1, (and255 _).2, h0, h1⟩

/-! spec_l1Below -/
theorem spec_l1Below.ok (l : List Int) (hl : l.length ≤ 1048576) (p q n : Int) (hp : Cur p) : ∃ v p' q', spec_l1Below.f l p q n = some (v, p', q') ∧ 0 ≤ v ∧ (0 < n → v < n) ∧ Cur p' := by
  unfold spec_l1Below.f
  by_cases h : n ≤ 0
  · rw [if_pos h]
    exact ⟨_, _, _, rfl, by omega, by omega, hp⟩
  · rw [if_neg h]
    obtain ⟨v, p1, q1, e, h0, h1, hp1⟩ := spec_l1Byte.ok l hl p q hp
    by_cases h2 : n ≤ 256
    · rw [if_pos h2, e, Option.bind_some, if_neg (by omega)]
      have := tmod_in h0 (show 0 < n by omega)
      exact ⟨_, _, _, rfl, this.1, fun _ => this.2, hp1⟩
    · obtain ⟨v2, p2, q2, e2, h02, h12, hp2⟩ := spec_l1Byte.ok l hl p1 q1 hp1
      obtain ⟨v3, p3, q3, e3, h03, h13, hp3⟩ := spec_l1Byte.ok l hl p2 q2 hp2
      rw [if_neg h2, e, Option.bind_some, e2, Option.bind_some, e3, Option.bind_some, if_neg (by omega)]
      have hw : 0 ≤ wrap64 (wrap64 (wrap64 (v * 65536) + wrap64 (v2 * 256)) + v3) := by unfold wrap64; omega
      have := tmod_in hw (show 0 < n by omega)
      exact ⟨_, _, _, rfl, this.1, fun _ => this.2, hp3⟩

/-! spec_l1In -/
theorem spec_l1In.val (a lo hi : Int) : spec_l1In.f a lo hi = some (inR a lo hi) := by
  unfold spec_l1In.f inR
  by_cases h : a ≥ lo
  · rw [if_pos h]; simp [h]
  · rw [if_neg h]; simp; omega

/-! spec_l17Frame -/
theorem spec_l17Frame.ok (a b c : Int) : ∃ r, spec_l17Frame.f a b c = some r := by
  unfold spec_l17Frame.f
  simp only [spec_l1In.val, Option.bind_some]
  split
  · split
    · exact ⟨_, rfl⟩
    · exact ⟨_, rfl⟩
  · exact ⟨_, rfl⟩

/-! spec_IsSpan -/
theorem spec_IsSpan.val (a b : Int) : spec_IsSpan.f a b = some (isSpan a b) := by
  unfold spec_IsSpan.f isSpan
  by_cases h : a ≥ 0
  · rw [if_pos h]
    by_cases h2 : b ≤ 1000
    · rw [if_pos h2]; simp [h, h2]
    · rw [if_neg h2]; simp; omega
  · rw [if_neg h]; simp; omega

/-! spec_IsContact -/
theorem spec_IsContact.ok (a b c d n : Int) : ∃ r, spec_IsContact.f a b c d n = some r := by
  unfold spec_IsContact.f
  simp only [spec_IsSpan.val, Option.bind_some]
  split
  · split
    · split
      · exact ⟨_, rfl⟩
      · exact ⟨_, rfl⟩
    · exact ⟨_, rfl⟩
  · exact ⟨_, rfl⟩

/-! spec_l11Before -/
theorem spec_l11Before.ok (a b c d e f g h : Int) : ∃ r, spec_l11Before.f a b c d e f g h = some r := by
  unfold spec_l11Before.f
  split
  · split
    · exact ⟨_, rfl⟩
    · exact ⟨_, rfl⟩
  · exact ⟨_, rfl⟩

/-! spec_IsPlan -/
theorem spec_IsPlan.ok (p : List S271) (hp : p.length ≤ 1048576) (n : Int) : ∃ r, Ev (fun k => spec_IsPlan.f k p n) r := by
  have : ∀ e j : Nat, j + e = p.length → ∃ r, Ev (fun k => spec_IsPlan.l0 k p n (j : Int)) r := by
    intro e
    induction e with
    | zero =>
      intro j hj
      exact ⟨true, Ev.one fun k => by simp only [spec_IsPlan.l0]; rw [if_neg (by omega)]⟩
    | succ e ih =>
      intro j hj
      obtain ⟨r, hr⟩ := ih (j + 1) (by omega)
      obtain ⟨b, hb⟩ := spec_IsContact.ok ((rd_T271 p (j : Int)).f0) ((rd_T271 p (j : Int)).f1) ((rd_T271 p (j : Int)).f2) ((rd_T271 p (j : Int)).f3) n
      cases b with
      | false => exact ⟨false, Ev.one fun k => by simp only [spec_IsPlan.l0]; rw [if_pos (by omega), if_pos (by omega), hb, Option.bind_some, if_neg (by simp)]⟩
      | true =>
        by_cases c : (j : Int) > 0
        · obtain ⟨b2, hb2⟩ := spec_l11Before.ok ((rd_T271 p ((j - 1 : Nat) : Int)).f0) ((rd_T271 p ((j - 1 : Nat) : Int)).f1) ((rd_T271 p ((j - 1 : Nat) : Int)).f2) ((rd_T271 p ((j - 1 : Nat) : Int)).f3) ((rd_T271 p (j : Int)).f0) ((rd_T271 p (j : Int)).f1) ((rd_T271 p (j : Int)).f2) ((rd_T271 p (j : Int)).f3)
          cases b2 with
          | false => exact ⟨false, Ev.one fun k => by simp only [spec_IsPlan.l0]; rw [if_pos (by omega), if_pos (by omega), hb, Option.bind_some, if_pos rfl, if_pos c, wrap_pred (by omega) (by omega), if_pos (by omega), if_pos (by omega), hb2, Option.bind_some, if_neg (by simp)]⟩
          | true => exact ⟨r, Ev.step (fun k => by simp only [spec_IsPlan.l0]; rw [if_pos (by omega), if_pos (by omega), hb, Option.bind_some, if_pos rfl, if_pos c, wrap_pred (by omega) (by omega), if_pos (by omega), if_pos (by omega), hb2, Option.bind_some, if_pos rfl, wrap_nat (by omega)]) hr⟩
        · exact ⟨r, Ev.step (fun k => by simp only [spec_IsPlan.l0]; rw [if_pos (by omega), if_pos (by omega), hb, Option.bind_some, if_pos rfl, if_neg c, wrap_nat (by omega)]) hr⟩
  exact this p.length 0 (by omega)

/-! spec_Max -/
theorem spec_Max.val (a b : Int) : spec_Max.f a b = some (mx a b) := by
  unfold spec_Max.f mx
  by_cases h : b > a
  · rw [if_pos h, if_pos (by omega)]
  · rw [if_neg h, if_neg (by omega)]

/-! spec_InSpan -/
theorem spec_InSpan.val (a b t : Int) : spec_InSpan.f a b t = some (inSpan a b t) := by
  unfold spec_InSpan.f inSpan
  rw [spec_IsSpan.val, Option.bind_some]
  by_cases h : isSpan a b = true
  · rw [if_pos h]
    by_cases h2 : a ≤ t
    · rw [if_pos h2]; simp [h, h2]
    · rw [if_neg h2]; simp; omega
  · rw [if_neg h]; simp [h]

/-! spec_LinksAt -/
theorem spec_LinksAt.ok (p : List S271) (hp : p.length ≤ 1048576) (t : Int) : ∃ r, Ev (fun k => spec_LinksAt.f k p t) r ∧ r.length ≤ p.length := by
  have inner : ∀ (o : List S166) (j : Nat) (a b : Int), j < p.length → o.length ≤ j →
      (∀ o' : List S166, o'.length ≤ j + 1 → ∃ r, Ev (fun k => spec_LinksAt.l0 k p t o' (wrap64 ((j : Int) + 1))) r ∧ r.length ≤ p.length) →
      ∀ (e i : Nat) (f : Bool), i + e = o.length → ∃ r, Ev (fun k => spec_LinksAt.l1 k p t o (j : Int) f (i : Int) a b) r ∧ r.length ≤ p.length := by
    intro o j a b hj ho hnext e
    induction e with
    | zero =>
      intro i f hi
      cases f with
      | true =>
        obtain ⟨r, hr, hl⟩ := hnext o (by omega)
        exact ⟨r, Ev.step (fun k => by simp only [spec_LinksAt.l1]; rw [if_neg (by omega), if_pos trivial]) hr, hl⟩
      | false =>
        by_cases c : inSpan ((rd_T271 p (j : Int)).f2) ((rd_T271 p (j : Int)).f3) t = true
        · obtain ⟨r, hr, hl⟩ := hnext (o ++ [⟨a, b⟩]) (by rw [List.length_append, List.length_singleton]; omega)
          exact ⟨r, Ev.step (fun k => by simp only [spec_LinksAt.l1]; rw [if_neg (by omega), if_neg (by simp), if_pos (by omega), if_pos (by omega), spec_InSpan.val, Option.bind_some, if_pos c, if_pos (by omega)]) hr, hl⟩
        · obtain ⟨r, hr, hl⟩ := hnext o (by omega)
          exact ⟨r, Ev.step (fun k => by simp only [spec_LinksAt.l1]; rw [if_neg (by omega), if_neg (by simp), if_pos (by omega), if_pos (by omega), spec_InSpan.val, Option.bind_some, if_neg c]) hr, hl⟩
    | succ e ih =>
      intro i f hi
      cases f with
      | true =>
        obtain ⟨r, hr, hl⟩ := ih (i + 1) true (by omega)
        exact ⟨r, Ev.step (fun k => by simp only [spec_LinksAt.l1]; rw [if_pos (by omega), if_pos trivial, wrap_nat (by omega)]) hr, hl⟩
      | false =>
        obtain ⟨r, hr, hl⟩ := ih (i + 1) (((rd_T166 o (i : Int)).f0) == a && (((rd_T166 o (i : Int)).f1) == b)) (by omega)
        exact ⟨r, Ev.step (fun k => by simp only [spec_LinksAt.l1]; rw [if_pos (by omega), if_neg (by simp), if_pos (by omega), wrap_nat (by omega)]) hr, hl⟩
  have : ∀ e j : Nat, j + e = p.length → ∀ o : List S166, o.length ≤ j → ∃ r, Ev (fun k => spec_LinksAt.l0 k p t o (j : Int)) r ∧ r.length ≤ p.length := by
    intro e
    induction e with
    | zero =>
      intro j hj o ho
      exact ⟨o, Ev.one fun k => by simp only [spec_LinksAt.l0]; rw [if_neg (by omega)], by omega⟩
    | succ e ih =>
      intro j hj o ho
      obtain ⟨r, hr, hl⟩ := inner o j ((rd_T271 p (j : Int)).f0) ((rd_T271 p (j : Int)).f1) (by omega) ho (fun o' ho' => by rw [wrap_nat (by omega)]; exact ih (j + 1) (by omega) o' ho') o.length 0 false (by omega)
      exact ⟨r, Ev.step (fun k => by simp only [spec_LinksAt.l0]; rw [if_pos (by omega), if_pos (by omega)]; rfl) hr, hl⟩
  exact this p.length 0 (by omega) [] (by simp)

/-! spec_Min -/
theorem spec_Min.val (a b : Int) : spec_Min.f a b = some (mn a b) := by
  unfold spec_Min.f mn
  split <;> rfl

/-! spec_SameLinks -/
theorem spec_SameLinks.ok (a b : List S166) (ha : a.length ≤ 1048576) : ∃ r, Ev (fun k => spec_SameLinks.f k a b) r := by
  by_cases c : (a.length : Int) = (b.length : Int)
  · have h := find_index (g := fun k i => spec_SameLinks.l0 k a b i) (q := fun i => (!(((rd_T166 a (i : Int)).f0) == ((rd_T166 b (i : Int)).f0)) || (!(((rd_T166 a (i : Int)).f1) == ((rd_T166 b (i : Int)).f1))))) (r := false) (e := true) a.length
      (Ev.one fun k => by simp only [spec_SameLinks.l0]; rw [if_neg (by omega)])
      (fun i k hi => by simp only [spec_SameLinks.l0]; rw [if_pos (by omega), if_pos (by omega), if_pos (by omega), wrap_nat (by omega)])
    exact ⟨_, Ev.congr (fun k => by unfold spec_SameLinks.f; rw [if_pos c]) h⟩
  · exact ⟨false, Ev.all fun k => by unfold spec_SameLinks.f; rw [if_neg c]⟩

/-! spec_ChangesOf -/
theorem spec_ChangesOf.ok (p : List S271) (hp : p.length ≤ 1048576) (T : Nat) (hT1 : 1 ≤ T) (hT2 : T ≤ 1000) : ∃ r, Ev (fun k => spec_ChangesOf.f k p 0 (T : Int)) r ∧ r.length ≤ T ∧ (∀ x ∈ r, 1 ≤ x ∧ x < (T : Int)) ∧ r.Pairwise (fun a b => a < b) := by
  have : ∀ e j : Nat, j + e = T → 1 ≤ j → ∀ o : List Int, o.length ≤ j → (∀ x ∈ o, 1 ≤ x ∧ x < (j : Int)) → o.Pairwise (fun a b => a < b) → ∃ r, Ev (fun k => spec_ChangesOf.l0 k p o (T : Int) (j : Int)) r ∧ r.length ≤ T ∧ (∀ x ∈ r, 1 ≤ x ∧ x < (T : Int)) ∧ r.Pairwise (fun a b => a < b) := by
    intro e
    induction e with
    | zero =>
      intro j hj _ o ho ho1 ho2
      exact ⟨o, Ev.one fun k => by simp only [spec_ChangesOf.l0]; rw [if_neg (by omega)], by omega, fun x hx => by have := ho1 x hx; omega, ho2⟩
    | succ e ih =>
      intro j hj h1 o ho ho1 ho2
      obtain ⟨a, ha, hal⟩ := spec_LinksAt.ok p hp ((j - 1 : Nat) : Int)
      obtain ⟨b, hb, hbl⟩ := spec_LinksAt.ok p hp (j : Int)
      obtain ⟨s, hs⟩ := spec_SameLinks.ok a b (by omega)
      have hst : ∀ R, Ev (fun k => if s = true then spec_ChangesOf.l0 k p o (T : Int) (wrap64 ((j : Int) + 1)) else if o.length < 17592186044416 then spec_ChangesOf.l0 k p (o ++ [(j : Int)]) (T : Int) (wrap64 ((j : Int) + 1)) else none) R → Ev (fun k => spec_ChangesOf.l0 k p o (T : Int) (j : Int)) R := fun R h =>
        Ev.step (fun k => by simp only [spec_ChangesOf.l0]; rw [if_pos (by omega), wrap_pred (by omega) (by omega)]) (Ev.bind ha (Ev.bind hb (Ev.bind hs h)))
      cases s with
      | true =>
        obtain ⟨r, hr, hl⟩ := ih (j + 1) (by omega) (by omega) o (by omega) (fun x hx => by have := ho1 x hx; omega) ho2
        exact ⟨r, hst _ (Ev.congr (fun k => by rw [if_pos rfl, wrap_nat (by omega)]) hr), hl⟩
      | false =>
        obtain ⟨r, hr, hl⟩ := ih (j + 1) (by omega) (by omega) (o ++ [(j : Int)]) (by rw [List.length_append, List.length_singleton]; omega) (fun x hx => by
          rcases List.mem_append.1 hx with hx | hx
          · have := ho1 x hx; omega
          · rw [List.mem_singleton] at hx; omega) (List.pairwise_append.2 ⟨ho2, List.pairwise_singleton _ _, fun x hx y hy => by rw [List.mem_singleton] at hy; have := ho1 x hx; omega⟩)
        exact ⟨r, hst _ (Ev.congr (fun k => by rw [if_neg (by simp), if_pos (by omega), wrap_nat (by omega)]) hr), hl⟩
  obtain ⟨r, hr, hl⟩ := this (T - 1) 1 (by omega) (by omega) [] (by simp) (fun x hx => by cases hx) List.Pairwise.nil
  exact ⟨r, Ev.congr (fun k => by unfold spec_ChangesOf.f; rw [spec_Max.val, Option.bind_some, spec_Min.val, Option.bind_some, spec_Min.val, Option.bind_some, show mn 1000 (T : Int) = (T : Int) by unfold mn; split <;> omega, show wrap64 (mn 1000 (mx 0 0) + 1) = ((1 : Nat) : Int) by rw [show mn 1000 (mx 0 0) = 0 by decide]; unfold wrap64; omega]) hr, hl⟩

/-! spec_PiecesOf -/
theorem take_snocS {α : Type} (l : List α) (z : α) {i : Nat} (h : i < l.length) : l.take (i + 1) = l.take i ++ [l.getD i z] := by
  rw [List.take_add_one, List.getD_eq_getElem?_getD, List.getElem?_eq_getElem h]; rfl
def okS (l : List S109) : Prop := (∀ x ∈ l, isSpan x.f0 x.f1 = true) ∧ l.Pairwise fun a b => a.f1 ≤ b.f0
theorem spec_PiecesOf.ok (p : List S271) (hp : p.length ≤ 1048576) (T : Nat) (hT1 : 1 ≤ T) (hT2 : T ≤ 1000) : ∃ r, Ev (fun k => spec_PiecesOf.f k p 0 (T : Int)) r ∧ r.length ≤ T + 1 ∧ okS r := by
  obtain ⟨c, hc, hcl, hc1, hc2⟩ := spec_ChangesOf.ok p hp T hT1 hT2
  have hL : (c ++ [(T : Int)]).length ≤ T + 1 := by rw [List.length_append, List.length_singleton]; omega
  have hd1 : ∀ x ∈ c ++ [(T : Int)], 1 ≤ x ∧ x ≤ (T : Int) := fun x hx => by
    rcases List.mem_append.1 hx with hx | hx
    · have := hc1 x hx; omega
    · rw [List.mem_singleton] at hx; omega
  have hd2 : (c ++ [(T : Int)]).Pairwise fun a b => a < b := List.pairwise_append.2 ⟨hc2, List.pairwise_singleton _ _, fun x hx y hy => by rw [List.mem_singleton] at hy; have := hc1 x hx; omega⟩
  generalize hD : c ++ [(T : Int)] = D at hL hd1 hd2
  have hget : ∀ j : Nat, j < D.length → rd D ((j : Nat) : Int) ∈ D := fun j hj => by rw [rd_nat]; exact getD_mem D 0 hj
  have hmono : ∀ i j : Nat, i < j → j < D.length → rd D ((i : Nat) : Int) < rd D ((j : Nat) : Int) := fun i j hij hj => by
    have h := List.pairwise_iff_getElem.1 hd2 i j (by omega) hj hij
    rw [rd_nat, rd_nat, List.getD_eq_getElem?_getD, List.getD_eq_getElem?_getD, List.getElem?_eq_getElem (show i < D.length by omega), List.getElem?_eq_getElem hj]
    exact h
  have : ∀ e j : Nat, j + e = D.length → ∀ (o : List S109) (x : Int), o.length ≤ j → 0 ≤ x → (∀ i : Nat, j ≤ i → i < D.length → x < rd D ((i : Nat) : Int)) → okS o → (∀ y ∈ o, y.f1 ≤ x) → ∃ r, Ev (fun k => spec_PiecesOf.l0 k o x D (j : Int)) r ∧ r.length ≤ D.length ∧ okS r := by
    intro e
    induction e with
    | zero =>
      intro j hj o x ho _ _ hS _
      exact ⟨o, Ev.one fun k => by simp only [spec_PiecesOf.l0]; rw [if_neg (by omega)], by omega, hS⟩
    | succ e ih =>
      intro j hj o x ho hx0 hx hS hlast
      have h1 := hx j (by omega) (by omega)
      have h2 := hd1 _ (hget j (by omega))
      obtain ⟨r, hr, hl, hS2⟩ := ih (j + 1) (by omega) (o ++ [⟨x, rd D (j : Int)⟩]) (rd D (j : Int)) (by rw [List.length_append, List.length_singleton]; omega) (by omega) (fun i hi hi2 => hmono j i (by omega) hi2)
        ⟨fun y hy => by
          rcases List.mem_append.1 hy with hy | hy
          · exact hS.1 y hy
          · rw [List.mem_singleton] at hy
            subst hy
            unfold isSpan
            simp only [Bool.and_eq_true, decide_eq_true_eq]
            omega, List.pairwise_append.2 ⟨hS.2, List.pairwise_singleton _ _, fun y hy z hz => by
          rw [List.mem_singleton] at hz
          subst hz
          exact hlast y hy⟩⟩
        (fun y hy => by
          rcases List.mem_append.1 hy with hy | hy
          · have := hlast y hy; omega
          · rw [List.mem_singleton] at hy
            subst hy
            exact Int.le_refl _)
      exact ⟨r, Ev.step (fun k => by simp only [spec_PiecesOf.l0]; rw [if_pos (by omega), if_pos (by omega), if_pos (by omega), wrap_nat (by omega)]) hr, hl, hS2⟩
  obtain ⟨r, hr, hl, hS⟩ := this D.length 0 (by omega) [] 0 (by simp) (by omega) (fun i _ hi => by have := hd1 _ (hget i hi); omega) ⟨(fun x hx => by cases hx), List.Pairwise.nil⟩ (fun x hx => by cases hx)
  refine ⟨r, Ev.congr (fun k => by unfold spec_PiecesOf.f; rw [Option.bind_some, spec_IsSpan.val, Option.bind_some, if_pos (by unfold isSpan; simp only [Bool.and_eq_true, decide_eq_true_eq]; omega)]) (Ev.bind hc (Ev.congr (fun k => by rw [if_pos (by omega), hD]; rfl) hr)), by omega, hS⟩

/-! spec_NeighborsIn -/
theorem spec_NeighborsIn.ev_l1 (l : List S166) (node : Int) (o : List Int) (x6 : Int) (n : Int) (ho : o.length ≤ 4000000) (R : List Int) (h6 : Ev (fun k => spec_NeighborsIn.l0 k l node (insU n o) (wrap64 (x6 + 1))) R) :
    ∀ (d i : Nat), i + d = o.length → posU n o = i + posU n (o.drop i) → Ev (fun k => spec_NeighborsIn.l1 k l node o x6 n i) R := by
  have put : ∀ i : Nat, i ≤ o.length → posU n o = i → (i = o.length ∨ ¬ o.getD i 0 = n) → ∀ b : Bool, b = true → Ev (fun k => spec_NeighborsIn.j4 k l node o x6 n i b) R := fun i hi hp hc b hb => by
    have e : insU n o = o.take i ++ [n] ++ o.drop i := by
      unfold insU
      rw [hp, if_pos hc]
    rw [e] at h6
    refine Ev.step (fun k => ?_) h6
    simp only [spec_NeighborsIn.j4]
    rw [if_pos hb, Option.bind_some, if_pos (by omega), if_pos (by omega), Option.bind_some, Int.toNat_natCast, if_pos (by simp; omega), Option.bind_some, Option.bind_some, if_pos (by simp; omega), Option.bind_some, Option.bind_some, if_pos (by simp; omega), List.nil_append]
  intro d
  induction d with
  | zero =>
    intro i hi hp
    rw [List.drop_eq_nil_of_le (by omega)] at hp
    have hp' : posU n o = i := by simpa [posU] using hp
    refine Ev.step (fun k => by simp only [spec_NeighborsIn.l1]; rw [if_neg (by omega)]) ?_
    refine Ev.step (fun k => by simp only [spec_NeighborsIn.j3]; rw [if_neg (by simp), if_pos (by omega)]) (put i (by omega) hp' (.inl (by omega)) true rfl)
  | succ d ih =>
    intro i hi hp
    rw [drop_cons o 0 (by omega), posU] at hp
    refine Ev.step (fun k => by simp only [spec_NeighborsIn.l1]; rw [if_pos (by omega), if_pos (by omega), rd_nat]) ?_
    by_cases hx : o.getD i 0 < n
    · rw [if_pos hx] at hp
      exact Ev.step (fun k => by simp only [spec_NeighborsIn.j3]; rw [if_pos (decide_eq_true hx), wrap_nat (by omega)]) (ih (i + 1) (by omega) (by omega))
    · rw [if_neg hx] at hp
      have hp' : posU n o = i := by omega
      refine Ev.step (fun k => by simp only [spec_NeighborsIn.j3]; rw [if_neg (by simpa using hx), if_neg (by omega), if_pos (by omega), if_pos (by omega), rd_nat]) ?_
      by_cases he : o.getD i 0 = n
      · have e : insU n o = o := by
          unfold insU
          rw [hp', if_neg (by rintro (h | h); omega; exact h he)]
        rw [e] at h6
        exact Ev.step (fun k => by simp only [spec_NeighborsIn.j4]; rw [if_neg (by simpa using he)]) h6
      · exact put i (by omega) hp' (.inr he) _ (by simpa using he)
theorem spec_NeighborsIn.ev (l : List S166) (node : Int) (hl : l.length ≤ 1048576) : Ev (fun k => spec_NeighborsIn.f k l node) (nbs l node) := by
  have h := foldE_index (g := fun k o i => spec_NeighborsIn.l0 k l node o i) (f := fun j o => nbStep node o (l.getD j z166)) (fin := fun o => o) (fun i o => o.length ≤ i) l.length [] (by simp)
    (fun o ho => Ev.one fun k => by simp only [spec_NeighborsIn.l0]; rw [if_neg (by omega)])
    (fun i o hi ho => by
      refine ⟨Nat.le_trans (nbStep_len _ _ _) (by omega), fun r hr => ?_⟩
      rw [show (((i + 1 : Nat) : Int)) = wrap64 ((i : Int) + 1) from (wrap_nat (by omega)).symm] at hr
      have one : ∀ n, nbStep node o (l.getD i z166) = insU n o → Ev (fun k => spec_NeighborsIn.j1 k l node o i n) r := fun n e => by
        rw [e] at hr
        exact Ev.step (fun k => by simp only [spec_NeighborsIn.j1]; rfl) (spec_NeighborsIn.ev_l1 l node o i n (by omega) r hr o.length 0 (by omega) (by simp))
      have rdE : rd_T166 l (i : Int) = l.getD i z166 := rfl
      by_cases h0 : (l.getD i z166).f0 = node
      · exact Ev.step (fun k => by simp only [spec_NeighborsIn.l0]; rw [if_pos (by omega), if_pos (by omega), rdE, if_pos h0]) (one _ (by unfold nbStep; rw [if_pos h0]))
      · by_cases h1 : (l.getD i z166).f1 = node
        · exact Ev.step (fun k => by simp only [spec_NeighborsIn.l0]; rw [if_pos (by omega), if_pos (by omega), rdE, if_neg h0, if_pos h1]) (one _ (by unfold nbStep; rw [if_neg h0, if_pos h1]))
        · have e : nbStep node o (l.getD i z166) = o := by unfold nbStep; rw [if_neg h0, if_neg h1]
          rw [e] at hr
          exact Ev.step (fun k => by simp only [spec_NeighborsIn.l0]; rw [if_pos (by omega), if_pos (by omega), rdE, if_neg h0, if_neg h1]) hr)
  rw [foldl_index l z166 (fun o x => nbStep node o x) []] at h
  exact h

/-! spec_l14Ok -/
theorem spec_l14Ok.ok (n d : Int) : ∃ b, spec_l14Ok.f n d = some b ∧ (b = true → 1 ≤ n ∧ n ≤ 12 ∧ 0 ≤ d ∧ d < n) := by
  unfold spec_l14Ok.f
  rw [spec_l1In.val, Option.bind_some]
  by_cases h : inR n 1 12 = true
  · rw [if_pos h, spec_l1In.val, Option.bind_some]
    refine ⟨_, rfl, fun hb => ?_⟩
    unfold inR at h hb
    simp only [Bool.and_eq_true, decide_eq_true_eq] at h hb
    have hw : wrap64 (n - 1) = n - 1 := by unfold wrap64; omega
    rw [hw] at hb
    omega
  · rw [if_neg h]
    exact ⟨false, rfl, fun hb => by cases hb⟩

/-! d_negs -/
def negs : List Int → Nat
  | [] => 0
  | x :: l => (if x < 0 then 1 else 0) + negs l
theorem negs_set : ∀ (l : List Int) (j : Nat) (v : Int), j < l.length → l.getD j 0 < 0 → 0 ≤ v → negs (l.set j v) + 1 = negs l
  | [], j, _, h, _, _ => absurd h (Nat.not_lt_zero j)
  | x :: l, 0, v, _, h, hv => by
    rw [List.getD_cons_zero] at h
    rw [List.set_cons_zero, negs, negs, if_neg (by omega), if_pos h]
    omega
  | x :: l, j + 1, v, hj, h, hv => by
    rw [List.getD_cons_succ] at h
    rw [List.set_cons_succ, negs, negs]
    have := negs_set l j v (by simpa using hj) h hv
    omega
theorem negs_rep (n : Nat) : negs (List.replicate n (-1)) = n := by
  induction n with
  | zero => rfl
  | succ n ih => rw [List.replicate_succ, negs, ih, if_pos (by omega)]; omega
theorem rep_get (n j : Nat) (h : j < n) : (List.replicate n (-1 : Int)).getD j 0 = -1 := by
  rw [List.getD_eq_getElem?_getD, List.getElem?_replicate, if_pos h]
  rfl
structure DInv (n : Nat) (d todo : List Int) : Prop where
  len : d.length = n
  neg : todo.length + negs d ≤ n
  mem : ∀ x ∈ todo, 0 ≤ x ∧ x < (n : Int) ∧ 0 ≤ d.getD x.toNat 0
  le : ∀ x ∈ d, x ≤ (todo.length : Int)
theorem DInv.step {n : Nat} {d todo : List Int} (h : DInv n d todo) (at_ x : Int) (ha : 0 ≤ at_ ∧ at_ < (n : Int) ∧ 0 ≤ d.getD at_.toNat 0) (hx0 : 0 ≤ x) (hx1 : x < (n : Int)) (hd : d.getD x.toNat 0 < 0) : DInv n (d.set x.toNat (d.getD at_.toNat 0 + 1)) (todo ++ [x]) := by
  have hle := h.le _ (getD_mem d 0 (show at_.toNat < d.length by rw [h.len]; omega))
  have hs := negs_set d x.toNat (d.getD at_.toNat 0 + 1) (by rw [h.len]; omega) hd (by omega)
  have hn := h.neg
  have hg : ∀ y : Int, 0 ≤ y → y < (n : Int) → 0 ≤ d.getD y.toNat 0 → 0 ≤ (d.set x.toNat (d.getD at_.toNat 0 + 1)).getD y.toNat 0 := fun y h0 h1 h2 => by
    by_cases e : x.toNat = y.toNat
    · rw [e, getD_set_self _ 0 _ (by rw [h.len]; omega)]; omega
    · rw [List.getD_eq_getElem?_getD, List.getElem?_set_ne e, ← List.getD_eq_getElem?_getD]; exact h2
  refine ⟨by rw [List.length_set]; exact h.len, by rw [List.length_append, List.length_singleton]; omega, fun y hy => ?_, fun y hy => ?_⟩
  · rcases List.mem_append.1 hy with hy | hy
    · obtain ⟨a, b, c⟩ := h.mem y hy
      exact ⟨a, b, hg y a b c⟩
    · rw [List.mem_singleton] at hy
      subst hy
      exact ⟨hx0, hx1, by rw [getD_set_self _ 0 _ (by rw [h.len]; omega)]; omega⟩
  · rw [List.length_append, List.length_singleton]
    rcases List.mem_or_eq_of_mem_set hy with hy | hy
    · have := h.le y hy; omega
    · omega

/-! spec_DistancesTo -/
theorem spec_DistancesTo.l2_ok (l : List S166) (nn : Nat) (first dst : Int) (hn : nn ≤ 12) (at_ x12 : Int) (near : List Int) (hN : near.length ≤ 1048576)
    (hnext : ∀ d todo, DInv nn d todo → ∃ r, Ev (fun k => spec_DistancesTo.l1 k l nn first dst d todo (wrap64 (x12 + 1))) r ∧ r.length = nn) :
    ∀ (e i : Nat) (d todo : List Int), i + e = near.length → DInv nn d todo → 0 ≤ at_ ∧ at_ < (nn : Int) ∧ 0 ≤ d.getD at_.toNat 0 → ∃ r, Ev (fun k => spec_DistancesTo.l2 k l nn first dst d todo x12 at_ near (i : Int)) r ∧ r.length = nn := by
  intro e
  induction e with
  | zero =>
    intro i d todo hi h ha
    obtain ⟨r, hr, hl⟩ := hnext d todo h
    exact ⟨r, Ev.step (fun k => by simp only [spec_DistancesTo.l2]; rw [if_neg (by omega)]) hr, hl⟩
  | succ e ih =>
    intro i d todo hi h ha
    have hlen := h.len
    have hneg := h.neg
    have hw : wrap64 ((nn : Int) - 1) = (nn : Int) - 1 := by unfold wrap64; omega
    by_cases c : inR (rd near (i : Int)) 0 ((nn : Int) - 1) = true
    · have c' := c
      unfold inR at c'
      simp only [Bool.and_eq_true, decide_eq_true_eq] at c'
      by_cases c2 : rd d (rd near (i : Int)) < 0
      · have hle := h.le _ (getD_mem d 0 (show at_.toNat < d.length by omega))
        have h2 := h.step at_ (rd near (i : Int)) ha c'.1 (by omega) c2
        obtain ⟨r, hr, hl⟩ := ih (i + 1) _ _ (by omega) h2 ⟨ha.1, ha.2.1, by
          by_cases e2 : (rd near (i : Int)).toNat = at_.toNat
          · rw [e2, getD_set_self _ 0 _ (by omega)]; omega
          · rw [List.getD_eq_getElem?_getD, List.getElem?_set_ne e2, ← List.getD_eq_getElem?_getD]; exact ha.2.2⟩
        refine ⟨r, Ev.step (fun k => ?_) hr, hl⟩
        simp only [spec_DistancesTo.l2]
        rw [if_pos (by omega), if_pos (by omega), spec_l1In.val, Option.bind_some, hw, if_pos c, if_pos c'.1, if_pos (by omega), if_pos c2, if_pos ha.1, if_pos (by omega), if_pos (by omega), wrap_nat (by omega), show wrap64 (rd d at_ + 1) = d.getD at_.toNat 0 + 1 by show wrap64 (d.getD at_.toNat 0 + 1) = _; have := ha.2.2; unfold wrap64; omega]
      · obtain ⟨r, hr, hl⟩ := ih (i + 1) _ _ (by omega) h ha
        refine ⟨r, Ev.step (fun k => ?_) hr, hl⟩
        simp only [spec_DistancesTo.l2]
        rw [if_pos (by omega), if_pos (by omega), spec_l1In.val, Option.bind_some, hw, if_pos c, if_pos c'.1, if_pos (by omega), if_neg c2, wrap_nat (by omega)]
    · obtain ⟨r, hr, hl⟩ := ih (i + 1) _ _ (by omega) h ha
      refine ⟨r, Ev.step (fun k => ?_) hr, hl⟩
      simp only [spec_DistancesTo.l2]
      rw [if_pos (by omega), if_pos (by omega), spec_l1In.val, Option.bind_some, hw, if_neg c, wrap_nat (by omega)]
theorem spec_DistancesTo.l1_ok (l : List S166) (hl : l.length ≤ 1048576) (nn : Nat) (first dst : Int) (hn : nn ≤ 12) :
    ∀ (m i : Nat) (d todo : List Int), nn ≤ i + m → DInv nn d todo → ∃ r, Ev (fun k => spec_DistancesTo.l1 k l nn first dst d todo (i : Int)) r ∧ r.length = nn := by
  intro m
  induction m with
  | zero =>
    intro i d todo hi h
    have hneg := h.neg
    exact ⟨d, Ev.one fun k => by simp only [spec_DistancesTo.l1]; rw [if_neg (by omega)], h.len⟩
  | succ m ih =>
    intro i d todo hi h
    have hneg := h.neg
    by_cases c : (i : Int) < (todo.length : Int)
    · have hmem := h.mem _ (getD_mem todo 0 (show i < todo.length by omega))
      have key : ∀ b : Bool, ∃ r, Ev (fun k => spec_DistancesTo.j2 k l nn first dst d todo (i : Int) (rd todo (i : Int)) b) r ∧ r.length = nn := fun b => by
        have hw : wrap64 ((i : Int) + 1) = ((i + 1 : Nat) : Int) := wrap_nat (by omega)
        cases b with
        | true =>
          obtain ⟨r, hr, hl2⟩ := ih (i + 1) d todo (by omega) h
          exact ⟨r, Ev.step (fun k => by simp only [spec_DistancesTo.j2]; rw [if_pos trivial, hw]) hr, hl2⟩
        | false =>
          have hnl := nbs_len l (rd todo (i : Int))
          obtain ⟨r, hr, hl2⟩ := spec_DistancesTo.l2_ok l nn first dst hn (rd todo (i : Int)) (i : Int) (nbs l (rd todo (i : Int))) (by omega) (fun d' t' h' => by rw [hw]; exact ih (i + 1) d' t' (by omega) h') (nbs l (rd todo (i : Int))).length 0 d todo (by omega) h hmem
          exact ⟨r, Ev.step (fun k => by simp only [spec_DistancesTo.j2]; rw [if_neg (by simp)]) (Ev.bind (spec_NeighborsIn.ev l _ hl) hr), hl2⟩
      by_cases c2 : rd todo (i : Int) = dst
      · obtain ⟨r, hr, hl2⟩ := key false
        exact ⟨r, Ev.step (fun k => by simp only [spec_DistancesTo.l1]; rw [if_pos c, if_pos (by omega), if_pos c2]) hr, hl2⟩
      · obtain ⟨r, hr, hl2⟩ := key (decide (rd todo (i : Int) ≥ first))
        exact ⟨r, Ev.step (fun k => by simp only [spec_DistancesTo.l1]; rw [if_pos c, if_pos (by omega), if_neg c2]) hr, hl2⟩
    · exact ⟨d, Ev.one fun k => by simp only [spec_DistancesTo.l1]; rw [if_neg c], h.len⟩
theorem spec_DistancesTo.ok (l : List S166) (hl : l.length ≤ 1048576) (n first dst : Int) : ∃ r, Ev (fun k => spec_DistancesTo.f k l n first dst) r ∧ r.length ≤ 12 ∧ (r ≠ [] → (r.length : Int) = n) := by
  obtain ⟨b, hb, h⟩ := spec_l14Ok.ok n dst
  cases b with
  | false => exact ⟨[], Ev.all fun k => by unfold spec_DistancesTo.f; rw [hb, Option.bind_some, if_neg (by simp)], by simp, fun h => absurd rfl h⟩
  | true =>
    obtain ⟨h1, h2, h3, h4⟩ := h rfl
    obtain ⟨nn, rfl⟩ : ∃ nn : Nat, n = (nn : Int) := ⟨n.toNat, by omega⟩
    have hI : DInv nn ((List.replicate nn (-1 : Int)).set dst.toNat 0) [dst] := by
      have hs := negs_set (List.replicate nn (-1 : Int)) dst.toNat 0 (by rw [List.length_replicate]; omega) (by rw [rep_get _ _ (by omega)]; omega) (by omega)
      rw [negs_rep] at hs
      refine ⟨by rw [List.length_set, List.length_replicate], by rw [List.length_singleton]; omega, fun x hx => ?_, fun x hx => ?_⟩
      · rw [List.mem_singleton] at hx
        subst hx
        exact ⟨h3, h4, by rw [getD_set_self _ 0 _ (by rw [List.length_replicate]; omega)]; omega⟩
      · rw [List.length_singleton]
        rcases List.mem_or_eq_of_mem_set hx with hx | hx
        · have := (List.mem_replicate.1 hx).2; omega
        · omega
    obtain ⟨r, hr, hl2⟩ := spec_DistancesTo.l1_ok l hl nn first dst (by omega) nn 0 _ _ (by omega) hI
    refine ⟨r, ?_, by omega, fun _ => by rw [hl2]⟩
    refine Ev.congr (fun k => by unfold spec_DistancesTo.f; rw [hb, Option.bind_some, if_pos rfl]) ?_
    have : ∀ e i : Nat, i + e = nn → Ev (fun k => spec_DistancesTo.l0 k l (nn : Int) first dst (List.replicate i (-1)) (i : Int)) r := by
      intro e
      induction e with
      | zero =>
        intro i hi
        have : i = nn := by omega
        subst this
        exact Ev.step (fun k => by simp only [spec_DistancesTo.l0]; rw [if_neg (by omega), if_pos h3, if_pos (by rw [List.length_replicate]; omega)]; rfl) hr
      | succ e ih =>
        intro i hi
        refine Ev.step (fun k => ?_) (ih (i + 1) (by omega))
        simp only [spec_DistancesTo.l0]
        rw [if_pos (by omega), if_pos (by rw [List.length_replicate]; omega), wrap_nat (by omega), List.replicate_succ']
    exact this nn 0 (by omega)

/-! spec_NextTo -/
theorem spec_NextTo.l1_ok (l : List S166) (n first dst : Int) (o d : List Int) (j : Nat) (hj : j < d.length) (hd : d.length ≤ 12) (hn : (d.length : Int) = n) (ho : o.length = j) (near : List Int) (hN : near.length ≤ 1048576)
    (hnext : ∀ x : Int, ∃ r, Ev (fun k => spec_NextTo.l0 k l n first dst (o ++ [x]) d (wrap64 ((j : Int) + 1))) r ∧ r.length = d.length) :
    ∀ (e i : Nat) (x12 : Int), i + e = near.length → ∃ r, Ev (fun k => spec_NextTo.l1 k l n first dst o d (j : Int) x12 near (i : Int)) r ∧ r.length = d.length := by
  have fin : ∀ (x12 x14 : Int), ∃ r, Ev (fun k => spec_NextTo.j2 k l n first dst o d (j : Int) x12 near x14 false) r ∧ r.length = d.length := fun x12 x14 => by
    obtain ⟨r, hr, hl⟩ := hnext x12
    exact ⟨r, Ev.step (fun k => by simp only [spec_NextTo.j2]; rw [if_neg (by simp), if_pos (by omega)]) hr, hl⟩
  intro e
  induction e with
  | zero =>
    intro i x12 hi
    obtain ⟨r, hr, hl⟩ := fin x12 (i : Int)
    exact ⟨r, Ev.step (fun k => by simp only [spec_NextTo.l1]; rw [if_neg (by omega)]) hr, hl⟩
  | succ e ih =>
    intro i x12 hi
    have hw : wrap64 (n - 1) = n - 1 := by unfold wrap64; omega
    have key : ∀ b : Bool, ∃ r, Ev (fun k => spec_NextTo.j2 k l n first dst o d (j : Int) x12 near (i : Int) b) r ∧ r.length = d.length := fun b => by
      cases b with
      | false => exact fin x12 (i : Int)
      | true =>
        obtain ⟨r0, hr0, hl0⟩ := ih (i + 1) x12 (by omega)
        obtain ⟨r1, hr1, hl1⟩ := ih (i + 1) (rd near (i : Int)) (by omega)
        by_cases c : inR (rd near (i : Int)) 0 (n - 1) = true
        · have c' := c
          unfold inR at c'
          simp only [Bool.and_eq_true, decide_eq_true_eq] at c'
          by_cases c2 : rd near (i : Int) < first
          · by_cases c3 : rd d (rd near (i : Int)) = wrap64 (rd d (j : Int) - 1)
            · exact ⟨r1, Ev.step (fun k => by simp only [spec_NextTo.j2]; rw [if_pos trivial, if_pos (by omega), if_pos (by omega), spec_l1In.val, Option.bind_some, hw, if_pos c, if_pos c2, if_pos c'.1, if_pos (by omega), if_pos (by omega), if_pos (by omega), if_pos c3, wrap_nat (by omega)]) hr1, hl1⟩
            · exact ⟨r0, Ev.step (fun k => by simp only [spec_NextTo.j2]; rw [if_pos trivial, if_pos (by omega), if_pos (by omega), spec_l1In.val, Option.bind_some, hw, if_pos c, if_pos c2, if_pos c'.1, if_pos (by omega), if_pos (by omega), if_pos (by omega), if_neg c3, wrap_nat (by omega)]) hr0, hl0⟩
          · by_cases c4 : rd near (i : Int) = dst
            · by_cases c3 : rd d (rd near (i : Int)) = wrap64 (rd d (j : Int) - 1)
              · exact ⟨r1, Ev.step (fun k => by simp only [spec_NextTo.j2]; rw [if_pos trivial, if_pos (by omega), if_pos (by omega), spec_l1In.val, Option.bind_some, hw, if_pos c, if_neg c2, if_pos c4, if_pos c'.1, if_pos (by omega), if_pos (by omega), if_pos (by omega), if_pos c3, wrap_nat (by omega)]) hr1, hl1⟩
              · exact ⟨r0, Ev.step (fun k => by simp only [spec_NextTo.j2]; rw [if_pos trivial, if_pos (by omega), if_pos (by omega), spec_l1In.val, Option.bind_some, hw, if_pos c, if_neg c2, if_pos c4, if_pos c'.1, if_pos (by omega), if_pos (by omega), if_pos (by omega), if_neg c3, wrap_nat (by omega)]) hr0, hl0⟩
            · exact ⟨r0, Ev.step (fun k => by simp only [spec_NextTo.j2]; rw [if_pos trivial, if_pos (by omega), if_pos (by omega), spec_l1In.val, Option.bind_some, hw, if_pos c, if_neg c2, if_neg c4, wrap_nat (by omega)]) hr0, hl0⟩
        · exact ⟨r0, Ev.step (fun k => by simp only [spec_NextTo.j2]; rw [if_pos trivial, if_pos (by omega), if_pos (by omega), spec_l1In.val, Option.bind_some, hw, if_neg c, wrap_nat (by omega)]) hr0, hl0⟩
    by_cases c : rd d (j : Int) > 0
    · obtain ⟨r, hr, hl⟩ := key (decide (x12 < 0))
      exact ⟨r, Ev.step (fun k => by simp only [spec_NextTo.l1]; rw [if_pos (by omega), if_pos (by omega), if_pos (by omega), if_pos c]) hr, hl⟩
    · obtain ⟨r, hr, hl⟩ := key false
      exact ⟨r, Ev.step (fun k => by simp only [spec_NextTo.l1]; rw [if_pos (by omega), if_pos (by omega), if_pos (by omega), if_neg c]) hr, hl⟩
theorem spec_NextTo.ok (l : List S166) (hl : l.length ≤ 1048576) (n first dst : Int) : ∃ r, Ev (fun k => spec_NextTo.f k l n first dst) r ∧ r.length ≤ 12 := by
  obtain ⟨d, hd, hd12, hdn⟩ := spec_DistancesTo.ok l hl n first dst
  have : ∀ e j : Nat, j + e = d.length → ∀ o : List Int, o.length = j → ∃ r, Ev (fun k => spec_NextTo.l0 k l n first dst o d (j : Int)) r ∧ r.length = d.length := by
    intro e
    induction e with
    | zero =>
      intro j hj o ho
      exact ⟨o, Ev.one fun k => by simp only [spec_NextTo.l0]; rw [if_neg (by omega)], by omega⟩
    | succ e ih =>
      intro j hj o ho
      have hnl := nbs_len l (j : Int)
      have hne : d ≠ [] := fun h => by rw [h] at hj; simp at hj
      obtain ⟨r, hr, hl2⟩ := spec_NextTo.l1_ok l n first dst o d j (by omega) hd12 (hdn hne) ho (nbs l (j : Int)) (by omega) (fun x => by rw [wrap_nat (by omega)]; exact ih (j + 1) (by omega) _ (by rw [List.length_append, List.length_singleton]; omega)) (nbs l (j : Int)).length 0 (-1) (by omega)
      exact ⟨r, Ev.step (fun k => by simp only [spec_NextTo.l0]; rw [if_pos (by omega)]) (Ev.bind (spec_NeighborsIn.ev l _ hl) hr), hl2⟩
  obtain ⟨r, hr, hl2⟩ := this d.length 0 (by omega) [] rfl
  exact ⟨r, Ev.bind hd hr, by omega⟩

/-! spec_TableOf -/
theorem spec_TableOf.ok (l : List S166) (hl : l.length ≤ 1048576) (n first dst : Int) : ∃ D N, Ev (fun k => spec_TableOf.f k l n first dst) (dst, D, N) ∧ D.length ≤ 12 ∧ N.length ≤ 12 := by
  obtain ⟨D, hD, h1, _⟩ := spec_DistancesTo.ok l hl n first dst
  obtain ⟨N, hN, h2⟩ := spec_NextTo.ok l hl n first dst
  exact ⟨D, N, Ev.bind hD (Ev.bind hN (Ev.now _)), h1, h2⟩

/-! spec_l17Tables -/
theorem spec_l17Tables.ok (l : List S166) (hl : l.length ≤ 1048576) (n : Nat) (first : Int) (hn : n ≤ 12) : ∃ r, Ev (fun k => spec_l17Tables.f k l (n : Int) first) r ∧ r.length ≤ 12 ∧ (∀ t ∈ r, fitTi 12 t) ∧ ∀ q, q < r.length → (r.getD q z247).f0 = ((q : Nat) : Int) := by
  have : ∀ e j : Nat, j + e = n → ∀ o : List S247, o.length = j → (∀ t ∈ o, fitTi 12 t) → (∀ q, q < o.length → (o.getD q z247).f0 = ((q : Nat) : Int)) → ∃ r, Ev (fun k => spec_l17Tables.l0 k l (n : Int) first o (j : Int)) r ∧ r.length ≤ n ∧ (∀ t ∈ r, fitTi 12 t) ∧ ∀ q, q < r.length → (r.getD q z247).f0 = ((q : Nat) : Int) := by
    intro e
    induction e with
    | zero =>
      intro j hj o ho hf hd
      exact ⟨o, Ev.one fun k => by simp only [spec_l17Tables.l0]; rw [if_neg (by omega)], by omega, hf, hd⟩
    | succ e ih =>
      intro j hj o ho hf hd
      obtain ⟨D, N, ht, h1, h2⟩ := spec_TableOf.ok l hl (n : Int) first (j : Int)
      obtain ⟨r, hr, hl2, hf2, hd2⟩ := ih (j + 1) (by omega) (o ++ [⟨(j : Int), D, N⟩]) (by rw [List.length_append, List.length_singleton]; omega) (fun t ht => by
        rcases List.mem_append.1 ht with ht | ht
        · exact hf t ht
        · rw [List.mem_singleton] at ht; subst ht; exact ⟨h1, h2⟩) (fun q hq => by
        rw [List.length_append, List.length_singleton] at hq
        by_cases c : q < o.length
        · rw [List.getD_eq_getElem?_getD, List.getElem?_append_left c, ← List.getD_eq_getElem?_getD]; exact hd q c
        · have e : q = o.length := by omega
          subst e
          rw [List.getD_eq_getElem?_getD, List.getElem?_append_right (Nat.le_refl _), Nat.sub_self]
          show ((j : Nat) : Int) = _
          rw [ho])
      exact ⟨r, Ev.step (fun k => by simp only [spec_l17Tables.l0]; rw [if_pos (by omega)]) (Ev.bind ht (Ev.congr (fun k => by rw [if_pos (by omega), wrap_nat (by omega)]) hr)), hl2, hf2, hd2⟩
  obtain ⟨r, hr, hl2, hf, hd⟩ := this n 0 (by omega) [] (by simp) (fun t ht => by cases ht) (fun q hq => by simp at hq)
  exact ⟨r, hr, by omega, hf, hd⟩

/-! spec_BuildProgram -/
theorem fitQ_nil : fitQi 1048576 [] := ⟨by simp, fun x hx => by cases hx⟩
def okDst (p : List S112) : Prop := ∀ x ∈ p, ∀ q, q < x.f2.length → (x.f2.getD q z247).f0 = ((q : Nat) : Int)
theorem okDst_nil : okDst [] := fun x hx => by cases hx
def okP (p : List S112) : Prop := okS (p.map (·.f0))
theorem okP_nil : okP [] := ⟨(fun x hx => by cases hx), List.Pairwise.nil⟩
theorem spec_BuildProgram.okS (pl : List S271) (hp : pl.length ≤ 1048576) (nn T : Nat) (fi sk : Int) (hn : nn ≤ 12) (hT1 : 1 ≤ T) (hT2 : T ≤ 1000) : ∃ x y z p b, Ev (fun k => spec_BuildProgram.f k pl (nn : Int) fi 0 (T : Int) sk) (x, y, z, p, b) ∧ fitQi 1048576 p ∧ okDst p ∧ okP p ∧ 0 ≤ x := by
  have bad : Ev (fun k => spec_BuildProgram.j0 k pl (nn : Int) fi 0 (T : Int) sk true) (0, 0, 0, [], false) := Ev.one fun k => by simp only [spec_BuildProgram.j0]; simp
  obtain ⟨fr, hfr⟩ := spec_l17Frame.ok (nn : Int) fi sk
  cases fr with
  | false => exact ⟨_, _, _, _, _, Ev.congr (fun k => by unfold spec_BuildProgram.f; rw [hfr, Option.bind_some, if_neg (by simp)]) bad, fitQ_nil, okDst_nil, okP_nil, Int.le_refl 0⟩
  | true =>
    obtain ⟨ip, hip⟩ := spec_IsPlan.ok pl hp (nn : Int)
    cases ip with
    | false => exact ⟨_, _, _, _, _, Ev.congr (fun k => by unfold spec_BuildProgram.f; rw [hfr, Option.bind_some, if_pos rfl]) (Ev.bind hip bad), fitQ_nil, okDst_nil, okP_nil, Int.le_refl 0⟩
    | true =>
      obtain ⟨sp, hsp, hsl, hspS⟩ := spec_PiecesOf.ok pl hp T hT1 hT2
      have hgo : ∀ R, Ev (fun k => (spec_PiecesOf.f k pl 0 (T : Int)).bind fun t => (spec_l1In.f (t.length : Int) 1 40).bind fun u => if u = true then spec_BuildProgram.l0 k pl (nn : Int) fi t 0 (nn : Int) fi sk [] else some (0, 0, 0, [], false)) R → Ev (fun k => spec_BuildProgram.f k pl (nn : Int) fi 0 (T : Int) sk) R := fun R h =>
        Ev.congr (fun k => by unfold spec_BuildProgram.f; rw [hfr, Option.bind_some, if_pos rfl]) (Ev.bind hip (Ev.step (fun k => by simp only [spec_BuildProgram.j0]; rw [if_neg (by simp)]) h))
      by_cases c : inR (sp.length : Int) 1 40 = true
      · have : ∀ e j : Nat, j + e = sp.length → ∀ o : List S112, o.length ≤ j → (∀ x ∈ o, fitPi 1048576 x) → okDst o → o.map (·.f0) = sp.take j → ∃ r, Ev (fun k => spec_BuildProgram.l0 k pl (nn : Int) fi sp (j : Int) (nn : Int) fi sk o) ((nn : Int), fi, sk, r, true) ∧ r.length ≤ sp.length ∧ (∀ x ∈ r, fitPi 1048576 x) ∧ okDst r ∧ r.map (·.f0) = sp := by
          intro e
          induction e with
          | zero =>
            intro j hj o ho hf hdd hm
            exact ⟨o, Ev.one fun k => by simp only [spec_BuildProgram.l0]; rw [if_neg (by omega)], by omega, hf, hdd, by rw [hm]; exact List.take_of_length_le (by omega)⟩
          | succ e ih =>
            intro j hj o ho hf hdd hm
            obtain ⟨lk, hlk, hll⟩ := spec_LinksAt.ok pl hp ((rd_T109 sp (j : Int)).f0)
            obtain ⟨tb, htb, htl, htf, htd⟩ := spec_l17Tables.ok lk (by omega) nn fi hn
            obtain ⟨r, hr, hl, hf2, hd2, hm2⟩ := ih (j + 1) (by omega) (o ++ [⟨⟨(rd_T109 sp (j : Int)).f0, (rd_T109 sp (j : Int)).f1⟩, lk, tb⟩]) (by rw [List.length_append, List.length_singleton]; omega) (fun x hx => by
              rcases List.mem_append.1 hx with hx | hx
              · exact hf x hx
              · rw [List.mem_singleton] at hx
                subst hx
                exact ⟨by show lk.length ≤ _; omega, by show tb.length ≤ _; omega, fun t ht => by have := htf t ht; unfold fitTi at this ⊢; omega⟩) (fun x hx => by
              rcases List.mem_append.1 hx with hx | hx
              · exact hdd x hx
              · rw [List.mem_singleton] at hx
                subst hx
                exact htd) (by
              rw [List.map_append, hm, List.map_singleton, take_snocS sp z109 (show j < sp.length by omega)]
              rfl)
            refine ⟨r, Ev.step (fun k => by simp only [spec_BuildProgram.l0]; rw [if_pos (by omega), if_pos (by omega)]) ?_, hl, hf2, hd2, hm2⟩
            refine Ev.bind hlk (Ev.bind htb ?_)
            exact Ev.congr (fun k => by rw [if_pos (by omega), wrap_nat (by omega)]) hr
        obtain ⟨r, hr, hl, hf, hd3, hm3⟩ := this sp.length 0 (by omega) [] (by simp) (fun x hx => by cases hx) okDst_nil rfl
        exact ⟨_, _, _, _, _, hgo _ (Ev.bind hsp (Ev.congr (fun k => by rw [spec_l1In.val, Option.bind_some, if_pos c]; rfl) hr)), ⟨by omega, hf⟩, hd3, by unfold okP; rw [hm3]; exact hspS, by omega⟩
      · exact ⟨_, _, _, _, _, hgo _ (Ev.bind hsp (Ev.all fun k => by rw [spec_l1In.val, Option.bind_some, if_neg c])), fitQ_nil, okDst_nil, okP_nil, Int.le_refl 0⟩
theorem spec_BuildProgram.ok (pl : List S271) (hp : pl.length ≤ 1048576) (nn T : Nat) (fi sk : Int) (hn : nn ≤ 12) (hT1 : 1 ≤ T) (hT2 : T ≤ 1000) : ∃ x y z p b, Ev (fun k => spec_BuildProgram.f k pl (nn : Int) fi 0 (T : Int) sk) (x, y, z, p, b) ∧ fitQi 1048576 p ∧ okDst p := by
  obtain ⟨x, y, z, p, b, h, h1, h2, _⟩ := spec_BuildProgram.okS pl hp nn T fi sk hn hT1 hT2
  exact ⟨x, y, z, p, b, h, h1, h2⟩

/-! spec_l11Plan -/
theorem spec_l11Plan.l2_ok (l : List Int) (hl : l.length ≤ 1048576) (nn : Nat) (T : Int) (i j : Int) (B : Nat)
    (hnext : ∀ o p q, o.length ≤ B → Cur p → ∃ r p' q', Ev (fun k => spec_l11Plan.l1 k (nn : Int) T o i (wrap64 (j + 1)) l p q) (r, p', q') ∧ r.length ≤ 288 ∧ Cur p') :
    ∀ (m : Nat) (o : List S271) (x10 p q : Int), o.length + m ≤ B → B ≤ 288 → Cur p → ∃ r p' q', Ev (fun k => spec_l11Plan.l2 k (nn : Int) T o i j x10 (m : Int) l p q) (r, p', q') ∧ r.length ≤ 288 ∧ Cur p' := by
  have fin : ∀ (o : List S271) (x10 x11 p q : Int), o.length ≤ B → Cur p → ∃ r p' q', Ev (fun k => spec_l11Plan.j3 k (nn : Int) T o i j x10 x11 false l p q) (r, p', q') ∧ r.length ≤ 288 ∧ Cur p' := fun o x10 x11 p q ho hp => by
    obtain ⟨r, p', q', hr, h1, h2⟩ := hnext o p q ho hp
    exact ⟨r, p', q', Ev.step (fun k => by simp only [spec_l11Plan.j3]; rw [if_neg (by simp)]) hr, h1, h2⟩
  intro m
  induction m with
  | zero =>
    intro o x10 p q ho hB hp
    obtain ⟨r, p', q', hr, h1, h2⟩ := fin o x10 0 p q (by omega) hp
    exact ⟨r, p', q', Ev.step (fun k => by simp only [spec_l11Plan.l2]; rw [if_neg (by omega)]; rfl) hr, h1, h2⟩
  | succ m ih =>
    intro o x10 p q ho hB hp
    by_cases c : x10 < T
    · obtain ⟨v, p1, q1, e1, _, _, hp1⟩ := spec_l1Below.ok l hl p q 9 hp
      obtain ⟨u, p2, q2, e2, _, _, hp2⟩ := spec_l1Below.ok l hl p1 q1 6 hp1
      obtain ⟨r, p', q', hr, h1, h2⟩ := ih (o ++ [⟨i, j, x10, mn T (wrap64 (wrap64 (x10 + 2) + v))⟩]) (wrap64 (wrap64 (mn T (wrap64 (wrap64 (x10 + 2) + v)) + 1) + u)) p2 q2 (by rw [List.length_append, List.length_singleton]; omega) hB hp2
      refine ⟨r, p', q', Ev.step (fun k => ?_) (Ev.step (f := fun k => spec_l11Plan.l2 k (nn : Int) T (o ++ [⟨i, j, x10, mn T (wrap64 (wrap64 (x10 + 2) + v))⟩]) i j (wrap64 (wrap64 (mn T (wrap64 (wrap64 (x10 + 2) + v)) + 1) + u)) (m : Int) l p2 q2) (g := fun k => spec_l11Plan.j3 k (nn : Int) T o i j x10 ((m + 1 : Nat) : Int) true l p q) (fun k => ?_) hr), h1, h2⟩
      · simp only [spec_l11Plan.l2]
        rw [if_pos (by omega), decide_eq_true c]
      · simp only [spec_l11Plan.j3]
        rw [if_pos trivial, e1, Option.bind_some, spec_Min.val, Option.bind_some, if_pos (by omega), e2, Option.bind_some, show wrap64 (((m + 1 : Nat) : Int) - 1) = (m : Int) by unfold wrap64; omega]
    · obtain ⟨r, p', q', hr, h1, h2⟩ := fin o x10 ((m + 1 : Nat) : Int) p q (by omega) hp
      exact ⟨r, p', q', Ev.step (fun k => by simp only [spec_l11Plan.l2]; rw [if_pos (by omega), decide_eq_false c]) hr, h1, h2⟩
theorem spec_l11Plan.l1_ok (l : List Int) (hl : l.length ≤ 1048576) (nn : Nat) (hn : nn ≤ 12) (T : Int) (i : Nat) (hi : i < nn)
    (hnext : ∀ o p q, o.length ≤ 24 * (i + 1) → Cur p → ∃ r p' q', Ev (fun k => spec_l11Plan.l0 k (nn : Int) T o (wrap64 ((i : Int) + 1)) l p q) (r, p', q') ∧ r.length ≤ 288 ∧ Cur p') :
    ∀ (e j : Nat) (o : List S271) (p q : Int), j + e = nn → o.length ≤ 24 * i + 2 * j → Cur p → ∃ r p' q', Ev (fun k => spec_l11Plan.l1 k (nn : Int) T o (i : Int) (j : Int) l p q) (r, p', q') ∧ r.length ≤ 288 ∧ Cur p' := by
  intro e
  induction e with
  | zero =>
    intro j o p q hj ho hp
    obtain ⟨r, p', q', hr, h1, h2⟩ := hnext o p q (by omega) hp
    exact ⟨r, p', q', Ev.step (fun k => by simp only [spec_l11Plan.l1]; rw [if_neg (by omega)]) hr, h1, h2⟩
  | succ e ih =>
    intro j o p q hj ho hp
    obtain ⟨v, p1, q1, e1, _, _, hp1⟩ := spec_l1Below.ok l hl p q 5 hp
    obtain ⟨u, p2, q2, e2, hu0, hu3, hp2⟩ := spec_l1Below.ok l hl p1 q1 3 hp1
    have hu3' := hu3 (by omega)
    obtain ⟨r, p', q', hr, h1, h2⟩ := spec_l11Plan.l2_ok l hl nn T (i : Int) (j : Int) (24 * i + 2 * (j + 1)) (fun o' p' q' ho' hp' => by rw [wrap_nat (by omega)]; exact ih (j + 1) o' p' q' (by omega) ho' hp') u.toNat o v p2 q2 (by omega) (by omega) hp2
    rw [Int.toNat_of_nonneg hu0] at hr
    exact ⟨r, p', q', Ev.step (fun k => by simp only [spec_l11Plan.l1]; rw [if_pos (by omega), e1, Option.bind_some, e2, Option.bind_some]) hr, h1, h2⟩
theorem spec_l11Plan.ok (l : List Int) (hl : l.length ≤ 1048576) (nn : Nat) (hn : nn ≤ 12) (T : Int) (p q : Int) (hp : Cur p) : ∃ r p' q', Ev (fun k => spec_l11Plan.f k l p q (nn : Int) T) (r, p', q') ∧ r.length ≤ 288 ∧ Cur p' := by
  have : ∀ (e i : Nat) (o : List S271) (p q : Int), i + e = nn → o.length ≤ 24 * i → Cur p → ∃ r p' q', Ev (fun k => spec_l11Plan.l0 k (nn : Int) T o (i : Int) l p q) (r, p', q') ∧ r.length ≤ 288 ∧ Cur p' := by
    intro e
    induction e with
    | zero =>
      intro i o p q hi ho hp
      exact ⟨o, p, q, Ev.one fun k => by simp only [spec_l11Plan.l0]; rw [if_neg (by omega)], by omega, hp⟩
    | succ e ih =>
      intro i o p q hi ho hp
      obtain ⟨r, p', q', hr, h1, h2⟩ := spec_l11Plan.l1_ok l hl nn hn T i (by omega) (fun o' p' q' ho' hp' => by rw [wrap_nat (by omega)]; exact ih (i + 1) o' p' q' (by omega) ho' hp') (nn - (i + 1)) (i + 1) o p q (by omega) (by omega) hp
      exact ⟨r, p', q', Ev.step (fun k => by simp only [spec_l11Plan.l0]; rw [if_pos (by omega), wrap_nat (by omega)]) hr, h1, h2⟩
  exact this nn 0 [] p q (by omega) (by simp) hp

/-! spec_l27Draw -/
theorem spec_l27Draw.okN (l : List Int) (hl : l.length ≤ 1048576) (p q : Int) (hp : Cur p) : ∃ x y z pp p' q', Ev (fun k => spec_l27Draw.f k l p q) (x, y, z, pp, p', q') ∧ fitQi 1048576 pp ∧ okDst pp ∧ okP pp ∧ Cur p' ∧ 0 ≤ x := by
  obtain ⟨pl, p1, q1, h1, hpl, hp1⟩ := spec_l11Plan.ok l hl 6 (by omega) 20 p q hp
  have h1' : Ev (fun k => spec_l11Plan.f k l p q 6 20) (pl, p1, q1) := h1
  obtain ⟨v, p2, q2, e2, _, _, hp2⟩ := spec_l1Below.ok l hl p1 q1 2 hp1
  obtain ⟨x, y, z, pp, b, h3, hf, hd, hS, hx⟩ := spec_BuildProgram.okS pl (by omega) 6 20 4 v (by omega) (by omega) (by omega)
  have h3' : Ev (fun k => spec_BuildProgram.f k pl 6 4 0 20 v) (x, y, z, pp, b) := h3
  exact ⟨x, y, z, pp, p2, q2, Ev.bind h1' (Ev.congr (fun k => by rw [e2, Option.bind_some]) (Ev.bind h3' (Ev.now _))), hf, hd, hS, hp2, hx⟩
theorem spec_l27Draw.okS (l : List Int) (hl : l.length ≤ 1048576) (p q : Int) (hp : Cur p) : ∃ x y z pp p' q', Ev (fun k => spec_l27Draw.f k l p q) (x, y, z, pp, p', q') ∧ fitQi 1048576 pp ∧ okDst pp ∧ okP pp ∧ Cur p' := by
  obtain ⟨x, y, z, pp, p', q', h, h1, h2, h3, h4, _⟩ := spec_l27Draw.okN l hl p q hp
  exact ⟨x, y, z, pp, p', q', h, h1, h2, h3, h4⟩
theorem spec_l27Draw.ok (l : List Int) (hl : l.length ≤ 1048576) (p q : Int) (hp : Cur p) : ∃ x y z pp p' q', Ev (fun k => spec_l27Draw.f k l p q) (x, y, z, pp, p', q') ∧ fitQi 1048576 pp ∧ okDst pp ∧ Cur p' := by
  obtain ⟨x, y, z, pp, p', q', h, h1, h2, _, h4⟩ := spec_l27Draw.okS l hl p q hp
  exact ⟨x, y, z, pp, p', q', h, h1, h2, h4⟩

/-! spec_DrawHandoversOf -/
theorem spec_DrawHandoversOf.ok (l : List Int) (hl : l.length ≤ 1048576) : ∃ x y z pp s, Ev (fun k => spec_DrawHandoversOf.f k l) (x, y, z, pp, s) ∧ fitQi 1048576 pp ∧ okP pp := by
  obtain ⟨q0, h0⟩ := spec_l1New.ev l hl
  obtain ⟨x, y, z, pp, p1, q1, h1, hf, _, hS, hp1⟩ := spec_l27Draw.okS l hl 0 q0 ⟨by omega, by omega⟩
  obtain ⟨v2, p2, q2, e2, _, _, hp2⟩ := spec_l1Below.ok l hl p1 q1 4 hp1
  exact ⟨x, y, z, pp, wrap64 (3 + v2), Ev.bind h0 (Ev.bind h1 (Ev.all fun k => by rw [e2, Option.bind_some])), hf, hS⟩

/-! d_eqL -/
def eqL (a b : List Int) : Bool := decide (a = b)
theorem eq_drop (a b : List Int) (i : Nat) (ha : i < a.length) (hb : i < b.length) : (a.drop i = b.drop i) ↔ (a.getD i 0 = b.getD i 0 ∧ a.drop (i + 1) = b.drop (i + 1)) := by
  rw [drop_cons a 0 ha, drop_cons b 0 hb, List.cons.injEq]

/-! slices_Equal_int_int -/
theorem slices_Equal_int_int.ev_l (a b : List Int) (hl : a.length ≤ 1048576) (he : a.length = b.length) : ∀ (d i : Nat), i + d = a.length → Ev (fun k => slices_Equal_int_int.l0 k a b a.length i) (decide (a.drop i = b.drop i)) := by
  intro d
  induction d with
  | zero =>
    intro i hi
    rw [List.drop_eq_nil_of_le (by omega), List.drop_eq_nil_of_le (by omega)]
    refine Ev.one fun k => ?_; simp only [slices_Equal_int_int.l0]; rw [if_neg (by omega)]; simp
  | succ d ih =>
    intro i hi
    by_cases h : a.getD i 0 = b.getD i 0
    · have e : decide (a.drop i = b.drop i) = decide (a.drop (i + 1) = b.drop (i + 1)) := by
        rw [decide_eq_decide, eq_drop a b i (by omega) (by omega)]; simp only [h, true_and]
      rw [e]
      refine Ev.step (fun k => ?_) (ih (i + 1) (by omega))
      simp only [slices_Equal_int_int.l0]
      rw [if_pos (by omega), if_pos (by omega), if_pos (by omega), if_pos (by omega), rd_nat, rd_nat, if_pos h, wrap_nat (by omega)]
    · have e : decide (a.drop i = b.drop i) = false := by
        rw [decide_eq_false_iff_not, eq_drop a b i (by omega) (by omega)]; exact fun hh => h hh.1
      rw [e]
      refine Ev.one fun k => ?_
      simp only [slices_Equal_int_int.l0]
      rw [if_pos (by omega), if_pos (by omega), if_pos (by omega), if_pos (by omega), rd_nat, rd_nat, if_neg h]
theorem slices_Equal_int_int.ev (a b : List Int) (hl : a.length ≤ 1048576) : Ev (fun k => slices_Equal_int_int.f k a b) (eqL a b) := by
  unfold eqL
  by_cases he : a.length = b.length
  · refine Ev.congr (fun k => by unfold slices_Equal_int_int.f; rw [if_pos (by omega)]) ?_
    have := slices_Equal_int_int.ev_l a b hl he a.length 0 (by omega)
    simpa using this
  · refine Ev.all (fun k => ?_)
    unfold slices_Equal_int_int.f
    rw [if_neg (by omega)]
    have : decide (a = b) = false := by rw [decide_eq_false_iff_not]; intro h; exact he (by rw [h])
    rw [this]

/-! d_hands -/
def handStep (p : List S112) (site : Int) (o : List S87) (j : Nat) : List S87 := if eqL (serversIn p ((j - 1 : Nat) : Int) site) (serversIn p (j : Int) site) = true then o else o ++ [⟨(rd_T112 p (j : Int)).f0.f0, serversIn p ((j - 1 : Nat) : Int) site, serversIn p (j : Int) site⟩]
def handL (p : List S112) (site : Int) : List S87 := (List.range' 1 (p.length - 1)).foldl (fun o j => handStep p site o j) []
def okH (x : S87) : Prop := x.f1.length ≤ 1048576 ∧ x.f2.length ≤ 1048576
theorem handStep_ok (p : List S112) (site : Int) (hp : fitQi 1048576 p) (o : List S87) (j i : Nat) (h : o.length ≤ i ∧ ∀ x ∈ o, okH x) : (handStep p site o j).length ≤ i + 1 ∧ ∀ x ∈ handStep p site o j, okH x := by
  unfold handStep
  split
  · exact ⟨by omega, h.2⟩
  · refine ⟨by rw [List.length_append, List.length_singleton]; omega, fun x hx => ?_⟩
    rcases List.mem_append.1 hx with hx | hx
    · exact h.2 x hx
    · rw [List.mem_singleton] at hx
      subst hx
      exact ⟨servers_len _ _ _ hp, servers_len _ _ _ hp⟩
theorem handL_ok (p : List S112) (site : Int) (hp : fitQi 1048576 p) : (handL p site).length ≤ 1048576 ∧ ∀ x ∈ handL p site, okH x := by
  have : ∀ d i (o : List S87), o.length ≤ i ∧ (∀ x ∈ o, okH x) → ((List.range' i d).foldl (fun o j => handStep p site o j) o).length ≤ i + d ∧ ∀ x ∈ (List.range' i d).foldl (fun o j => handStep p site o j) o, okH x := by
    intro d
    induction d with
    | zero => intro i o h; simpa using h
    | succ d ih =>
      intro i o h
      rw [List.range'_succ, List.foldl_cons]
      have := ih (i + 1) _ (handStep_ok p site hp o i i h)
      exact ⟨by omega, this.2⟩
  have h := this (p.length - 1) 1 [] ⟨by simp, fun x hx => by cases hx⟩
  exact ⟨by have := hp.1; unfold handL; omega, h.2⟩

/-! impl_HandoversOf -/
theorem impl_HandoversOf.ev (a b c : Int) (p : List S112) (site : Int) (hp : fitQi 1048576 p) : Ev (fun k => impl_HandoversOf.f k a b c p site) (handL p site) := by
  have hl := hp.1
  by_cases h0 : p.length = 0
  · have : handL p site = [] := by unfold handL; rw [h0]; rfl
    rw [this]
    exact Ev.one (g := fun k => impl_HandoversOf.l0 k site [] 1 a b c p) fun k => by simp only [impl_HandoversOf.l0]; rw [if_neg (by omega)]
  · exact foldE (g := fun k o i => impl_HandoversOf.l0 k site o i a b c p) (f := fun i o => handStep p site o i) (fin := fun o => o) (fun i o => o.length ≤ i ∧ 1 ≤ i) p.length
      (fun s _ => Ev.one fun k => by simp only [impl_HandoversOf.l0]; rw [if_neg (by omega)])
      (fun i o hi ho => ⟨⟨by unfold handStep; split; · omega
                             · rw [List.length_append, List.length_singleton]; omega, by omega⟩, fun r hr => by
        refine Ev.step (fun k => by simp only [impl_HandoversOf.l0]; rw [if_pos (by omega), wrap_pred (by omega) (by omega), wrap_nat (by omega)]) (Ev.bind (impl_ServersIn.ev a b c p ((i - 1 : Nat) : Int) site hp) (Ev.bind (impl_ServersIn.ev a b c p i site hp) (Ev.bind (slices_Equal_int_int.ev _ _ (servers_len p _ site hp)) ?_)))
        unfold handStep at hr
        by_cases h : eqL (serversIn p ((i - 1 : Nat) : Int) site) (serversIn p (i : Int) site) = true
        · rw [if_pos h] at hr
          exact Ev.congr (fun k => by rw [if_pos h]) hr
        · rw [if_neg h] at hr
          exact Ev.congr (fun k => by rw [if_neg h, if_pos (by omega), if_pos (by omega)]) hr⟩) (p.length - 1) 1 [] (by omega) ⟨by simp, by omega⟩

/-! slices_IndexFunc_impl_Piece_impl_Piece -/
theorem slices_IndexFunc_impl_Piece_impl_Piece.first (q : S112 → Bool) : ∀ (l : List S112) (i : Nat), slices_IndexFunc_impl_Piece_impl_Piece.idxAt q l i = firstAt q l i
  | [], i => rfl
  | x :: l, i => by rw [slices_IndexFunc_impl_Piece_impl_Piece.idxAt, firstAt, slices_IndexFunc_impl_Piece_impl_Piece.first q l (i + 1)]

/-! d_pieceAt -/
def pieceAt (p : List S112) (t : Int) : Int := firstAt (fun x => inSpan x.f0.f0 x.f0.f1 t) p 0

/-! impl_PieceAt -/
theorem impl_PieceAt.val (a b c : Int) (p : List S112) (t : Int) : impl_PieceAt.f a b c p t = some (pieceAt p t) := by
  unfold impl_PieceAt.f pieceAt slices_IndexFunc_impl_Piece_impl_Piece.idx
  rw [slices_IndexFunc_impl_Piece_impl_Piece.first]
  have : (fun x : S112 => impl_PieceAt.has x.f0.f0 x.f0.f1 t) = fun x => inSpan x.f0.f0 x.f0.f1 t := by
    funext x
    unfold impl_PieceAt.has inSpan isSpan
    rfl
  rw [this]

/-! impl_InSpan -/
theorem impl_InSpan.val (a b t : Int) : impl_InSpan.f a b t = some (inSpan a b t) := by
  unfold impl_InSpan.f inSpan
  rw [impl_IsSpan.val, Option.bind_some]
  by_cases h : isSpan a b = true
  · rw [if_pos h]
    by_cases h2 : a ≤ t
    · rw [if_pos h2]; simp [h, h2]
    · rw [if_neg h2]; simp; omega
  · rw [if_neg h]; simp [h]

/-! impl_InSpans -/
theorem impl_InSpans.ev (l : List S109) (t : Int) (hl : l.length ≤ 1048576) : Ev (fun k => impl_InSpans.f k l t) (covT l t) := by
  have h := find_list (g := fun k i => impl_InSpans.l0 k t l (l.length : Int) i) (q := fun x : S109 => inSpan x.f0 x.f1 t) (r := true) (e := false) l z109
    (Ev.one fun k => by simp only [impl_InSpans.l0]; rw [if_neg (by omega)])
    (fun i k hi => by
      simp only [impl_InSpans.l0]
      rw [if_pos (by omega), if_pos (by omega), if_pos (by omega), impl_InSpan.val, Option.bind_some, wrap_nat (by omega), show rd_T109 l (i : Int) = l.getD i z109 from rfl])
  rw [ite_bool] at h
  exact h

/-! impl_EqualInts -/
theorem impl_EqualInts.ev (a b : List Int) (hl : a.length ≤ 1048576) : Ev (fun k => impl_EqualInts.f k a b) (eqL a b) := Ev.bind (slices_Equal_int_int.ev a b hl) (Ev.now _)

/-! slices_IndexFunc_int_int -/
theorem slices_IndexFunc_int_int.first (q : Int → Bool) : ∀ (l : List Int) (i : Nat), slices_IndexFunc_int_int.idxAt q l i = firstAt q l i
  | [], i => rfl
  | x :: l, i => by rw [slices_IndexFunc_int_int.idxAt, firstAt, slices_IndexFunc_int_int.first q l (i + 1)]

/-! impl_IsSmooth -/
theorem impl_IsSmooth.val (x : Int) (l m : List Int) : impl_IsSmooth.f x l m = some (l.any fun y => hasB m y) := by
  unfold impl_IsSmooth.f slices_IndexFunc_int_int.idx
  rw [slices_IndexFunc_int_int.first, firstAt_any]
  rfl

/-! d_longest -/
def longF (m : Int) (x : S109) : Int := mx m (wrap64 (x.f1 - x.f0))
def longest (l : List S109) : Int := l.foldl longF 0

/-! impl_LongestGap -/
theorem impl_LongestGap.ev (a b c : Int) (p : List S112) (site : Int) (hp : fitQi 1048576 p) : Ev (fun k => impl_LongestGap.f k a b c p site) (longest (joinS (gapsL p site))) := by
  refine Ev.bind (impl_GapsOf.ev a b c p site hp) ?_
  have hl := joinS_len (gapsL p site)
  generalize joinS (gapsL p site) = l at hl
  exact fold_list (g := fun k s i => impl_LongestGap.l0 k s l (l.length : Int) i) (f := longF) (fin := fun s => s) l z109 0
    (fun s => Ev.one fun k => by simp only [impl_LongestGap.l0]; all_goals rw [if_neg (by omega)])
    (fun i s k hi => by
      simp only [impl_LongestGap.l0]
      rw [if_pos (by omega), if_pos (by omega), if_pos (by omega), wrap_nat (by omega)]
      rfl)

/-! impl_TicksOf -/
def tickF (s : Int) (x : S109) : Int := wrap64 (s + wrap64 (x.f1 - x.f0))
theorem impl_TicksOf.ev (l : List S109) (hl : l.length ≤ 1048576) : Ev (fun k => impl_TicksOf.f k l) ((joinS l).foldl tickF 0) := by
  refine Ev.bind (impl_JoinSpans.ev l hl) ?_
  have hl := joinS_len l
  generalize joinS l = l at hl
  exact fold_list (g := fun k s i => impl_TicksOf.l0 k s l (l.length : Int) i) (f := tickF) (fin := fun s => s) l z109 0
    (fun s => Ev.one fun k => by simp only [impl_TicksOf.l0]; all_goals rw [if_neg (by omega)])
    (fun i s k hi => by
      simp only [impl_TicksOf.l0]
      rw [if_pos (by omega), if_pos (by omega), if_pos (by omega), wrap_nat (by omega)]
      rfl)

/-! d_fhand -/
theorem fold_idx {α : Type} (I : Nat → α → Prop) (f : α → Nat → α) : ∀ (d i : Nat) (s : α), (∀ j s, i ≤ j → j < i + d → I j s → I (j + 1) (f s j)) → I i s → I (i + d) ((List.range' i d).foldl f s)
  | 0, _, _, _, h => h
  | d + 1, i, s, hs, h => by
    rw [List.range'_succ, List.foldl_cons, show i + (d + 1) = (i + 1) + d by omega]
    exact fold_idx I f d (i + 1) _ (fun j s h1 h2 => hs j s (by omega) (by omega)) (hs i s (by omega) (by omega) h)
theorem cov_snoc (a : List S109) (y : S109) (t : Int) : covT (a ++ [y]) t = (covT a t || inSpan y.f0 y.f1 t) := by
  unfold covT
  rw [List.any_append]
  simp
theorem put_inv (o : List S109) (i : Nat) (hi : i < 1000) (h : ∀ x ∈ o, isSpan x.f0 x.f1 = true ∧ x.f1 ≤ (i : Int)) :
    (∀ x ∈ putS o (i : Int), isSpan x.f0 x.f1 = true ∧ x.f1 ≤ ((i + 1 : Nat) : Int)) ∧ ∀ t : Nat, covT (putS o (i : Int)) (t : Int) = (covT o (t : Int) || decide (t = i)) := by
  have hnew : isSpan (i : Int) ((i : Int) + 1) = true := by
    unfold isSpan
    simp only [Bool.and_eq_true, decide_eq_true_eq]
    omega
  unfold putS
  split
  · rename_i hc
    rcases List.eq_nil_or_concat o with rfl | ⟨a, y, rfl⟩
    · simp at hc
    · rw [List.concat_eq_append] at hc h ⊢
      have e1 : (a ++ [y]).getD ((a ++ [y]).length - 1) z109 = y := by simp [List.getD_eq_getElem?_getD]
      rw [e1] at hc ⊢
      have e2 : (a ++ [y]).set ((a ++ [y]).length - 1) (⟨y.f0, (i : Int) + 1⟩ : S109) = a ++ [⟨y.f0, (i : Int) + 1⟩] := by simp
      rw [e2]
      have hy := (h y (by simp)).1
      unfold isSpan at hy
      simp only [Bool.and_eq_true, decide_eq_true_eq] at hy
      refine ⟨fun x hx => ?_, fun t => ?_⟩
      · rcases List.mem_append.1 hx with hx | hx
        · have := h x (List.mem_append_left _ hx)
          exact ⟨this.1, by omega⟩
        · rw [List.mem_singleton] at hx
          subst hx
          unfold isSpan
          simp only [Bool.and_eq_true, decide_eq_true_eq]
          omega
      · rw [cov_snoc, cov_snoc, Bool.or_assoc]
        refine congrArg (fun b => (covT a (t : Int) || b)) ?_
        rw [Bool.eq_iff_iff]
        unfold inSpan isSpan
        simp only [Bool.and_eq_true, Bool.or_eq_true, decide_eq_true_eq]
        omega
  · refine ⟨fun x hx => ?_, fun t => ?_⟩
    · rcases List.mem_append.1 hx with hx | hx
      · have := h x hx
        exact ⟨this.1, by omega⟩
      · rw [List.mem_singleton] at hx
        subst hx
        exact ⟨hnew, by show (i : Int) + 1 ≤ _; omega⟩
    · rw [cov_snoc]
      refine congrArg (fun b => (covT o (t : Int) || b)) ?_
      rw [Bool.eq_iff_iff]
      unfold inSpan isSpan
      simp only [Bool.and_eq_true, decide_eq_true_eq]
      omega
theorem lt_other {t j : Nat} (h : ¬ t = j) : decide (t < j + 1) = decide (t < j) := by
  by_cases c : t < j
  · rw [decide_eq_true c, decide_eq_true (by omega)]
  · rw [decide_eq_false c, decide_eq_false (by omega)]
theorem join_invN (l : List S109) (N : Nat) (hN : N ≤ 1000) : (∀ x ∈ (List.range' 0 N).foldl (fun o j => joinStep (covT l) o j) [], isSpan x.f0 x.f1 = true ∧ x.f1 ≤ ((N : Nat) : Int)) ∧ ∀ t : Nat, covT ((List.range' 0 N).foldl (fun o j => joinStep (covT l) o j) []) (t : Int) = (decide (t < N) && covT l (t : Int)) := by
  have h := fold_idx (fun i o => (∀ x ∈ o, isSpan x.f0 x.f1 = true ∧ x.f1 ≤ ((i : Nat) : Int)) ∧ ∀ t : Nat, covT o (t : Int) = (decide (t < i) && covT l (t : Int))) (fun o j => joinStep (covT l) o j) N 0 [] (fun j o _ hj ho => ?_) ⟨fun x hx => (by cases hx), fun t => (by rw [decide_eq_false (by omega)]; rfl)⟩
  · rw [Nat.zero_add] at h
    exact h
  · unfold joinStep
    by_cases c : covT l (j : Int) = true
    · rw [if_pos c]
      obtain ⟨h1, h2⟩ := put_inv o j (by omega) ho.1
      refine ⟨h1, fun t => ?_⟩
      rw [h2, ho.2]
      by_cases e : t = j
      · subst e
        rw [c]; simp
      · rw [decide_eq_false e, Bool.or_false, lt_other e]
    · rw [if_neg c]
      have c' : covT l (j : Int) = false := by simpa using c
      refine ⟨fun x hx => ⟨(ho.1 x hx).1, by have := (ho.1 x hx).2; omega⟩, fun t => ?_⟩
      rw [ho.2]
      by_cases e : t = j
      · subst e
        rw [c']; simp
      · rw [lt_other e]
theorem join_inv (l : List S109) : (∀ x ∈ joinS l, isSpan x.f0 x.f1 = true ∧ x.f1 ≤ ((1000 : Nat) : Int)) ∧ ∀ t : Nat, covT (joinS l) (t : Int) = (decide (t < 1000) && covT l (t : Int)) := by
  exact join_invN l 1000 (Nat.le_refl _)
theorem fold_same {α : Type} (f g : α → Nat → α) : ∀ (d i : Nat) (s : α), (∀ j s, i ≤ j → j < i + d → f s j = g s j) → (List.range' i d).foldl f s = (List.range' i d).foldl g s
  | 0, _, _, _ => rfl
  | d + 1, i, s, h => by
    rw [List.range'_succ, List.foldl_cons, List.foldl_cons, h i s (by omega) (by omega)]
    exact fold_same f g d (i + 1) _ (fun j s h1 h2 => h j s (by omega) (by omega))
theorem join_join (l : List S109) : joinS (joinS l) = joinS l := by
  have h := (join_inv l).2
  conv => lhs; unfold joinS
  conv => rhs; unfold joinS
  refine fold_same _ _ 1000 0 [] (fun j s _ hj => ?_)
  show joinStep (covT (joinS l)) s j = joinStep (covT l) s j
  unfold joinStep
  rw [h j, decide_eq_true (show j < 1000 by omega), Bool.true_and]
theorem cov_sel (p : List S112) (q : Int → Bool) (t : Int) : ∀ (d i : Nat) (o : List S109), covT ((List.range' i d).foldl (fun (o : List S109) (j : Nat) => if q (j : Int) = true then o ++ [(⟨(rd_T112 p (j : Int)).f0.f0, (rd_T112 p (j : Int)).f0.f1⟩ : S109)] else o) o) t = (covT o t || (List.range' i d).any fun j => q (j : Int) && inSpan (rd_T112 p (j : Int)).f0.f0 (rd_T112 p (j : Int)).f0.f1 t)
  | 0, _, o => by simp
  | d + 1, i, o => by
    rw [List.range'_succ, List.foldl_cons, cov_sel p q t d (i + 1), List.any_cons]
    by_cases c : q (i : Int) = true
    · rw [if_pos c, cov_snoc, c, Bool.true_and, Bool.or_assoc]
    · have c' : q (i : Int) = false := by simpa using c
      rw [if_neg c, c', Bool.false_and, Bool.false_or]
theorem okP_span {p : List S112} (h : okP p) {i : Nat} (hi : i < p.length) : isSpan (p.getD i z112).f0.f0 (p.getD i z112).f0.f1 = true :=
  h.1 _ (List.mem_map_of_mem (getD_mem p z112 hi))
theorem okP_lt {p : List S112} (h : okP p) {i j : Nat} (hij : i < j) (hj : j < p.length) : (p.getD i z112).f0.f1 ≤ (p.getD j z112).f0.f0 := by
  have h2 := List.pairwise_iff_getElem.1 (List.pairwise_map.1 h.2) i j (by omega) hj hij
  rw [List.getD_eq_getElem?_getD, List.getD_eq_getElem?_getD, List.getElem?_eq_getElem (show i < p.length by omega), List.getElem?_eq_getElem hj]
  exact h2
theorem okP_one {p : List S112} (h : okP p) {i j : Nat} (hi : i < p.length) (hj : j < p.length) {t : Int} (h1 : inSpan (p.getD i z112).f0.f0 (p.getD i z112).f0.f1 t = true) (h2 : inSpan (p.getD j z112).f0.f0 (p.getD j z112).f0.f1 t = true) : i = j := by
  unfold inSpan at h1 h2
  simp only [Bool.and_eq_true, decide_eq_true_eq] at h1 h2
  rcases Nat.lt_trichotomy i j with c | c | c
  · have := okP_lt h c hj; omega
  · exact c
  · have := okP_lt h c hi; omega
theorem first_spec {α : Type} (q : α → Bool) (z : α) : ∀ (l : List α) (i : Nat), (firstAt q l i = -1 ∧ ∀ x ∈ l, q x = false) ∨ ∃ j : Nat, j < l.length ∧ firstAt q l i = ((i + j : Nat) : Int) ∧ q (l.getD j z) = true
  | [], i => .inl ⟨rfl, fun x hx => by cases hx⟩
  | x :: l, i => by
    rw [firstAt]
    by_cases c : q x = true
    · rw [if_pos c]
      exact .inr ⟨0, by simp, rfl, c⟩
    · rw [if_neg c]
      have c' : q x = false := by simpa using c
      rcases first_spec q z l (i + 1) with ⟨h1, h2⟩ | ⟨j, hj, h1, h2⟩
      · refine .inl ⟨h1, fun y hy => ?_⟩
        rcases List.mem_cons.1 hy with rfl | hy
        · exact c'
        · exact h2 y hy
      · refine .inr ⟨j + 1, by rw [List.length_cons]; omega, by rw [h1]; congr 1; omega, ?_⟩
        rw [List.getD_cons_succ]
        exact h2
theorem sel_at {p : List S112} (h : okP p) (q : Int → Bool) (t : Int) : ((List.range' 0 p.length).any fun j => q (j : Int) && inSpan (rd_T112 p (j : Int)).f0.f0 (rd_T112 p (j : Int)).f0.f1 t) = (decide (pieceAt p t ≥ 0) && q (pieceAt p t)) := by
  have hr : ∀ j : Nat, rd_T112 p ((j : Nat) : Int) = p.getD j z112 := fun j => rfl
  unfold pieceAt
  rcases first_spec (fun x : S112 => inSpan x.f0.f0 x.f0.f1 t) z112 p 0 with ⟨h1, h2⟩ | ⟨j, hj, h1, h2⟩
  · rw [h1]
    rw [show (decide ((-1 : Int) ≥ 0) && q (-1)) = false by rw [decide_eq_false (by omega)]; rfl]
    rw [List.any_eq_false]
    intro j hj
    rw [List.mem_range'_1] at hj
    rw [hr, h2 _ (getD_mem p z112 (by omega))]
    simp
  · rw [h1, Nat.zero_add, decide_eq_true (show ((j : Nat) : Int) ≥ 0 by omega), Bool.true_and]
    cases c : q ((j : Nat) : Int) with
    | true =>
      rw [List.any_eq_true]
      exact ⟨j, by rw [List.mem_range'_1]; omega, by rw [c, hr, h2]; rfl⟩
    | false =>
      rw [List.any_eq_false]
      intro i hi
      rw [List.mem_range'_1] at hi
      rw [hr]
      cases c2 : inSpan (p.getD i z112).f0.f0 (p.getD i z112).f0.f1 t with
      | true =>
        have := okP_one h (show i < p.length by omega) hj c2 h2
        subst this
        rw [c]; simp
      | false => simp
theorem gaps_at {p : List S112} (h : okP p) (site : Int) (t : Nat) (ht : t < 1000) : covT (joinS (gapsL p site)) (t : Int) = (decide (pieceAt p (t : Int) ≥ 0) && gapQ p site (pieceAt p (t : Int))) := by
  rw [(join_inv _).2, decide_eq_true ht, Bool.true_and, ← sel_at h]
  have := cov_sel p (gapQ p site) (t : Int) p.length 0 []
  exact this
theorem service_at {p : List S112} (h : okP p) (site server : Int) (t : Nat) (ht : t < 1000) : covT (joinS (serviceL p site server)) (t : Int) = (decide (pieceAt p (t : Int) ≥ 0) && srvQ p site server (pieceAt p (t : Int))) := by
  rw [(join_inv _).2, decide_eq_true ht, Bool.true_and, ← sel_at h]
  have := cov_sel p (srvQ p site server) (t : Int) p.length 0 []
  exact this
theorem longest_le : ∀ (l : List S109) (m s : Int), (∀ x ∈ l, isSpan x.f0 x.f1 = true ∧ x.f1 ≤ ((1000 : Nat) : Int)) → 0 ≤ m → m ≤ s → s + 1000 * (l.length : Int) ≤ 4611686018427387904 → l.foldl longF m ≤ l.foldl tickF s
  | [], _, _, _, _, h, _ => h
  | x :: l, m, s, hx, h0, h1, h2 => by
    rw [List.foldl_cons, List.foldl_cons]
    have h3 := (hx x (by simp)).1
    unfold isSpan at h3
    simp only [Bool.and_eq_true, decide_eq_true_eq] at h3
    rw [List.length_cons] at h2
    have e1 : longF m x = mx m (x.f1 - x.f0) := by unfold longF; rw [wrap_id (by omega) (by omega)]
    have e2 : tickF s x = s + (x.f1 - x.f0) := by unfold tickF; rw [wrap_id (x := x.f1 - x.f0) (by omega) (by omega), wrap_id (by omega) (by omega)]
    rw [e1, e2]
    refine longest_le l _ _ (fun y hy => hx y (List.mem_cons_of_mem _ hy)) ?_ ?_ ?_
    · unfold mx; split <;> omega
    · unfold mx; split <;> omega
    · omega
/-- What stands in the list of handovers when all pieces before piece j are seen. -/
def HandI (p : List S112) (site : Int) (j : Nat) (o : List S87) : Prop :=
  (∀ i : Nat, i < o.length → eqL (o.getD i z87).f1 (o.getD i z87).f2 = false ∧ (0 < i → (o.getD (i - 1) z87).f0 < (o.getD i z87).f0 ∧ eqL (o.getD (i - 1) z87).f2 (o.getD i z87).f1 = true)) ∧
  (0 < o.length → (o.getD (o.length - 1) z87).f2 = serversIn p ((j - 1 : Nat) : Int) site ∧ (o.getD (o.length - 1) z87).f0 ≤ (p.getD (j - 1) z112).f0.f0)
theorem getD_snoc {α : Type} (o : List α) (y z : α) (i : Nat) : (o ++ [y]).getD i z = if i < o.length then o.getD i z else if i = o.length then y else z := by
  rw [List.getD_eq_getElem?_getD, List.getD_eq_getElem?_getD]
  by_cases h : i < o.length
  · rw [if_pos h, List.getElem?_append_left h]
  · rw [if_neg h, List.getElem?_append_right (by omega)]
    by_cases e : i = o.length
    · rw [if_pos e, e]; simp
    · rw [if_neg e, List.getElem?_eq_none (by simp; omega)]; rfl
theorem hand_inv {p : List S112} (h : okP p) (site : Int) : ∃ j, HandI p site j (handL p site) := by
  by_cases h0 : p.length = 0
  · refine ⟨0, ?_⟩
    have : handL p site = [] := by unfold handL; rw [h0]; rfl
    rw [this]
    exact ⟨fun i hi => absurd hi (by simp), fun hi => absurd hi (by simp)⟩
  · refine ⟨1 + (p.length - 1), ?_⟩
    unfold handL
    refine fold_idx (HandI p site) (fun o j => handStep p site o j) (p.length - 1) 1 [] (fun j o h1 h2 ho => ?_) ⟨fun i hi => absurd hi (by simp), fun hi => absurd hi (by simp)⟩
    have hlt := okP_lt h (show j - 1 < j by omega) (show j < p.length by omega)
    have hsp := okP_span h (show j - 1 < p.length by omega)
    unfold isSpan at hsp
    simp only [Bool.and_eq_true, decide_eq_true_eq] at hsp
    show HandI p site (j + 1) (handStep p site o j)
    unfold handStep
    by_cases c : eqL (serversIn p ((j - 1 : Nat) : Int) site) (serversIn p (j : Int) site) = true
    · rw [if_pos c]
      refine ⟨ho.1, fun hl => ?_⟩
      have := ho.2 hl
      have e := of_decide_eq_true c
      rw [Nat.add_sub_cancel]
      exact ⟨this.1.trans e, by omega⟩
    · rw [if_neg c]
      have c' : eqL (serversIn p ((j - 1 : Nat) : Int) site) (serversIn p (j : Int) site) = false := by simpa using c
      have hr : (rd_T112 p ((j : Nat) : Int)).f0.f0 = (p.getD j z112).f0.f0 := rfl
      refine ⟨fun i hi => ?_, fun _ => ?_⟩
      · rw [List.length_append, List.length_singleton] at hi
        by_cases ci : i < o.length
        · rw [getD_snoc, if_pos ci]
          refine ⟨(ho.1 i ci).1, fun h0 => ?_⟩
          rw [getD_snoc, if_pos (by omega)]
          exact (ho.1 i ci).2 h0
        · have e : i = o.length := by omega
          rw [getD_snoc, if_neg ci, if_pos e]
          refine ⟨c', fun h0 => ?_⟩
          rw [getD_snoc, if_pos (by omega), e]
          have := ho.2 (by omega)
          exact ⟨by show _ < (rd_T112 p ((j : Nat) : Int)).f0.f0; omega, by rw [this.1]; exact decide_eq_true rfl⟩
      · rw [List.length_append, List.length_singleton, Nat.add_sub_cancel, getD_snoc, if_neg (by omega), if_pos rfl, Nat.add_sub_cancel]
        exact ⟨rfl, by rw [← hr]; exact Int.le_refl _⟩

/-! @@ FnHandovers -/
theorem h1000 {n : Nat} (h : n ≤ 1000) : n ≤ 1048576 := Nat.le_trans h (by omega)
theorem proved : Stated := by
  intro l0 ⟨hl, hw⟩
  refine Ev.rounds ?_
  refine Ev.congr (fun k => by unfold laws_FnHandovers.f; rw [laws_big.val, Option.bind_some]) ?_
  by_cases hb : decide ((l0.length : Int) > 1048576) = true
  · exact Ev.all fun k => by rw [if_pos hb]
  have hb' : ¬ ((l0.length : Int) > 1048576) := fun h => hb (decide_eq_true h)
  obtain ⟨x, y, z, p, site, hdraw, hp, hP⟩ := spec_DrawHandoversOf.ok l0 (by omega)
  refine Ev.congr (fun k => by rw [if_neg hb]) (Ev.bind hdraw (Ev.bind (impl_HandoversOf.ev x y z p site hp) (Ev.bind (impl_GapsOf.ev x y z p site hp) ?_)))
  obtain ⟨hHl, hHo⟩ := handL_ok p site hp
  obtain ⟨jj, hI, _⟩ := hand_inv hP site
  have hGl := joinS_len (gapsL p site)
  have hga := gaps_at hP site
  have hLG := impl_LongestGap.ev x y z p site hp
  have hle := longest_le (joinS (gapsL p site)) 0 0 (join_inv (gapsL p site)).1 (by omega) (by omega) (by omega)
  have hTk := impl_TicksOf.ev (joinS (gapsL p site)) (by omega)
  rw [join_join] at hTk
  have hle2 : longest (joinS (gapsL p site)) ≤ (joinS (gapsL p site)).foldl tickF 0 := hle
  show Ev (fun k => laws_FnHandovers.l0 k site (handL p site) (joinS (gapsL p site)) 0 x y z p) true
  generalize handL p site = H at hHl hHo hI
  generalize joinS (gapsL p site) = G at hGl hga hLG hle2 hTk
  -- the handovers
  have hend : Ev (fun k => laws_FnHandovers.l2 k site H G (H.length : Int) x y z p) true := by
    refine Ev.step (fun k => by simp only [laws_FnHandovers.l2]; rw [if_neg (by omega)]) (Ev.bind hLG (Ev.bind hTk ?_))
    exact Ev.all fun k => by rw [decide_eq_true hle2]
  have hl2 : ∀ e i : Nat, i + e = H.length → Ev (fun k => laws_FnHandovers.l2 k site H G (i : Int) x y z p) true := by
    intro e
    induction e with
    | zero =>
      intro i hi
      have : i = H.length := by omega
      subst this
      exact hend
    | succ e ih =>
      intro i hi
      have hnext := ih (i + 1) (by omega)
      obtain ⟨hne, hprev⟩ := hI i (by omega)
      have hmem := hHo _ (getD_mem H z87 (show i < H.length by omega))
      have hri : rd_T87 H ((i : Nat) : Int) = H.getD i z87 := rfl
      have hj4 : Ev (fun k => laws_FnHandovers.j4 k site H G (i : Int) false x y z p) true := by
        refine Ev.step (fun k => by simp only [laws_FnHandovers.j4]; rw [if_neg (by simp), if_pos (by omega), if_pos (by omega), impl_IsSmooth.val, Option.bind_some, wrap_nat (by omega), hri]) ?_
        by_cases c : ((H.getD i z87).f1.any fun y => hasB (H.getD i z87).f2 y) = true
        · have c2 := c
          rw [List.any_eq_true] at c2
          obtain ⟨v, hv1, hv2⟩ := c2
          rw [hasB_iff] at hv2
          have l1 := List.length_pos_of_mem hv1
          have l2 := List.length_pos_of_mem hv2
          exact Ev.congr (fun k => by rw [if_pos c, if_neg (by omega), if_neg (by omega)]) hnext
        · exact Ev.congr (fun k => by rw [if_neg c]) hnext
      refine Ev.step (fun k => by simp only [laws_FnHandovers.l2]; rw [if_pos (by omega), if_pos (by omega), hri]) (Ev.bind (impl_EqualInts.ev _ _ hmem.1) ?_)
      by_cases ci : i = 0
      · exact Ev.congr (fun k => by rw [if_neg (by rw [hne]; simp), if_neg (by omega)]) hj4
      · obtain ⟨h1, h2⟩ := hprev (by omega)
        have hrp : rd_T87 H (wrap64 ((i : Int) - 1)) = H.getD (i - 1) z87 := by rw [wrap_pred (by omega) (by omega)]; rfl
        have hmemp := hHo _ (getD_mem H z87 (show i - 1 < H.length by omega))
        refine Ev.congr (fun k => by rw [if_neg (by rw [hne]; simp), if_pos (by omega), hrp, if_pos (by rw [wrap_pred (by omega) (by omega)]; omega), if_pos (by rw [wrap_pred (by omega) (by omega)]; omega), if_neg (by omega)]) (Ev.bind (impl_EqualInts.ev _ _ hmemp.2) ?_)
        rw [h2]
        exact hj4
  -- the ticks
  have hl0 : ∀ e t : Nat, t + e = 24 → Ev (fun k => laws_FnHandovers.l0 k site H G (t : Int) x y z p) true := by
    intro e
    induction e with
    | zero =>
      intro t ht
      exact Ev.step (fun k => by simp only [laws_FnHandovers.l0]; rw [if_neg (by omega)]; rfl) (hl2 H.length 0 (by omega))
    | succ e ih =>
      intro t ht
      have hnext := ih (t + 1) (by omega)
      have hg := hga t (by omega)
      have hs := fun server => service_at hP site server t (by omega)
      have hsl := servers_len p (pieceAt p (t : Int)) site hp
      have hl1 : ∀ (s : List Int), s.length ≤ 1048576 → (∀ v ∈ s, covT (joinS (serviceL p site v)) (t : Int) = true) → ∀ d i : Nat, i + d = s.length → Ev (fun k => laws_FnHandovers.l1 k site H G (t : Int) s (i : Int) x y z p) true := by
        intro s hsl hsv d
        induction d with
        | zero =>
          intro i hi
          exact Ev.step (fun k => by simp only [laws_FnHandovers.l1]; rw [if_neg (by omega), wrap_nat (by omega)]) hnext
        | succ d ih =>
          intro i hi
          have hv : covT (joinS (serviceL p site (rd s ((i : Nat) : Int)))) (t : Int) = true := hsv _ (getD_mem s 0 (by omega))
          have hSv := impl_ServiceOf.ev x y z p site (rd s ((i : Nat) : Int)) hp
          have hlen := h1000 (joinS_len (serviceL p site (rd s ((i : Nat) : Int))))
          generalize joinS (serviceL p site (rd s ((i : Nat) : Int))) = GS at hv hSv hlen
          have hIn := impl_InSpans.ev GS (t : Int) hlen
          refine Ev.step (fun k => by simp only [laws_FnHandovers.l1]; rw [if_pos (by omega), if_pos (by omega)]) (Ev.bind hSv (Ev.bind hIn ?_))
          exact Ev.congr (fun k => by rw [if_pos hv, wrap_nat (by omega)]) (ih (i + 1) (by omega))
      have hj1 : ∀ b, b = false → Ev (fun k => laws_FnHandovers.j1 k site H G (t : Int) (serversIn p (pieceAt p (t : Int)) site) b x y z p) true := fun b hb => by
        subst hb
        refine Ev.step (fun k => by simp only [laws_FnHandovers.j1]; rw [if_neg (by simp)]; rfl) (hl1 _ hsl (fun v hv => ?_) _ 0 (Nat.zero_add _))
        rw [hs v]
        have hk : pieceAt p (t : Int) ≥ 0 := by
          unfold serversIn at hv
          by_cases c : idxB (pieceAt p (t : Int)) p.length = true
          · exact ((idxB_iff _ _).1 c).1
          · rw [if_neg c] at hv; cases hv
        rw [decide_eq_true hk, Bool.true_and]
        unfold srvQ
        rw [hasB_iff]
        exact hv
      refine Ev.step (fun k => by simp only [laws_FnHandovers.l0]; rw [if_pos (by omega), impl_PieceAt.val, Option.bind_some]) (Ev.bind (impl_ServersIn.ev x y z p _ site hp) (Ev.bind (impl_InSpans.ev G (t : Int) (by omega)) ?_))
      by_cases c : pieceAt p (t : Int) ≥ 0
      · rw [decide_eq_true c, Bool.true_and] at hg
        refine Ev.congr (fun k => by rw [if_pos c]) (hj1 _ ?_)
        rw [hg]
        unfold gapQ
        generalize ((serversIn p (pieceAt p (t : Int)) site).length : Int) = n
        by_cases e : n = 0
        · rw [decide_eq_true e, beq_iff_eq.2 e]; rfl
        · rw [decide_eq_false e, beq_eq_false_iff_ne.2 e]; rfl
      · rw [decide_eq_false c, Bool.false_and] at hg
        refine Ev.congr (fun k => by rw [if_neg c]) (hj1 _ ?_)
        rw [hg]; rfl
  exact hl0 24 0 (by omega)

end Go.Proofs.Ytlogjmgghnifoaa.PureFnHandovers
