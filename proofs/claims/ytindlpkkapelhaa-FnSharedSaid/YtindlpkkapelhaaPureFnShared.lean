/- FnShared, over numbers and lists alone: what the program's function and the reference's answer is one. Conditions: the numbers are of their kinds. -/
import Derived.Test.YtindlpkkapelhaaKindsFnShared
import Derived.Test.YtindlpkkapelhaaBase
namespace Go.Proofs.Ytindlpkkapelhaa.PureFnShared
open Go.RowKit Go.Proofs.Ytindlpkkapelhaa.PFnShared Go.Proofs.YtindlpkkapelhaaW.PrintWords Go.Proofs.YtindlpkkapelhaaW.PrintLast Go.Proofs.YtindlpkkapelhaaW.PrintMore Go.Proofs.Ytindlpkkapelhaa.Base
set_option linter.unusedVariables false
set_option linter.unusedSimpArgs false

/-! impl_InRange -/
theorem impl_InRange.val (a lo hi : Int) : impl_InRange.f a lo hi = some (inR a lo hi) := by
  unfold impl_InRange.f inR
  by_cases h : lo ≤ a
  · rw [if_pos h]; simp [h]
  · rw [if_neg h]; simp; omega

/-! d_wsum -/
def wsum (s : Int) (l : List Int) : Int := l.foldl (fun a b => wrap64 (a + b)) s

/-! impl_sumOf -/
theorem impl_sumOf.ev (l : List Int) (hl : l.length ≤ 1048576) : Ev (fun k => impl_sumOf.f k l) (wsum 0 l) :=
  fold_list (g := fun k s i => impl_sumOf.l0 k s l l.length i) (f := fun a b => wrap64 (a + b)) (fin := fun s => s) l 0 0
    (fun s => Ev.one fun k => by simp only [impl_sumOf.l0]; rw [if_neg (by omega)])
    (fun i s k hi => by
      simp only [impl_sumOf.l0]
      rw [if_pos (by omega), if_pos (by omega), if_pos (by omega), wrap_nat (by omega)]
      rfl)

/-! d_contractB -/
def badP (x : Int) : Bool := !inR x 0 100
def contractB (l : List Int) : Bool := !l.any badP && inR (l.length : Int) 1 6 && decide (wsum 0 l > 0)

/-! impl_IsContract -/
theorem impl_IsContract.ev (l : List Int) (hl : l.length ≤ 1048576) : Ev (fun k => impl_IsContract.f k l) (contractB l) := by
  have h := find_list (g := fun k i => impl_IsContract.l0 k l l.length i l) (q := badP) (r := false) (e := inR (l.length : Int) 1 6 && decide (wsum 0 l > 0)) l 0
    (by
      refine Ev.step (f := fun k => if inR (l.length : Int) 1 6 = true then (impl_sumOf.f k l).bind fun t => some (decide (t > 0)) else some false) (fun k => by simp only [impl_IsContract.l0, impl_InRange.val, Option.bind_some]; rw [if_neg (by omega)]) ?_
      by_cases h1 : inR (l.length : Int) 1 6 = true
      · refine Ev.congr (fun k => by rw [if_pos h1]) ?_
        rw [h1, Bool.true_and]
        exact Ev.bind (impl_sumOf.ev l hl) (Ev.now _)
      · exact Ev.all fun k => by rw [if_neg h1]; simp [h1])
    (fun i k hi => by
      simp only [impl_IsContract.l0, impl_InRange.val, Option.bind_some]
      rw [if_pos (by omega), if_pos (by omega), if_pos (by omega), wrap_nat (by omega)]
      show (if inR (l.getD i 0) 0 100 = true then _ else _) = (if badP (l.getD i 0) = true then _ else _)
      unfold badP
      by_cases h1 : inR (l.getD i 0) 0 100 = true
      · rw [if_pos h1, if_neg (by rw [h1]; simp)]
      · rw [if_neg h1, if_pos (by simpa using h1)])
  have e : (if l.any badP = true then false else inR (l.length : Int) 1 6 && decide (wsum 0 l > 0)) = contractB l := by
    unfold contractB
    generalize l.any badP = b
    cases b <;> simp
  rw [e] at h
  exact h

/-! slices_Clone_int_int -/
theorem slices_Clone_int_int.val (l : List Int) (hl : l.length ≤ 1048576) : slices_Clone_int_int.f l = some l := by
  unfold slices_Clone_int_int.f
  rw [if_pos (by omega)]

/-! impl_isIndex -/
theorem impl_isIndex.val (a n : Int) : impl_isIndex.f a n = some (decide (0 ≤ a) && decide (a < n)) := by
  unfold impl_isIndex.f
  by_cases h : a ≥ 0
  · rw [if_pos h]; simp [h]
  · rw [if_neg h]; simp; omega
theorem impl_isIndex.nat (a : Int) (n : Nat) : impl_isIndex.f a (n : Int) = some (idxB a n) := impl_isIndex.val a n

/-! d_lend -/
def lendBad (l : List Int) (a b n : Int) : Bool := !(idxB a l.length && idxB b l.length && !decide (n < 0) && !decide (n > rd l a))
def lendY (l : List Int) (a b n : Int) : List Int := (l.set a.toNat (wrap64 (rd l a - n))).set b.toNat (wrap64 (rd (l.set a.toNat (wrap64 (rd l a - n))) b + n))
def lend (l : List Int) (a b n : Int) : List Int × Bool := if lendBad l a b n = true then (l, false) else if contractB (lendY l a b n) = true then (lendY l a b n, true) else (l, false)
theorem lend_len (l : List Int) (a b n : Int) : (lend l a b n).1.length = l.length := by
  unfold lend
  split
  · rfl
  · split
    · simp [lendY]
    · rfl

/-! impl_LendParts -/
theorem impl_LendParts.ev (l : List Int) (a b n : Int) (hl : l.length ≤ 1048576) : Ev (fun k => impl_LendParts.f k l a b n) (lend l a b n) := by
  have bad : ∀ x : Bool, x = true → Ev (fun k => impl_LendParts.j0 k a b n x l l) (l, false) := fun x hx => Ev.one fun k => by simp only [impl_LendParts.j0]; rw [if_pos hx]
  refine Ev.congr (fun k => by unfold impl_LendParts.f; rw [slices_Clone_int_int.val l hl, Option.bind_some, impl_isIndex.nat, Option.bind_some, impl_isIndex.nat]) ?_
  unfold lend lendBad
  by_cases ha : idxB a l.length = true
  · have ha' := (idxB_iff _ _).1 ha
    refine Ev.congr (fun k => by rw [if_pos ha, Option.bind_some]) ?_
    by_cases hb : idxB b l.length = true
    · have hb' := (idxB_iff _ _).1 hb
      refine Ev.congr (fun k => by rw [if_pos hb]) ?_
      by_cases hn : n < 0
      · refine Ev.congr (fun k => by rw [if_pos hn]) ?_
        rw [if_pos (by simp [hn])]
        exact bad true rfl
      · refine Ev.congr (fun k => by rw [if_neg hn, if_pos ha'.1, if_pos ha'.2]) ?_
        by_cases hg : n > rd l a
        · rw [if_pos (by simp [hg])]
          exact bad _ (by simp [hg])
        · rw [if_neg (by simp [ha, hb, hn, hg])]
          refine Ev.step (fun k => by simp only [impl_LendParts.j0, Option.bind_some]; rw [if_neg (by simp [hg]), if_pos ha'.1, if_pos ha'.2, if_pos hb'.1, if_pos hb'.2]) ?_
          refine Ev.bind (impl_IsContract.ev (lendY l a b n) (by simp [lendY]; omega)) ?_
          by_cases hc : contractB (lendY l a b n) = true
          · rw [if_pos hc]
            exact Ev.all fun k => by rw [if_pos hc]; rfl
          · rw [if_neg hc]
            exact Ev.all fun k => by rw [if_neg hc, slices_Clone_int_int.val l hl]; rfl
    · refine Ev.congr (fun k => by rw [if_neg hb]) ?_
      rw [if_pos (by simp [hb])]
      exact bad true rfl
  · refine Ev.congr (fun k => by rw [if_neg ha]) ?_
    rw [if_pos (by simp [ha])]
    exact bad true rfl

/-! d_stable -/
open Go.Sort
theorem insInner_size {α : Type} [Inhabited α] (lt : α → α → Bool) (a : Nat) : ∀ (j : Nat) (d : Array α), (insInner lt a j d).size = d.size
  | 0, d => rfl
  | j + 1, d => by
    unfold insInner
    split
    · rw [insInner_size lt a j, swp_size]
    · rfl
theorem insInner_right {α : Type} [Inhabited α] (lt : α → α → Bool) (a : Nat) : ∀ (j : Nat) (d : Array α), j < d.size → ∀ q, j < q → (insInner lt a j d)[q]! = d[q]!
  | 0, d, _, q, _ => rfl
  | j + 1, d, hj, q, hq => by
    unfold insInner
    split
    · rw [insInner_right lt a j _ (by rw [swp_size]; omega) q (by omega), swp_get d hj (by omega), if_neg (by omega), if_neg (by omega)]
    · rfl
theorem insInner_left {α : Type} [Inhabited α] (lt : α → α → Bool) (a : Nat) (P : α → Prop) : ∀ (j : Nat) (d : Array α), j < d.size → (∀ p, p ≤ j → P d[p]!) → ∀ p, p ≤ j → P (insInner lt a j d)[p]!
  | 0, d, _, h, p, hp => h p hp
  | j + 1, d, hj, h, p, hp => by
    unfold insInner
    split
    · by_cases e : p = j + 1
      · subst e
        rw [insInner_right lt a j _ (by rw [swp_size]; omega) (j + 1) (by omega), swp_get d hj (by omega), if_neg (by omega), if_pos rfl]
        exact h j (by omega)
      · refine insInner_left lt a P j _ (by rw [swp_size]; omega) (fun q hq => ?_) p (by omega)
        rw [swp_get d hj (by omega)]
        split
        · exact h (j + 1) (by omega)
        · rw [if_neg (by omega)]; exact h q (by omega)
    · exact h p hp
theorem insInner_eq {α : Type} [Inhabited α] (lt lt' : α → α → Bool) (R : α → α → Prop) (hR : ∀ x y, R x y → lt y x = lt' y x) (a : Nat) : ∀ (j : Nat) (d : Array α), j < d.size → (∀ p, p < j → R d[p]! d[j]!) → insInner lt a j d = insInner lt' a j d
  | 0, d, _, _ => rfl
  | j + 1, d, hj, h => by
    unfold insInner
    rw [hR _ _ (h j (by omega)), insInner_eq lt lt' R hR a j _ (by rw [swp_size]; omega) fun p hp => ?_]
    rw [swp_get d hj (by omega), swp_get d hj (by omega), if_neg (by omega), if_neg (by omega), if_pos rfl]
    exact h p (by omega)
theorem insOuter_eq {α : Type} [Inhabited α] (lt lt' : α → α → Bool) (R : α → α → Prop) (hR : ∀ x y, R x y → lt y x = lt' y x) (a b : Nat) : ∀ (n i : Nat) (d : Array α), b - i = n → b ≤ d.size → (∀ p q, p < q → i ≤ q → q < d.size → R d[p]! d[q]!) → insOuter lt a b i d = insOuter lt' a b i d
  | 0, i, d, hn, _, _ => by
    rw [insOuter, if_neg (by omega), insOuter, if_neg (by omega)]
  | n + 1, i, d, hn, hb, h => by
    by_cases hi : i < b
    · rw [insOuter, if_pos hi, insOuter.eq_1 lt', if_pos hi, ← insInner_eq lt lt' R hR a i d (by omega) (fun p hp => h p i hp (by omega) (by omega))]
      refine insOuter_eq lt lt' R hR a b n (i + 1) _ (by omega) (by rw [insInner_size]; exact hb) fun p q hpq hq hqs => ?_
      rw [insInner_size] at hqs
      rw [insInner_right lt a i d (by omega) q (by omega)]
      by_cases hp : p ≤ i
      · exact insInner_left lt a (fun x => R x d[q]!) i d (by omega) (fun p' hp' => h p' q (by omega) (by omega) hqs) p hp
      · rw [insInner_right lt a i d (by omega) p (by omega)]
        exact h p q hpq (by omega) hqs
    · rw [insOuter, if_neg hi, insOuter, if_neg hi]
theorem stable_e {n : Nat} [Inhabited (Fin n)] (r : Fin n → Int) (d : Array (Fin n)) (hd : d.size = n) (hid : ∀ i, i < n → (d[i]!).val = i) : insertionSort (fun x y => decide (r y < r x)) d 0 n = insertionSort (fun x y => decide (r y * n - y.val < r x * n - x.val)) d 0 n := by

  unfold insertionSort
  refine insOuter_eq _ _ (fun x y => x.val < y.val) (fun x y hxy => ?_) 0 n (n - (0 + 1)) (0 + 1) d rfl (by omega) (fun p q hpq hq hqs => ?_)
  · show decide (r x < r y) = decide (r x * n - x.val < r y * n - y.val)
    rw [decide_eq_decide]
    have hx := x.isLt
    have hy := y.isLt
    constructor
    · intro h
      have h1 : (r x + 1) * n ≤ r y * n := Int.mul_le_mul_of_nonneg_right (by omega) (by omega)
      rw [Int.add_mul, Int.one_mul] at h1
      omega
    · intro h
      apply Classical.byContradiction
      intro hc
      have h1 : r y * n ≤ r x * n := Int.mul_le_mul_of_nonneg_right (by omega) (by omega)
      omega
  · rw [hid p (by omega), hid q (by omega)]; exact hpq
theorem stable_swo {n : Nat} (r : Fin n → Int) : SWO (fun x y : Fin n => decide (r y * n - y.val < r x * n - x.val)) := ⟨fun x => by simp, fun x y z h1 h2 => by simp only [decide_eq_true_eq] at *; omega, fun x y z h1 h2 => by simp only [decide_eq_false_iff_not] at *; omega⟩
theorem stable_mem {n : Nat} [Inhabited (Fin n)] (r : Fin n → Int) (d : Array (Fin n)) (hd : d.size = n) (hid : ∀ i, i < n → (d[i]!).val = i) (x : Fin n) : ∃ i, i < n ∧ (insertionSort (fun x y => decide (r y < r x)) d 0 n)[i]! = x := by
  rw [stable_e r d hd hid]
  obtain ⟨h1, _⟩ := insertionSort_holds (stable_swo r) d 0 n (by omega) (by omega)
  have hP := h1.2.2
  have hs := h1.1
  generalize insertionSort (fun x y => decide (r y * n - y.val < r x * n - x.val)) d 0 n = o at hP hs
  have hx : ∀ z : Array (Fin n), z.size = n → z.extract 0 n = z := fun z hz => by apply Array.ext (by simp; omega) (fun k h1 h2 => by simp)
  rw [hx o (by omega), hx d hd] at hP
  have hm : x ∈ d.toList := by
    have h := hid x.val x.isLt
    have hlt : x.val < d.size := by rw [hd]; exact x.isLt
    rw [getElem!_pos d x.val hlt] at h
    rw [← Fin.ext h]
    exact Array.getElem_mem_toList hlt
  obtain ⟨i, hi, he⟩ := List.getElem_of_mem (hP.mem_iff.2 hm)
  have hi' : i < o.size := by simpa using hi
  exact ⟨i, by omega, by rw [getElem!_pos o i hi']; simpa using he⟩
/-- The stable order: descending by r, equals by their index. -/
theorem stable_order {n : Nat} [Inhabited (Fin n)] (r : Fin n → Int) (d : Array (Fin n)) (hd : d.size = n) (hid : ∀ i, i < n → (d[i]!).val = i) :
    (insertionSort (fun x y => decide (r y < r x)) d 0 n).size = n ∧ (∀ i j, i < j → j < n → (r (insertionSort (fun x y => decide (r y < r x)) d 0 n)[j]! < r (insertionSort (fun x y => decide (r y < r x)) d 0 n)[i]! ∨ (r (insertionSort (fun x y => decide (r y < r x)) d 0 n)[j]! = r (insertionSort (fun x y => decide (r y < r x)) d 0 n)[i]! ∧ (insertionSort (fun x y => decide (r y < r x)) d 0 n)[i]!.val < (insertionSort (fun x y => decide (r y < r x)) d 0 n)[j]!.val))) := by
  have e := stable_e r d hd hid
  rw [e]
  have hS : SWO (fun x y : Fin n => decide (r y * n - y.val < r x * n - x.val)) := ⟨fun x => by simp, fun x y z h1 h2 => by simp only [decide_eq_true_eq] at *; omega, fun x y z h1 h2 => by simp only [decide_eq_false_iff_not] at *; omega⟩
  obtain ⟨h1, h2⟩ := insertionSort_holds hS d 0 n (by omega) (by omega)
  refine ⟨h1.1.trans hd, fun i j hij hj => ?_⟩
  have h3 := h2 i j (by omega) hij hj
  simp only [decide_eq_false_iff_not] at h3
  have hne : (insertionSort (fun x y => decide (r y * n - y.val < r x * n - x.val)) d 0 n)[i]! ≠ (insertionSort (fun x y => decide (r y * n - y.val < r x * n - x.val)) d 0 n)[j]! := by
    have hP := h1.2.2
    have hs := h1.1
    generalize insertionSort (fun x y => decide (r y * n - y.val < r x * n - x.val)) d 0 n = o at hP hs
    have hx : ∀ z : Array (Fin n), z.size = n → z.extract 0 n = z := fun z hz => by apply Array.ext (by simp; omega) (fun k h1 h2 => by simp)
    rw [hx o (by omega), hx d hd] at hP
    have hnd : d.toList.Nodup := by
      rw [List.nodup_iff_pairwise_ne, List.pairwise_iff_getElem]
      intro p q hp hq hpq e
      have e1 := hid p (by simp at hp; omega)
      have e2 := hid q (by simp at hq; omega)
      rw [getElem!_pos d p (by simpa using hp)] at e1
      rw [getElem!_pos d q (by simpa using hq)] at e2
      simp only [Array.getElem_toList] at e
      rw [e] at e1
      omega
    have hno := hP.nodup_iff.2 hnd
    rw [List.nodup_iff_pairwise_ne, List.pairwise_iff_getElem] at hno
    have h := hno i j (by simp; omega) (by simp; omega) hij
    rw [getElem!_pos o i (by omega), getElem!_pos o j (by omega)]
    simpa using h
  generalize (insertionSort (fun x y => decide (r y * n - y.val < r x * n - x.val)) d 0 n)[i]! = x at *
  generalize (insertionSort (fun x y => decide (r y * n - y.val < r x * n - x.val)) d 0 n)[j]! = y at *
  have hx := x.isLt
  have hy := y.isLt
  by_cases h : r y < r x
  · exact .inl h
  · by_cases h' : r y = r x
    · refine .inr ⟨h', ?_⟩
      rw [h'] at h3
      have : x.val ≠ y.val := fun e => hne (Fin.ext e)
      omega
    · exfalso
      have h1 : (r x + 1) * n ≤ r y * n := Int.mul_le_mul_of_nonneg_right (by omega) (by omega)
      rw [Int.add_mul, Int.one_mul] at h1
      omega

/-! d_split -/
theorem chain {α : Type} {G : Nat → Nat → Option α} {r : α} (n : Nat) (hend : Ev (fun k => G k n) r) (hstep : ∀ i, i < n → ∀ r, Ev (fun k => G k (i + 1)) r → Ev (fun k => G k i) r) : ∀ d i, i + d = n → Ev (fun k => G k i) r := by
  intro d
  induction d with
  | zero => intro i hi; have : i = n := by omega
            subst this; exact hend
  | succ d ih => intro i hi; exact hstep i (by omega) r (ih (i + 1) (by omega))
theorem wsum_sum (B : Int) (hB : 0 ≤ B) : ∀ (l : List Int) (s : Int), 0 ≤ s → s + B * l.length < 4611686018427387904 → (∀ x ∈ l, 0 ≤ x ∧ x ≤ B) → wsum s l = s + l.sum
  | [], s, _, _, _ => by simp [wsum]
  | x :: l, s, h0, h1, h => by
    have hx := h x (by simp)
    rw [List.length_cons] at h1
    have e : B * ((l.length + 1 : Nat) : Int) = B * (l.length : Int) + B := by rw [Int.natCast_add, Int.mul_add]; simp
    have hp : 0 ≤ B * (l.length : Int) := Int.mul_nonneg hB (by omega)
    show wsum (wrap64 (s + x)) l = _
    rw [show wrap64 (s + x) = s + x by unfold wrap64; omega, wsum_sum B hB l (s + x) (by omega) (by omega) (fun y hy => h y (by simp [hy])), List.sum_cons]
    omega
/-- The first place of the greatest, among the first m. -/
def bestN (rs : List Int) : Nat → Nat
  | 0 => 0
  | m + 1 => if rs.getD m 0 > rs.getD (bestN rs m) 0 then m else bestN rs m
theorem bestN_spec (rs : List Int) : ∀ m, 0 < m → bestN rs m < m ∧ (∀ j, j < m → rs.getD j 0 ≤ rs.getD (bestN rs m) 0) ∧ ∀ j, j < bestN rs m → rs.getD j 0 < rs.getD (bestN rs m) 0
  | 0, h => absurd h (Nat.lt_irrefl 0)
  | 1, _ => by
    have e : bestN rs 1 = 0 := by unfold bestN; split <;> rfl
    rw [e]
    exact ⟨by omega, fun j hj => by have : j = 0 := by omega
                                    subst this; exact Int.le_refl _, fun j hj => by omega⟩
  | m + 2, _ => by
    obtain ⟨h1, h2, h3⟩ := bestN_spec rs (m + 1) (by omega)
    rw [show bestN rs (m + 2) = if rs.getD (m + 1) 0 > rs.getD (bestN rs (m + 1)) 0 then m + 1 else bestN rs (m + 1) from rfl]
    generalize bestN rs (m + 1) = b at h1 h2 h3
    split
    · rename_i h
      refine ⟨by omega, fun j hj => ?_, fun j hj => ?_⟩
      · by_cases e : j = m + 1
        · subst e; exact Int.le_refl _
        · have := h2 j (by omega); omega
      · have := h2 j (by omega); omega
    · rename_i h
      refine ⟨by omega, fun j hj => ?_, h3⟩
      by_cases e : j = m + 1
      · subst e; omega
      · exact h2 j (by omega)
theorem best_uniq (rs : List Int) (n a b : Nat) (ha : a < n) (hb : b < n) (a1 : ∀ j, j < n → rs.getD j 0 ≤ rs.getD a 0) (a2 : ∀ j, j < a → rs.getD j 0 < rs.getD a 0) (b1 : ∀ j, j < n → rs.getD j 0 ≤ rs.getD b 0) (b2 : ∀ j, j < b → rs.getD j 0 < rs.getD b 0) : a = b := by
  have h1 := a1 b hb
  have h2 := b1 a ha
  rcases Nat.lt_trichotomy a b with h | h | h
  · have := b2 a h; omega
  · exact h
  · have := a2 b h; omega
def outK (q : List Int) (o : Nat → Nat) : Nat → List Int
  | 0 => q
  | k + 1 => (outK q o k).set (o k) (wrap64 ((outK q o k).getD (o k) 0 + 1))
def restK (r : List Int) (o : Nat → Nat) : Nat → List Int
  | 0 => r
  | k + 1 => (restK r o k).set (o k) (-1)
theorem outK_len (q : List Int) (o : Nat → Nat) : ∀ k, (outK q o k).length = q.length
  | 0 => rfl
  | k + 1 => by show ((outK q o k).set _ _).length = _; rw [List.length_set, outK_len q o k]
theorem restK_len (r : List Int) (o : Nat → Nat) : ∀ k, (restK r o k).length = r.length
  | 0 => rfl
  | k + 1 => by show ((restK r o k).set _ _).length = _; rw [List.length_set, restK_len r o k]
theorem restK_old (r : List Int) (o : Nat → Nat) (j : Nat) : ∀ k, (∀ i, i < k → o i ≠ j) → (restK r o k).getD j 0 = r.getD j 0
  | 0, _ => rfl
  | k + 1, h => by
    show ((restK r o k).set _ _).getD j 0 = _
    rw [List.getD_eq_getElem?_getD, List.getElem?_set_ne (h k (by omega)), ← List.getD_eq_getElem?_getD]
    exact restK_old r o j k (fun i hi => h i (by omega))
theorem restK_new (r : List Int) (o : Nat → Nat) (j : Nat) (hj : j < r.length) : ∀ k, (∃ i, i < k ∧ o i = j) → (restK r o k).getD j 0 = -1
  | 0, ⟨i, hi, _⟩ => absurd hi (Nat.not_lt_zero i)
  | k + 1, ⟨i, hi, e⟩ => by
    show ((restK r o k).set _ _).getD j 0 = _
    by_cases h : o k = j
    · rw [h]
      exact getD_set_self _ 0 (-1) (by rw [restK_len]; exact hj)
    · rw [List.getD_eq_getElem?_getD, List.getElem?_set_ne h, ← List.getD_eq_getElem?_getD]
      refine restK_new r o j hj k ⟨i, ?_, e⟩
      by_cases h' : i = k
      · subst h'; exact absurd e h
      · omega
/-- The order: by what is left over, descending, equals as they stand; each place once. -/
structure Ord (r : List Int) (o : Nat → Nat) : Prop where
  lt : ∀ k, k < r.length → o k < r.length
  all : ∀ j, j < r.length → ∃ k, k < r.length ∧ o k = j
  desc : ∀ i j, i < j → j < r.length → r.getD (o j) 0 < r.getD (o i) 0 ∨ (r.getD (o j) 0 = r.getD (o i) 0 ∧ o i < o j)
theorem Ord.ne {r : List Int} {o : Nat → Nat} (h : Ord r o) {i j : Nat} (hij : i < j) (hj : j < r.length) : o i ≠ o j := fun e => by
  rcases h.desc i j hij hj with h1 | ⟨_, h1⟩
  · rw [e] at h1; omega
  · omega
theorem Ord.best {r : List Int} {o : Nat → Nat} (h : Ord r o) (hr : ∀ j, j < r.length → 0 ≤ r.getD j 0) (k : Nat) (hk : k < r.length) : bestN (restK r o k) r.length = o k := by
  obtain ⟨b0, b1, b2⟩ := bestN_spec (restK r o k) r.length (by omega)
  have hok := h.lt k hk
  have e : (restK r o k).getD (o k) 0 = r.getD (o k) 0 := restK_old r o (o k) k (fun i hi => h.ne hi hk)
  have h0 := hr (o k) hok
  have key : ∀ j, j < r.length → (∃ i, i < k ∧ o i = j) ∨ ∃ i, k ≤ i ∧ i < r.length ∧ o i = j ∧ (restK r o k).getD j 0 = r.getD j 0 := fun j hj => by
    obtain ⟨i, hi, he⟩ := h.all j hj
    by_cases c : i < k
    · exact .inl ⟨i, c, he⟩
    · refine .inr ⟨i, by omega, hi, he, restK_old r o j k (fun q hq e' => ?_)⟩
      exact h.ne (show q < i by omega) hi (by rw [he, e'])
  refine best_uniq (restK r o k) r.length _ _ b0 hok b1 b2 (fun j hj => ?_) (fun j hj => ?_)
  · rw [e]
    rcases key j hj with h1 | ⟨i, hi, hi2, he, e2⟩
    · rw [restK_new r o j hj k h1]; omega
    · rw [e2, ← he]
      by_cases c : i = k
      · subst c; exact Int.le_refl _
      · rcases h.desc k i (by omega) hi2 with h1 | ⟨h1, _⟩ <;> omega
  · rw [e]
    rcases key j (by omega) with h1 | ⟨i, hi, hi2, he, e2⟩
    · rw [restK_new r o j (by omega) k h1]; omega
    · rw [e2, ← he]
      have c : i ≠ k := fun c => by subst c; omega
      rcases h.desc k i (by omega) hi2 with h1 | ⟨h1, h2⟩ <;> omega

/-! d_split2 -/
def quoL (T S : Int) (l : List Int) : List Int := l.map fun x => wrap64 (Int.tdiv (wrap64 (T * x)) S)
def remL (T S : Int) (l : List Int) : List Int := l.map fun x => Int.tmod (wrap64 (T * x)) S
structure Parts (l : List Int) (T S : Int) : Prop where
  n1 : 1 ≤ l.length
  n6 : l.length ≤ 6
  p : ∀ x ∈ l, 0 ≤ x ∧ x ≤ 100
  s : wsum 0 l = S
  s' : l.sum = S
  S0 : 0 < S
  T0 : 0 ≤ T
  T1 : T ≤ 10000
theorem sum_le (B : Int) (hB : 0 ≤ B) : ∀ (l : List Int), (∀ x ∈ l, 0 ≤ x ∧ x ≤ B) → 0 ≤ l.sum ∧ l.sum ≤ B * l.length
  | [], _ => by simp
  | x :: l, h => by
    have hx := h x (by simp)
    obtain ⟨h1, h2⟩ := sum_le B hB l (fun y hy => h y (by simp [hy]))
    rw [List.sum_cons, List.length_cons, Int.natCast_add, Int.mul_add]
    simp
    omega
theorem Parts.of {l : List Int} {T : Int} (hc : contractB l = true) (hT : inR T 0 10000 = true) : Parts l T (wsum 0 l) := by
  unfold contractB at hc
  simp only [Bool.and_eq_true, decide_eq_true_eq, Bool.not_eq_true', List.any_eq_false] at hc
  obtain ⟨⟨h1, h2⟩, h3⟩ := hc
  unfold inR at h2 hT
  simp only [Bool.and_eq_true, decide_eq_true_eq] at h2 hT
  have hp : ∀ x ∈ l, 0 ≤ x ∧ x ≤ 100 := fun x hx => by
    have := h1 x hx
    unfold badP inR at this
    simpa using this
  have e := wsum_sum 100 (by omega) l 0 (by omega) (by omega) hp
  rw [Int.zero_add] at e
  exact ⟨by omega, by omega, hp, rfl, e.symm, h3, hT.1, hT.2⟩
theorem Parts.val {l : List Int} {T S : Int} (h : Parts l T S) (x : Int) (hx : x ∈ l) : wrap64 (T * x) = T * x ∧ 0 ≤ T * x ∧ T * x ≤ 1000000 ∧ wrap64 (Int.tdiv (wrap64 (T * x)) S) = T * x / S ∧ Int.tmod (wrap64 (T * x)) S = T * x % S ∧ 0 ≤ T * x / S ∧ T * x / S ≤ 1000000 ∧ 0 ≤ T * x % S ∧ T * x % S < S := by
  obtain ⟨h1, h2⟩ := h.p x hx
  have h3 := h.T0
  have h4 := h.T1
  have h5 := h.S0
  have a0 : 0 ≤ T * x := Int.mul_nonneg h3 h1
  have a1 : T * x ≤ 10000 * x := Int.mul_le_mul_of_nonneg_right h4 h1
  have a2 : T * x ≤ 1000000 := by omega
  have e : wrap64 (T * x) = T * x := by unfold wrap64; omega
  have d0 : 0 ≤ T * x / S := Int.ediv_nonneg a0 (by omega)
  have d1 : T * x / S ≤ T * x := Int.ediv_le_self _ a0
  rw [e, Int.tdiv_eq_ediv_of_nonneg a0, Int.tmod_eq_emod_of_nonneg a0]
  exact ⟨rfl, a0, a2, by unfold wrap64; omega, rfl, d0, by omega, Int.emod_nonneg _ (by omega), Int.emod_lt_of_pos _ h5⟩
theorem Parts.mem {l : List Int} {T S : Int} (_h : Parts l T S) {j : Nat} (hj : j < l.length) : l.getD j 0 ∈ l := getD_mem l 0 hj
theorem Parts.quo {l : List Int} {T S : Int} (h : Parts l T S) : ∀ x ∈ quoL T S l, 0 ≤ x ∧ x ≤ 1000000 := fun x hx => by
  unfold quoL at hx
  obtain ⟨y, hy, rfl⟩ := List.mem_map.1 hx
  have := h.val y hy
  rw [this.2.2.2.1]
  exact ⟨this.2.2.2.2.2.1, this.2.2.2.2.2.2.1⟩
theorem Parts.rem {l : List Int} {T S : Int} (h : Parts l T S) : ∀ x ∈ remL T S l, 0 ≤ x ∧ x ≤ S - 1 := fun x hx => by
  unfold remL at hx
  obtain ⟨y, hy, rfl⟩ := List.mem_map.1 hx
  have := h.val y hy
  rw [this.2.2.2.2.1]
  omega
theorem Parts.total {l : List Int} {T S : Int} (h : Parts l T S) : S * (quoL T S l).sum + (remL T S l).sum = T * S := by
  have : ∀ m : List Int, (∀ x ∈ m, x ∈ l) → S * (quoL T S m).sum + (remL T S m).sum = T * m.sum := by
    intro m
    induction m with
    | nil => intro _; simp [quoL, remL]
    | cons x m ih =>
      intro hm
      have hv := h.val x (hm x (by simp))
      have ih' := ih (fun y hy => hm y (by simp [hy]))
      unfold quoL remL at ih' ⊢
      rw [List.map_cons, List.map_cons, List.sum_cons, List.sum_cons, List.sum_cons, hv.2.2.2.1, hv.2.2.2.2.1, Int.mul_add, Int.mul_add, ← ih']
      have := Int.mul_ediv_add_emod (T * x) S
      omega
  have e := this l (fun x hx => hx)
  rw [h.s'] at e
  exact e
theorem Parts.left {l : List Int} {T S : Int} (h : Parts l T S) : 0 ≤ T - (quoL T S l).sum ∧ T - (quoL T S l).sum < (l.length : Int) ∧ S * (T - (quoL T S l).sum) = (remL T S l).sum := by
  have ht := h.total
  have hS := h.S0
  have hn := h.n1
  obtain ⟨r0, r1⟩ := sum_le (S - 1) (by omega) _ h.rem
  rw [show (remL T S l).length = l.length by unfold remL; simp] at r1
  have e : S * (T - (quoL T S l).sum) = (remL T S l).sum := by rw [Int.mul_sub, Int.mul_comm S T]; omega
  refine ⟨?_, ?_, e⟩
  · apply Classical.byContradiction
    intro hc
    have : S * (T - (quoL T S l).sum) ≤ S * (-1) := Int.mul_le_mul_of_nonneg_left (by omega) (by omega)
    omega
  · apply Classical.byContradiction
    intro hc
    have h2 : S * (l.length : Int) ≤ S * (T - (quoL T S l).sum) := Int.mul_le_mul_of_nonneg_left (by omega) (by omega)
    have h3 : (S - 1) * (l.length : Int) = S * (l.length : Int) - l.length := by rw [Int.sub_mul, Int.one_mul]
    omega
theorem take_snoc (l : List Int) (i : Nat) (h : i < l.length) : l.take (i + 1) = l.take i ++ [l.getD i 0] := by
  rw [List.take_add_one, List.getElem?_eq_getElem h, List.getD_eq_getElem?_getD, List.getElem?_eq_getElem h]
  rfl
theorem quo_get {l : List Int} {T S : Int} {j : Nat} (hj : j < l.length) : (quoL T S l).getD j 0 = wrap64 (Int.tdiv (wrap64 (T * rd l (j : Int))) S) := by
  unfold quoL
  rw [getD_map _ l 0 0 hj]
  rfl
theorem rem_get {l : List Int} {T S : Int} {j : Nat} (hj : j < l.length) : (remL T S l).getD j 0 = Int.tmod (wrap64 (T * rd l (j : Int))) S := by
  unfold remL
  rw [getD_map _ l 0 0 hj]
  rfl
theorem quo_len (l : List Int) (T S : Int) : (quoL T S l).length = l.length := by unfold quoL; simp
theorem rem_len (l : List Int) (T S : Int) : (remL T S l).length = l.length := by unfold remL; simp

/-! d_ord -/
def ordN (l : List Int) (T S : Int) (k : Nat) : Nat := ((slices_SortStableFunc_int_int.fs l T S).getD k 0).toNat
theorem ord_spec (l : List Int) (T S : Int) (h : 1 ≤ l.length) : (slices_SortStableFunc_int_int.fs l T S).length = l.length ∧ Ord (remL T S l) (ordN l T S) ∧ ∀ k, k < l.length → (slices_SortStableFunc_int_int.fs l T S).getD k 0 = ((ordN l T S k : Nat) : Int) := by
  cases l with
  | nil => simp at h
  | cons x t =>
    have hid : ∀ i, i < t.length + 1 → ((Array.ofFn fun i : Fin (t.length + 1) => i)[i]!).val = i := fun i hi => by
      rw [getElem!_pos _ i (by simpa using hi), Array.getElem_ofFn]
    obtain ⟨h1, h2⟩ := stable_order (fun i : Fin (t.length + 1) => slices_SortStableFunc_int_int.rr (x :: t) T S ((i.val : Nat) : Int)) (Array.ofFn fun i : Fin (t.length + 1) => i) Array.size_ofFn hid
    have h3 := stable_mem (fun i : Fin (t.length + 1) => slices_SortStableFunc_int_int.rr (x :: t) T S ((i.val : Nat) : Int)) (Array.ofFn fun i : Fin (t.length + 1) => i) Array.size_ofFn hid
    have hfs : slices_SortStableFunc_int_int.fs (x :: t) T S = (insertionSort (fun i j : Fin (t.length + 1) => decide (slices_SortStableFunc_int_int.rr (x :: t) T S ((j.val : Nat) : Int) < slices_SortStableFunc_int_int.rr (x :: t) T S ((i.val : Nat) : Int))) (Array.ofFn fun i : Fin (t.length + 1) => i) 0 (t.length + 1)).toList.map fun i => ((i.val : Nat) : Int) := rfl
    generalize insertionSort (fun i j : Fin (t.length + 1) => decide (slices_SortStableFunc_int_int.rr (x :: t) T S ((j.val : Nat) : Int) < slices_SortStableFunc_int_int.rr (x :: t) T S ((i.val : Nat) : Int))) (Array.ofFn fun i : Fin (t.length + 1) => i) 0 (t.length + 1) = D at h1 h2 h3 hfs
    have hget : ∀ k, k < t.length + 1 → (slices_SortStableFunc_int_int.fs (x :: t) T S).getD k 0 = (((D[k]!).val : Nat) : Int) := fun k hk => by
      have hk' : k < D.size := by omega
      rw [hfs, List.getD_eq_getElem?_getD, List.getElem?_map, List.getElem?_eq_getElem (by simpa using hk'), getElem!_pos D k hk']
      simp
    have hord : ∀ k, k < t.length + 1 → ordN (x :: t) T S k = (D[k]!).val := fun k hk => by
      unfold ordN
      rw [hget k hk, Int.toNat_natCast]
    have hR : ∀ i : Fin (t.length + 1), (remL T S (x :: t)).getD i.val 0 = slices_SortStableFunc_int_int.rr (x :: t) T S ((i.val : Nat) : Int) := fun i => rem_get (by simp)
    refine ⟨by rw [hfs, List.length_map, Array.length_toList, h1]; rfl, ⟨fun k hk => ?_, fun j hj => ?_, fun i j hij hj => ?_⟩, fun k hk => ?_⟩
    · rw [rem_len] at hk ⊢
      rw [hord k hk]
      exact (D[k]!).isLt
    · rw [rem_len] at hj ⊢
      obtain ⟨k, hk, e⟩ := h3 ⟨j, hj⟩
      exact ⟨k, hk, by rw [hord k hk, e]⟩
    · rw [rem_len] at hj
      have hj' : j < t.length + 1 := hj
      rw [hord i (by omega), hord j hj', hR, hR]
      exact h2 i j hij hj'
    · have hk' : k < t.length + 1 := hk
      rw [hord k hk']
      exact hget k hk'
/-- What a total comes to, split. -/
def splitL (l : List Int) (T : Int) : List Int := if (contractB l && inR T 0 10000) = true then outK (quoL T (wsum 0 l) l) (ordN l T (wsum 0 l)) (T - (quoL T (wsum 0 l) l).sum).toNat else []
theorem splitL_len (l : List Int) (T : Int) : (splitL l T).length ≤ l.length := by
  unfold splitL
  split
  · rw [outK_len, quo_len]; exact Nat.le_refl _
  · simp

/-! slices_SortStableFunc_int_int -/

/-! impl_SplitTotal -/
theorem impl_SplitTotal.l1_ev {l : List Int} {T S : Int} (h : Parts l T S) : Ev (fun k => impl_SplitTotal.l1 k (quoL T S l) (slices_SortStableFunc_int_int.fs l T S) (T - (quoL T S l).sum) 0) (outK (quoL T S l) (ordN l T S) (T - (quoL T S l).sum).toNat) := by
  obtain ⟨hL0, hL1, _⟩ := h.left
  have h6 := h.n6
  obtain ⟨o1, o2, o3⟩ := ord_spec l T S h.n1
  refine chain (G := fun k i => impl_SplitTotal.l1 k (outK (quoL T S l) (ordN l T S) i) (slices_SortStableFunc_int_int.fs l T S) (T - (quoL T S l).sum) (i : Int)) (T - (quoL T S l).sum).toNat (Ev.one fun k => ?_) (fun i hi r hr => Ev.step (fun k => ?_) hr) (T - (quoL T S l).sum).toNat 0 (by omega)
  · simp only [impl_SplitTotal.l1]
    rw [if_neg (by omega)]
  · have hi' : i < l.length := by omega
    have hlt := o2.lt i (by rw [rem_len]; exact hi')
    rw [rem_len] at hlt
    have e : rd (slices_SortStableFunc_int_int.fs l T S) (i : Int) = ((ordN l T S i : Nat) : Int) := by rw [rd_nat]; exact o3 i hi'
    simp only [impl_SplitTotal.l1]
    rw [if_pos (by omega), if_pos (by omega), if_pos (by omega), e, if_pos (by omega), if_pos (by rw [outK_len, quo_len]; omega), wrap_nat (by omega), Int.toNat_natCast]
    rfl
theorem impl_SplitTotal.ev (l : List Int) (T : Int) (hl : l.length ≤ 1048576) : Ev (fun k => impl_SplitTotal.f k l T) (splitL l T) := by
  unfold splitL
  refine Ev.congr (fun k => by unfold impl_SplitTotal.f; rw [Option.bind_some]) (Ev.bind (impl_IsContract.ev l hl) ?_)
  by_cases hc : contractB l = true
  · refine Ev.congr (fun k => by rw [if_pos hc, impl_InRange.val, Option.bind_some]) ?_
    by_cases hT : inR T 0 10000 = true
    · have h := Parts.of hc hT
      have hS := h.S0
      have h6 := h.n6
      have hn := h.n1
      obtain ⟨hL0, hL1, _⟩ := h.left
      rw [hc, hT]
      refine Ev.step (fun k => by simp only [impl_SplitTotal.j0]; rw [if_neg (by simp)]) (Ev.bind (impl_sumOf.ev l hl) ?_)
      generalize wsum 0 l = S at *
      rw [if_pos (by rfl)]
      have hq := h.quo
      have hqs := sum_le 1000000 (by omega) _ hq
      rw [quo_len] at hqs
      refine chain (G := fun k i => impl_SplitTotal.l0 k T ((quoL T S l).take i) S ((List.range i).map fun i => ((i : Nat) : Int)) l (l.length : Int) (i : Int)) l.length ?_ (fun i hi r hr => Ev.step (fun k => ?_) hr) l.length 0 (by omega)
      · refine Ev.step (fun k => by
          simp only [impl_SplitTotal.l0]
          rw [if_neg (by omega), List.take_of_length_le (by rw [quo_len]; exact Nat.le_refl _), show slices_SortStableFunc_int_int.f ((List.range l.length).map fun i => ((i : Nat) : Int)) l T S = some (slices_SortStableFunc_int_int.fs l T S) from if_pos ⟨rfl, by omega, by omega, by omega⟩, Option.bind_some]) (Ev.bind (impl_sumOf.ev _ (by rw [quo_len]; exact hl)) ?_)
        rw [wsum_sum 1000000 (by omega) (quoL T S l) 0 (by omega) (by rw [quo_len]; omega) hq, Int.zero_add, show wrap64 (T - (quoL T S l).sum) = T - (quoL T S l).sum by unfold wrap64; omega]
        exact impl_SplitTotal.l1_ev h
      · simp only [impl_SplitTotal.l0]
        rw [if_pos (by omega), if_pos (by omega), if_pos (by omega), if_neg (by omega), if_pos (by rw [List.length_take]; omega), if_pos (by rw [List.length_map, List.length_range]; omega), wrap_nat (by omega), take_snoc _ i (by rw [quo_len]; exact hi), quo_get hi, List.range_succ, List.map_append]
        rfl
    · rw [if_neg (by simp [hT])]
      exact Ev.one fun k => by simp only [impl_SplitTotal.j0]; rw [if_pos (by simpa using hT)]
  · rw [if_neg (by simp [hc])]
    exact Ev.congr (fun k => by rw [if_neg hc]) (Ev.one (g := fun k => impl_SplitTotal.j0 k T [] true l) fun k => by simp only [impl_SplitTotal.j0]; simp)

/-! d_shareOf -/
def shareV (s : List Int) (a : Int) : Int := if idxB a s.length = true then rd s a else 0
def badU (s u : List Int) (j : Nat) : Bool := !inR (u.getD j 0) 0 (s.getD j 0)
def withinL (s u : List Int) : Bool := if (s.length : Int) = 0 then false else if (u.length : Int) = (s.length : Int) then (if (List.range' 0 s.length).any (badU s u) = true then false else true) else false

/-! impl_ShareOf -/
theorem impl_ShareOf.ev (l : List Int) (T a : Int) (hl : l.length ≤ 1048576) : Ev (fun k => impl_ShareOf.f k l T a) (shareV (splitL l T) a) := by
  refine Ev.bind (impl_SplitTotal.ev l T hl) ?_
  generalize splitL l T = s
  refine Ev.all fun k => ?_
  rw [impl_isIndex.nat, Option.bind_some]
  unfold shareV
  by_cases h : idxB a s.length = true
  · obtain ⟨h0, h1⟩ := (idxB_iff _ _).1 h
    rw [if_pos h, if_pos h, if_pos h0, if_pos h1]
  · rw [if_neg h, if_neg h]

/-! spec_l1In -/
theorem spec_l1In.val (a lo hi : Int) : spec_l1In.f a lo hi = some (inR a lo hi) := by
  unfold spec_l1In.f inR
  by_cases h : a ≥ lo
  · rw [if_pos h]; simp [h]
  · rw [if_neg h]; simp; omega

/-! spec_IsContract -/
theorem spec_IsContract.ev (l : List Int) (hl : l.length ≤ 1048576) : Ev (fun k => spec_IsContract.f k l) (contractB l) := by
  have h := ff_list (g := fun k s i => spec_IsContract.l0 k s i l) (q := badP) (f := fun a b => wrap64 (a + b)) (r := false) (fin := fun s => inR (l.length : Int) 1 6 && decide (s > 0)) l 0 0
    (fun s => Ev.one fun k => by
      simp only [spec_IsContract.l0, spec_l1In.val, Option.bind_some]
      rw [if_neg (by omega)]
      by_cases h1 : inR (l.length : Int) 1 6 = true <;> simp [h1])
    (fun i s k hi => by
      simp only [spec_IsContract.l0, spec_l1In.val, Option.bind_some]
      rw [if_pos (by omega), if_pos (by omega), wrap_nat (by omega)]
      show (if inR (l.getD i 0) 0 100 = true then _ else _) = (if badP (l.getD i 0) = true then _ else _)
      unfold badP
      by_cases h1 : inR (l.getD i 0) 0 100 = true
      · rw [if_pos h1, if_neg (by rw [h1]; simp)]; rfl
      · rw [if_neg h1, if_pos (by simpa using h1)])
  have e : (if l.any badP = true then false else inR (l.length : Int) 1 6 && decide (l.foldl (fun a b => wrap64 (a + b)) 0 > 0)) = contractB l := by
    unfold contractB wsum
    generalize l.any badP = b
    cases b <;> simp
  rw [e] at h
  exact h

/-! spec_SplitTotal -/
theorem spec_SplitTotal.l3_ev (out rest : List Int) (left : Int) (r : List Int) (n : Nat) (hn : 1 ≤ n) (h6 : n ≤ 6) (ho : out.length = n) (hr : rest.length = n) (h : Ev (fun k => spec_SplitTotal.l2 k (out.set (bestN rest n) (wrap64 (out.getD (bestN rest n) 0 + 1))) (rest.set (bestN rest n) (-1)) (wrap64 (left - 1))) r) : Ev (fun k => spec_SplitTotal.l3 k out rest left 0 1) r := by
  have key := chain (G := fun k j => spec_SplitTotal.l3 k out rest left ((bestN rest (j + 1) : Nat) : Int) ((j + 1 : Nat) : Int)) (r := r) (n - 1) ?_ (fun j hj r hr' => ?_) (n - 1) 0 (by omega)
  · rw [show bestN rest (0 + 1) = 0 by unfold bestN; split <;> rfl] at key
    exact key
  · rw [show n - 1 + 1 = n by omega]
    have hb := (bestN_spec rest n (by omega)).1
    refine Ev.step (fun k => ?_) h
    simp only [spec_SplitTotal.l3]
    rw [if_neg (by omega), if_pos (by omega), if_pos (by omega), if_pos (by omega), Int.toNat_natCast]
    rfl
  · have hb := (bestN_spec rest (j + 1) (by omega)).1
    refine Ev.step (fun k => ?_) hr'
    simp only [spec_SplitTotal.l3]
    rw [if_pos (by omega), if_pos (by omega), if_pos (by omega), if_pos (by omega), wrap_nat (by omega), rd_nat, rd_nat, show bestN rest (j + 1 + 1) = if rest.getD (j + 1) 0 > rest.getD (bestN rest (j + 1)) 0 then j + 1 else bestN rest (j + 1) from rfl]
    split <;> rfl
theorem spec_SplitTotal.l2_ev {l : List Int} {T S : Int} (h : Parts l T S) : Ev (fun k => spec_SplitTotal.l2 k (quoL T S l) (remL T S l) (T - (quoL T S l).sum)) (outK (quoL T S l) (ordN l T S) (T - (quoL T S l).sum).toNat) := by
  obtain ⟨hL0, hL1, _⟩ := h.left
  have hn := h.n1
  have h6 := h.n6
  obtain ⟨o1, o2, o3⟩ := ord_spec l T S h.n1
  have key := chain (G := fun k i => spec_SplitTotal.l2 k (outK (quoL T S l) (ordN l T S) i) (restK (remL T S l) (ordN l T S) i) (T - (quoL T S l).sum - (i : Int))) (r := outK (quoL T S l) (ordN l T S) (T - (quoL T S l).sum).toNat) (T - (quoL T S l).sum).toNat (Ev.one fun k => ?_) (fun i hi r hr => ?_) (T - (quoL T S l).sum).toNat 0 (by omega)
  · rw [show T - (quoL T S l).sum - ((0 : Nat) : Int) = T - (quoL T S l).sum by omega] at key
    exact key
  · simp only [spec_SplitTotal.l2]
    rw [if_neg (by omega)]
  · have hb : bestN (restK (remL T S l) (ordN l T S) i) l.length = ordN l T S i := by
      have := o2.best (fun j hj => by have := h.rem _ (getD_mem _ 0 hj); exact this.1) i (by rw [rem_len]; omega)
      rw [rem_len] at this
      exact this
    refine Ev.step (fun k => by simp only [spec_SplitTotal.l2]; rw [if_pos (by omega)]) (spec_SplitTotal.l3_ev _ _ _ r l.length hn h6 (by rw [outK_len, quo_len]) (by rw [restK_len, rem_len]) ?_)
    rw [hb, show wrap64 (T - (quoL T S l).sum - (i : Int) - 1) = T - (quoL T S l).sum - ((i + 1 : Nat) : Int) by unfold wrap64; have := h.T1; omega]
    exact hr
theorem spec_SplitTotal.ev (l : List Int) (T : Int) (hl : l.length ≤ 1048576) : Ev (fun k => spec_SplitTotal.f k l T) (splitL l T) := by
  unfold splitL
  refine Ev.congr (fun k => by unfold spec_SplitTotal.f; rw [Option.bind_some]) (Ev.bind (spec_IsContract.ev l hl) ?_)
  by_cases hc : contractB l = true
  · refine Ev.congr (fun k => by rw [if_pos hc, spec_l1In.val, Option.bind_some]) ?_
    by_cases hT : inR T 0 10000 = true
    · have h := Parts.of hc hT
      have hS := h.S0
      have h6 := h.n6
      have hn := h.n1
      have hT1 := h.T1
      obtain ⟨hL0, hL1, _⟩ := h.left
      have hq := h.quo
      have hqs := sum_le 1000000 (by omega) _ hq
      rw [quo_len] at hqs
      rw [hc, hT]
      refine Ev.step (fun k => by simp only [spec_SplitTotal.j0]; rw [if_neg (by simp)]) ?_
      have key := chain (G := fun k i => spec_SplitTotal.l0 k T [] (wsum 0 (l.take i)) (i : Int) l) (r := outK (quoL T (wsum 0 l) l) (ordN l T (wsum 0 l)) (T - (quoL T (wsum 0 l) l).sum).toNat) l.length ?_ (fun i hi r hr => Ev.step (fun k => ?_) hr) l.length 0 (by omega)
      · rw [if_pos (by rfl)]
        exact key
      · rw [List.take_length]
        refine Ev.step (fun k => by simp only [spec_SplitTotal.l0]; rw [if_neg (by omega)]) ?_
        generalize wsum 0 l = S at *
        have key := chain (G := fun k i => spec_SplitTotal.l1 k T ((quoL T S l).take i) S ((remL T S l).take i) (T - ((quoL T S l).take i).sum) (i : Int) l) (r := outK (quoL T S l) (ordN l T S) (T - (quoL T S l).sum).toNat) l.length ?_ (fun i hi r hr => Ev.step (fun k => ?_) hr) l.length 0 (by omega)
        · rw [List.take_zero, List.take_zero, List.sum_nil, Int.sub_zero] at key
          exact key
        · rw [List.take_of_length_le (by rw [quo_len]; exact Nat.le_refl _), List.take_of_length_le (by rw [rem_len]; exact Nat.le_refl _)]
          exact Ev.step (fun k => by simp only [spec_SplitTotal.l1]; rw [if_neg (by omega)]) (spec_SplitTotal.l2_ev h)
        · have hs := sum_le 1000000 (by omega) ((quoL T S l).take i) (fun x hx => hq x (List.mem_of_mem_take hx))
          rw [List.length_take] at hs
          have hqi := hq _ (getD_mem (quoL T S l) 0 (show i < (quoL T S l).length by rw [quo_len]; exact hi))
          simp only [spec_SplitTotal.l1]
          rw [if_pos (by omega), if_pos (by omega), if_neg (by omega), if_pos (by rw [List.length_take]; omega), if_pos (by rw [List.length_take]; omega), wrap_nat (by omega), ← quo_get hi, ← rem_get hi, ← take_snoc _ i (by rw [quo_len]; exact hi), ← take_snoc _ i (by rw [rem_len]; exact hi), take_snoc (quoL T S l) i (by rw [quo_len]; exact hi), List.sum_append, List.sum_cons, List.sum_nil,
            show wrap64 (T - ((quoL T S l).take i).sum - (quoL T S l).getD i 0) = T - (((quoL T S l).take i).sum + ((quoL T S l).getD i 0 + 0)) by unfold wrap64; omega]
      · simp only [spec_SplitTotal.l0]
        rw [if_pos (by omega), if_pos (by omega), wrap_nat (by omega), take_snoc l i hi]
        unfold wsum
        rw [List.foldl_append]
        rfl
    · rw [if_neg (by simp [hT])]
      exact Ev.one fun k => by simp only [spec_SplitTotal.j0]; rw [if_pos (by simpa using hT)]
  · rw [if_neg (by simp [hc])]
    exact Ev.congr (fun k => by rw [if_neg hc]) (Ev.one (g := fun k => spec_SplitTotal.j0 k T [] true l) fun k => by simp only [spec_SplitTotal.j0]; simp)

/-! impl_IsWithin -/
theorem impl_IsWithin.ev (l u : List Int) (T : Int) (hl : l.length ≤ 1048576) : Ev (fun k => impl_IsWithin.f k l T u) (withinL (splitL l T) u) := by
  refine Ev.bind (impl_SplitTotal.ev l T hl) ?_
  have hx : (splitL l T).length ≤ 1048576 := Nat.le_trans (splitL_len l T) hl
  generalize splitL l T = s at hx
  unfold withinL
  by_cases h0 : (s.length : Int) = 0
  · rw [if_pos h0]
    exact Ev.congr (fun k => by rw [if_pos h0]) (Ev.one (g := fun k => impl_IsWithin.j0 k u s true) fun k => by simp only [impl_IsWithin.j0]; simp)
  · rw [if_neg h0]
    refine Ev.congr (fun k => by rw [if_neg h0]) ?_
    by_cases h1 : (u.length : Int) = (s.length : Int)
    · rw [if_pos h1]
      refine Ev.step (fun k => by simp only [impl_IsWithin.j0]; rw [if_neg (by simp [h1])]) ?_
      exact find_index (g := fun k i => impl_IsWithin.l0 k s u (u.length : Int) i) s.length (Ev.one fun k => by simp only [impl_IsWithin.l0]; rw [if_neg (by omega)]) (fun i k hi => by
        simp only [impl_IsWithin.l0]
        rw [if_pos (by omega), if_pos (by omega), if_pos (by omega), if_pos (by omega), wrap_nat (by omega), rd_nat, rd_nat, impl_InRange.val, Option.bind_some]
        unfold badU
        by_cases c : inR (u.getD i 0) 0 (s.getD i 0) = true
        · rw [if_pos c, if_neg (by rw [c]; simp)]
        · rw [if_neg c, if_pos (by simpa using c)])
    · rw [if_neg h1]
      exact Ev.one fun k => by simp only [impl_IsWithin.j0]; rw [if_pos (by simpa using h1)]

/-! laws_big -/
theorem laws_big.val (l : List Int) : laws_big.f l = some (decide ((l.length : Int) > 1048576)) := rfl

/-! d_cur -/
def Cur (p : Int) : Prop := 0 ≤ p ∧ p ≤ 1048576
theorem tmod_in {v n : Int} (hv : 0 ≤ v) (hn : 0 < n) : 0 ≤ Int.tmod v n ∧ Int.tmod v n < n := ⟨Int.tmod_nonneg n hv, Int.tmod_lt_of_pos v hn⟩

/-! spec_l1New -/
theorem spec_l1New.ev_l (l : List Int) (hl : l.length ≤ 1048576) : ∀ (d i : Nat), i + d = l.length → ∀ q, ∃ q', Ev (fun k => spec_l1New.l0 k l q i) (l, 0, q') := by
  intro d
  induction d with
  | zero =>
    intro i hi q
    exact ⟨q, Ev.one fun k => by simp only [spec_l1New.l0]; rw [if_neg (by omega)]⟩
  | succ d ih =>
    intro i hi q
    by_cases h : (i : Int) < 4000
    · obtain ⟨q', h'⟩ := ih (i + 1) (by omega) _
      exact ⟨q', Ev.step (fun k => by simp only [spec_l1New.l0]; rw [if_pos (by omega), if_pos h, if_pos (by omega), wrap_nat (by omega)]) h'⟩
    · exact ⟨q, Ev.one fun k => by simp only [spec_l1New.l0]; rw [if_pos (by omega), if_neg h]⟩
theorem spec_l1New.ev (l : List Int) (hl : l.length ≤ 1048576) : ∃ q', Ev (fun k => spec_l1New.f k l) (l, 0, q') :=
  spec_l1New.ev_l l hl l.length 0 (by omega) _

/-! spec_l1Byte -/
theorem spec_l1Byte.ok (l : List Int) (hl : l.length ≤ 1048576) (p q : Int) (hp : Cur p) : ∃ v p' q', spec_l1Byte.f l p q = some (v, p', q') ∧ 0 ≤ v ∧ v ≤ 255 ∧ Cur p' := by
  obtain ⟨h0, h1⟩ := hp
  unfold spec_l1Byte.f
  by_cases h : p < (l.length : Int)
  · rw [if_pos h, if_pos h0]
    refine ⟨_, _, _, rfl, (and255 _).1, (and255 _).2, ?_⟩
    rw [wrap_id (by omega) (by omega)]
    exact ⟨by omega, by omega⟩
  · rw [if_neg h]
    exact ⟨_, _, _, rfl, (and255 _).1, (and255 _).2, h0, h1⟩

/-! spec_l1Below -/
theorem spec_l1Below.ok (l : List Int) (hl : l.length ≤ 1048576) (p q n : Int) (hp : Cur p) : ∃ v p' q', spec_l1Below.f l p q n = some (v, p', q') ∧ 0 ≤ v ∧ (0 < n → v < n) ∧ Cur p' := by
  unfold spec_l1Below.f
  by_cases h : n ≤ 0
  · rw [if_pos h]
    exact ⟨_, _, _, rfl, by omega, by omega, hp⟩
  · rw [if_neg h]
    obtain ⟨v, p1, q1, e, h0, h1, hp1⟩ := spec_l1Byte.ok l hl p q hp
    by_cases h2 : n ≤ 256
    · rw [if_pos h2, e, Option.bind_some, if_neg (by omega)]
      have := tmod_in h0 (show 0 < n by omega)
      exact ⟨_, _, _, rfl, this.1, fun _ => this.2, hp1⟩
    · obtain ⟨v2, p2, q2, e2, h02, h12, hp2⟩ := spec_l1Byte.ok l hl p1 q1 hp1
      obtain ⟨v3, p3, q3, e3, h03, h13, hp3⟩ := spec_l1Byte.ok l hl p2 q2 hp2
      rw [if_neg h2, e, Option.bind_some, e2, Option.bind_some, e3, Option.bind_some, if_neg (by omega)]
      have hw : 0 ≤ wrap64 (wrap64 (wrap64 (v * 65536) + wrap64 (v2 * 256)) + v3) := by unfold wrap64; omega
      have := tmod_in hw (show 0 < n by omega)
      exact ⟨_, _, _, rfl, this.1, fun _ => this.2, hp3⟩

/-! spec_l1Int -/
theorem spec_l1Int.ok (l : List Int) (hl : l.length ≤ 1048576) (p q : Int) (xs : List Int) (hx : 0 < xs.length) (hp : Cur p) : ∃ (i : Nat) (p' q' : Int), spec_l1Int.f l p q xs = some (xs.getD i 0, p', q') ∧ i < xs.length ∧ Cur p' := by
  unfold spec_l1Int.f
  obtain ⟨v, p1, q1, e, h0, h1, hp1⟩ := spec_l1Below.ok l hl p q xs.length hp
  have hv := h1 (by omega)
  rw [e, Option.bind_some, if_pos h0, if_pos hv]
  exact ⟨v.toNat, _, _, rfl, by omega, hp1⟩

/-! spec_l1Once -/
theorem spec_l1Once.ok (l : List Int) (hl : l.length ≤ 1048576) (p q n : Int) (hp : Cur p) : ∃ b p' q', spec_l1Once.f l p q n = some (b, p', q') ∧ Cur p' := by
  unfold spec_l1Once.f
  obtain ⟨v, p1, q1, e, h0, h1, hp1⟩ := spec_l1Below.ok l hl p q n hp
  rw [e]
  exact ⟨_, _, _, rfl, hp1⟩

/-! spec_l28Any -/
theorem spec_l28Any.ok_l (l : List Int) (hl : l.length ≤ 1048576) : ∀ (d : Nat) (p q : Int) (o : List Int), Cur p → o.length + d ≤ 8 → ∃ r p' q', Ev (fun k => spec_l28Any.l0 k (d : Int) l p q o) (r, p', q') ∧ r.length ≤ 8 ∧ Cur p' := by
  intro d
  induction d with
  | zero =>
    intro p q o hp ho
    by_cases h0 : (o.length : Int) > 0
    · obtain ⟨b, p1, q1, e1, hp1⟩ := spec_l1Once.ok l hl p q 5 hp
      cases b with
      | true =>
        obtain ⟨i, p2, q2, e2, hi2, hp2⟩ := spec_l1Int.ok l hl p1 q1 ([(-1), 100, 101] : List Int) (by simp) hp1
        exact ⟨_, p2, q2, Ev.one fun k => by
          simp only [spec_l28Any.l0]
          rw [if_neg (by omega), if_pos h0, e1, Option.bind_some]
          show (if true = true then _ else _) = _
          rw [if_pos rfl, e2, Option.bind_some, if_pos (by omega)], by rw [List.length_set]; omega, hp2⟩
      | false =>
        exact ⟨o, p1, q1, Ev.one fun k => by
          simp only [spec_l28Any.l0]
          rw [if_neg (by omega), if_pos h0, e1, Option.bind_some]
          show (if false = true then _ else _) = _
          rw [if_neg (by simp)], by omega, hp1⟩
    · exact ⟨o, p, q, Ev.one fun k => by simp only [spec_l28Any.l0]; rw [if_neg (by omega), if_neg h0], by omega, hp⟩
  | succ d ih =>
    intro p q o hp ho
    obtain ⟨v, p1, q1, e1, _, _, hp1⟩ := spec_l1Below.ok l hl p q 9 hp
    obtain ⟨r, p2, q2, h, hr, hp2⟩ := ih p1 q1 (o ++ [v]) hp1 (by rw [List.length_append, List.length_singleton]; omega)
    exact ⟨r, p2, q2, Ev.step (fun k => by
      simp only [spec_l28Any.l0]
      rw [if_pos (by omega), e1, Option.bind_some, if_pos (by omega), show wrap64 (((d + 1 : Nat) : Int) - 1) = (d : Int) by unfold wrap64; omega]) h, hr, hp2⟩
theorem spec_l28Any.ok (l : List Int) (hl : l.length ≤ 1048576) (p q : Int) (hp : Cur p) : ∃ r p' q', Ev (fun k => spec_l28Any.f k l p q) (r, p', q') ∧ r.length ≤ 8 ∧ Cur p' := by
  obtain ⟨v, p1, q1, e1, h0, h8, hp1⟩ := spec_l1Below.ok l hl p q 8 hp
  have h8' := h8 (by omega)
  obtain ⟨r, p2, q2, h, hr, hp2⟩ := spec_l28Any.ok_l l hl v.toNat p1 q1 [] hp1 (by simp; omega)
  rw [Int.toNat_of_nonneg h0] at h
  exact ⟨r, p2, q2, Ev.congr (fun k => by unfold spec_l28Any.f; rw [e1, Option.bind_some]) h, hr, hp2⟩

/-! spec_DrawSplitTotal -/
theorem spec_DrawSplitTotal.ok (l : List Int) (hl : l.length ≤ 1048576) : ∃ x T, Ev (fun k => spec_DrawSplitTotal.f k l) (x, T) ∧ x.length ≤ 8 := by
  obtain ⟨q0, h0⟩ := spec_l1New.ev l hl
  obtain ⟨x, p1, q1, h1, hx, hp1⟩ := spec_l28Any.ok l hl 0 q0 ⟨by omega, by omega⟩
  obtain ⟨i, p2, q2, e2, hi2, hp2⟩ := spec_l1Int.ok l hl p1 q1 ([0, 1, 7, 10, 100, 10000, 10001, (-1)] : List Int) (by simp) hp1
  exact ⟨x, _, Ev.bind h0 (Ev.bind h1 (Ev.all fun k => by rw [e2, Option.bind_some])), hx⟩

/-! laws_sumOf -/
theorem laws_sumOf.ev (l : List Int) (hl : l.length ≤ 1048576) : Ev (fun k => laws_sumOf.f k l) (wsum 0 l) :=
  fold_list (g := fun k s i => laws_sumOf.l0 k l s i) (f := fun a b => wrap64 (a + b)) (fin := fun s => s) l 0 0
    (fun s => Ev.one fun k => by simp only [laws_sumOf.l0]; rw [if_neg (by omega)])
    (fun i s k hi => by
      simp only [laws_sumOf.l0]
      rw [if_pos (by omega), if_pos (by omega), wrap_nat (by omega)]
      rfl)

/-! spec_DrawLendParts -/
theorem spec_DrawLendParts.ok (l : List Int) (hl : l.length ≤ 1048576) : ∃ y a b n, Ev (fun k => spec_DrawLendParts.f k l) (y, a, b, n) ∧ y.length ≤ 8 := by
  obtain ⟨q0, h0⟩ := spec_l1New.ev l hl
  obtain ⟨x, p1, q1, h1, hx, hp1⟩ := spec_l28Any.ok l hl 0 q0 ⟨by omega, by omega⟩
  obtain ⟨a, p2, q2, e2, _, _, hp2⟩ := spec_l1Below.ok l hl p1 q1 8 hp1
  obtain ⟨b, p3, q3, e3, _, _, hp3⟩ := spec_l1Below.ok l hl p2 q2 8 hp2
  obtain ⟨n, p4, q4, e4, _, _, hp4⟩ := spec_l1Below.ok l hl p3 q3 10 hp3
  exact ⟨x, _, _, _, Ev.bind h0 (Ev.bind h1 (Ev.all fun k => by rw [e2, Option.bind_some, e3, Option.bind_some, e4, Option.bind_some])), hx⟩

/-! d_shared -/
theorem sum_set : ∀ (l : List Int) (j : Nat) (v : Int), j < l.length → (l.set j v).sum = l.sum - l.getD j 0 + v
  | [], j, v, h => absurd h (Nat.not_lt_zero j)
  | x :: l, 0, v, _ => by rw [List.set_cons_zero, List.sum_cons, List.sum_cons, List.getD_cons_zero]; omega
  | x :: l, j + 1, v, h => by
    rw [List.set_cons_succ, List.sum_cons, List.sum_cons, List.getD_cons_succ, sum_set l j v (by simpa using h)]
    omega
theorem wsum_mod : ∀ (l : List Int) (s : Int), wsum (wrap64 s) l = wrap64 (s + l.sum)
  | [], s => by simp [wsum]
  | x :: l, s => by
    show wsum (wrap64 (wrap64 s + x)) l = _
    rw [show wrap64 (wrap64 s + x) = wrap64 (s + x) by unfold wrap64; omega, wsum_mod l (s + x), List.sum_cons]
    congr 1
    omega
theorem outK_old (q : List Int) (o : Nat → Nat) (j : Nat) : ∀ k, (∀ i, i < k → o i ≠ j) → (outK q o k).getD j 0 = q.getD j 0
  | 0, _ => rfl
  | k + 1, h => by
    show ((outK q o k).set _ _).getD j 0 = _
    rw [List.getD_eq_getElem?_getD, List.getElem?_set_ne (h k (by omega)), ← List.getD_eq_getElem?_getD]
    exact outK_old q o j k (fun i hi => h i (by omega))
def zeroK (r : List Int) (o : Nat → Nat) : Nat → List Int
  | 0 => r
  | k + 1 => (zeroK r o k).set (o k) 0
theorem zeroK_len (r : List Int) (o : Nat → Nat) : ∀ k, (zeroK r o k).length = r.length
  | 0 => rfl
  | k + 1 => by show ((zeroK r o k).set _ _).length = _; rw [List.length_set, zeroK_len r o k]
theorem zeroK_old (r : List Int) (o : Nat → Nat) (j : Nat) : ∀ k, (∀ i, i < k → o i ≠ j) → (zeroK r o k).getD j 0 = r.getD j 0
  | 0, _ => rfl
  | k + 1, h => by
    show ((zeroK r o k).set _ _).getD j 0 = _
    rw [List.getD_eq_getElem?_getD, List.getElem?_set_ne (h k (by omega)), ← List.getD_eq_getElem?_getD]
    exact zeroK_old r o j k (fun i hi => h i (by omega))
theorem zeroK_new (r : List Int) (o : Nat → Nat) (j : Nat) (hj : j < r.length) : ∀ k, (∃ i, i < k ∧ o i = j) → (zeroK r o k).getD j 0 = 0
  | 0, ⟨i, hi, _⟩ => absurd hi (Nat.not_lt_zero i)
  | k + 1, ⟨i, hi, e⟩ => by
    show ((zeroK r o k).set _ _).getD j 0 = _
    by_cases h : o k = j
    · rw [h]
      exact getD_set_self _ 0 0 (by rw [zeroK_len]; exact hj)
    · rw [List.getD_eq_getElem?_getD, List.getElem?_set_ne h, ← List.getD_eq_getElem?_getD]
      refine zeroK_new r o j hj k ⟨i, ?_, e⟩
      by_cases h' : i = k
      · subst h'; exact absurd e h
      · omega
theorem zeroK_sum {r : List Int} {o : Nat → Nat} (h : Ord r o) (B : Int) (hr : ∀ x ∈ r, 0 ≤ x ∧ x ≤ B) : ∀ k, k ≤ r.length → r.sum ≤ (zeroK r o k).sum + B * k
  | 0, _ => by simp [zeroK]
  | k + 1, hk => by
    have ih := zeroK_sum h B hr k (by omega)
    have hok := h.lt k (by omega)
    have e := zeroK_old r o (o k) k (fun i hi => h.ne hi (by omega))
    have hb := hr _ (getD_mem r 0 hok)
    have es : (zeroK r o (k + 1)).sum = (zeroK r o k).sum - (zeroK r o k).getD (o k) 0 + 0 := sum_set _ _ _ (by rw [zeroK_len]; exact hok)
    rw [es, e]
    have : B * ((k + 1 : Nat) : Int) = B * (k : Int) + B := by rw [Int.natCast_add, Int.mul_add]; simp
    omega
theorem Ord.pos {r : List Int} {o : Nat → Nat} (h : Ord r o) (S L : Int) (hS : 0 < S) (hr : ∀ x ∈ r, 0 ≤ x ∧ x ≤ S - 1) (hL : S * L = r.sum) (i : Nat) (hi : i < r.length) (hiL : (i : Int) < L) : r.getD (o i) 0 ≠ 0 := by
  intro e
  have hg : ∀ j, j < r.length → 0 ≤ r.getD j 0 := fun j hj => (hr _ (getD_mem r 0 hj)).1
  have hz : ∀ x ∈ zeroK r o i, 0 ≤ x ∧ x ≤ 0 := fun x hx => by
    obtain ⟨j, hj, rfl⟩ := mem_getD _ 0 x hx
    rw [zeroK_len] at hj
    obtain ⟨k, hk, rfl⟩ := h.all j hj
    by_cases c : k < i
    · rw [zeroK_new r o _ hj i ⟨k, c, rfl⟩]; omega
    · rw [zeroK_old r o _ i (fun q hq => h.ne (show q < k by omega) hk)]
      have h0 := hg (o k) hj
      by_cases c2 : k = i
      · subst c2; omega
      · rcases h.desc i k (by omega) hk with h1 | ⟨h1, _⟩ <;> omega
  have hs := zeroK_sum h (S - 1) hr i (by omega)
  have h0 := sum_le 0 (by omega) _ hz
  rw [Int.zero_mul] at h0
  have h1 : S * ((i : Int) + 1) ≤ S * L := Int.mul_le_mul_of_nonneg_left (by omega) (by omega)
  rw [Int.mul_add, Int.mul_one] at h1
  rw [Int.sub_mul, Int.one_mul] at hs
  omega
/-- What a share is: its part rounded down, or one more where something is left over. -/
structure Sh (x : List Int) (T S : Int) (s : List Int) : Prop where
  len : s.length = x.length
  sum : s.sum = T
  get : ∀ j, j < x.length → s.getD j 0 = (quoL T S x).getD j 0 ∨ (s.getD j 0 = (quoL T S x).getD j 0 + 1 ∧ (remL T S x).getD j 0 ≠ 0)
theorem Sh.of {x : List Int} {T S : Int} (h : Parts x T S) (s : List Int) (hs : s = outK (quoL T S x) (ordN x T S) (T - (quoL T S x).sum).toNat) : Sh x T S s := by
  subst hs
  obtain ⟨hL0, hL1, hL2⟩ := h.left
  obtain ⟨o1, o2, o3⟩ := ord_spec x T S h.n1
  have hq := h.quo
  have key : ∀ k : Nat, (k : Int) ≤ T - (quoL T S x).sum → (outK (quoL T S x) (ordN x T S) k).sum = (quoL T S x).sum + k ∧ ∀ j, j < x.length → (outK (quoL T S x) (ordN x T S) k).getD j 0 = (quoL T S x).getD j 0 ∨ ((outK (quoL T S x) (ordN x T S) k).getD j 0 = (quoL T S x).getD j 0 + 1 ∧ (remL T S x).getD j 0 ≠ 0) := by
    intro k
    induction k with
    | zero => intro _; exact ⟨by simp [outK], fun j _ => .inl rfl⟩
    | succ k ih =>
      intro hk
      obtain ⟨i1, i2⟩ := ih (by omega)
      have hkn : k < (remL T S x).length := by rw [rem_len]; omega
      have hok := o2.lt k hkn
      rw [rem_len] at hok
      have e := outK_old (quoL T S x) (ordN x T S) (ordN x T S k) k (fun i hi => o2.ne hi hkn)
      have hqk := hq _ (getD_mem (quoL T S x) 0 (show ordN x T S k < (quoL T S x).length by rw [quo_len]; exact hok))
      have hp := o2.pos S (T - (quoL T S x).sum) h.S0 h.rem hL2 k hkn (by omega)
      have ew : wrap64 ((outK (quoL T S x) (ordN x T S) k).getD (ordN x T S k) 0 + 1) = (quoL T S x).getD (ordN x T S k) 0 + 1 := by rw [e]; unfold wrap64; omega
      have es : outK (quoL T S x) (ordN x T S) (k + 1) = (outK (quoL T S x) (ordN x T S) k).set (ordN x T S k) ((quoL T S x).getD (ordN x T S k) 0 + 1) := by rw [← ew]; rfl
      rw [es]
      refine ⟨?_, fun j hj => ?_⟩
      · rw [sum_set _ _ _ (by rw [outK_len, quo_len]; exact hok), e, i1]; omega
      · by_cases c : ordN x T S k = j
        · subst c
          rw [getD_set_self _ 0 _ (by rw [outK_len, quo_len]; exact hok)]
          exact .inr ⟨rfl, hp⟩
        · rw [List.getD_eq_getElem?_getD, List.getElem?_set_ne c, ← List.getD_eq_getElem?_getD]
          exact i2 j hj
  obtain ⟨k1, k2⟩ := key (T - (quoL T S x).sum).toNat (by omega)
  exact ⟨by rw [outK_len, quo_len], by rw [k1]; omega, k2⟩
theorem lend_true (l : List Int) (a b n : Int) (h : (lend l a b n).2 = true) : contractB (lend l a b n).1 = true ∧ wsum 0 (lend l a b n).1 = wsum 0 l := by
  unfold lend at h ⊢
  by_cases h1 : lendBad l a b n = true
  · rw [if_pos h1] at h; cases h
  · rw [if_neg h1] at h ⊢
    by_cases h2 : contractB (lendY l a b n) = true
    · rw [if_pos h2]
      refine ⟨h2, ?_⟩
      have h3 : lendBad l a b n = false := by simpa using h1
      unfold lendBad at h3
      simp only [Bool.not_eq_false', Bool.and_eq_true] at h3
      obtain ⟨⟨⟨ha, hb⟩, _⟩, _⟩ := h3
      obtain ⟨ha0, ha1⟩ := (idxB_iff _ _).1 ha
      obtain ⟨hb0, hb1⟩ := (idxB_iff _ _).1 hb
      have w0 : wrap64 0 = 0 := by unfold wrap64; omega
      have e0 := wsum_mod l 0
      have e1 := wsum_mod (lendY l a b n) 0
      rw [w0] at e0 e1
      show wsum 0 (lendY l a b n) = _
      rw [e0, e1]
      unfold lendY
      rw [sum_set _ _ _ (by rw [List.length_set]; omega), sum_set _ _ _ (by omega)]
      rw [show rd l a = l.getD a.toNat 0 from rfl, show rd (l.set a.toNat (wrap64 (l.getD a.toNat 0 - n))) b = (l.set a.toNat (wrap64 (l.getD a.toNat 0 - n))).getD b.toNat 0 from rfl]
      generalize (l.set a.toNat (wrap64 (l.getD a.toNat 0 - n))).getD b.toNat 0 = m
      generalize l.getD a.toNat 0 = c
      unfold wrap64
      omega
    · rw [if_neg h2] at h; cases h

/-! @@ FnShared -/
theorem tail (l0 x : List Int) (T : Int) (S : Int) (s : List Int) (hl0 : l0.length ≤ 1048576) (hx : x.length ≤ 8) (i : Int) (hi : ¬ i < (s.length : Int)) : Ev (fun k => laws_FnShared.l0 k l0 T s S i x) true := by
  obtain ⟨y, a, b, n, hd, hy⟩ := spec_DrawLendParts.ok l0 hl0
  refine Ev.step (fun k => by simp only [laws_FnShared.l0]; rw [if_neg hi]) ?_
  refine Ev.bind hd (Ev.bind (impl_LendParts.ev y a b n (by omega)) (Ev.bind (impl_IsContract.ev x (by omega)) (Ev.bind (impl_SplitTotal.ev x 0 (by omega)) ?_)))
  have e : (contractB x == decide (((splitL x 0).length : Int) > 0)) = true := by
    unfold splitL
    by_cases hc : contractB x = true
    · have hp := Parts.of (T := 0) hc (by rfl)
      have hn := hp.n1
      rw [hc, show inR 0 0 10000 = true from rfl, if_pos (by rfl), outK_len, quo_len, decide_eq_true (by omega)]
      rfl
    · have hc' : contractB x = false := by simpa using hc
      rw [hc', if_neg (by simp)]
      rfl
  refine Ev.congr (fun k => by rw [if_pos e]) ?_
  by_cases hk : (lend y a b n).2 = true
  · obtain ⟨h1, h2⟩ := lend_true y a b n hk
    have hz : (lend y a b n).1.length ≤ 1048576 := by rw [lend_len]; omega
    refine Ev.congr (fun k => by rw [if_pos hk]) (Ev.bind (laws_sumOf.ev _ hz) (Ev.bind (laws_sumOf.ev y (by omega)) ?_))
    refine Ev.congr (fun k => by rw [if_pos h2]) (Ev.bind (impl_IsContract.ev _ hz) ?_)
    rw [h1]
    exact Ev.now _
  · exact Ev.all fun k => by rw [if_neg hk]
theorem proved : Stated := by
  intro l0 ⟨hl, hw⟩
  refine Ev.rounds ?_
  refine Ev.congr (fun k => by unfold laws_FnShared.f; rw [laws_big.val, Option.bind_some]) ?_
  by_cases hb : decide ((l0.length : Int) > 1048576) = true
  · exact Ev.all fun k => by rw [if_pos hb]
  have hb' : ¬ ((l0.length : Int) > 1048576) := fun h => hb (decide_eq_true h)
  have hl0 : l0.length ≤ 1048576 := by omega
  obtain ⟨x, T, hd, hx⟩ := spec_DrawSplitTotal.ok l0 hl0
  refine Ev.congr (fun k => by rw [if_neg hb]) (Ev.bind hd (Ev.bind (impl_SplitTotal.ev x T (by omega)) (Ev.bind (spec_SplitTotal.ev x T (by omega)) ?_)))
  refine Ev.congr (fun k => by rw [if_pos rfl]) (Ev.bind (laws_sumOf.ev x (by omega)) ?_)
  by_cases hc : (contractB x && inR T 0 10000) = true
  · have hc1 := hc
    rw [Bool.and_eq_true] at hc1
    have h := Parts.of hc1.1 hc1.2
    have hsh := Sh.of h (splitL x T) (by unfold splitL; rw [if_pos hc])
    have hi := fun j => impl_ShareOf.ev x T ((j : Nat) : Int) (by omega : x.length ≤ 1048576)
    have hwi := impl_IsWithin.ev x (splitL x T) T (by omega)
    have hS := h.S0
    generalize wsum 0 x = S at *
    generalize splitL x T = s at *
    have hn := h.n1
    have h6 := h.n6
    have hT1 := h.T1
    have hT0 := h.T0
    have hlen := hsh.len
    have hqb : ∀ j, j < x.length → 0 ≤ (quoL T S x).getD j 0 ∧ (quoL T S x).getD j 0 ≤ 1000000 := fun j hj => h.quo _ (getD_mem _ 0 (by rw [quo_len]; exact hj))
    have hsb : ∀ y ∈ s, 0 ≤ y ∧ y ≤ 1000001 := fun y hy => by
      obtain ⟨j, hj, rfl⟩ := mem_getD s 0 y hy
      have h1 := hqb j (by omega)
      rcases hsh.get j (by omega) with e | ⟨e, _⟩ <;> omega
    have hsum : wsum 0 s = T := by rw [wsum_sum 1000001 (by omega) s 0 (by omega) (by omega) hsb, hsh.sum]; omega
    have hw1 : withinL s s = true := by
      unfold withinL
      rw [if_neg (by omega), if_pos rfl, if_neg]
      rw [List.any_eq_true]
      rintro ⟨j, hj, hb⟩
      rw [List.mem_range'_1] at hj
      have := hsb _ (getD_mem s 0 (show j < s.length by omega))
      unfold badU inR at hb
      simp at hb
      rw [List.getD_eq_getElem?_getD] at this
      omega
    rw [hw1] at hwi
    refine Ev.congr (fun k => by rw [if_pos (by omega)]) (Ev.bind (laws_sumOf.ev s (by omega)) ?_)
    refine Ev.congr (fun k => by rw [if_pos hsum]) (Ev.bind hwi ?_)
    refine Ev.step (fun k => by simp only [laws_FnShared.j0]; rw [if_neg (by simp)]) ?_
    refine chain (G := fun k i => laws_FnShared.l0 k l0 T s S (i : Int) x) s.length (tail l0 x T S s hl0 hx _ (by omega)) (fun j hj r hr => ?_) s.length 0 (by omega)
    have hjx : j < x.length := by omega
    have hq1 := hqb j hjx
    have hg := hsh.get j hjx
    have hsj := hsb _ (getD_mem s 0 hj)
    have hsv : shareV s ((j : Nat) : Int) = rd s (j : Int) := by unfold shareV; rw [if_pos ((idxB_iff _ _).2 ⟨by omega, by omega⟩)]
    have hij := hi j
    rw [hsv] at hij
    refine Ev.step (fun k => by
      simp only [laws_FnShared.l0]
      rw [if_pos (by omega), if_pos (by omega), if_pos (by omega), if_neg (by omega), ← quo_get hjx, ← rem_get hjx, rd_nat, if_neg (by rcases hg with e | ⟨e, _⟩ <;> omega), show wrap64 ((quoL T S x).getD j 0 + 1) = (quoL T S x).getD j 0 + 1 by unfold wrap64; omega, if_neg (by rcases hg with e | ⟨e, _⟩ <;> omega), wrap_nat (by omega)]) ?_
    rw [rd_nat] at hij
    by_cases c : s.getD j 0 > (quoL T S x).getD j 0
    · have hr0 : (remL T S x).getD j 0 ≠ 0 := by rcases hg with e | ⟨_, e⟩; omega; exact e
      exact Ev.congr (fun k => by rw [if_pos c, if_neg hr0]) (Ev.bind hij (Ev.congr (fun k => by rw [if_pos rfl]) hr))
    · exact Ev.congr (fun k => by rw [if_neg c]) (Ev.bind hij (Ev.congr (fun k => by rw [if_pos rfl]) hr))
  · have hs : splitL x T = [] := by unfold splitL; rw [if_neg hc]
    rw [hs]
    refine Ev.congr (fun k => by rw [if_neg (by simp)]) (Ev.step (fun k => by simp only [laws_FnShared.j0]; rw [if_neg (by simp)]) ?_)
    exact tail l0 x T _ [] hl0 hx 0 (by simp)

end Go.Proofs.Ytindlpkkapelhaa.PureFnShared
