/- FnExactAcceptAll, over numbers and lists alone: what the program's function and the reference's answer is one. Conditions: the numbers are of their kinds. -/
import Derived.Test.YtegkplalnljgjaaKindsFnExactAcceptAll
import Derived.Test.YtegkplalnljgjaaVFnExactAcceptAllBase
namespace Go.Proofs.Ytegkplalnljgjaa.PureFnExactAcceptAll
open Go.RowKit Go.Proofs.Ytegkplalnljgjaa.PFnExactAcceptAll Go.Proofs.YtegkplalnljgjaaW.PrintWords Go.Proofs.YtegkplalnljgjaaW.PrintLast Go.Proofs.YtegkplalnljgjaaW.PrintMore Go.Proofs.Ytegkplalnljgjaa.Base
set_option linter.unusedVariables false
set_option linter.unusedSimpArgs false

/-! impl_InRange -/
theorem impl_InRange.val (a lo hi : Int) : impl_InRange.f a lo hi = some (inR a lo hi) := by
  unfold impl_InRange.f inR
  by_cases h : lo ≤ a
  · rw [if_pos h]; simp [h]
  · rw [if_neg h]; simp; omega

/-! d_streamB -/
def badK (next : Int) (l : List Int) (i : Nat) : Bool := decide (l.getD i 0 ≤ next) || decide (l.getD i 0 > 9999) || (decide (0 < i) && decide (l.getD i 0 ≤ l.getD (i - 1) 0))
def streamB (x y : Int) (l : List Int) : Bool := inR x 0 10000 && inR y 0 10000 && decide ((l.length : Int) ≤ 20) && !(List.range' 0 l.length).any (badK y l)

/-! impl_IsStream -/
theorem impl_IsStream.ev (x y : Int) (l : List Int) (hl : l.length ≤ 1048576) : Ev (fun k => impl_IsStream.f k x y l) (streamB x y l) := by
  have h := find_index (g := fun k i => impl_IsStream.l0 k l l.length i x y l) (q := badK y l) (r := false) (e := true) l.length
    (Ev.one fun k => by
      simp only [impl_IsStream.l0]
      rw [if_neg (by omega)])
    (fun i k hi => by
      simp only [impl_IsStream.l0]
      rw [if_pos (by omega), if_pos (by omega), if_pos (by omega), wrap_nat (by omega)]
      rcases Nat.eq_zero_or_pos i with rfl | hp
      · rw [if_neg (show ¬ ((0 : Nat) : Int) > 0 by omega)]
        show (if l.getD 0 0 ≤ y then _ else if l.getD 0 0 > 9999 then _ else _) = _
        unfold badK
        by_cases h1 : l.getD 0 0 ≤ y
        · rw [if_pos h1, if_pos (by simp only [h1, decide_true, Bool.true_or])]
        · rw [if_neg h1]
          by_cases h2 : l.getD 0 0 > 9999
          · rw [if_pos h2, if_pos (by simp only [h2, decide_true, Bool.true_or, Bool.or_true])]
          · rw [if_neg h2, if_neg (by simp only [h1, h2, decide_false, Bool.false_or, Nat.lt_irrefl, Bool.false_and]; simp)]
      · rw [wrap_pred hp (by omega), if_pos (show ((i : Nat) : Int) > 0 by omega), if_pos (show (0 : Int) ≤ ((i - 1 : Nat) : Int) by omega), if_pos (show ((i - 1 : Nat) : Int) < (l.length : Int) by omega)]
        show (if l.getD i 0 ≤ y then _ else if l.getD i 0 > 9999 then _ else if l.getD i 0 ≤ l.getD (i - 1) 0 then _ else _) = _
        unfold badK
        generalize l.getD i 0 = u
        generalize l.getD (i - 1) 0 = v
        by_cases h1 : u ≤ y <;> by_cases h2 : u > 9999 <;> by_cases h3 : u ≤ v <;> simp [h1, h2, h3, hp] <;> omega)
  rw [ite_notb] at h
  have bad : ∀ b : Bool, b = true → Ev (fun k => impl_IsStream.j0 k b x y l) false := fun b hb => Ev.one fun k => by simp only [impl_IsStream.j0]; rw [if_pos hb]
  have good : ∀ b : Bool, b = false → Ev (fun k => impl_IsStream.j0 k b x y l) (!(List.range' 0 l.length).any (badK y l)) := fun b hb => Ev.step (fun k => by simp only [impl_IsStream.j0]; rw [if_neg (by simp [hb])]) h
  refine Ev.congr (fun k => by unfold impl_IsStream.f; rw [impl_InRange.val, impl_InRange.val, Option.bind_some, Option.bind_some]) ?_
  unfold streamB
  by_cases h1 : inR x 0 10000 = true
  · by_cases h2 : inR y 0 10000 = true
    · refine Ev.congr (fun k => by rw [if_pos h1, if_pos h2]) ?_
      rw [h1, h2]
      by_cases h3 : (l.length : Int) ≤ 20
      · simp only [h3, decide_true, Bool.true_and]
        exact good _ (by simp; omega)
      · simp only [h3, decide_false, Bool.and_false, Bool.false_and, Bool.true_and]
        exact bad _ (by simp; omega)
    · refine Ev.congr (fun k => by rw [if_pos h1, if_neg h2]) ?_
      have h2' : inR y 0 10000 = false := by simpa using h2
      rw [h2']
      simpa using bad true rfl
  · refine Ev.congr (fun k => by rw [if_neg h1]) ?_
    have h1' : inR x 0 10000 = false := by simpa using h1
    rw [h1']
    simpa using bad true rfl

/-! slices_Index_int_int -/
theorem slices_Index_int_int.ev_l (l : List Int) (a : Int) (hl : l.length ≤ 1048576) : ∀ (d i : Nat), i + d = l.length → ∃ r, Ev (fun k => slices_Index_int_int.l0 k l a l.length i) r ∧ decide (r ≥ 0) = (l.drop i).any (fun x => x == a) := by
  intro d
  induction d with
  | zero =>
    intro i hi
    exact ⟨-1, Ev.one fun k => by simp only [slices_Index_int_int.l0]; rw [if_neg (by omega)], by rw [List.drop_eq_nil_of_le (by omega)]; rfl⟩
  | succ d ih =>
    intro i hi
    rw [drop_cons l 0 (show i < l.length by omega), List.any_cons]
    by_cases h : a = l.getD i 0
    · refine ⟨(i : Int), Ev.one fun k => ?_, ?_⟩
      · simp only [slices_Index_int_int.l0]
        rw [if_pos (by omega), if_pos (by omega), if_pos (by omega), rd_nat, if_pos h]
      · rw [← h]; simp
    · obtain ⟨r, hr, hd⟩ := ih (i + 1) (by omega)
      refine ⟨r, Ev.step (fun k => ?_) hr, ?_⟩
      · simp only [slices_Index_int_int.l0]
        rw [if_pos (by omega), if_pos (by omega), if_pos (by omega), rd_nat, if_neg h, wrap_nat (by omega)]
      · have : (l.getD i 0 == a) = false := by rw [beq_eq_false_iff_ne]; exact fun e => h e.symm
        rw [this, Bool.false_or, hd]
theorem slices_Index_int_int.ev (l : List Int) (a : Int) (hl : l.length ≤ 1048576) : ∃ r, Ev (fun k => slices_Index_int_int.f k l a) r ∧ decide (r ≥ 0) = hasB l a := by
  have := slices_Index_int_int.ev_l l a hl l.length 0 (by omega)
  rw [List.drop_zero] at this
  exact this

/-! slices_Contains_int_int -/
theorem slices_Contains_int_int.ev (l : List Int) (a : Int) (hl : l.length ≤ 1048576) : Ev (fun k => slices_Contains_int_int.f k l a) (hasB l a) := by
  obtain ⟨r, hr, e⟩ := slices_Index_int_int.ev l a hl
  rw [← e]
  exact Ev.bind hr (Ev.now _)

/-! slices_Clone_int_int -/
theorem slices_Clone_int_int.val (l : List Int) (hl : l.length ≤ 1048576) : slices_Clone_int_int.f l = some l := by
  unfold slices_Clone_int_int.f
  rw [if_pos (by omega)]

/-! impl_cloneStream -/
theorem impl_cloneStream.val (x y : Int) (l : List Int) (hl : l.length ≤ 1048576) : impl_cloneStream.f x y l = some (x, y, l) := by
  unfold impl_cloneStream.f slices_Clone_int_int.f
  rw [if_pos (by omega), Option.bind_some]

/-! cmp_Less_int -/
theorem cmp_Less_int.val (a b : Int) : cmp_Less_int.f a b = some (decide (a < b)) := by
  unfold cmp_Less_int.f cmp_isNaN_int.f
  simp

/-! d_accept -/
def giv : Int → List Int → List Int × Int × List Int
  | n, [] => ([], n, [])
  | n, x :: l => if x = n then (n :: (giv (wrap64 (n + 1)) l).1, (giv (wrap64 (n + 1)) l).2) else ([], n, x :: l)
theorem giv_len : ∀ (l : List Int) (n : Int), (giv n l).1.length ≤ l.length ∧ (giv n l).2.2.length ≤ l.length
  | [], n => by simp [giv]
  | x :: l, n => by
    obtain ⟨h1, h2⟩ := giv_len l (wrap64 (n + 1))
    rw [giv]
    split
    · simp only [List.length_cons]; omega
    · simp
def posA (n : Int) : List Int → Nat
  | [] => 0
  | x :: l => if x < n then posA n l + 1 else 0
theorem posA_le (n : Int) : ∀ l : List Int, posA n l ≤ l.length
  | [] => Nat.le_refl _
  | x :: l => by
    rw [posA]
    have := posA_le n l
    split
    · simp only [List.length_cons]; omega
    · simp
theorem posA_eq (n : Int) : ∀ (l : List Int) (i : Nat), i ≤ l.length → (∀ t, t < i → l.getD t 0 < n) → (i < l.length → ¬ l.getD i 0 < n) → posA n l = i
  | [], i, h, _, _ => by simp at h; simp [posA, h]
  | x :: l, 0, _, _, h2 => by
    have := h2 (by simp)
    rw [posA, if_neg (by simpa using this)]
  | x :: l, i + 1, h, h1, h2 => by
    rw [posA, if_pos (by simpa using h1 0 (by omega)), posA_eq n l i (by simpa using h) (fun t ht => by simpa using h1 (t + 1) (by omega)) (fun hi => by simpa using h2 (by simpa using hi))]
def ins1 (s : Int) (L : List Int) : List Int := L.take (posA s L) ++ [s] ++ L.drop (posA s L)
theorem ins1_length (s : Int) (L : List Int) : (ins1 s L).length = L.length + 1 := by
  have := posA_le s L
  simp [ins1]; omega
def accept (F N : Int) (L : List Int) (s : Int) : Int × Int × List Int × List Int × Bool :=
  if (streamB F N L && inR s 0 9999) = true then
    if (decide (s < N) || hasB L s) = true then (F, N, L, [], true)
    else if streamB F (giv N (ins1 s L)).2.1 (giv N (ins1 s L)).2.2 = true then (F, (giv N (ins1 s L)).2.1, (giv N (ins1 s L)).2.2, (giv N (ins1 s L)).1, true) else (F, N, L, [], false)
  else (F, N, L, [], false)
theorem streamB_len {x y : Int} {l : List Int} (h : streamB x y l = true) : l.length ≤ 20 := by
  unfold streamB at h
  simp only [Bool.and_eq_true, decide_eq_true_eq] at h
  omega
theorem streamB_mono {x y : Int} {l : List Int} (h : streamB x y l = true) : ∀ i, i + 1 < l.length → l.getD i 0 < l.getD (i + 1) 0 := by
  intro i hi
  unfold streamB at h
  simp only [Bool.and_eq_true, Bool.not_eq_true', List.any_eq_false] at h
  have h2 := h.2 (i + 1) (by simp [List.mem_range']; omega)
  unfold badK at h2
  simp at h2
  have := h2.2
  simp only [List.getD_eq_getElem?_getD]
  omega
theorem streamB_lt {x y : Int} {l : List Int} (h : streamB x y l = true) : ∀ d i, i + d + 1 < l.length → l.getD i 0 < l.getD (i + d + 1) 0 := by
  intro d
  induction d with
  | zero => intro i hi; exact streamB_mono h i hi
  | succ d ih =>
    intro i hi
    have h1 := ih i (by omega)
    have h2 := streamB_mono h (i + d + 1) (by omega)
    rw [show i + (d + 1) + 1 = i + d + 1 + 1 by omega]
    omega
theorem accept_len (F N : Int) (L : List Int) (s : Int) (hl : L.length ≤ 1048576) : (accept F N L s).2.2.1.length ≤ 1048576 ∧ (accept F N L s).2.2.2.1.length ≤ 21 := by
  unfold accept
  split
  · rename_i h
    simp only [Bool.and_eq_true] at h
    have h20 := streamB_len h.1
    split
    · exact ⟨hl, by simp⟩
    · have h1 := giv_len (ins1 s L) N
      rw [ins1_length] at h1
      split
      · exact ⟨by show (giv N (ins1 s L)).2.2.length ≤ _; omega, by show (giv N (ins1 s L)).1.length ≤ _; omega⟩
      · exact ⟨hl, by simp⟩
  · exact ⟨hl, by simp⟩

/-! slices_BinarySearch_int_int -/
theorem slices_BinarySearch_int_int.ev_l (L : List Int) (s : Int) (hL : L.length ≤ 1048576) (hm : ∀ a b, a < b → b < L.length → L.getD a 0 < L.getD b 0) : ∀ (d lo hi : Nat), hi ≤ lo + d → lo ≤ hi → hi ≤ L.length → (∀ t, t < lo → L.getD t 0 < s) → (∀ t, hi ≤ t → t < L.length → ¬ L.getD t 0 < s) →
    ∃ b, Ev (fun k => slices_BinarySearch_int_int.l0 k L s (L.length : Int) lo hi) ((posA s L : Int), b) := by
  have fin : ∀ lo : Nat, lo ≤ L.length → (∀ t, t < lo → L.getD t 0 < s) → (∀ t, lo ≤ t → t < L.length → ¬ L.getD t 0 < s) → ∃ b, Ev (fun k => slices_BinarySearch_int_int.l0 k L s (L.length : Int) lo lo) ((posA s L : Int), b) := by
    intro lo hlo h1 h2
    have hp := posA_eq s L lo hlo h1 (fun h => h2 lo (Nat.le_refl _) h)
    by_cases hlt : lo < L.length
    · by_cases he : L.getD lo 0 = s
      · refine ⟨true, Ev.one fun k => ?_⟩
        simp only [slices_BinarySearch_int_int.l0]
        rw [if_neg (by omega), if_pos (by omega), if_pos (by omega), if_pos (by omega), rd_nat, if_pos he, hp]
      · refine ⟨false, Ev.one fun k => ?_⟩
        simp only [slices_BinarySearch_int_int.l0]
        rw [if_neg (by omega), if_pos (by omega), if_pos (by omega), if_pos (by omega), rd_nat, if_neg he, hp]
        simp [slices_isNaN_int.f]
    · refine ⟨false, Ev.one fun k => ?_⟩
      simp only [slices_BinarySearch_int_int.l0]
      rw [if_neg (by omega), if_neg (by omega), hp]
  intro d
  induction d with
  | zero =>
    intro lo hi h1 h2 h3 h4 h5
    obtain rfl : hi = lo := by omega
    exact fin hi h3 h4 h5
  | succ d ih =>
    intro lo hi h1 h2 h3 h4 h5
    by_cases hlt : lo < hi
    · have hh : wrap64 ((IntKind.u64.wrap (wrap64 ((lo : Int) + (hi : Int)))) / 2) = (((lo + hi) / 2 : Nat) : Int) := by
        rw [wrap_id (x := (lo : Int) + (hi : Int)) (by omega) (by omega)]
        rw [show IntKind.u64.wrap ((lo : Int) + (hi : Int)) = (lo : Int) + (hi : Int) by simp [IntKind.wrap, IntKind.bits, IntKind.signed]; omega]
        rw [wrap_id (by omega) (by omega)]
        omega
      have hm1 : (lo + hi) / 2 < hi := by omega
      have hm2 : lo ≤ (lo + hi) / 2 := by omega
      by_cases hx : L.getD ((lo + hi) / 2) 0 < s
      · obtain ⟨b, hb⟩ := ih ((lo + hi) / 2 + 1) hi (by omega) (by omega) h3 (fun t ht => by
          by_cases e : t = (lo + hi) / 2
          · rw [e]; exact hx
          · have := hm t ((lo + hi) / 2) (by omega) (by omega)
            omega) h5
        refine ⟨b, Ev.step (fun k => ?_) hb⟩
        simp only [slices_BinarySearch_int_int.l0]
        rw [if_pos (by omega), hh, if_pos (by omega), if_pos (by omega), cmp_Less_int.val, Option.bind_some, rd_nat, if_pos (by simpa using hx), wrap_nat (by omega)]
      · obtain ⟨b, hb⟩ := ih lo ((lo + hi) / 2) (by omega) (by omega) (by omega) h4 (fun t ht htl => by
          by_cases e : t = (lo + hi) / 2
          · rw [e]; exact hx
          · have := hm ((lo + hi) / 2) t (by omega) htl
            omega)
        refine ⟨b, Ev.step (fun k => ?_) hb⟩
        simp only [slices_BinarySearch_int_int.l0]
        rw [if_pos (by omega), hh, if_pos (by omega), if_pos (by omega), cmp_Less_int.val, Option.bind_some, rd_nat, if_neg (by simpa using hx)]
    · obtain rfl : hi = lo := by omega
      exact fin hi h3 h4 h5
theorem slices_BinarySearch_int_int.ev (L : List Int) (s : Int) (hL : L.length ≤ 1048576) (hm : ∀ a b, a < b → b < L.length → L.getD a 0 < L.getD b 0) : ∃ b, Ev (fun k => slices_BinarySearch_int_int.f k L s) ((posA s L : Int), b) :=
  slices_BinarySearch_int_int.ev_l L s hL hm L.length 0 L.length (by omega) (by omega) (Nat.le_refl _) (fun t ht => by omega) (fun t h1 h2 => by omega)

/-! impl_AcceptSeq -/
theorem impl_AcceptSeq.ev_l0 (F N : Int) (L : List Int) (F0 : Int) (hL : L.length ≤ 1048576) : ∀ (l : List Int) (n : Int) (o : List Int), l.length ≤ 100 → o.length + l.length ≤ 1048576 →
    Ev (fun k => impl_AcceptSeq.l0 k o F N L F0 n l) (if streamB F0 (giv n l).2.1 (giv n l).2.2 = true then (F0, (giv n l).2.1, (giv n l).2.2, o ++ (giv n l).1, true) else (F, N, L, [], false))
  | [], n, o, hl, ho => by
    refine Ev.step (fun k => by simp only [impl_AcceptSeq.l0]; rw [if_neg (by simp)]) ?_
    refine Ev.step (fun k => by simp only [impl_AcceptSeq.j3]; rfl) ?_
    refine Ev.bind (impl_IsStream.ev F0 n [] (by simp)) (Ev.all fun k => ?_)
    rw [impl_cloneStream.val F N L hL, Option.bind_some]
    simp only [giv, List.append_nil]
    by_cases h : streamB F0 n [] = true
    · rw [if_pos h, if_pos h]
    · rw [if_neg h, if_neg h]
  | x :: l, n, o, hl, ho => by
    simp only [List.length_cons] at hl ho
    by_cases hx : x = n
    · have ih := impl_AcceptSeq.ev_l0 F N L F0 hL l (wrap64 (n + 1)) (o ++ [n]) (by omega) (by simp; omega)
      refine Ev.step (fun k => by
        simp only [impl_AcceptSeq.l0]
        rw [if_pos (by simp only [List.length_cons]; omega), if_pos (by simp only [List.length_cons]; omega), show rd (x :: l) 0 = x from rfl, if_pos hx, if_pos (by omega), if_pos (by simp only [List.length_cons]; omega)]) ?_
      rw [giv, if_pos hx]
      simp only [List.append_assoc, List.singleton_append] at ih
      exact ih
    · refine Ev.step (fun k => by
        simp only [impl_AcceptSeq.l0]
        rw [if_pos (by simp only [List.length_cons]; omega), if_pos (by simp only [List.length_cons]; omega), show rd (x :: l) 0 = x from rfl, if_neg hx]) ?_
      refine Ev.step (fun k => by simp only [impl_AcceptSeq.j3]; rfl) ?_
      refine Ev.bind (impl_IsStream.ev F0 n (x :: l) (by simp only [List.length_cons]; omega)) (Ev.all fun k => ?_)
      rw [impl_cloneStream.val F N L hL, Option.bind_some]
      rw [giv, if_neg hx]
      simp only [List.append_nil]
      by_cases h : streamB F0 n (x :: l) = true
      · rw [if_pos h, if_pos h]
      · rw [if_neg h, if_neg h]
theorem impl_AcceptSeq.ev (F N : Int) (L : List Int) (s : Int) (hL : L.length ≤ 1048576) : Ev (fun k => impl_AcceptSeq.f k F N L s) (accept F N L s) := by
  have bad : ∀ b : Bool, b = true → Ev (fun k => impl_AcceptSeq.j0 k s b F N L) (F, N, L, [], false) := fun b hb => Ev.one fun k => by simp only [impl_AcceptSeq.j0]; rw [if_pos hb, impl_cloneStream.val F N L hL, Option.bind_some]
  refine Ev.bind (impl_IsStream.ev F N L hL) ?_
  unfold accept
  by_cases h1 : streamB F N L = true
  · refine Ev.congr (fun k => by rw [if_pos h1, impl_InRange.val, Option.bind_some]) ?_
    have h20 := streamB_len h1
    by_cases h2 : inR s 0 9999 = true
    · rw [if_pos (by rw [h1, h2]; rfl)]
      have old : ∀ b : Bool, b = true → Ev (fun k => impl_AcceptSeq.j1 k s [] b F N L F N L) (F, N, L, [], true) := fun b hb => Ev.one fun k => by simp only [impl_AcceptSeq.j1]; rw [if_pos hb]
      by_cases h3 : s < N
      · rw [if_pos (by simp [h3])]
        exact Ev.step (fun k => by simp only [impl_AcceptSeq.j0]; rw [if_neg (by simp [h2]), impl_cloneStream.val F N L hL, Option.bind_some, Option.bind_some, if_pos h3]) (old true rfl)
      · refine Ev.step (fun k => by simp only [impl_AcceptSeq.j0]; rw [if_neg (by simp [h2]), impl_cloneStream.val F N L hL, Option.bind_some, Option.bind_some, if_neg h3]) (Ev.bind (slices_Contains_int_int.ev L s hL) ?_)
        by_cases h4 : hasB L s = true
        · rw [if_pos (by simp [h4])]
          exact old _ h4
        · rw [if_neg (by simp [h3, h4])]
          refine Ev.step (fun k => by simp only [impl_AcceptSeq.j1]; rw [if_neg h4]) ?_
          obtain ⟨b, hb⟩ := slices_BinarySearch_int_int.ev L s hL (fun p q hpq hq => by
            have := streamB_lt h1 (q - p - 1) p (by omega)
            rwa [show p + (q - p - 1) + 1 = q by omega] at this)
          have hp := posA_le s L
          have h5 := impl_AcceptSeq.ev_l0 F N L F hL (ins1 s L) N [] (by rw [ins1_length]; omega) (by rw [ins1_length]; simp; omega)
          rw [List.nil_append] at h5
          refine Ev.bind hb (Ev.congr (fun k => ?_) h5)
          unfold slices_Insert_int_int.f
          rw [if_pos ⟨by omega, by simp only [Int.toNat_natCast]; omega, rfl, by omega⟩, Option.bind_some, Int.toNat_natCast]
          rfl
    · rw [if_neg (by simp [h2])]
      exact bad _ (by simp [h2])
  · rw [if_neg (by simp [h1])]
    refine Ev.congr (fun k => by rw [if_neg h1]) ?_
    exact bad _ rfl

/-! d_accAll -/
def accStep (st : Int × Int × List Int × List Int) (s : Int) : Int × Int × List Int × List Int := ((accept st.1 st.2.1 st.2.2.1 s).1, (accept st.1 st.2.1 st.2.2.1 s).2.1, (accept st.1 st.2.1 st.2.2.1 s).2.2.1, st.2.2.2 ++ (accept st.1 st.2.1 st.2.2.1 s).2.2.2.1)
def accAll (l : List Int) (st : Int × Int × List Int × List Int) : Int × Int × List Int × List Int := l.foldl accStep st
theorem accAll_len : ∀ (l : List Int) (st : Int × Int × List Int × List Int), st.2.2.1.length ≤ 1048576 → (accAll l st).2.2.1.length ≤ 1048576 ∧ (accAll l st).2.2.2.length ≤ st.2.2.2.length + 21 * l.length
  | [], st, h => ⟨h, by simp [accAll]⟩
  | s :: l, (F, N, L, o), h => by
    obtain ⟨h1, h2⟩ := accept_len F N L s h
    obtain ⟨h3, h4⟩ := accAll_len l (accStep (F, N, L, o) s) h1
    refine ⟨h3, ?_⟩
    have h5 : (accStep (F, N, L, o) s).2.2.2.length = o.length + (accept F N L s).2.2.2.1.length := List.length_append
    rw [h5] at h4
    show (accAll l (accStep (F, N, L, o) s)).2.2.2.length ≤ o.length + 21 * (l.length + 1)
    omega

/-! impl_AcceptAll -/
theorem impl_AcceptAll.ev_l (l : List Int) (hl : l.length ≤ 4000000) : ∀ (d i : Nat) (F N : Int) (L o : List Int), i + d = l.length → L.length ≤ 1048576 → o.length ≤ 21 * i → Ev (fun k => impl_AcceptAll.l0 k o l (l.length : Int) i F N L) (accAll (l.drop i) (F, N, L, o)) := by
  intro d
  induction d with
  | zero =>
    intro i F N L o hi hL ho
    rw [List.drop_eq_nil_of_le (by omega)]
    exact Ev.one fun k => by simp only [impl_AcceptAll.l0]; rw [if_neg (by omega)]; rfl
  | succ d ih =>
    intro i F N L o hi hL ho
    rw [drop_cons l 0 (by omega)]
    obtain ⟨h1, h2⟩ := accept_len F N L (l.getD i 0) hL
    have h3 := ih (i + 1) (accept F N L (l.getD i 0)).1 (accept F N L (l.getD i 0)).2.1 (accept F N L (l.getD i 0)).2.2.1 (o ++ (accept F N L (l.getD i 0)).2.2.2.1) (by omega) h1 (by rw [List.length_append]; omega)
    refine Ev.step (fun k => by simp only [impl_AcceptAll.l0]; rw [if_pos (by omega), if_pos (by omega), if_pos (by omega), rd_nat, wrap_nat (by omega)]) (Ev.bind (impl_AcceptSeq.ev F N L (l.getD i 0) hL) ?_)
    exact Ev.congr (fun k => by rw [if_pos (by omega)]) h3
theorem impl_AcceptAll.ev (F N : Int) (L l : List Int) (hL : L.length ≤ 1048576) (hl : l.length ≤ 4000000) : Ev (fun k => impl_AcceptAll.f k F N L l) (accAll l (F, N, L, [])) := by
  have := impl_AcceptAll.ev_l l hl l.length 0 F N L [] (by omega) hL (by simp)
  exact Ev.congr (fun k => by unfold impl_AcceptAll.f; rw [impl_cloneStream.val F N L hL, Option.bind_some]; rfl) this

/-! laws_szIntS -/
theorem laws_szIntS.val (l : List Int) (a : Int) (h0 : 0 ≤ a) (h1 : a ≤ 1048576) (hl : l.length ≤ maxLen) :
    ∃ t, laws_szIntS.f l a = some t ∧ t ≤ a ∧ (0 ≤ t → t = a - l.length ∧ l.length ≤ 1048576) := by
  unfold maxLen at hl
  unfold laws_szIntS.f
  rw [wrap_id (by omega) (by omega)]
  by_cases h : a - (l.length : Int) < 0
  · rw [if_pos h]; exact ⟨_, rfl, by omega, by omega⟩
  · rw [if_neg h]; exact ⟨_, rfl, by omega, by omega⟩

/-! laws_szStream -/
theorem laws_szStream.val (x y : Int) (l : List Int) (a : Int) (h0 : 0 ≤ a) (h1 : a ≤ 1048576) (hl : l.length ≤ maxLen) :
    ∃ t, laws_szStream.f x y l a = some t ∧ t ≤ a ∧ (0 ≤ t → t = a - l.length ∧ l.length ≤ 1048576) := by
  obtain ⟨t, h, h2, h3⟩ := laws_szIntS.val l a h0 h1 hl
  unfold laws_szStream.f
  rw [h, Option.bind_some]
  by_cases ht : t < 0
  · rw [if_pos ht]; exact ⟨_, rfl, by omega, by omega⟩
  · rw [if_neg ht]; exact ⟨_, rfl, h2, h3⟩

/-! laws_toIntS -/
theorem laws_toIntS.ev_l (l : List Int) (hl : l.length ≤ 1048576) : ∀ (d i : Nat) (o : List Int), i + d = l.length → o.length = l.length → o.take i = l.take i → Ev (fun k => laws_toIntS.l0 k l o i) l := by
  intro d
  induction d with
  | zero =>
    intro i o hi ho ht
    refine Ev.one fun k => ?_
    simp only [laws_toIntS.l0]
    rw [if_neg (by omega), take_full ho (by omega) ht]
  | succ d ih =>
    intro i o hi ho ht
    refine Ev.step (fun k => ?_) (ih (i + 1) (o.set i (l.getD i 0)) (by omega) (by simp [ho]) (set_take o l _ ho (get_of l 0 (by omega)) ht))
    simp only [laws_toIntS.l0]
    rw [if_pos (by omega), if_pos (by omega), if_pos (by omega), wrap_nat (by omega)]
    rfl
theorem laws_toIntS.ev (l : List Int) (hl : l.length ≤ 1048576) : Ev (fun k => laws_toIntS.f k l) l :=
  Ev.congr (fun k => by unfold laws_toIntS.f; rw [if_pos (by omega), if_pos (by omega)] <;> rfl) (laws_toIntS.ev_l l hl l.length 0 _ (by omega) (by simp) (by simp))

/-! laws_toStream -/
theorem laws_toStream.ev (x y : Int) (l : List Int) (hl : l.length ≤ 1048576) : Ev (fun k => laws_toStream.f k x y l) (x, y, l) := Ev.bind (laws_toIntS.ev l hl) (Ev.now _)

/-! laws_eqIntS -/
theorem laws_eqIntS.ev_l (l : List Int) (hl : l.length ≤ 1048576) : ∀ (d i : Nat), i + d = l.length → Ev (fun k => laws_eqIntS.l0 k l l i) true := by
  intro d
  induction d with
  | zero => intro i hi; refine Ev.one fun k => ?_; simp only [laws_eqIntS.l0]; rw [if_neg (by omega)]
  | succ d ih =>
    intro i hi
    refine Ev.step (fun k => ?_) (ih (i + 1) (by omega))
    simp only [laws_eqIntS.l0]
    rw [if_pos (by omega), if_pos (by omega), if_pos (by omega), if_pos trivial, wrap_nat (by omega)]
theorem laws_eqIntS.ev (l : List Int) (hl : l.length ≤ 1048576) : Ev (fun k => laws_eqIntS.f k l l) true :=
  Ev.congr (fun k => by unfold laws_eqIntS.f; rw [if_pos rfl] <;> rfl) (laws_eqIntS.ev_l l hl l.length 0 (by omega))
theorem laws_eqIntS.ev' (l : List Int) (hl : l.length ≤ 4000000) : Ev (fun k => laws_eqIntS.f k l l) true := by
  refine Ev.congr (fun k => by unfold laws_eqIntS.f; rw [if_pos rfl]) (all_loop (g := fun k i => laws_eqIntS.l0 k l l i) l.length (Ev.one fun k => by simp only [laws_eqIntS.l0]; rw [if_neg (by omega)]) (fun i hi r hr => Ev.step (fun k => ?_) hr))
  simp only [laws_eqIntS.l0]
  rw [if_pos (by omega), if_pos (by omega), if_pos (by omega), if_pos trivial, wrap_nat (by omega)]

/-! laws_eqStream -/
theorem laws_eqStream.ev (x y : Int) (l : List Int) (hl : l.length ≤ 1048576) : Ev (fun k => laws_eqStream.f k x y l x y l) true := by
  refine Ev.congr (fun k => by unfold laws_eqStream.f; rw [if_pos rfl, if_pos rfl]) ?_
  exact Ev.bind (laws_eqIntS.ev l hl) (Ev.all fun k => rfl)

/-! laws_markIntS -/
theorem laws_markIntS.ev_l (a : Int) (n : Nat) (h0 : 0 ≤ a) (h1 : a + n ≤ 4611686018427387904) : ∀ (d i : Nat) (o : List Int), i + d = n → o.length = n → o.take i = (marks a n).take i →
    Ev (fun k => laws_markIntS.l0 k o (a + i) i) (a + n, marks a n) := by
  intro d
  induction d with
  | zero =>
    intro i o hi ho ht
    refine Ev.one fun k => ?_
    simp only [laws_markIntS.l0]
    rw [if_neg (by omega), take_full (by rw [marks_length]; exact ho) (by rw [marks_length]; omega) ht, show i = n by omega]
  | succ d ih =>
    intro i o hi ho ht
    refine Ev.step (fun k => ?_) (ih (i + 1) (o.set i (a + i)) (by omega) (by simp [ho]) (set_take o _ _ (by rw [marks_length]; exact ho) (marks_get a n i (by omega)) ht))
    simp only [laws_markIntS.l0]
    rw [if_pos (by omega), if_pos (by omega), wrap_nat (by omega), wrap_id (by omega) (by omega)]
    rw [show a + (i : Int) + 1 = a + ((i + 1 : Nat) : Int) by omega]
    rfl
theorem laws_markIntS.ev (l : List Int) (a : Int) (h0 : 0 ≤ a) (h1 : a + l.length ≤ 4611686018427387904) : Ev (fun k => laws_markIntS.f k l a) (a + l.length, marks a l.length) := by
  have := laws_markIntS.ev_l a l.length h0 h1 l.length 0 l (by omega) rfl (by simp)
  rw [show a + ((0 : Nat) : Int) = a by omega] at this
  exact this

/-! laws_markStream -/
theorem laws_markStream.ev (x y : Int) (l : List Int) (a : Int) (h0 : 0 ≤ a) (h1 : a + l.length ≤ 4611686018427387904) : Ev (fun k => laws_markStream.f k x y l a) (a + l.length, marks a l.length) := Ev.bind (laws_markIntS.ev l a h0 h1) (Ev.now _)

/-! laws_heldIntS -/
theorem laws_heldIntS.ev_l (a : Int) (n : Nat) (h0 : 0 ≤ a) (h1 : a + n ≤ 4611686018427387904) : ∀ (d i : Nat), i + d = n → Ev (fun k => laws_heldIntS.l0 k (marks a n) (a + i) i) (a + n) := by
  intro d
  induction d with
  | zero =>
    intro i hi
    refine Ev.one fun k => ?_
    simp only [laws_heldIntS.l0]
    rw [if_neg (by rw [marks_length]; omega), show i = n by omega]
  | succ d ih =>
    intro i hi
    refine Ev.step (fun k => ?_) (ih (i + 1) (by omega))
    simp only [laws_heldIntS.l0]
    rw [if_pos (by rw [marks_length]; omega), if_pos (by omega), rd_nat, if_pos (marks_getD a n i (by omega)), wrap_nat (by omega), wrap_id (by omega) (by omega)]
    rw [show a + (i : Int) + 1 = a + ((i + 1 : Nat) : Int) by omega]
theorem laws_heldIntS.ev (a : Int) (n : Nat) (h0 : 0 ≤ a) (h1 : a + n ≤ 4611686018427387904) : Ev (fun k => laws_heldIntS.f k (marks a n) a) (a + n) := by
  have := laws_heldIntS.ev_l a n h0 h1 n 0 (by omega)
  rw [show a + ((0 : Nat) : Int) = a by omega] at this
  exact this

/-! laws_heldStream -/
theorem laws_heldStream.ev (x y : Int) (a : Int) (n : Nat) (h0 : 0 ≤ a) (h1 : a + n ≤ 4611686018427387904) : Ev (fun k => laws_heldStream.f k x y (marks a n) a) (a + n) := Ev.bind (laws_heldIntS.ev a n h0 h1) (Ev.all fun k => by rw [if_neg (by omega)])

/-! spec_l15Has -/
theorem spec_l15Has.ev (l : List Int) (a : Int) (hl : l.length ≤ 1048576) : Ev (fun k => spec_l15Has.f k l a) (hasB l a) := by
  have h := find_list (g := fun k i => spec_l15Has.l0 k l a i) (q := fun x => x == a) (r := true) (e := false) l 0
    (Ev.one fun k => by simp only [spec_l15Has.l0]; rw [if_neg (by omega)])
    (fun i k hi => by
      simp only [spec_l15Has.l0]
      rw [if_pos (by omega), if_pos (by omega), wrap_nat (by omega), rd_nat]
      by_cases h : l.getD i 0 = a
      · rw [if_pos h, if_pos (by simpa using h)]
      · rw [if_neg h, if_neg (by simpa using h)])
  rw [ite_bool] at h
  exact h

/-! spec_l1In -/
theorem spec_l1In.val (a lo hi : Int) : spec_l1In.f a lo hi = some (inR a lo hi) := by
  unfold spec_l1In.f inR
  by_cases h : a ≥ lo
  · rw [if_pos h]; simp [h]
  · rw [if_neg h]; simp; omega

/-! spec_IsStream -/
theorem spec_IsStream.ev (x y : Int) (l : List Int) (hl : l.length ≤ 1048576) : Ev (fun k => spec_IsStream.f k x y l) (streamB x y l) := by
  have h := find_index (g := fun k i => spec_IsStream.l0 k i x y l) (q := badK y l) (r := false) (e := inR x 0 10000 && inR y 0 10000 && decide ((l.length : Int) ≤ 20)) l.length
    (Ev.one fun k => by
      simp only [spec_IsStream.l0, spec_l1In.val, Option.bind_some]
      rw [if_neg (by omega)]
      by_cases h1 : inR x 0 10000 = true <;> by_cases h2 : inR y 0 10000 = true <;> simp [h1, h2])
    (fun i k hi => by
      simp only [spec_IsStream.l0]
      rw [if_pos (by omega), if_pos (by omega), wrap_nat (by omega)]
      rcases Nat.eq_zero_or_pos i with rfl | hp
      · rw [if_neg (show ¬ ((0 : Nat) : Int) > 0 by omega)]
        show (if l.getD 0 0 ≤ y then _ else if l.getD 0 0 > 9999 then _ else _) = _
        unfold badK
        by_cases h1 : l.getD 0 0 ≤ y
        · rw [if_pos h1, if_pos (by simp only [h1, decide_true, Bool.true_or])]
        · rw [if_neg h1]
          by_cases h2 : l.getD 0 0 > 9999
          · rw [if_pos h2, if_pos (by simp only [h2, decide_true, Bool.true_or, Bool.or_true])]
          · rw [if_neg h2, if_neg (by simp only [h1, h2, decide_false, Bool.false_or, Nat.lt_irrefl, Bool.false_and]; simp)]
      · rw [wrap_pred hp (by omega), if_pos (show ((i : Nat) : Int) > 0 by omega), if_pos (show (0 : Int) ≤ ((i - 1 : Nat) : Int) by omega), if_pos (show ((i - 1 : Nat) : Int) < (l.length : Int) by omega)]
        show (if l.getD i 0 ≤ y then _ else if l.getD i 0 > 9999 then _ else if l.getD (i - 1) 0 ≥ l.getD i 0 then _ else _) = _
        unfold badK
        generalize l.getD i 0 = u
        generalize l.getD (i - 1) 0 = v
        by_cases h1 : u ≤ y <;> by_cases h2 : u > 9999 <;> by_cases h3 : v ≥ u <;> simp [h1, h2, h3, hp] <;> omega)
  have e : (if (List.range' 0 l.length).any (badK y l) = true then false else inR x 0 10000 && inR y 0 10000 && decide ((l.length : Int) ≤ 20)) = streamB x y l := by
    unfold streamB
    generalize (List.range' 0 l.length).any (badK y l) = b
    cases b <;> simp
  rw [e] at h
  exact h

/-! spec_l25Copy -/
theorem spec_l25Copy.val (x y : Int) (l : List Int) (hl : l.length ≤ 1048576) : spec_l25Copy.f x y l = some (x, y, l) := by
  unfold spec_l25Copy.f
  rw [Option.bind_some, if_pos (by simp only [List.length_nil]; omega), List.nil_append]

/-! spec_AcceptSeq -/
theorem spec_AcceptSeq.ev_l1 (F N : Int) (L : List Int) (F0 : Int) (hL : L.length ≤ 1048576) : ∀ (l : List Int) (n : Int) (o : List Int), l.length ≤ 100 → o.length + l.length ≤ 1048576 →
    Ev (fun k => spec_AcceptSeq.l1 k o F N L F0 n l) (if streamB F0 (giv n l).2.1 (giv n l).2.2 = true then (F0, (giv n l).2.1, (giv n l).2.2, o ++ (giv n l).1, true) else (F, N, L, [], false))
  | [], n, o, hl, ho => by
    refine Ev.step (fun k => by simp only [spec_AcceptSeq.l1]; rw [if_neg (by simp)]) ?_
    refine Ev.step (fun k => by simp only [spec_AcceptSeq.j5]; rfl) ?_
    refine Ev.bind (spec_IsStream.ev F0 n [] (by simp)) (Ev.all fun k => ?_)
    rw [spec_l25Copy.val F N L hL, Option.bind_some]
    simp only [giv, List.append_nil]
    by_cases h : streamB F0 n [] = true
    · rw [if_pos h, if_pos h]
    · rw [if_neg h, if_neg h]
  | x :: l, n, o, hl, ho => by
    simp only [List.length_cons] at hl ho
    by_cases hx : x = n
    · have ih := spec_AcceptSeq.ev_l1 F N L F0 hL l (wrap64 (n + 1)) (o ++ [n]) (by omega) (by simp; omega)
      refine Ev.step (fun k => by
        simp only [spec_AcceptSeq.l1]
        rw [if_pos (by simp only [List.length_cons]; omega), if_pos (by simp only [List.length_cons]; omega), show rd (x :: l) 0 = x from rfl, if_pos hx, Option.bind_some, if_pos (by simp only [List.length_cons, List.length_nil]; omega), Option.bind_some, if_pos (by simp only [List.length_cons]; omega), Option.bind_some, if_pos (by simp only [List.length_nil, List.drop_succ_cons, List.drop_zero]; omega), List.nil_append, List.drop_succ_cons, List.drop_zero]) ?_
      rw [giv, if_pos hx]
      simp only [List.append_assoc, List.singleton_append] at ih
      exact ih
    · refine Ev.step (fun k => by
        simp only [spec_AcceptSeq.l1]
        rw [if_pos (by simp only [List.length_cons]; omega), if_pos (by simp only [List.length_cons]; omega), show rd (x :: l) 0 = x from rfl, if_neg hx]) ?_
      refine Ev.step (fun k => by simp only [spec_AcceptSeq.j5]; rfl) ?_
      refine Ev.bind (spec_IsStream.ev F0 n (x :: l) (by simp only [List.length_cons]; omega)) (Ev.all fun k => ?_)
      rw [spec_l25Copy.val F N L hL, Option.bind_some]
      rw [giv, if_neg hx]
      simp only [List.append_nil]
      by_cases h : streamB F0 n (x :: l) = true
      · rw [if_pos h, if_pos h]
      · rw [if_neg h, if_neg h]
theorem spec_AcceptSeq.ev_l0 (F N : Int) (L : List Int) (s : Int) (hL : L.length ≤ 20) : ∀ (d i : Nat), i + d = L.length → posA s L = i + posA s (L.drop i) →
    Ev (fun k => spec_AcceptSeq.l0 k s i F N L) (if streamB F (giv N (ins1 s L)).2.1 (giv N (ins1 s L)).2.2 = true then (F, (giv N (ins1 s L)).2.1, (giv N (ins1 s L)).2.2, (giv N (ins1 s L)).1, true) else (F, N, L, [], false)) := by
  have fin : ∀ i : Nat, i ≤ L.length → posA s L = i → Ev (fun k => spec_AcceptSeq.j3 k s i F N L) (if streamB F (giv N (ins1 s L)).2.1 (giv N (ins1 s L)).2.2 = true then (F, (giv N (ins1 s L)).2.1, (giv N (ins1 s L)).2.2, (giv N (ins1 s L)).1, true) else (F, N, L, [], false)) := by
    intro i hi hp
    have h1 := spec_AcceptSeq.ev_l1 F N L F (by omega) (ins1 s L) N [] (by rw [ins1_length]; omega) (by rw [ins1_length]; simp; omega)
    rw [List.nil_append] at h1
    refine Ev.step (fun k => ?_) h1
    simp only [spec_AcceptSeq.j3]
    rw [spec_l25Copy.val F N L (by omega), Option.bind_some, Option.bind_some, if_pos (by omega), if_pos (by omega), Int.toNat_natCast, if_pos (by simp; omega), Option.bind_some, Option.bind_some, if_pos (by simp; omega), Option.bind_some, if_pos (by simp; omega), List.nil_append]
    unfold ins1
    rw [hp]
  intro d
  induction d with
  | zero =>
    intro i hi hp
    rw [List.drop_eq_nil_of_le (by omega)] at hp
    refine Ev.step (fun k => by simp only [spec_AcceptSeq.l0]; rw [if_neg (by omega)]) (fin i (by omega) (by simpa [posA] using hp))
  | succ d ih =>
    intro i hi hp
    rw [drop_cons L 0 (by omega), posA] at hp
    by_cases hx : L.getD i 0 < s
    · rw [if_pos hx] at hp
      refine Ev.step (fun k => by
        simp only [spec_AcceptSeq.l0]
        rw [if_pos (by omega), if_pos (by omega), rd_nat, if_pos hx, wrap_nat (by omega)]) (ih (i + 1) (by omega) (by omega))
    · rw [if_neg hx] at hp
      refine Ev.step (fun k => by
        simp only [spec_AcceptSeq.l0]
        rw [if_pos (by omega), if_pos (by omega), rd_nat, if_neg hx]) (fin i (by omega) (by omega))
theorem spec_AcceptSeq.ev (F N : Int) (L : List Int) (s : Int) (hL : L.length ≤ 1048576) : Ev (fun k => spec_AcceptSeq.f k F N L s) (accept F N L s) := by
  have bad : ∀ b : Bool, b = true → Ev (fun k => spec_AcceptSeq.j0 k s b F N L) (F, N, L, [], false) := fun b hb => Ev.one fun k => by simp only [spec_AcceptSeq.j0]; rw [if_pos hb, spec_l25Copy.val F N L hL, Option.bind_some]
  refine Ev.bind (spec_IsStream.ev F N L hL) ?_
  unfold accept
  by_cases h1 : streamB F N L = true
  · refine Ev.congr (fun k => by rw [if_pos h1, spec_l1In.val, Option.bind_some]) ?_
    have h20 := streamB_len h1
    by_cases h2 : inR s 0 9999 = true
    · rw [if_pos (by rw [h1, h2]; rfl)]
      have old : ∀ b : Bool, b = true → Ev (fun k => spec_AcceptSeq.j1 k s b F N L) (F, N, L, [], true) := fun b hb => Ev.one fun k => by simp only [spec_AcceptSeq.j1]; rw [if_pos hb, spec_l25Copy.val F N L hL, Option.bind_some]
      by_cases h3 : s < N
      · rw [if_pos (by simp [h3])]
        exact Ev.step (fun k => by simp only [spec_AcceptSeq.j0]; rw [if_neg (by simp [h2]), if_pos h3]) (old true rfl)
      · refine Ev.step (fun k => by simp only [spec_AcceptSeq.j0]; rw [if_neg (by simp [h2]), if_neg h3]) (Ev.bind (spec_l15Has.ev L s hL) ?_)
        by_cases h4 : hasB L s = true
        · rw [if_pos (by simp [h4])]
          exact old _ h4
        · rw [if_neg (by simp [h3, h4])]
          refine Ev.step (fun k => by simp only [spec_AcceptSeq.j1]; rw [if_neg h4]) ?_
          have := spec_AcceptSeq.ev_l0 F N L s h20 L.length 0 (by omega) (by simp)
          exact this
    · rw [if_neg (by simp [h2])]
      exact bad _ (by simp [h2])
  · rw [if_neg (by simp [h1])]
    refine Ev.congr (fun k => by rw [if_neg h1]) ?_
    exact bad _ rfl

/-! spec_AcceptAll -/
theorem spec_AcceptAll.ev_l (l : List Int) (hl : l.length ≤ 4000000) : ∀ (d i : Nat) (F N : Int) (L o : List Int), i + d = l.length → L.length ≤ 1048576 → o.length ≤ 21 * i → Ev (fun k => spec_AcceptAll.l0 k l o i F N L) (accAll (l.drop i) (F, N, L, o)) := by
  intro d
  induction d with
  | zero =>
    intro i F N L o hi hL ho
    rw [List.drop_eq_nil_of_le (by omega)]
    exact Ev.one fun k => by simp only [spec_AcceptAll.l0]; rw [if_neg (by omega)]; rfl
  | succ d ih =>
    intro i F N L o hi hL ho
    rw [drop_cons l 0 (by omega)]
    obtain ⟨h1, h2⟩ := accept_len F N L (l.getD i 0) hL
    have h3 := ih (i + 1) (accept F N L (l.getD i 0)).1 (accept F N L (l.getD i 0)).2.1 (accept F N L (l.getD i 0)).2.2.1 (o ++ (accept F N L (l.getD i 0)).2.2.2.1) (by omega) h1 (by rw [List.length_append]; omega)
    refine Ev.step (fun k => by simp only [spec_AcceptAll.l0]; rw [if_pos (by omega), if_pos (by omega), rd_nat, wrap_nat (by omega)]) (Ev.bind (spec_AcceptSeq.ev F N L (l.getD i 0) hL) ?_)
    exact Ev.congr (fun k => by rw [if_pos (by omega)]) h3
theorem spec_AcceptAll.ev (F N : Int) (L l : List Int) (hL : L.length ≤ 1048576) (hl : l.length ≤ 4000000) : Ev (fun k => spec_AcceptAll.f k F N L l) (accAll l (F, N, L, [])) := by
  have := spec_AcceptAll.ev_l l hl l.length 0 F N L [] (by omega) hL (by simp)
  exact Ev.congr (fun k => by unfold spec_AcceptAll.f; rw [spec_l25Copy.val F N L hL, Option.bind_some]; rfl) this

/-! d_streamSet -/
theorem streamB_iff (x y : Int) (l : List Int) : streamB x y l = true ↔ (0 ≤ x ∧ x ≤ 10000) ∧ (0 ≤ y ∧ y ≤ 10000) ∧ l.length ≤ 20 ∧ (∀ t ∈ l, y < t ∧ t ≤ 9999) ∧ l.Pairwise (· < ·) := by
  constructor
  · intro h
    have hlt := fun p q (hpq : p < q) (hq : q < l.length) => (show l.getD p 0 < l.getD q 0 by
      have := streamB_lt h (q - p - 1) p (by omega)
      rwa [show p + (q - p - 1) + 1 = q by omega] at this)
    have h20 := streamB_len h
    unfold streamB inR at h
    simp only [Bool.and_eq_true, decide_eq_true_eq, Bool.not_eq_true', List.any_eq_false] at h
    refine ⟨h.1.1.1, h.1.1.2, h20, fun t ht => ?_, List.pairwise_iff_getElem.2 fun p q hp hq hpq => ?_⟩
    · obtain ⟨i, hi, e⟩ := mem_getD l 0 t ht
      have h2 := h.2 i (by simp [List.mem_range']; omega)
      unfold badK at h2
      rw [← e]
      simp only [Bool.or_eq_true, decide_eq_true_eq, not_or] at h2
      omega
    · have := hlt p q hpq hq
      rw [List.getD_eq_getElem?_getD, List.getD_eq_getElem?_getD, List.getElem?_eq_getElem hp, List.getElem?_eq_getElem hq] at this
      exact this
  · rintro ⟨h1, h2, h3, h4, h5⟩
    unfold streamB inR
    simp only [Bool.and_eq_true, decide_eq_true_eq, Bool.not_eq_true', List.any_eq_false]
    refine ⟨⟨⟨h1, h2⟩, by omega⟩, fun i hi => ?_⟩
    have hi' : i < l.length := by simpa [List.mem_range'] using hi
    have h6 := h4 _ (getD_mem l 0 hi')
    unfold badK
    simp only [Bool.or_eq_true, decide_eq_true_eq, Bool.and_eq_true, not_or, not_and]
    refine ⟨⟨by omega, by omega⟩, fun hp => ?_⟩
    have := List.pairwise_iff_getElem.1 h5 (i - 1) i (by omega) hi' (by omega)
    rw [List.getD_eq_getElem?_getD, List.getD_eq_getElem?_getD, List.getElem?_eq_getElem hi', List.getElem?_eq_getElem (show i - 1 < l.length by omega)]
    show ¬ l[i] ≤ l[i - 1]
    omega
def rangeI (n : Int) (m : Nat) : List Int := (List.range m).map fun j => n + ((j : Nat) : Int)
theorem rangeI_succ (n : Int) (m : Nat) : rangeI n (m + 1) = n :: rangeI (n + 1) m := by
  unfold rangeI
  rw [List.range_succ_eq_map, List.map_cons, List.map_map]
  congr 1
  · simp
  · apply List.map_congr_left
    intro j _
    simp only [Function.comp]
    omega
theorem rangeI_append (n : Int) (a b : Nat) : rangeI n (a + b) = rangeI n a ++ rangeI (n + a) b := by
  unfold rangeI
  rw [List.range_add, List.map_append, List.map_map]
  congr 1
  apply List.map_congr_left
  intro j _
  simp only [Function.comp]
  omega
theorem rangeI_length (n : Int) (m : Nat) : (rangeI n m).length = m := by simp [rangeI]
theorem rangeI_getD (n : Int) (m i : Nat) (h : i < m) : (rangeI n m).getD i 0 = n + i := by
  unfold rangeI
  rw [getD_map _ _ 0 0 (by simpa using h), List.getD_eq_getElem?_getD]
  simp [h]
theorem giv_spec : ∀ (l : List Int) (n : Int), 0 ≤ n → n ≤ 10000 → l.Pairwise (· < ·) → (∀ t ∈ l, n ≤ t ∧ t ≤ 9999) →
    l = (giv n l).1 ++ (giv n l).2.2 ∧ (giv n l).2.1 = n + (giv n l).1.length ∧ (giv n l).1 = rangeI n (giv n l).1.length ∧ (∀ t ∈ (giv n l).2.2, (giv n l).2.1 < t) ∧ (giv n l).2.1 ≤ 10000
  | [], n, h0, h1, _, _ => ⟨rfl, by simp [giv], rfl, by simp [giv], h1⟩
  | x :: l, n, h0, h1, hp, hm => by
    rw [List.pairwise_cons] at hp
    have hx := hm x List.mem_cons_self
    by_cases e : x = n
    · subst e
      obtain ⟨g1, g2, g3, g4, g5⟩ := giv_spec l (x + 1) (by omega) (by omega) hp.2 (fun t ht => ⟨by have := hp.1 t ht; omega, (hm t (List.mem_cons_of_mem _ ht)).2⟩)
      rw [giv, if_pos rfl, wrap_id (by omega) (by omega)]
      refine ⟨by rw [List.cons_append, ← g1], ?_, ?_, g4, g5⟩
      · show (giv (x + 1) l).2.1 = x + ((giv (x + 1) l).1.length + 1 : Nat)
        rw [g2]; omega
      · show x :: (giv (x + 1) l).1 = rangeI x ((giv (x + 1) l).1.length + 1)
        rw [rangeI_succ, ← g3]
    · rw [giv, if_neg e]
      refine ⟨rfl, by simp, rfl, fun t ht => ?_, h1⟩
      show n < t
      cases ht with
      | head => omega
      | tail _ ht => have := hp.1 t ht; omega
theorem ins1_nil (s : Int) : ins1 s [] = [s] := rfl
theorem ins1_lt {x s : Int} (h : x < s) (l : List Int) : ins1 s (x :: l) = x :: ins1 s l := by simp [ins1, posA, if_pos h]
theorem ins1_ge {x s : Int} (h : ¬ x < s) (l : List Int) : ins1 s (x :: l) = s :: x :: l := by simp [ins1, posA, if_neg h]
theorem ins1_mem (s : Int) : ∀ (l : List Int) (t : Int), t ∈ ins1 s l ↔ t = s ∨ t ∈ l
  | [], t => by simp [ins1_nil]
  | x :: l, t => by
    by_cases h : x < s
    · rw [ins1_lt h, List.mem_cons, ins1_mem s l t, List.mem_cons]
      constructor
      · rintro (e | e | e)
        · exact .inr (.inl e)
        · exact .inl e
        · exact .inr (.inr e)
      · rintro (e | e | e)
        · exact .inr (.inl e)
        · exact .inl e
        · exact .inr (.inr e)
    · rw [ins1_ge h, List.mem_cons]
theorem ins1_sorted (s : Int) : ∀ (l : List Int), l.Pairwise (· < ·) → s ∉ l → (ins1 s l).Pairwise (· < ·)
  | [], _, _ => by simp [ins1_nil]
  | x :: l, hp, hs => by
    have hp' := List.pairwise_cons.1 hp
    rw [List.mem_cons, not_or] at hs
    by_cases h : x < s
    · rw [ins1_lt h, List.pairwise_cons]
      refine ⟨fun t ht => ?_, ins1_sorted s l hp'.2 hs.2⟩
      rcases (ins1_mem s l t).1 ht with e | e
      · omega
      · exact hp'.1 t e
    · rw [ins1_ge h, List.pairwise_cons]
      refine ⟨fun t ht => ?_, hp⟩
      rcases List.mem_cons.1 ht with e | e
      · omega
      · have := hp'.1 t e
        omega
/-- One acceptance, where the stream is lawful. -/
theorem accept_spec (F N : Int) (L : List Int) (s : Int) (h : streamB F N L = true) :
    (accept F N L s = (F, N, L, [], (accept F N L s).2.2.2.2) ∧ (0 ≤ s ∧ s ≤ 9999 → (s < N ∨ s ∈ L) ∨ 20 < (giv N (ins1 s L)).2.2.length)) ∨
    (0 ≤ s ∧ s ≤ 9999 ∧ N ≤ s ∧ s ∉ L ∧ accept F N L s = (F, (giv N (ins1 s L)).2.1, (giv N (ins1 s L)).2.2, (giv N (ins1 s L)).1, true) ∧ streamB F (giv N (ins1 s L)).2.1 (giv N (ins1 s L)).2.2 = true) := by
  unfold accept
  by_cases hs : inR s 0 9999 = true
  · rw [if_pos (by rw [h, hs]; rfl)]
    have hs' : 0 ≤ s ∧ s ≤ 9999 := by simpa [inR] using hs
    by_cases h2 : (decide (s < N) || hasB L s) = true
    · rw [if_pos h2]
      refine .inl ⟨rfl, fun _ => .inl ?_⟩
      rw [Bool.or_eq_true, decide_eq_true_eq, hasB_iff] at h2
      exact h2
    · rw [if_neg h2]
      rw [Bool.or_eq_true, decide_eq_true_eq, hasB_iff, not_or] at h2
      by_cases h3 : streamB F (giv N (ins1 s L)).2.1 (giv N (ins1 s L)).2.2 = true
      · rw [if_pos h3]
        exact .inr ⟨hs'.1, hs'.2, by omega, h2.2, rfl, h3⟩
      · rw [if_neg h3]
        refine .inl ⟨rfl, fun _ => .inr ?_⟩
        obtain ⟨a1, a2, a3, a4, a5⟩ := (streamB_iff F N L).1 h
        have g := giv_spec (ins1 s L) N a2.1 a2.2 (ins1_sorted s L a5 h2.2) (fun t ht => by
          rcases (ins1_mem s L t).1 ht with e | e
          · omega
          · have := a4 t e; omega)
        apply Classical.byContradiction
        intro hc
        apply h3
        rw [streamB_iff]
        refine ⟨a1, ⟨by rw [g.2.1]; omega, g.2.2.2.2⟩, by omega, fun t ht => ⟨g.2.2.2.1 t ht, ?_⟩, ?_⟩
        · have : t ∈ ins1 s L := by rw [g.1]; exact List.mem_append_right _ ht
          rcases (ins1_mem s L t).1 this with e | e
          · omega
          · exact (a4 t e).2
        · have := ins1_sorted s L a5 h2.2
          rw [g.1] at this
          exact (List.pairwise_append.1 this).2.1
  · rw [if_neg (by simp [hs])]
    refine .inl ⟨rfl, fun hh => absurd ?_ hs⟩
    simp [inR, hh.1, hh.2]
/-- What was given out, in order. -/
theorem accAll_range : ∀ (l : List Int) (F N : Int) (L : List Int) (N0 : Int) (m : Nat), streamB F N L = true → N = N0 + m →
    ∃ (N' : Int) (L' : List Int) (m' : Nat), accAll l (F, N, L, rangeI N0 m) = (F, N', L', rangeI N0 m') ∧ streamB F N' L' = true ∧ N' = N0 + m'
  | [], F, N, L, N0, m, h, hN => ⟨N, L, m, rfl, h, hN⟩
  | s :: l, F, N, L, N0, m, h, hN => by
    have ih := fun N1 L1 m1 => accAll_range l F N1 L1 N0 m1
    show ∃ N' L' m', accAll l (accStep (F, N, L, rangeI N0 m) s) = _ ∧ _
    rcases accept_spec F N L s h with ⟨h1, _⟩ | ⟨h1, h2, h3, h4, h5, h6⟩
    · have : accStep (F, N, L, rangeI N0 m) s = (F, N, L, rangeI N0 m) := by
        unfold accStep
        show ((accept F N L s).1, (accept F N L s).2.1, (accept F N L s).2.2.1, rangeI N0 m ++ (accept F N L s).2.2.2.1) = _
        rw [h1]; simp
      rw [this]
      exact ih N L m h hN
    · obtain ⟨a1, a2, a3, a4, a5⟩ := (streamB_iff F N L).1 h
      have g := giv_spec (ins1 s L) N a2.1 a2.2 (ins1_sorted s L a5 h4) (fun t ht => by
        rcases (ins1_mem s L t).1 ht with e | e
        · omega
        · have := a4 t e; omega)
      have : accStep (F, N, L, rangeI N0 m) s = (F, (giv N (ins1 s L)).2.1, (giv N (ins1 s L)).2.2, rangeI N0 (m + (giv N (ins1 s L)).1.length)) := by
        unfold accStep
        show ((accept F N L s).1, (accept F N L s).2.1, (accept F N L s).2.2.1, rangeI N0 m ++ (accept F N L s).2.2.2.1) = _
        rw [h5, rangeI_append, ← hN, ← g.2.2.1]
      rw [this]
      exact ih _ _ _ h6 (by rw [g.2.1]; omega)
theorem accAll_bad : ∀ (l : List Int) (F N : Int) (L o : List Int), ¬ streamB F N L = true → accAll l (F, N, L, o) = (F, N, L, o)
  | [], F, N, L, o, h => rfl
  | s :: l, F, N, L, o, h => by
    have h1 : accept F N L s = (F, N, L, [], false) := by unfold accept; rw [if_neg (by simp [h])]
    have : accStep (F, N, L, o) s = (F, N, L, o) := by
      unfold accStep
      show ((accept F N L s).1, (accept F N L s).2.1, (accept F N L s).2.2.1, o ++ (accept F N L s).2.2.2.1) = _
      rw [h1]; simp
    show accAll l (accStep (F, N, L, o) s) = _
    rw [this]
    exact accAll_bad l F N L o h
theorem nodup_le : ∀ (K M : List Int), K.Nodup → (∀ x ∈ K, x ∈ M) → K.length ≤ M.length
  | [], M, _, _ => Nat.zero_le _
  | x :: K, M, hn, hs => by
    rw [List.nodup_cons] at hn
    have h1 := nodup_le K (M.erase x) hn.2 (fun y hy => (List.mem_erase_of_ne (fun (e : y = x) => hn.1 (e ▸ hy))).2 (hs y (List.mem_cons_of_mem _ hy)))
    have h2 := List.length_erase_of_mem (hs x List.mem_cons_self)
    have h3 : 0 < M.length := List.length_pos_of_mem (hs x List.mem_cons_self)
    simp only [List.length_cons]
    omega
/-- What has come: a state tells it, and is told by it. -/
structure Came (N0 : Int) (P : Int → Prop) (N : Int) (L : List Int) : Prop where
  low : N0 ≤ N
  got : ∀ t, N0 ≤ t → t < N → P t
  gap : ¬ P N
  mem : ∀ t, t ∈ L ↔ P t ∧ N < t
theorem Came.uniq {N0 : Int} {P : Int → Prop} {N N' : Int} {L L' : List Int} (h : Came N0 P N L) (h' : Came N0 P N' L') (hs : L.Pairwise (· < ·)) (hs' : L'.Pairwise (· < ·)) : N = N' ∧ L = L' := by
  have e : N = N' := by
    apply Classical.byContradiction
    intro hc
    rcases (show N < N' ∨ N' < N by omega) with h1 | h1
    · exact h.gap (h'.got N h.low h1)
    · exact h'.gap (h.got N' h'.low h1)
  subst e
  refine ⟨rfl, ?_⟩
  have hm : ∀ t, t ∈ L ↔ t ∈ L' := fun t => (h.mem t).trans (h'.mem t).symm
  clear h h'
  induction L generalizing L' with
  | nil =>
    cases L' with
    | nil => rfl
    | cons y L' => exact absurd ((hm y).2 List.mem_cons_self) (by simp)
  | cons x L ih =>
    cases L' with
    | nil => exact absurd ((hm x).1 List.mem_cons_self) (by simp)
    | cons y L' =>
      rw [List.pairwise_cons] at hs hs'
      have hxy : x = y := by
        rcases List.mem_cons.1 ((hm x).1 List.mem_cons_self) with e | e
        · exact e
        · have a := hs'.1 x e
          rcases List.mem_cons.1 ((hm y).2 List.mem_cons_self) with e' | e'
          · omega
          · have b := hs.1 y e'
            omega
      subst hxy
      rw [ih hs.2 hs'.2 fun z => ?_]
      constructor
      · intro hz
        have a := hs.1 z hz
        rcases List.mem_cons.1 ((hm z).1 (List.mem_cons_of_mem _ hz)) with e | e
        · omega
        · exact e
      · intro hz
        have a := hs'.1 z hz
        rcases List.mem_cons.1 ((hm z).2 (List.mem_cons_of_mem _ hz)) with e | e
        · omega
        · exact e
theorem accept_came (F N : Int) (L : List Int) (s N0 : Int) (P : Int → Prop) (K : List Int) (hK : K.length ≤ 20) (h : streamB F N L = true) (hc : Came N0 P N L) (hP : ∀ t, P t → t ∈ K) (hs : 0 ≤ s ∧ s ≤ 9999 → s ∈ K) :
    streamB F (accept F N L s).2.1 (accept F N L s).2.2.1 = true ∧ Came N0 (fun t => P t ∨ (t = s ∧ 0 ≤ s ∧ s ≤ 9999 ∧ N0 ≤ s)) (accept F N L s).2.1 (accept F N L s).2.2.1 := by
  obtain ⟨a1, a2, a3, a4, a5⟩ := (streamB_iff F N L).1 h
  rcases accept_spec F N L s h with ⟨h1, h2⟩ | ⟨h1, h2, h3, h4, h5, h6⟩
  · rw [h1]
    refine ⟨h, ⟨hc.low, fun t x y => .inl (hc.got t x y), ?_, fun t => ?_⟩⟩
    · rintro (hp | ⟨e, r1, r2, _⟩)
      · exact hc.gap hp
      · rcases h2 ⟨r1, r2⟩ with (h3 | h3) | h3
        · have e' : N = s := e
          omega
        · exact hc.gap (by have := ((hc.mem s).1 h3).1; rwa [← e] at this)
        · exfalso
          by_cases hn : s ∈ L
          · exact hc.gap (by have := ((hc.mem s).1 hn).1; rwa [← e] at this)
          · have e' : N = s := e
            have g := giv_spec (ins1 s L) N a2.1 a2.2 (ins1_sorted s L a5 hn) (fun t ht => by
              rcases (ins1_mem s L t).1 ht with e | e
              · omega
              · have := a4 t e; omega)
            have := congrArg List.length g.1
            rw [ins1_length, List.length_append] at this
            have hnd : (giv N (ins1 s L)).2.2.Nodup := by
              have hh := ins1_sorted s L a5 hn
              rw [g.1] at hh
              exact (List.pairwise_append.1 hh).2.1.imp (fun h => by omega)
            have := nodup_le _ K hnd (fun x hx => by
              have : x ∈ ins1 s L := by rw [g.1]; exact List.mem_append_right _ hx
              rcases (ins1_mem s L x).1 this with e | e
              · rw [e]; exact hs ⟨r1, r2⟩
              · exact hP x ((hc.mem x).1 e).1)
            omega
    · constructor
      · intro ht
        have := (hc.mem t).1 ht
        exact ⟨.inl this.1, this.2⟩
      · rintro ⟨hp | ⟨e, r1, r2, _⟩, hn⟩
        · exact (hc.mem t).2 ⟨hp, hn⟩
        · have hn : N < t := hn
          rcases h2 ⟨r1, r2⟩ with (h3 | h3) | h3
          · omega
          · rw [e]; exact h3
          · by_cases hm : s ∈ L
            · rw [e]; exact hm
            · exfalso
              have g := giv_spec (ins1 s L) N a2.1 a2.2 (ins1_sorted s L a5 hm) (fun t ht => by
                rcases (ins1_mem s L t).1 ht with e | e
                · omega
                · have := a4 t e; omega)
              have hnd : (giv N (ins1 s L)).2.2.Nodup := by
                have hh := ins1_sorted s L a5 hm
                rw [g.1] at hh
                exact (List.pairwise_append.1 hh).2.1.imp (fun h => by omega)
              have := nodup_le _ K hnd (fun x hx => by
                have : x ∈ ins1 s L := by rw [g.1]; exact List.mem_append_right _ hx
                rcases (ins1_mem s L x).1 this with e | e
                · rw [e]; exact hs ⟨r1, r2⟩
                · exact hP x ((hc.mem x).1 e).1)
              omega
  · rw [h5]
    have g := giv_spec (ins1 s L) N a2.1 a2.2 (ins1_sorted s L a5 h4) (fun t ht => by
      rcases (ins1_mem s L t).1 ht with e | e
      · omega
      · have := a4 t e; omega)
    have hlow := hc.low
    have hsplit : ∀ t, t ∈ ins1 s L ↔ t ∈ (giv N (ins1 s L)).1 ∨ t ∈ (giv N (ins1 s L)).2.2 := fun t => (iff_of_eq (congrArg (fun l => t ∈ l) g.1)).trans List.mem_append
    have hrange : ∀ t, t ∈ (giv N (ins1 s L)).1 → t < (giv N (ins1 s L)).2.1 := fun t ht => by
      have ht2 := (iff_of_eq (congrArg (fun l => t ∈ l) g.2.2.1)).1 ht
      unfold rangeI at ht2
      obtain ⟨j, hj, e⟩ := List.mem_map.1 ht2
      have := List.mem_range.1 hj
      have := g.2.1
      omega
    refine ⟨h6, ⟨by show N0 ≤ (giv N (ins1 s L)).2.1; rw [g.2.1]; omega, fun t x y => ?_, ?_, fun t => ?_⟩⟩
    · have y : t < (giv N (ins1 s L)).2.1 := y
      by_cases ht : t < N
      · exact .inl (hc.got t x ht)
      · have hm : t ∈ ins1 s L := by
          rw [g.1]
          refine List.mem_append_left _ ?_
          rw [g.2.2.1]
          unfold rangeI
          rw [List.mem_map]
          exact ⟨(t - N).toNat, by rw [List.mem_range]; omega, by omega⟩
        rcases (ins1_mem s L t).1 hm with e | e
        · exact .inr ⟨e, h1, h2, by omega⟩
        · exact .inl ((hc.mem t).1 e).1
    · have nin : (giv N (ins1 s L)).2.1 ∉ ins1 s L := by
        rw [hsplit, not_or]
        constructor
        · intro hh
          have := hrange _ hh
          omega
        · intro hh
          have := g.2.2.2.1 _ hh
          omega
      rw [ins1_mem, not_or] at nin
      rintro (hp | ⟨e, _⟩)
      · by_cases e : (giv N (ins1 s L)).2.1 = N
        · have hp : P (giv N (ins1 s L)).2.1 := hp
          rw [e] at hp
          exact hc.gap hp
        · exact nin.2 ((hc.mem _).2 ⟨hp, by rw [g.2.1] at e ⊢; omega⟩)
      · exact nin.1 e
    · show t ∈ (giv N (ins1 s L)).2.2 ↔ _ ∧ (giv N (ins1 s L)).2.1 < t
      constructor
      · intro ht
        have hm : t ∈ ins1 s L := by rw [g.1]; exact List.mem_append_right _ ht
        refine ⟨?_, g.2.2.2.1 t ht⟩
        rcases (ins1_mem s L t).1 hm with e | e
        · exact .inr ⟨e, h1, h2, by omega⟩
        · exact .inl ((hc.mem t).1 e).1
      · rintro ⟨hp, hn⟩
        have hm : t ∈ ins1 s L := by
          rw [ins1_mem]
          rcases hp with hp | ⟨e, _⟩
          · exact .inr ((hc.mem t).2 ⟨hp, by rw [g.2.1] at hn; omega⟩)
          · exact .inl e
        rw [hsplit] at hm
        rcases hm with hm | hm
        · have := hrange t hm
          omega
        · exact hm
theorem accAll_came (F N0 : Int) (K : List Int) (hK : K.length ≤ 20) : ∀ (l : List Int) (N : Int) (L o : List Int) (P : Int → Prop), streamB F N L = true → Came N0 P N L → (∀ t, P t → t ∈ K) → (∀ s ∈ l, s ∈ K) →
    ∃ N' L' o', accAll l (F, N, L, o) = (F, N', L', o') ∧ streamB F N' L' = true ∧ Came N0 (fun t => P t ∨ (t ∈ l ∧ 0 ≤ t ∧ t ≤ 9999 ∧ N0 ≤ t)) N' L'
  | [], N, L, o, P, h, hc, hP, hl => ⟨N, L, o, rfl, h, by
    have e : (fun t => P t ∨ (t ∈ ([] : List Int) ∧ 0 ≤ t ∧ t ≤ 9999 ∧ N0 ≤ t)) = P := by
      funext t
      simp
    rw [e]
    exact hc⟩
  | s :: l, N, L, o, P, h, hc, hP, hl => by
    obtain ⟨h1, h2⟩ := accept_came F N L s N0 P K hK h hc hP (fun _ => hl s List.mem_cons_self)
    have hF : (accept F N L s).1 = F := by
      rcases accept_spec F N L s h with ⟨h1, _⟩ | ⟨_, _, _, _, h5, _⟩
      · rw [h1]
      · rw [h5]
    obtain ⟨N', L', o', e, h3, h4⟩ := accAll_came F N0 K hK l (accept F N L s).2.1 (accept F N L s).2.2.1 (o ++ (accept F N L s).2.2.2.1) _ h1 h2 (by
      rintro t (x | ⟨x, _⟩)
      · exact hP t x
      · rw [x]; exact hl s List.mem_cons_self) (fun t ht => hl t (List.mem_cons_of_mem _ ht))
    refine ⟨N', L', o', ?_, h3, ?_⟩
    · show accAll l (accStep (F, N, L, o) s) = _
      unfold accStep
      show accAll l ((accept F N L s).1, (accept F N L s).2.1, (accept F N L s).2.2.1, o ++ (accept F N L s).2.2.2.1) = _
      rw [hF]; exact e
    · have hq : (fun t => (P t ∨ (t = s ∧ 0 ≤ s ∧ s ≤ 9999 ∧ N0 ≤ s)) ∨ (t ∈ l ∧ 0 ≤ t ∧ t ≤ 9999 ∧ N0 ≤ t)) = fun t => P t ∨ (t ∈ s :: l ∧ 0 ≤ t ∧ t ≤ 9999 ∧ N0 ≤ t) := by
        funext t
        apply propext
        rw [List.mem_cons]
        constructor
        · rintro ((x | ⟨x, y⟩) | ⟨x, y⟩)
          · exact .inl x
          · subst x; exact .inr ⟨.inl rfl, y⟩
          · exact .inr ⟨.inr x, y⟩
        · rintro (x | ⟨x | x, y⟩)
          · exact .inl (.inl x)
          · subst x; exact .inl (.inr ⟨rfl, y⟩)
          · exact .inr ⟨x, y⟩
      rw [hq] at h4
      exact h4

/-! @@ FnExactAcceptAll -/
theorem eqI (l : List Int) (hl : l.length ≤ 40000000) : Ev (fun k => laws_eqIntS.f k l l) true := by
  refine Ev.congr (fun k => by unfold laws_eqIntS.f; rw [if_pos rfl]) (all_loop (g := fun k i => laws_eqIntS.l0 k l l i) l.length (Ev.one fun k => by simp only [laws_eqIntS.l0]; rw [if_neg (by omega)]) (fun i hi r hr => Ev.step (fun k => ?_) hr))
  simp only [laws_eqIntS.l0]
  rw [if_pos (by omega), if_pos (by omega), if_pos (by omega), if_pos trivial, wrap_nat (by omega)]
theorem proved : Stated := by
  intro F N L l _ _ ⟨hl, hw⟩ ⟨hl', hw'⟩
  refine Ev.rounds ?_
  by_cases hb : (l.length : Int) > 1048576
  · exact Ev.all fun k => by unfold laws_FnExactAcceptAll.f; rw [if_pos hb]
  have hll : l.length ≤ 1048576 := by omega
  obtain ⟨t, ht, hle, hp⟩ := laws_szStream.val F N L 1048576 (by omega) (by omega) hl
  refine Ev.congr (fun k => by unfold laws_FnExactAcceptAll.f; rw [if_neg hb, ht, Option.bind_some]) ?_
  by_cases h : t < 0
  · exact Ev.all fun k => by rw [if_pos h]
  · obtain ⟨_, hl2⟩ := hp (by omega)
    refine Ev.congr (fun k => by rw [if_neg h]) ?_
    have hs := spec_AcceptAll.ev F N L l hl2 (by omega)
    have hi := impl_AcceptAll.ev F N L l hl2 (by omega)
    obtain ⟨hc, hg⟩ := accAll_len l (F, N, L, []) hl2
    generalize accAll l (F, N, L, []) = q at hs hi hc hg
    obtain ⟨F', N', L', g⟩ := q
    have hc : L'.length ≤ 1048576 := hc
    have hg : g.length ≤ 40000000 := by simp at hg; omega
    refine Ev.bind (laws_toStream.ev F N L hl2) (Ev.bind (laws_toIntS.ev l hll) (Ev.bind hs (Ev.bind (laws_toStream.ev F N L hl2) (Ev.bind (laws_toIntS.ev l hll) (Ev.bind hi (Ev.bind (laws_eqStream.ev F' N' L' hc) ?_))))))
    refine Ev.congr (fun k => by rw [if_pos rfl]) (Ev.bind (eqI g (by omega)) ?_)
    refine Ev.step (fun k => by simp only [laws_FnExactAcceptAll.j0]; rw [if_neg (by simp)]) ?_
    refine Ev.bind (laws_toStream.ev F N L hl2) (Ev.bind (laws_eqStream.ev F N L hl2) ?_)
    refine Ev.congr (fun k => by rw [if_pos rfl]) (Ev.bind (laws_toIntS.ev l hll) (Ev.bind (laws_eqIntS.ev l hll) ?_))
    refine Ev.congr (fun k => by rw [if_pos rfl]) (Ev.bind (laws_markStream.ev F N L 1 (by omega) (by omega)) (Ev.bind (laws_markIntS.ev l (1 + L.length) (by omega) (by omega)) ?_))
    refine Ev.congr (fun k => by rw [if_neg (by omega)]) (Ev.bind (laws_eqStream.ev F' N' L' hc) ?_)
    refine Ev.congr (fun k => by rw [if_pos rfl]) (Ev.bind (eqI g (by omega)) ?_)
    refine Ev.step (fun k => by simp only [laws_FnExactAcceptAll.j1]; rw [if_neg (by simp)]) ?_
    refine Ev.bind (laws_markStream.ev F' N' L' 1 (by omega) (by omega)) (Ev.bind (laws_markIntS.ev g (1 + L'.length) (by omega) (by omega)) (Ev.bind (laws_heldStream.ev F' N' 1 L'.length (by omega) (by omega)) ?_))
    refine Ev.congr (fun k => by rw [if_neg (by omega)]) (Ev.bind (laws_heldIntS.ev (1 + L'.length) g.length (by omega) (by omega)) ?_)
    refine Ev.congr (fun k => by rw [if_neg (by omega), if_pos rfl]) ?_
    refine Ev.bind (laws_toStream.ev F N L hl2) (Ev.bind (laws_toIntS.ev l hll) (Ev.bind hi (Ev.bind (laws_eqStream.ev F' N' L' hc) ?_)))
    refine Ev.congr (fun k => by rw [if_pos rfl]) (Ev.bind (eqI g (by omega)) ?_)
    refine Ev.step (fun k => by simp only [laws_FnExactAcceptAll.j2]; rw [if_neg (by simp)]) ?_
    refine Ev.bind (laws_heldStream.ev F' N' 1 L'.length (by omega) (by omega)) ?_
    refine Ev.congr (fun k => by rw [if_neg (by omega)]) (Ev.bind (laws_heldIntS.ev (1 + L'.length) g.length (by omega) (by omega)) ?_)
    exact Ev.all fun k => by rw [if_neg (by omega), if_pos rfl]

end Go.Proofs.Ytegkplalnljgjaa.PureFnExactAcceptAll
