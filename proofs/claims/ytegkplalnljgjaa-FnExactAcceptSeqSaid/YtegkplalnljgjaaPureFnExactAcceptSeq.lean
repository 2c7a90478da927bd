/- FnExactAcceptSeq, over numbers and lists alone: what the program's function and the reference's answer is one. Conditions: the numbers are of their kinds. -/
import Derived.Test.YtegkplalnljgjaaKindsFnExactAcceptSeq
import Derived.Test.YtegkplalnljgjaaVFnExactAcceptSeqBase
namespace Go.Proofs.Ytegkplalnljgjaa.PureFnExactAcceptSeq
open Go.RowKit Go.Proofs.Ytegkplalnljgjaa.PFnExactAcceptSeq Go.Proofs.YtegkplalnljgjaaW.PrintWords Go.Proofs.YtegkplalnljgjaaW.PrintLast Go.Proofs.YtegkplalnljgjaaW.PrintMore Go.Proofs.Ytegkplalnljgjaa.Base
set_option linter.unusedVariables false
set_option linter.unusedSimpArgs false

/-! laws_szIntS -/
theorem laws_szIntS.val (l : List Int) (a : Int) (h0 : 0 ≤ a) (h1 : a ≤ 1048576) (hl : l.length ≤ maxLen) :
    ∃ t, laws_szIntS.f l a = some t ∧ t ≤ a ∧ (0 ≤ t → t = a - l.length ∧ l.length ≤ 1048576) := by
  unfold maxLen at hl
  unfold laws_szIntS.f
  rw [wrap_id (by omega) (by omega)]
  by_cases h : a - (l.length : Int) < 0
  · rw [if_pos h]; exact ⟨_, rfl, by omega, by omega⟩
  · rw [if_neg h]; exact ⟨_, rfl, by omega, by omega⟩

/-! laws_szStream -/
theorem laws_szStream.val (x y : Int) (l : List Int) (a : Int) (h0 : 0 ≤ a) (h1 : a ≤ 1048576) (hl : l.length ≤ maxLen) :
    ∃ t, laws_szStream.f x y l a = some t ∧ t ≤ a ∧ (0 ≤ t → t = a - l.length ∧ l.length ≤ 1048576) := by
  obtain ⟨t, h, h2, h3⟩ := laws_szIntS.val l a h0 h1 hl
  unfold laws_szStream.f
  rw [h, Option.bind_some]
  by_cases ht : t < 0
  · rw [if_pos ht]; exact ⟨_, rfl, by omega, by omega⟩
  · rw [if_neg ht]; exact ⟨_, rfl, h2, h3⟩

/-! spec_l15Has -/
theorem spec_l15Has.ev (l : List Int) (a : Int) (hl : l.length ≤ 1048576) : Ev (fun k => spec_l15Has.f k l a) (hasB l a) := by
  have h := find_list (g := fun k i => spec_l15Has.l0 k l a i) (q := fun x => x == a) (r := true) (e := false) l 0
    (Ev.one fun k => by simp only [spec_l15Has.l0]; rw [if_neg (by omega)])
    (fun i k hi => by
      simp only [spec_l15Has.l0]
      rw [if_pos (by omega), if_pos (by omega), wrap_nat (by omega), rd_nat]
      by_cases h : l.getD i 0 = a
      · rw [if_pos h, if_pos (by simpa using h)]
      · rw [if_neg h, if_neg (by simpa using h)])
  rw [ite_bool] at h
  exact h

/-! spec_l1In -/
theorem spec_l1In.val (a lo hi : Int) : spec_l1In.f a lo hi = some (inR a lo hi) := by
  unfold spec_l1In.f inR
  by_cases h : a ≥ lo
  · rw [if_pos h]; simp [h]
  · rw [if_neg h]; simp; omega

/-! d_streamB -/
def badK (next : Int) (l : List Int) (i : Nat) : Bool := decide (l.getD i 0 ≤ next) || decide (l.getD i 0 > 9999) || (decide (0 < i) && decide (l.getD i 0 ≤ l.getD (i - 1) 0))
def streamB (x y : Int) (l : List Int) : Bool := inR x 0 10000 && inR y 0 10000 && decide ((l.length : Int) ≤ 20) && !(List.range' 0 l.length).any (badK y l)

/-! spec_IsStream -/
theorem spec_IsStream.ev (x y : Int) (l : List Int) (hl : l.length ≤ 1048576) : Ev (fun k => spec_IsStream.f k x y l) (streamB x y l) := by
  have h := find_index (g := fun k i => spec_IsStream.l0 k i x y l) (q := badK y l) (r := false) (e := inR x 0 10000 && inR y 0 10000 && decide ((l.length : Int) ≤ 20)) l.length
    (Ev.one fun k => by
      simp only [spec_IsStream.l0, spec_l1In.val, Option.bind_some]
      rw [if_neg (by omega)]
      by_cases h1 : inR x 0 10000 = true <;> by_cases h2 : inR y 0 10000 = true <;> simp [h1, h2])
    (fun i k hi => by
      simp only [spec_IsStream.l0]
      rw [if_pos (by omega), if_pos (by omega), wrap_nat (by omega)]
      rcases Nat.eq_zero_or_pos i with rfl | hp
      · rw [if_neg (show ¬ ((0 : Nat) : Int) > 0 by omega)]
        show (if l.getD 0 0 ≤ y then _ else if l.getD 0 0 > 9999 then _ else _) = _
        unfold badK
        by_cases h1 : l.getD 0 0 ≤ y
        · rw [if_pos h1, if_pos (by simp only [h1, decide_true, Bool.true_or])]
        · rw [if_neg h1]
          by_cases h2 : l.getD 0 0 > 9999
          · rw [if_pos h2, if_pos (by simp only [h2, decide_true, Bool.true_or, Bool.or_true])]
          · rw [if_neg h2, if_neg (by simp only [h1, h2, decide_false, Bool.false_or, Nat.lt_irrefl, Bool.false_and]; simp)]
      · rw [wrap_pred hp (by omega), if_pos (show ((i : Nat) : Int) > 0 by omega), if_pos (show (0 : Int) ≤ ((i - 1 : Nat) : Int) by omega), if_pos (show ((i - 1 : Nat) : Int) < (l.length : Int) by omega)]
        show (if l.getD i 0 ≤ y then _ else if l.getD i 0 > 9999 then _ else if l.getD (i - 1) 0 ≥ l.getD i 0 then _ else _) = _
        unfold badK
        generalize l.getD i 0 = u
        generalize l.getD (i - 1) 0 = v
        by_cases h1 : u ≤ y <;> by_cases h2 : u > 9999 <;> by_cases h3 : v ≥ u <;> simp [h1, h2, h3, hp] <;> omega)
  have e : (if (List.range' 0 l.length).any (badK y l) = true then false else inR x 0 10000 && inR y 0 10000 && decide ((l.length : Int) ≤ 20)) = streamB x y l := by
    unfold streamB
    generalize (List.range' 0 l.length).any (badK y l) = b
    cases b <;> simp
  rw [e] at h
  exact h

/-! spec_l25Copy -/
theorem spec_l25Copy.val (x y : Int) (l : List Int) (hl : l.length ≤ 1048576) : spec_l25Copy.f x y l = some (x, y, l) := by
  unfold spec_l25Copy.f
  rw [Option.bind_some, if_pos (by simp only [List.length_nil]; omega), List.nil_append]

/-! d_accept -/
def giv : Int → List Int → List Int × Int × List Int
  | n, [] => ([], n, [])
  | n, x :: l => if x = n then (n :: (giv (wrap64 (n + 1)) l).1, (giv (wrap64 (n + 1)) l).2) else ([], n, x :: l)
theorem giv_len : ∀ (l : List Int) (n : Int), (giv n l).1.length ≤ l.length ∧ (giv n l).2.2.length ≤ l.length
  | [], n => by simp [giv]
  | x :: l, n => by
    obtain ⟨h1, h2⟩ := giv_len l (wrap64 (n + 1))
    rw [giv]
    split
    · simp only [List.length_cons]; omega
    · simp
def posA (n : Int) : List Int → Nat
  | [] => 0
  | x :: l => if x < n then posA n l + 1 else 0
theorem posA_le (n : Int) : ∀ l : List Int, posA n l ≤ l.length
  | [] => Nat.le_refl _
  | x :: l => by
    rw [posA]
    have := posA_le n l
    split
    · simp only [List.length_cons]; omega
    · simp
theorem posA_eq (n : Int) : ∀ (l : List Int) (i : Nat), i ≤ l.length → (∀ t, t < i → l.getD t 0 < n) → (i < l.length → ¬ l.getD i 0 < n) → posA n l = i
  | [], i, h, _, _ => by simp at h; simp [posA, h]
  | x :: l, 0, _, _, h2 => by
    have := h2 (by simp)
    rw [posA, if_neg (by simpa using this)]
  | x :: l, i + 1, h, h1, h2 => by
    rw [posA, if_pos (by simpa using h1 0 (by omega)), posA_eq n l i (by simpa using h) (fun t ht => by simpa using h1 (t + 1) (by omega)) (fun hi => by simpa using h2 (by simpa using hi))]
def ins1 (s : Int) (L : List Int) : List Int := L.take (posA s L) ++ [s] ++ L.drop (posA s L)
theorem ins1_length (s : Int) (L : List Int) : (ins1 s L).length = L.length + 1 := by
  have := posA_le s L
  simp [ins1]; omega
def accept (F N : Int) (L : List Int) (s : Int) : Int × Int × List Int × List Int × Bool :=
  if (streamB F N L && inR s 0 9999) = true then
    if (decide (s < N) || hasB L s) = true then (F, N, L, [], true)
    else if streamB F (giv N (ins1 s L)).2.1 (giv N (ins1 s L)).2.2 = true then (F, (giv N (ins1 s L)).2.1, (giv N (ins1 s L)).2.2, (giv N (ins1 s L)).1, true) else (F, N, L, [], false)
  else (F, N, L, [], false)
theorem streamB_len {x y : Int} {l : List Int} (h : streamB x y l = true) : l.length ≤ 20 := by
  unfold streamB at h
  simp only [Bool.and_eq_true, decide_eq_true_eq] at h
  omega
theorem streamB_mono {x y : Int} {l : List Int} (h : streamB x y l = true) : ∀ i, i + 1 < l.length → l.getD i 0 < l.getD (i + 1) 0 := by
  intro i hi
  unfold streamB at h
  simp only [Bool.and_eq_true, Bool.not_eq_true', List.any_eq_false] at h
  have h2 := h.2 (i + 1) (by simp [List.mem_range']; omega)
  unfold badK at h2
  simp at h2
  have := h2.2
  simp only [List.getD_eq_getElem?_getD]
  omega
theorem streamB_lt {x y : Int} {l : List Int} (h : streamB x y l = true) : ∀ d i, i + d + 1 < l.length → l.getD i 0 < l.getD (i + d + 1) 0 := by
  intro d
  induction d with
  | zero => intro i hi; exact streamB_mono h i hi
  | succ d ih =>
    intro i hi
    have h1 := ih i (by omega)
    have h2 := streamB_mono h (i + d + 1) (by omega)
    rw [show i + (d + 1) + 1 = i + d + 1 + 1 by omega]
    omega
theorem accept_len (F N : Int) (L : List Int) (s : Int) (hl : L.length ≤ 1048576) : (accept F N L s).2.2.1.length ≤ 1048576 ∧ (accept F N L s).2.2.2.1.length ≤ 21 := by
  unfold accept
  split
  · rename_i h
    simp only [Bool.and_eq_true] at h
    have h20 := streamB_len h.1
    split
    · exact ⟨hl, by simp⟩
    · have h1 := giv_len (ins1 s L) N
      rw [ins1_length] at h1
      split
      · exact ⟨by show (giv N (ins1 s L)).2.2.length ≤ _; omega, by show (giv N (ins1 s L)).1.length ≤ _; omega⟩
      · exact ⟨hl, by simp⟩
  · exact ⟨hl, by simp⟩

/-! spec_AcceptSeq -/
theorem spec_AcceptSeq.ev_l1 (F N : Int) (L : List Int) (F0 : Int) (hL : L.length ≤ 1048576) : ∀ (l : List Int) (n : Int) (o : List Int), l.length ≤ 100 → o.length + l.length ≤ 1048576 →
    Ev (fun k => spec_AcceptSeq.l1 k o F N L F0 n l) (if streamB F0 (giv n l).2.1 (giv n l).2.2 = true then (F0, (giv n l).2.1, (giv n l).2.2, o ++ (giv n l).1, true) else (F, N, L, [], false))
  | [], n, o, hl, ho => by
    refine Ev.step (fun k => by simp only [spec_AcceptSeq.l1]; rw [if_neg (by simp)]) ?_
    refine Ev.step (fun k => by simp only [spec_AcceptSeq.j5]; rfl) ?_
    refine Ev.bind (spec_IsStream.ev F0 n [] (by simp)) (Ev.all fun k => ?_)
    rw [spec_l25Copy.val F N L hL, Option.bind_some]
    simp only [giv, List.append_nil]
    by_cases h : streamB F0 n [] = true
    · rw [if_pos h, if_pos h]
    · rw [if_neg h, if_neg h]
  | x :: l, n, o, hl, ho => by
    simp only [List.length_cons] at hl ho
    by_cases hx : x = n
    · have ih := spec_AcceptSeq.ev_l1 F N L F0 hL l (wrap64 (n + 1)) (o ++ [n]) (by omega) (by simp; omega)
      refine Ev.step (fun k => by
        simp only [spec_AcceptSeq.l1]
        rw [if_pos (by simp only [List.length_cons]; omega), if_pos (by simp only [List.length_cons]; omega), show rd (x :: l) 0 = x from rfl, if_pos hx, Option.bind_some, if_pos (by simp only [List.length_cons, List.length_nil]; omega), Option.bind_some, if_pos (by simp only [List.length_cons]; omega), Option.bind_some, if_pos (by simp only [List.length_nil, List.drop_succ_cons, List.drop_zero]; omega), List.nil_append, List.drop_succ_cons, List.drop_zero]) ?_
      rw [giv, if_pos hx]
      simp only [List.append_assoc, List.singleton_append] at ih
      exact ih
    · refine Ev.step (fun k => by
        simp only [spec_AcceptSeq.l1]
        rw [if_pos (by simp only [List.length_cons]; omega), if_pos (by simp only [List.length_cons]; omega), show rd (x :: l) 0 = x from rfl, if_neg hx]) ?_
      refine Ev.step (fun k => by simp only [spec_AcceptSeq.j5]; rfl) ?_
      refine Ev.bind (spec_IsStream.ev F0 n (x :: l) (by simp only [List.length_cons]; omega)) (Ev.all fun k => ?_)
      rw [spec_l25Copy.val F N L hL, Option.bind_some]
      rw [giv, if_neg hx]
      simp only [List.append_nil]
      by_cases h : streamB F0 n (x :: l) = true
      · rw [if_pos h, if_pos h]
      · rw [if_neg h, if_neg h]
theorem spec_AcceptSeq.ev_l0 (F N : Int) (L : List Int) (s : Int) (hL : L.length ≤ 20) : ∀ (d i : Nat), i + d = L.length → posA s L = i + posA s (L.drop i) →
    Ev (fun k => spec_AcceptSeq.l0 k s i F N L) (if streamB F (giv N (ins1 s L)).2.1 (giv N (ins1 s L)).2.2 = true then (F, (giv N (ins1 s L)).2.1, (giv N (ins1 s L)).2.2, (giv N (ins1 s L)).1, true) else (F, N, L, [], false)) := by
  have fin : ∀ i : Nat, i ≤ L.length → posA s L = i → Ev (fun k => spec_AcceptSeq.j3 k s i F N L) (if streamB F (giv N (ins1 s L)).2.1 (giv N (ins1 s L)).2.2 = true then (F, (giv N (ins1 s L)).2.1, (giv N (ins1 s L)).2.2, (giv N (ins1 s L)).1, true) else (F, N, L, [], false)) := by
    intro i hi hp
    have h1 := spec_AcceptSeq.ev_l1 F N L F (by omega) (ins1 s L) N [] (by rw [ins1_length]; omega) (by rw [ins1_length]; simp; omega)
    rw [List.nil_append] at h1
    refine Ev.step (fun k => ?_) h1
    simp only [spec_AcceptSeq.j3]
    rw [spec_l25Copy.val F N L (by omega), Option.bind_some, Option.bind_some, if_pos (by omega), if_pos (by omega), Int.toNat_natCast, if_pos (by simp; omega), Option.bind_some, Option.bind_some, if_pos (by simp; omega), Option.bind_some, if_pos (by simp; omega), List.nil_append]
    unfold ins1
    rw [hp]
  intro d
  induction d with
  | zero =>
    intro i hi hp
    rw [List.drop_eq_nil_of_le (by omega)] at hp
    refine Ev.step (fun k => by simp only [spec_AcceptSeq.l0]; rw [if_neg (by omega)]) (fin i (by omega) (by simpa [posA] using hp))
  | succ d ih =>
    intro i hi hp
    rw [drop_cons L 0 (by omega), posA] at hp
    by_cases hx : L.getD i 0 < s
    · rw [if_pos hx] at hp
      refine Ev.step (fun k => by
        simp only [spec_AcceptSeq.l0]
        rw [if_pos (by omega), if_pos (by omega), rd_nat, if_pos hx, wrap_nat (by omega)]) (ih (i + 1) (by omega) (by omega))
    · rw [if_neg hx] at hp
      refine Ev.step (fun k => by
        simp only [spec_AcceptSeq.l0]
        rw [if_pos (by omega), if_pos (by omega), rd_nat, if_neg hx]) (fin i (by omega) (by omega))
theorem spec_AcceptSeq.ev (F N : Int) (L : List Int) (s : Int) (hL : L.length ≤ 1048576) : Ev (fun k => spec_AcceptSeq.f k F N L s) (accept F N L s) := by
  have bad : ∀ b : Bool, b = true → Ev (fun k => spec_AcceptSeq.j0 k s b F N L) (F, N, L, [], false) := fun b hb => Ev.one fun k => by simp only [spec_AcceptSeq.j0]; rw [if_pos hb, spec_l25Copy.val F N L hL, Option.bind_some]
  refine Ev.bind (spec_IsStream.ev F N L hL) ?_
  unfold accept
  by_cases h1 : streamB F N L = true
  · refine Ev.congr (fun k => by rw [if_pos h1, spec_l1In.val, Option.bind_some]) ?_
    have h20 := streamB_len h1
    by_cases h2 : inR s 0 9999 = true
    · rw [if_pos (by rw [h1, h2]; rfl)]
      have old : ∀ b : Bool, b = true → Ev (fun k => spec_AcceptSeq.j1 k s b F N L) (F, N, L, [], true) := fun b hb => Ev.one fun k => by simp only [spec_AcceptSeq.j1]; rw [if_pos hb, spec_l25Copy.val F N L hL, Option.bind_some]
      by_cases h3 : s < N
      · rw [if_pos (by simp [h3])]
        exact Ev.step (fun k => by simp only [spec_AcceptSeq.j0]; rw [if_neg (by simp [h2]), if_pos h3]) (old true rfl)
      · refine Ev.step (fun k => by simp only [spec_AcceptSeq.j0]; rw [if_neg (by simp [h2]), if_neg h3]) (Ev.bind (spec_l15Has.ev L s hL) ?_)
        by_cases h4 : hasB L s = true
        · rw [if_pos (by simp [h4])]
          exact old _ h4
        · rw [if_neg (by simp [h3, h4])]
          refine Ev.step (fun k => by simp only [spec_AcceptSeq.j1]; rw [if_neg h4]) ?_
          have := spec_AcceptSeq.ev_l0 F N L s h20 L.length 0 (by omega) (by simp)
          exact this
    · rw [if_neg (by simp [h2])]
      exact bad _ (by simp [h2])
  · rw [if_neg (by simp [h1])]
    refine Ev.congr (fun k => by rw [if_neg h1]) ?_
    exact bad _ rfl

/-! laws_toIntS -/
theorem laws_toIntS.ev_l (l : List Int) (hl : l.length ≤ 1048576) : ∀ (d i : Nat) (o : List Int), i + d = l.length → o.length = l.length → o.take i = l.take i → Ev (fun k => laws_toIntS.l0 k l o i) l := by
  intro d
  induction d with
  | zero =>
    intro i o hi ho ht
    refine Ev.one fun k => ?_
    simp only [laws_toIntS.l0]
    rw [if_neg (by omega), take_full ho (by omega) ht]
  | succ d ih =>
    intro i o hi ho ht
    refine Ev.step (fun k => ?_) (ih (i + 1) (o.set i (l.getD i 0)) (by omega) (by simp [ho]) (set_take o l _ ho (get_of l 0 (by omega)) ht))
    simp only [laws_toIntS.l0]
    rw [if_pos (by omega), if_pos (by omega), if_pos (by omega), wrap_nat (by omega)]
    rfl
theorem laws_toIntS.ev (l : List Int) (hl : l.length ≤ 1048576) : Ev (fun k => laws_toIntS.f k l) l :=
  Ev.congr (fun k => by unfold laws_toIntS.f; rw [if_pos (by omega), if_pos (by omega)] <;> rfl) (laws_toIntS.ev_l l hl l.length 0 _ (by omega) (by simp) (by simp))

/-! laws_toStream -/
theorem laws_toStream.ev (x y : Int) (l : List Int) (hl : l.length ≤ 1048576) : Ev (fun k => laws_toStream.f k x y l) (x, y, l) := Ev.bind (laws_toIntS.ev l hl) (Ev.now _)

/-! impl_InRange -/
theorem impl_InRange.val (a lo hi : Int) : impl_InRange.f a lo hi = some (inR a lo hi) := by
  unfold impl_InRange.f inR
  by_cases h : lo ≤ a
  · rw [if_pos h]; simp [h]
  · rw [if_neg h]; simp; omega

/-! impl_IsStream -/
theorem impl_IsStream.ev (x y : Int) (l : List Int) (hl : l.length ≤ 1048576) : Ev (fun k => impl_IsStream.f k x y l) (streamB x y l) := by
  have h := find_index (g := fun k i => impl_IsStream.l0 k l l.length i x y l) (q := badK y l) (r := false) (e := true) l.length
    (Ev.one fun k => by
      simp only [impl_IsStream.l0]
      rw [if_neg (by omega)])
    (fun i k hi => by
      simp only [impl_IsStream.l0]
      rw [if_pos (by omega), if_pos (by omega), if_pos (by omega), wrap_nat (by omega)]
      rcases Nat.eq_zero_or_pos i with rfl | hp
      · rw [if_neg (show ¬ ((0 : Nat) : Int) > 0 by omega)]
        show (if l.getD 0 0 ≤ y then _ else if l.getD 0 0 > 9999 then _ else _) = _
        unfold badK
        by_cases h1 : l.getD 0 0 ≤ y
        · rw [if_pos h1, if_pos (by simp only [h1, decide_true, Bool.true_or])]
        · rw [if_neg h1]
          by_cases h2 : l.getD 0 0 > 9999
          · rw [if_pos h2, if_pos (by simp only [h2, decide_true, Bool.true_or, Bool.or_true])]
          · rw [if_neg h2, if_neg (by simp only [h1, h2, decide_false, Bool.false_or, Nat.lt_irrefl, Bool.false_and]; simp)]
      · rw [wrap_pred hp (by omega), if_pos (show ((i : Nat) : Int) > 0 by omega), if_pos (show (0 : Int) ≤ ((i - 1 : Nat) : Int) by omega), if_pos (show ((i - 1 : Nat) : Int) < (l.length : Int) by omega)]
        show (if l.getD i 0 ≤ y then _ else if l.getD i 0 > 9999 then _ else if l.getD i 0 ≤ l.getD (i - 1) 0 then _ else _) = _
        unfold badK
        generalize l.getD i 0 = u
        generalize l.getD (i - 1) 0 = v
        by_cases h1 : u ≤ y <;> by_cases h2 : u > 9999 <;> by_cases h3 : u ≤ v <;> simp [h1, h2, h3, hp] <;> omega)
  rw [ite_notb] at h
  have bad : ∀ b : Bool, b = true → Ev (fun k => impl_IsStream.j0 k b x y l) false := fun b hb => Ev.one fun k => by simp only [impl_IsStream.j0]; rw [if_pos hb]
  have good : ∀ b : Bool, b = false → Ev (fun k => impl_IsStream.j0 k b x y l) (!(List.range' 0 l.length).any (badK y l)) := fun b hb => Ev.step (fun k => by simp only [impl_IsStream.j0]; rw [if_neg (by simp [hb])]) h
  refine Ev.congr (fun k => by unfold impl_IsStream.f; rw [impl_InRange.val, impl_InRange.val, Option.bind_some, Option.bind_some]) ?_
  unfold streamB
  by_cases h1 : inR x 0 10000 = true
  · by_cases h2 : inR y 0 10000 = true
    · refine Ev.congr (fun k => by rw [if_pos h1, if_pos h2]) ?_
      rw [h1, h2]
      by_cases h3 : (l.length : Int) ≤ 20
      · simp only [h3, decide_true, Bool.true_and]
        exact good _ (by simp; omega)
      · simp only [h3, decide_false, Bool.and_false, Bool.false_and, Bool.true_and]
        exact bad _ (by simp; omega)
    · refine Ev.congr (fun k => by rw [if_pos h1, if_neg h2]) ?_
      have h2' : inR y 0 10000 = false := by simpa using h2
      rw [h2']
      simpa using bad true rfl
  · refine Ev.congr (fun k => by rw [if_neg h1]) ?_
    have h1' : inR x 0 10000 = false := by simpa using h1
    rw [h1']
    simpa using bad true rfl

/-! slices_Index_int_int -/
theorem slices_Index_int_int.ev_l (l : List Int) (a : Int) (hl : l.length ≤ 1048576) : ∀ (d i : Nat), i + d = l.length → ∃ r, Ev (fun k => slices_Index_int_int.l0 k l a l.length i) r ∧ decide (r ≥ 0) = (l.drop i).any (fun x => x == a) := by
  intro d
  induction d with
  | zero =>
    intro i hi
    exact ⟨-1, Ev.one fun k => by simp only [slices_Index_int_int.l0]; rw [if_neg (by omega)], by rw [List.drop_eq_nil_of_le (by omega)]; rfl⟩
  | succ d ih =>
    intro i hi
    rw [drop_cons l 0 (show i < l.length by omega), List.any_cons]
    by_cases h : a = l.getD i 0
    · refine ⟨(i : Int), Ev.one fun k => ?_, ?_⟩
      · simp only [slices_Index_int_int.l0]
        rw [if_pos (by omega), if_pos (by omega), if_pos (by omega), rd_nat, if_pos h]
      · rw [← h]; simp
    · obtain ⟨r, hr, hd⟩ := ih (i + 1) (by omega)
      refine ⟨r, Ev.step (fun k => ?_) hr, ?_⟩
      · simp only [slices_Index_int_int.l0]
        rw [if_pos (by omega), if_pos (by omega), if_pos (by omega), rd_nat, if_neg h, wrap_nat (by omega)]
      · have : (l.getD i 0 == a) = false := by rw [beq_eq_false_iff_ne]; exact fun e => h e.symm
        rw [this, Bool.false_or, hd]
theorem slices_Index_int_int.ev (l : List Int) (a : Int) (hl : l.length ≤ 1048576) : ∃ r, Ev (fun k => slices_Index_int_int.f k l a) r ∧ decide (r ≥ 0) = hasB l a := by
  have := slices_Index_int_int.ev_l l a hl l.length 0 (by omega)
  rw [List.drop_zero] at this
  exact this

/-! slices_Contains_int_int -/
theorem slices_Contains_int_int.ev (l : List Int) (a : Int) (hl : l.length ≤ 1048576) : Ev (fun k => slices_Contains_int_int.f k l a) (hasB l a) := by
  obtain ⟨r, hr, e⟩ := slices_Index_int_int.ev l a hl
  rw [← e]
  exact Ev.bind hr (Ev.now _)

/-! slices_Clone_int_int -/
theorem slices_Clone_int_int.val (l : List Int) (hl : l.length ≤ 1048576) : slices_Clone_int_int.f l = some l := by
  unfold slices_Clone_int_int.f
  rw [if_pos (by omega)]

/-! impl_cloneStream -/
theorem impl_cloneStream.val (x y : Int) (l : List Int) (hl : l.length ≤ 1048576) : impl_cloneStream.f x y l = some (x, y, l) := by
  unfold impl_cloneStream.f slices_Clone_int_int.f
  rw [if_pos (by omega), Option.bind_some]

/-! cmp_Less_int -/
theorem cmp_Less_int.val (a b : Int) : cmp_Less_int.f a b = some (decide (a < b)) := by
  unfold cmp_Less_int.f cmp_isNaN_int.f
  simp

/-! slices_BinarySearch_int_int -/
theorem slices_BinarySearch_int_int.ev_l (L : List Int) (s : Int) (hL : L.length ≤ 1048576) (hm : ∀ a b, a < b → b < L.length → L.getD a 0 < L.getD b 0) : ∀ (d lo hi : Nat), hi ≤ lo + d → lo ≤ hi → hi ≤ L.length → (∀ t, t < lo → L.getD t 0 < s) → (∀ t, hi ≤ t → t < L.length → ¬ L.getD t 0 < s) →
    ∃ b, Ev (fun k => slices_BinarySearch_int_int.l0 k L s (L.length : Int) lo hi) ((posA s L : Int), b) := by
  have fin : ∀ lo : Nat, lo ≤ L.length → (∀ t, t < lo → L.getD t 0 < s) → (∀ t, lo ≤ t → t < L.length → ¬ L.getD t 0 < s) → ∃ b, Ev (fun k => slices_BinarySearch_int_int.l0 k L s (L.length : Int) lo lo) ((posA s L : Int), b) := by
    intro lo hlo h1 h2
    have hp := posA_eq s L lo hlo h1 (fun h => h2 lo (Nat.le_refl _) h)
    by_cases hlt : lo < L.length
    · by_cases he : L.getD lo 0 = s
      · refine ⟨true, Ev.one fun k => ?_⟩
        simp only [slices_BinarySearch_int_int.l0]
        rw [if_neg (by omega), if_pos (by omega), if_pos (by omega), if_pos (by omega), rd_nat, if_pos he, hp]
      · refine ⟨false, Ev.one fun k => ?_⟩
        simp only [slices_BinarySearch_int_int.l0]
        rw [if_neg (by omega), if_pos (by omega), if_pos (by omega), if_pos (by omega), rd_nat, if_neg he, hp]
        simp [slices_isNaN_int.f]
    · refine ⟨false, Ev.one fun k => ?_⟩
      simp only [slices_BinarySearch_int_int.l0]
      rw [if_neg (by omega), if_neg (by omega), hp]
  intro d
  induction d with
  | zero =>
    intro lo hi h1 h2 h3 h4 h5
    obtain rfl : hi = lo := by omega
    exact fin hi h3 h4 h5
  | succ d ih =>
    intro lo hi h1 h2 h3 h4 h5
    by_cases hlt : lo < hi
    · have hh : wrap64 ((IntKind.u64.wrap (wrap64 ((lo : Int) + (hi : Int)))) / 2) = (((lo + hi) / 2 : Nat) : Int) := by
        rw [wrap_id (x := (lo : Int) + (hi : Int)) (by omega) (by omega)]
        rw [show IntKind.u64.wrap ((lo : Int) + (hi : Int)) = (lo : Int) + (hi : Int) by simp [IntKind.wrap, IntKind.bits, IntKind.signed]; omega]
        rw [wrap_id (by omega) (by omega)]
        omega
      have hm1 : (lo + hi) / 2 < hi := by omega
      have hm2 : lo ≤ (lo + hi) / 2 := by omega
      by_cases hx : L.getD ((lo + hi) / 2) 0 < s
      · obtain ⟨b, hb⟩ := ih ((lo + hi) / 2 + 1) hi (by omega) (by omega) h3 (fun t ht => by
          by_cases e : t = (lo + hi) / 2
          · rw [e]; exact hx
          · have := hm t ((lo + hi) / 2) (by omega) (by omega)
            omega) h5
        refine ⟨b, Ev.step (fun k => ?_) hb⟩
        simp only [slices_BinarySearch_int_int.l0]
        rw [if_pos (by omega), hh, if_pos (by omega), if_pos (by omega), cmp_Less_int.val, Option.bind_some, rd_nat, if_pos (by simpa using hx), wrap_nat (by omega)]
      · obtain ⟨b, hb⟩ := ih lo ((lo + hi) / 2) (by omega) (by omega) (by omega) h4 (fun t ht htl => by
          by_cases e : t = (lo + hi) / 2
          · rw [e]; exact hx
          · have := hm ((lo + hi) / 2) t (by omega) htl
            omega)
        refine ⟨b, Ev.step (fun k => ?_) hb⟩
        simp only [slices_BinarySearch_int_int.l0]
        rw [if_pos (by omega), hh, if_pos (by omega), if_pos (by omega), cmp_Less_int.val, Option.bind_some, rd_nat, if_neg (by simpa using hx)]
    · obtain rfl : hi = lo := by omega
      exact fin hi h3 h4 h5
theorem slices_BinarySearch_int_int.ev (L : List Int) (s : Int) (hL : L.length ≤ 1048576) (hm : ∀ a b, a < b → b < L.length → L.getD a 0 < L.getD b 0) : ∃ b, Ev (fun k => slices_BinarySearch_int_int.f k L s) ((posA s L : Int), b) :=
  slices_BinarySearch_int_int.ev_l L s hL hm L.length 0 L.length (by omega) (by omega) (Nat.le_refl _) (fun t ht => by omega) (fun t h1 h2 => by omega)

/-! impl_AcceptSeq -/
theorem impl_AcceptSeq.ev_l0 (F N : Int) (L : List Int) (F0 : Int) (hL : L.length ≤ 1048576) : ∀ (l : List Int) (n : Int) (o : List Int), l.length ≤ 100 → o.length + l.length ≤ 1048576 →
    Ev (fun k => impl_AcceptSeq.l0 k o F N L F0 n l) (if streamB F0 (giv n l).2.1 (giv n l).2.2 = true then (F0, (giv n l).2.1, (giv n l).2.2, o ++ (giv n l).1, true) else (F, N, L, [], false))
  | [], n, o, hl, ho => by
    refine Ev.step (fun k => by simp only [impl_AcceptSeq.l0]; rw [if_neg (by simp)]) ?_
    refine Ev.step (fun k => by simp only [impl_AcceptSeq.j3]; rfl) ?_
    refine Ev.bind (impl_IsStream.ev F0 n [] (by simp)) (Ev.all fun k => ?_)
    rw [impl_cloneStream.val F N L hL, Option.bind_some]
    simp only [giv, List.append_nil]
    by_cases h : streamB F0 n [] = true
    · rw [if_pos h, if_pos h]
    · rw [if_neg h, if_neg h]
  | x :: l, n, o, hl, ho => by
    simp only [List.length_cons] at hl ho
    by_cases hx : x = n
    · have ih := impl_AcceptSeq.ev_l0 F N L F0 hL l (wrap64 (n + 1)) (o ++ [n]) (by omega) (by simp; omega)
      refine Ev.step (fun k => by
        simp only [impl_AcceptSeq.l0]
        rw [if_pos (by simp only [List.length_cons]; omega), if_pos (by simp only [List.length_cons]; omega), show rd (x :: l) 0 = x from rfl, if_pos hx, if_pos (by omega), if_pos (by simp only [List.length_cons]; omega)]) ?_
      rw [giv, if_pos hx]
      simp only [List.append_assoc, List.singleton_append] at ih
      exact ih
    · refine Ev.step (fun k => by
        simp only [impl_AcceptSeq.l0]
        rw [if_pos (by simp only [List.length_cons]; omega), if_pos (by simp only [List.length_cons]; omega), show rd (x :: l) 0 = x from rfl, if_neg hx]) ?_
      refine Ev.step (fun k => by simp only [impl_AcceptSeq.j3]; rfl) ?_
      refine Ev.bind (impl_IsStream.ev F0 n (x :: l) (by simp only [List.length_cons]; omega)) (Ev.all fun k => ?_)
      rw [impl_cloneStream.val F N L hL, Option.bind_some]
      rw [giv, if_neg hx]
      simp only [List.append_nil]
      by_cases h : streamB F0 n (x :: l) = true
      · rw [if_pos h, if_pos h]
      · rw [if_neg h, if_neg h]
theorem impl_AcceptSeq.ev (F N : Int) (L : List Int) (s : Int) (hL : L.length ≤ 1048576) : Ev (fun k => impl_AcceptSeq.f k F N L s) (accept F N L s) := by
  have bad : ∀ b : Bool, b = true → Ev (fun k => impl_AcceptSeq.j0 k s b F N L) (F, N, L, [], false) := fun b hb => Ev.one fun k => by simp only [impl_AcceptSeq.j0]; rw [if_pos hb, impl_cloneStream.val F N L hL, Option.bind_some]
  refine Ev.bind (impl_IsStream.ev F N L hL) ?_
  unfold accept
  by_cases h1 : streamB F N L = true
  · refine Ev.congr (fun k => by rw [if_pos h1, impl_InRange.val, Option.bind_some]) ?_
    have h20 := streamB_len h1
    by_cases h2 : inR s 0 9999 = true
    · rw [if_pos (by rw [h1, h2]; rfl)]
      have old : ∀ b : Bool, b = true → Ev (fun k => impl_AcceptSeq.j1 k s [] b F N L F N L) (F, N, L, [], true) := fun b hb => Ev.one fun k => by simp only [impl_AcceptSeq.j1]; rw [if_pos hb]
      by_cases h3 : s < N
      · rw [if_pos (by simp [h3])]
        exact Ev.step (fun k => by simp only [impl_AcceptSeq.j0]; rw [if_neg (by simp [h2]), impl_cloneStream.val F N L hL, Option.bind_some, Option.bind_some, if_pos h3]) (old true rfl)
      · refine Ev.step (fun k => by simp only [impl_AcceptSeq.j0]; rw [if_neg (by simp [h2]), impl_cloneStream.val F N L hL, Option.bind_some, Option.bind_some, if_neg h3]) (Ev.bind (slices_Contains_int_int.ev L s hL) ?_)
        by_cases h4 : hasB L s = true
        · rw [if_pos (by simp [h4])]
          exact old _ h4
        · rw [if_neg (by simp [h3, h4])]
          refine Ev.step (fun k => by simp only [impl_AcceptSeq.j1]; rw [if_neg h4]) ?_
          obtain ⟨b, hb⟩ := slices_BinarySearch_int_int.ev L s hL (fun p q hpq hq => by
            have := streamB_lt h1 (q - p - 1) p (by omega)
            rwa [show p + (q - p - 1) + 1 = q by omega] at this)
          have hp := posA_le s L
          have h5 := impl_AcceptSeq.ev_l0 F N L F hL (ins1 s L) N [] (by rw [ins1_length]; omega) (by rw [ins1_length]; simp; omega)
          rw [List.nil_append] at h5
          refine Ev.bind hb (Ev.congr (fun k => ?_) h5)
          unfold slices_Insert_int_int.f
          rw [if_pos ⟨by omega, by simp only [Int.toNat_natCast]; omega, rfl, by omega⟩, Option.bind_some, Int.toNat_natCast]
          rfl
    · rw [if_neg (by simp [h2])]
      exact bad _ (by simp [h2])
  · rw [if_neg (by simp [h1])]
    refine Ev.congr (fun k => by rw [if_neg h1]) ?_
    exact bad _ rfl

/-! laws_eqIntS -/
theorem laws_eqIntS.ev_l (l : List Int) (hl : l.length ≤ 1048576) : ∀ (d i : Nat), i + d = l.length → Ev (fun k => laws_eqIntS.l0 k l l i) true := by
  intro d
  induction d with
  | zero => intro i hi; refine Ev.one fun k => ?_; simp only [laws_eqIntS.l0]; rw [if_neg (by omega)]
  | succ d ih =>
    intro i hi
    refine Ev.step (fun k => ?_) (ih (i + 1) (by omega))
    simp only [laws_eqIntS.l0]
    rw [if_pos (by omega), if_pos (by omega), if_pos (by omega), if_pos trivial, wrap_nat (by omega)]
theorem laws_eqIntS.ev (l : List Int) (hl : l.length ≤ 1048576) : Ev (fun k => laws_eqIntS.f k l l) true :=
  Ev.congr (fun k => by unfold laws_eqIntS.f; rw [if_pos rfl] <;> rfl) (laws_eqIntS.ev_l l hl l.length 0 (by omega))
theorem laws_eqIntS.ev' (l : List Int) (hl : l.length ≤ 4000000) : Ev (fun k => laws_eqIntS.f k l l) true := by
  refine Ev.congr (fun k => by unfold laws_eqIntS.f; rw [if_pos rfl]) (all_loop (g := fun k i => laws_eqIntS.l0 k l l i) l.length (Ev.one fun k => by simp only [laws_eqIntS.l0]; rw [if_neg (by omega)]) (fun i hi r hr => Ev.step (fun k => ?_) hr))
  simp only [laws_eqIntS.l0]
  rw [if_pos (by omega), if_pos (by omega), if_pos (by omega), if_pos trivial, wrap_nat (by omega)]

/-! laws_eqStream -/
theorem laws_eqStream.ev (x y : Int) (l : List Int) (hl : l.length ≤ 1048576) : Ev (fun k => laws_eqStream.f k x y l x y l) true := by
  refine Ev.congr (fun k => by unfold laws_eqStream.f; rw [if_pos rfl, if_pos rfl]) ?_
  exact Ev.bind (laws_eqIntS.ev l hl) (Ev.all fun k => rfl)

/-! laws_markIntS -/
theorem laws_markIntS.ev_l (a : Int) (n : Nat) (h0 : 0 ≤ a) (h1 : a + n ≤ 4611686018427387904) : ∀ (d i : Nat) (o : List Int), i + d = n → o.length = n → o.take i = (marks a n).take i →
    Ev (fun k => laws_markIntS.l0 k o (a + i) i) (a + n, marks a n) := by
  intro d
  induction d with
  | zero =>
    intro i o hi ho ht
    refine Ev.one fun k => ?_
    simp only [laws_markIntS.l0]
    rw [if_neg (by omega), take_full (by rw [marks_length]; exact ho) (by rw [marks_length]; omega) ht, show i = n by omega]
  | succ d ih =>
    intro i o hi ho ht
    refine Ev.step (fun k => ?_) (ih (i + 1) (o.set i (a + i)) (by omega) (by simp [ho]) (set_take o _ _ (by rw [marks_length]; exact ho) (marks_get a n i (by omega)) ht))
    simp only [laws_markIntS.l0]
    rw [if_pos (by omega), if_pos (by omega), wrap_nat (by omega), wrap_id (by omega) (by omega)]
    rw [show a + (i : Int) + 1 = a + ((i + 1 : Nat) : Int) by omega]
    rfl
theorem laws_markIntS.ev (l : List Int) (a : Int) (h0 : 0 ≤ a) (h1 : a + l.length ≤ 4611686018427387904) : Ev (fun k => laws_markIntS.f k l a) (a + l.length, marks a l.length) := by
  have := laws_markIntS.ev_l a l.length h0 h1 l.length 0 l (by omega) rfl (by simp)
  rw [show a + ((0 : Nat) : Int) = a by omega] at this
  exact this

/-! laws_markStream -/
theorem laws_markStream.ev (x y : Int) (l : List Int) (a : Int) (h0 : 0 ≤ a) (h1 : a + l.length ≤ 4611686018427387904) : Ev (fun k => laws_markStream.f k x y l a) (a + l.length, marks a l.length) := Ev.bind (laws_markIntS.ev l a h0 h1) (Ev.now _)

/-! laws_heldIntS -/
theorem laws_heldIntS.ev_l (a : Int) (n : Nat) (h0 : 0 ≤ a) (h1 : a + n ≤ 4611686018427387904) : ∀ (d i : Nat), i + d = n → Ev (fun k => laws_heldIntS.l0 k (marks a n) (a + i) i) (a + n) := by
  intro d
  induction d with
  | zero =>
    intro i hi
    refine Ev.one fun k => ?_
    simp only [laws_heldIntS.l0]
    rw [if_neg (by rw [marks_length]; omega), show i = n by omega]
  | succ d ih =>
    intro i hi
    refine Ev.step (fun k => ?_) (ih (i + 1) (by omega))
    simp only [laws_heldIntS.l0]
    rw [if_pos (by rw [marks_length]; omega), if_pos (by omega), rd_nat, if_pos (marks_getD a n i (by omega)), wrap_nat (by omega), wrap_id (by omega) (by omega)]
    rw [show a + (i : Int) + 1 = a + ((i + 1 : Nat) : Int) by omega]
theorem laws_heldIntS.ev (a : Int) (n : Nat) (h0 : 0 ≤ a) (h1 : a + n ≤ 4611686018427387904) : Ev (fun k => laws_heldIntS.f k (marks a n) a) (a + n) := by
  have := laws_heldIntS.ev_l a n h0 h1 n 0 (by omega)
  rw [show a + ((0 : Nat) : Int) = a by omega] at this
  exact this

/-! laws_heldStream -/
theorem laws_heldStream.ev (x y : Int) (a : Int) (n : Nat) (h0 : 0 ≤ a) (h1 : a + n ≤ 4611686018427387904) : Ev (fun k => laws_heldStream.f k x y (marks a n) a) (a + n) := Ev.bind (laws_heldIntS.ev a n h0 h1) (Ev.all fun k => by rw [if_neg (by omega)])

/-! @@ FnExactAcceptSeq -/
theorem proved : Stated := by
  intro F N L s _ _ ⟨hl, hw⟩ _
  obtain ⟨t, ht, hle, hp⟩ := laws_szStream.val F N L 1048576 (by omega) (by omega) hl
  refine Ev.rounds ?_
  refine Ev.congr (fun k => by unfold laws_FnExactAcceptSeq.f; rw [ht, Option.bind_some]) ?_
  by_cases h : t < 0
  · exact Ev.all fun k => by rw [if_pos h]
  · obtain ⟨_, hl2⟩ := hp (by omega)
    refine Ev.congr (fun k => by rw [if_neg h]) ?_
    have hs := spec_AcceptSeq.ev F N L s hl2
    have hi := impl_AcceptSeq.ev F N L s hl2
    obtain ⟨hc, hg⟩ := accept_len F N L s hl2
    generalize accept F N L s = q at hs hi hc hg
    obtain ⟨F', N', L', g, ok⟩ := q
    have hc : L'.length ≤ 1048576 := hc
    have hg : g.length ≤ 21 := hg
    refine Ev.bind (laws_toStream.ev F N L hl2) (Ev.bind hs (Ev.bind (laws_toStream.ev F N L hl2) (Ev.bind hi (Ev.bind (laws_eqStream.ev F' N' L' hc) ?_))))
    refine Ev.congr (fun k => by rw [if_pos rfl]) (Ev.bind (laws_eqIntS.ev g (by omega)) ?_)
    refine Ev.congr (fun k => by rw [if_pos rfl]) ?_
    refine Ev.step (fun k => by simp only [laws_FnExactAcceptSeq.j0]; rw [if_neg (by simp)]) ?_
    refine Ev.bind (laws_toStream.ev F N L hl2) (Ev.bind (laws_eqStream.ev F N L hl2) ?_)
    refine Ev.congr (fun k => by rw [if_pos rfl]) (Ev.bind (laws_markStream.ev F N L 1 (by omega) (by omega)) ?_)
    refine Ev.congr (fun k => by rw [if_neg (by omega)]) (Ev.bind (laws_eqStream.ev F' N' L' hc) ?_)
    refine Ev.congr (fun k => by rw [if_pos rfl]) (Ev.bind (laws_eqIntS.ev g (by omega)) ?_)
    refine Ev.congr (fun k => by rw [if_pos rfl]) ?_
    refine Ev.step (fun k => by simp only [laws_FnExactAcceptSeq.j1]; rw [if_neg (by simp)]) ?_
    refine Ev.bind (laws_markStream.ev F' N' L' 1 (by omega) (by omega)) (Ev.bind (laws_markIntS.ev g (1 + L'.length) (by omega) (by omega)) (Ev.bind (laws_heldStream.ev F' N' 1 L'.length (by omega) (by omega)) ?_))
    refine Ev.congr (fun k => by rw [if_neg (by omega)]) (Ev.bind (laws_heldIntS.ev (1 + L'.length) g.length (by omega) (by omega)) ?_)
    refine Ev.congr (fun k => by rw [if_neg (by omega), if_pos rfl]) ?_
    refine Ev.bind (laws_toStream.ev F N L hl2) (Ev.bind hi (Ev.bind (laws_eqStream.ev F' N' L' hc) ?_))
    refine Ev.congr (fun k => by rw [if_pos rfl]) (Ev.bind (laws_eqIntS.ev g (by omega)) ?_)
    refine Ev.congr (fun k => by rw [if_pos rfl]) ?_
    refine Ev.step (fun k => by simp only [laws_FnExactAcceptSeq.j2]; rw [if_neg (by simp)]) ?_
    refine Ev.bind (laws_heldStream.ev F' N' 1 L'.length (by omega) (by omega)) ?_
    refine Ev.congr (fun k => by rw [if_neg (by omega)]) (Ev.bind (laws_heldIntS.ev (1 + L'.length) g.length (by omega) (by omega)) ?_)
    exact Ev.all fun k => by rw [if_neg (by omega), if_pos rfl]

end Go.Proofs.Ytegkplalnljgjaa.PureFnExactAcceptSeq
