/- FnExactInRound, over numbers and lists alone: what the program's function and the reference's answer is one. Conditions: the numbers are of their kinds. -/
import Derived.Test.YthkhjeklcmmjhaaKindsFnExactInRound
import Derived.Test.YthkhjeklcmmjhaaBase
namespace Go.Proofs.Ythkhjeklcmmjhaa.PureFnExactInRound
open Go.RowKit Go.Proofs.Ythkhjeklcmmjhaa.PFnExactInRound Go.Proofs.YthkhjeklcmmjhaaW.PrintWords Go.Proofs.YthkhjeklcmmjhaaW.PrintLast Go.Proofs.YthkhjeklcmmjhaaW.PrintMore Go.Proofs.Ythkhjeklcmmjhaa.Base
set_option linter.unusedVariables false
set_option linter.unusedSimpArgs false

/-! laws_toIntS -/
theorem laws_toIntS.ev_l (l : List Int) (hl : l.length ≤ 1048576) : ∀ (d i : Nat) (o : List Int), i + d = l.length → o.length = l.length → o.take i = l.take i → Ev (fun k => laws_toIntS.l0 k l o i) l := by
  intro d
  induction d with
  | zero =>
    intro i o hi ho ht
    refine Ev.one fun k => ?_
    simp only [laws_toIntS.l0]
    rw [if_neg (by omega), take_full ho (by omega) ht]
  | succ d ih =>
    intro i o hi ho ht
    refine Ev.step (fun k => ?_) (ih (i + 1) (o.set i (l.getD i 0)) (by omega) (by simp [ho]) (set_take o l _ ho (get_of l 0 (by omega)) ht))
    simp only [laws_toIntS.l0]
    rw [if_pos (by omega), if_pos (by omega), if_pos (by omega), wrap_nat (by omega)]
    rfl
theorem laws_toIntS.ev (l : List Int) (hl : l.length ≤ 1048576) : Ev (fun k => laws_toIntS.f k l) l :=
  Ev.congr (fun k => by unfold laws_toIntS.f; rw [if_pos (by omega), if_pos (by omega)] <;> rfl) (laws_toIntS.ev_l l hl l.length 0 _ (by omega) (by simp) (by simp))

/-! laws_eqIntS -/
theorem laws_eqIntS.ev_l (l : List Int) (hl : l.length ≤ 1048576) : ∀ (d i : Nat), i + d = l.length → Ev (fun k => laws_eqIntS.l0 k l l i) true := by
  intro d
  induction d with
  | zero => intro i hi; refine Ev.one fun k => ?_; simp only [laws_eqIntS.l0]; rw [if_neg (by omega)]
  | succ d ih =>
    intro i hi
    refine Ev.step (fun k => ?_) (ih (i + 1) (by omega))
    simp only [laws_eqIntS.l0]
    rw [if_pos (by omega), if_pos (by omega), if_pos (by omega), if_pos trivial, wrap_nat (by omega)]
theorem laws_eqIntS.ev (l : List Int) (hl : l.length ≤ 1048576) : Ev (fun k => laws_eqIntS.f k l l) true :=
  Ev.congr (fun k => by unfold laws_eqIntS.f; rw [if_pos rfl] <;> rfl) (laws_eqIntS.ev_l l hl l.length 0 (by omega))

/-! spec_InRound -/
def inRoundF (k : Int) (l : List Int) (i : Nat) (o : List Int) : List Int := if l.getD i 0 = k then o ++ [((i : Nat) : Int)] else o
def inRound (l : List Int) (k : Int) : List Int := (List.range' 0 l.length).foldl (fun o i => inRoundF k l i o) []
theorem inRoundF_len (k : Int) (l o : List Int) (i : Nat) (h : o.length ≤ i) : (inRoundF k l i o).length ≤ i + 1 := by
  unfold inRoundF
  split
  · rw [List.length_append, List.length_singleton]; omega
  · omega
theorem inRound_len (l : List Int) (k : Int) : (inRound l k).length ≤ l.length := by
  have : ∀ d i (o : List Int), o.length ≤ i → ((List.range' i d).foldl (fun o i => inRoundF k l i o) o).length ≤ i + d := by
    intro d
    induction d with
    | zero => intro i o h; simpa using h
    | succ d ih => intro i o h; rw [List.range'_succ, List.foldl_cons]; have := ih (i + 1) _ (inRoundF_len k l o i h); omega
  have h := this l.length 0 [] (by simp)
  unfold inRound
  omega
theorem spec_InRound.ev (l : List Int) (a : Int) (hl : l.length ≤ 1048576) : Ev (fun k => spec_InRound.f k l a) (inRound l a) :=
  fold_index (g := fun k s i => spec_InRound.l0 k l a s i) (f := inRoundF a l) (fin := fun s => s) (fun i s => s.length ≤ i) l.length [] (by simp)
    (fun s _ => Ev.one fun k => by simp only [spec_InRound.l0]; rw [if_neg (by omega)])
    (fun i s hi hI => ⟨inRoundF_len a l s i hI, fun k => by
      simp only [spec_InRound.l0]
      rw [if_pos (by omega), if_pos (by omega), wrap_nat (by omega), rd_nat, if_pos (show s.length < 17592186044416 by omega)]
      unfold inRoundF
      split <;> rfl⟩)

/-! impl_InRound -/
theorem impl_InRound.ev (l : List Int) (a : Int) (hl : l.length ≤ 1048576) : Ev (fun k => impl_InRound.f k l a) (inRound l a) :=
  fold_index (g := fun k s i => impl_InRound.l0 k a s l l.length i) (f := inRoundF a l) (fin := fun s => s) (fun i s => s.length ≤ i) l.length [] (by simp)
    (fun s _ => Ev.one fun k => by simp only [impl_InRound.l0]; rw [if_neg (by omega)])
    (fun i s hi hI => ⟨inRoundF_len a l s i hI, fun k => by
      simp only [impl_InRound.l0]
      rw [if_pos (by omega), if_pos (by omega), if_pos (by omega), wrap_nat (by omega), rd_nat, if_pos (show s.length < 17592186044416 by omega)]
      unfold inRoundF
      split <;> rfl⟩)

/-! laws_markIntS -/
theorem laws_markIntS.ev_l (a : Int) (n : Nat) (h0 : 0 ≤ a) (h1 : a + n ≤ 4611686018427387904) : ∀ (d i : Nat) (o : List Int), i + d = n → o.length = n → o.take i = (marks a n).take i →
    Ev (fun k => laws_markIntS.l0 k o (a + i) i) (a + n, marks a n) := by
  intro d
  induction d with
  | zero =>
    intro i o hi ho ht
    refine Ev.one fun k => ?_
    simp only [laws_markIntS.l0]
    rw [if_neg (by omega), take_full (by rw [marks_length]; exact ho) (by rw [marks_length]; omega) ht, show i = n by omega]
  | succ d ih =>
    intro i o hi ho ht
    refine Ev.step (fun k => ?_) (ih (i + 1) (o.set i (a + i)) (by omega) (by simp [ho]) (set_take o _ _ (by rw [marks_length]; exact ho) (marks_get a n i (by omega)) ht))
    simp only [laws_markIntS.l0]
    rw [if_pos (by omega), if_pos (by omega), wrap_nat (by omega), wrap_id (by omega) (by omega)]
    rw [show a + (i : Int) + 1 = a + ((i + 1 : Nat) : Int) by omega]
    rfl
theorem laws_markIntS.ev (l : List Int) (a : Int) (h0 : 0 ≤ a) (h1 : a + l.length ≤ 4611686018427387904) : Ev (fun k => laws_markIntS.f k l a) (a + l.length, marks a l.length) := by
  have := laws_markIntS.ev_l a l.length h0 h1 l.length 0 l (by omega) rfl (by simp)
  rw [show a + ((0 : Nat) : Int) = a by omega] at this
  exact this

/-! laws_heldIntS -/
theorem laws_heldIntS.ev_l (a : Int) (n : Nat) (h0 : 0 ≤ a) (h1 : a + n ≤ 4611686018427387904) : ∀ (d i : Nat), i + d = n → Ev (fun k => laws_heldIntS.l0 k (marks a n) (a + i) i) (a + n) := by
  intro d
  induction d with
  | zero =>
    intro i hi
    refine Ev.one fun k => ?_
    simp only [laws_heldIntS.l0]
    rw [if_neg (by rw [marks_length]; omega), show i = n by omega]
  | succ d ih =>
    intro i hi
    refine Ev.step (fun k => ?_) (ih (i + 1) (by omega))
    simp only [laws_heldIntS.l0]
    rw [if_pos (by rw [marks_length]; omega), if_pos (by omega), rd_nat, if_pos (marks_getD a n i (by omega)), wrap_nat (by omega), wrap_id (by omega) (by omega)]
    rw [show a + (i : Int) + 1 = a + ((i + 1 : Nat) : Int) by omega]
theorem laws_heldIntS.ev (a : Int) (n : Nat) (h0 : 0 ≤ a) (h1 : a + n ≤ 4611686018427387904) : Ev (fun k => laws_heldIntS.f k (marks a n) a) (a + n) := by
  have := laws_heldIntS.ev_l a n h0 h1 n 0 (by omega)
  rw [show a + ((0 : Nat) : Int) = a by omega] at this
  exact this

/-! @@ FnExactInRound -/
theorem proved : Stated := by
  intro l a ⟨_, _⟩ _
  refine Ev.rounds ?_
  by_cases hb : (l.length : Int) > 1048576
  · exact Ev.all fun k => by unfold laws_FnExactInRound.f; rw [if_pos hb]
  have hl : l.length ≤ 1048576 := by omega
  have hn := inRound_len l a
  have hn2 : (inRound l a).length ≤ 1048576 := by omega
  refine Ev.congr (fun k => by unfold laws_FnExactInRound.f; rw [if_neg hb]) ?_
  refine Ev.bind (laws_toIntS.ev l hl) (Ev.bind (spec_InRound.ev l a hl) (Ev.bind (laws_toIntS.ev l hl) (Ev.bind (impl_InRound.ev l a hl) (Ev.bind (laws_eqIntS.ev _ hn2) ?_))))
  refine Ev.congr (fun k => by rw [if_pos rfl]) ?_
  refine Ev.bind (laws_toIntS.ev l hl) (Ev.bind (laws_eqIntS.ev l hl) ?_)
  refine Ev.congr (fun k => by rw [if_pos rfl]) ?_
  refine Ev.bind (laws_markIntS.ev l 1 (by omega) (by omega)) ?_
  refine Ev.congr (fun k => by rw [if_neg (by omega)]) ?_
  refine Ev.bind (laws_eqIntS.ev _ hn2) ?_
  refine Ev.step (fun k => by simp only [laws_FnExactInRound.j0]; rw [if_neg (by simp)]) ?_
  refine Ev.bind (laws_markIntS.ev _ 1 (by omega) (by omega)) (Ev.bind (laws_heldIntS.ev 1 _ (by omega) (by omega)) ?_)
  refine Ev.congr (fun k => by rw [if_neg (by omega), if_pos rfl]) ?_
  refine Ev.bind (laws_toIntS.ev l hl) (Ev.bind (impl_InRound.ev l a hl) (Ev.bind (laws_eqIntS.ev _ hn2) ?_))
  refine Ev.congr (fun k => by rw [if_pos rfl]) ?_
  refine Ev.bind (laws_heldIntS.ev 1 _ (by omega) (by omega)) ?_
  exact Ev.all fun k => by rw [if_neg (by omega), if_pos rfl]

end Go.Proofs.Ythkhjeklcmmjhaa.PureFnExactInRound
