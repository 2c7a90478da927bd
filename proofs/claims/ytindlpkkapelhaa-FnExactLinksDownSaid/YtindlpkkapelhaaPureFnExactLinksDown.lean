/- FnExactLinksDown, over numbers and lists alone: what the program's function and the reference's answer is one. Conditions: the numbers are of their kinds. -/
import Derived.Test.YtindlpkkapelhaaKindsFnExactLinksDown
import Derived.Test.YtindlpkkapelhaaBase
namespace Go.Proofs.Ytindlpkkapelhaa.PureFnExactLinksDown
open Go.RowKit Go.Proofs.Ytindlpkkapelhaa.PFnExactLinksDown Go.Proofs.YtindlpkkapelhaaW.PrintWords Go.Proofs.YtindlpkkapelhaaW.PrintLast Go.Proofs.YtindlpkkapelhaaW.PrintMore Go.Proofs.Ytindlpkkapelhaa.Base
set_option linter.unusedVariables false
set_option linter.unusedSimpArgs false

/-! laws_szLinkS -/
theorem laws_szLinkS.val (l : List S111) (a : Int) (h0 : 0 ≤ a) (h1 : a ≤ 1048576) (hl : l.length ≤ maxLen) :
    ∃ t, laws_szLinkS.f l a = some t ∧ t ≤ a ∧ (0 ≤ t → t = a - l.length ∧ l.length ≤ 1048576) := by
  unfold maxLen at hl
  unfold laws_szLinkS.f
  rw [wrap_id (by omega) (by omega)]
  by_cases h : a - (l.length : Int) < 0
  · rw [if_pos h]; exact ⟨_, rfl, by omega, by omega⟩
  · rw [if_neg h]; exact ⟨_, rfl, by omega, by omega⟩

/-! d_inRound -/
def inRoundF (k : Int) (l : List Int) (i : Nat) (o : List Int) : List Int := if l.getD i 0 = k then o ++ [((i : Nat) : Int)] else o
def inRound (l : List Int) (k : Int) : List Int := (List.range' 0 l.length).foldl (fun o i => inRoundF k l i o) []
theorem inRoundF_len (k : Int) (l o : List Int) (i : Nat) (h : o.length ≤ i) : (inRoundF k l i o).length ≤ i + 1 := by
  unfold inRoundF
  split
  · rw [List.length_append, List.length_singleton]; omega
  · omega
theorem inRound_len (l : List Int) (k : Int) : (inRound l k).length ≤ l.length := by
  have : ∀ d i (o : List Int), o.length ≤ i → ((List.range' i d).foldl (fun o i => inRoundF k l i o) o).length ≤ i + d := by
    intro d
    induction d with
    | zero => intro i o h; simpa using h
    | succ d ih => intro i o h; rw [List.range'_succ, List.foldl_cons]; have := ih (i + 1) _ (inRoundF_len k l o i h); omega
  have h := this l.length 0 [] (by simp)
  unfold inRound
  omega

/-! spec_InRound -/
theorem spec_InRound.ev (l : List Int) (a : Int) (hl : l.length ≤ 1048576) : Ev (fun k => spec_InRound.f k l a) (inRound l a) :=
  fold_index (g := fun k s i => spec_InRound.l0 k l a s i) (f := inRoundF a l) (fin := fun s => s) (fun i s => s.length ≤ i) l.length [] (by simp)
    (fun s _ => Ev.one fun k => by simp only [spec_InRound.l0]; rw [if_neg (by omega)])
    (fun i s hi hI => ⟨inRoundF_len a l s i hI, fun k => by
      simp only [spec_InRound.l0]
      rw [if_pos (by omega), if_pos (by omega), wrap_nat (by omega), rd_nat, if_pos (show s.length < 17592186044416 by omega)]
      unfold inRoundF
      split <;> rfl⟩)

/-! spec_l15Has -/
theorem spec_l15Has.ev (l : List Int) (a : Int) (hl : l.length ≤ 1048576) : Ev (fun k => spec_l15Has.f k l a) (hasB l a) := by
  have h := find_list (g := fun k i => spec_l15Has.l0 k l a i) (q := fun x => x == a) (r := true) (e := false) l 0
    (Ev.one fun k => by simp only [spec_l15Has.l0]; rw [if_neg (by omega)])
    (fun i k hi => by
      simp only [spec_l15Has.l0]
      rw [if_pos (by omega), if_pos (by omega), wrap_nat (by omega), rd_nat]
      by_cases h : l.getD i 0 = a
      · rw [if_pos h, if_pos (by simpa using h)]
      · rw [if_neg h, if_neg (by simpa using h)])
  rw [ite_bool] at h
  exact h

/-! d_linksDown -/
def downL (o : List Int) (x : S109) : Bool := hasB o x.f0 || hasB o x.f1
def linksDown (l : List S109) (o : List Int) : Int := countP (fun i => downL o (l.getD i z109)) l.length

/-! spec_LinksDown -/
theorem spec_LinksDown.ev (l : List S109) (r : List Int) (a : Int) (hl : l.length ≤ 1048576) (hr : r.length ≤ 1048576) : Ev (fun k => spec_LinksDown.f k l r a) (linksDown l (inRound r a)) := by
  have ho := inRound_len r a
  refine Ev.bind (spec_InRound.ev r a hr) ?_
  generalize inRound r a = o at ho ⊢
  have h := foldE_index (g := fun k s i => spec_LinksDown.l0 k l s o i) (f := fun i s => if downL o (l.getD i z109) = true then wrap64 (s + 1) else s) (fin := fun s => s) (fun _ _ => True) l.length 0 trivial
    (fun s _ => Ev.one fun k => by simp only [spec_LinksDown.l0]; rw [if_neg (by omega)])
    (fun i s hi _ => ⟨trivial, fun x hx => by
      refine Ev.step (f := fun k => (spec_l15Has.f k o (l.getD i z109).f0).bind fun t113 => (if t113 = true then (spec_LinksDown.l0 k l (wrap64 (s + 1)) o ((i + 1 : Nat) : Int)) else ((spec_l15Has.f k o (l.getD i z109).f1).bind fun t115 => (if t115 = true then (spec_LinksDown.l0 k l (wrap64 (s + 1)) o ((i + 1 : Nat) : Int)) else (spec_LinksDown.l0 k l s o ((i + 1 : Nat) : Int)))))) (fun k => by
        simp only [spec_LinksDown.l0]
        rw [if_pos (by omega), if_pos (by omega), wrap_nat (by omega)]
        rfl) ?_
      refine Ev.bind (spec_l15Has.ev o _ (by omega)) ?_
      unfold downL at hx
      by_cases h1 : hasB o (l.getD i z109).f0 = true
      · rw [h1, Bool.true_or, if_pos rfl] at hx
        exact Ev.congr (fun k => by rw [if_pos h1]) hx
      · have h1' : hasB o (l.getD i z109).f0 = false := by simpa using h1
        refine Ev.congr (fun k => by rw [if_neg h1]) ?_
        refine Ev.bind (spec_l15Has.ev o _ (by omega)) ?_
        rw [h1', Bool.false_or] at hx
        by_cases h2 : hasB o (l.getD i z109).f1 = true
        · rw [if_pos h2] at hx
          exact Ev.congr (fun k => by rw [if_pos h2]) hx
        · rw [if_neg h2] at hx
          exact Ev.congr (fun k => by rw [if_neg h2]) hx⟩)
  rw [count_countP _ _ (by omega)] at h
  exact h

/-! laws_toLinkS -/
def cLink (x : S111) : S109 := ⟨x.f0, x.f1⟩
theorem laws_toLinkS.ev_l (l : List S111) (hl : l.length ≤ 1048576) : ∀ (d i : Nat) (o : List S109), i + d = l.length → o.length = l.length → o.take i = (l.map cLink).take i → Ev (fun k => laws_toLinkS.l0 k l o i) (l.map cLink) := by
  intro d
  induction d with
  | zero =>
    intro i o hi ho ht
    refine Ev.one fun k => ?_
    simp only [laws_toLinkS.l0]
    rw [if_neg (by omega), take_full (by simpa using ho) (by simp; omega) ht]
  | succ d ih =>
    intro i o hi ho ht
    refine Ev.step (fun k => ?_) (ih (i + 1) (o.set i (cLink (l.getD i z111))) (by omega) (by simp [ho]) (set_take o _ _ (by simpa using ho) (get_map cLink l z111 (by omega)) ht))
    simp only [laws_toLinkS.l0, laws_toLink.f, Option.bind_some]
    rw [if_pos (by omega), if_pos (by omega), if_pos (by omega), wrap_nat (by omega)]
    rfl
theorem laws_toLinkS.ev (l : List S111) (hl : l.length ≤ 1048576) : Ev (fun k => laws_toLinkS.f k l) (l.map cLink) :=
  Ev.congr (fun k => by unfold laws_toLinkS.f; rw [if_pos (by omega), if_pos (by omega)] <;> rfl) (laws_toLinkS.ev_l l hl l.length 0 _ (by omega) (by simp) (by simp))

/-! laws_toIntS -/
theorem laws_toIntS.ev_l (l : List Int) (hl : l.length ≤ 1048576) : ∀ (d i : Nat) (o : List Int), i + d = l.length → o.length = l.length → o.take i = l.take i → Ev (fun k => laws_toIntS.l0 k l o i) l := by
  intro d
  induction d with
  | zero =>
    intro i o hi ho ht
    refine Ev.one fun k => ?_
    simp only [laws_toIntS.l0]
    rw [if_neg (by omega), take_full ho (by omega) ht]
  | succ d ih =>
    intro i o hi ho ht
    refine Ev.step (fun k => ?_) (ih (i + 1) (o.set i (l.getD i 0)) (by omega) (by simp [ho]) (set_take o l _ ho (get_of l 0 (by omega)) ht))
    simp only [laws_toIntS.l0]
    rw [if_pos (by omega), if_pos (by omega), if_pos (by omega), wrap_nat (by omega)]
    rfl
theorem laws_toIntS.ev (l : List Int) (hl : l.length ≤ 1048576) : Ev (fun k => laws_toIntS.f k l) l :=
  Ev.congr (fun k => by unfold laws_toIntS.f; rw [if_pos (by omega), if_pos (by omega)] <;> rfl) (laws_toIntS.ev_l l hl l.length 0 _ (by omega) (by simp) (by simp))

/-! impl_InRound -/
theorem impl_InRound.ev (l : List Int) (a : Int) (hl : l.length ≤ 1048576) : Ev (fun k => impl_InRound.f k l a) (inRound l a) :=
  fold_index (g := fun k s i => impl_InRound.l0 k a s l l.length i) (f := inRoundF a l) (fin := fun s => s) (fun i s => s.length ≤ i) l.length [] (by simp)
    (fun s _ => Ev.one fun k => by simp only [impl_InRound.l0]; rw [if_neg (by omega)])
    (fun i s hi hI => ⟨inRoundF_len a l s i hI, fun k => by
      simp only [impl_InRound.l0]
      rw [if_pos (by omega), if_pos (by omega), if_pos (by omega), wrap_nat (by omega), rd_nat, if_pos (show s.length < 17592186044416 by omega)]
      unfold inRoundF
      split <;> rfl⟩)

/-! slices_Index_int_int -/
theorem slices_Index_int_int.ev_l (l : List Int) (a : Int) (hl : l.length ≤ 1048576) : ∀ (d i : Nat), i + d = l.length → ∃ r, Ev (fun k => slices_Index_int_int.l0 k l a l.length i) r ∧ decide (r ≥ 0) = (l.drop i).any (fun x => x == a) := by
  intro d
  induction d with
  | zero =>
    intro i hi
    exact ⟨-1, Ev.one fun k => by simp only [slices_Index_int_int.l0]; rw [if_neg (by omega)], by rw [List.drop_eq_nil_of_le (by omega)]; rfl⟩
  | succ d ih =>
    intro i hi
    rw [drop_cons l 0 (show i < l.length by omega), List.any_cons]
    by_cases h : a = l.getD i 0
    · refine ⟨(i : Int), Ev.one fun k => ?_, ?_⟩
      · simp only [slices_Index_int_int.l0]
        rw [if_pos (by omega), if_pos (by omega), if_pos (by omega), rd_nat, if_pos h]
      · rw [← h]; simp
    · obtain ⟨r, hr, hd⟩ := ih (i + 1) (by omega)
      refine ⟨r, Ev.step (fun k => ?_) hr, ?_⟩
      · simp only [slices_Index_int_int.l0]
        rw [if_pos (by omega), if_pos (by omega), if_pos (by omega), rd_nat, if_neg h, wrap_nat (by omega)]
      · have : (l.getD i 0 == a) = false := by rw [beq_eq_false_iff_ne]; exact fun e => h e.symm
        rw [this, Bool.false_or, hd]
theorem slices_Index_int_int.ev (l : List Int) (a : Int) (hl : l.length ≤ 1048576) : ∃ r, Ev (fun k => slices_Index_int_int.f k l a) r ∧ decide (r ≥ 0) = hasB l a := by
  have := slices_Index_int_int.ev_l l a hl l.length 0 (by omega)
  rw [List.drop_zero] at this
  exact this

/-! slices_Contains_int_int -/
theorem slices_Contains_int_int.ev (l : List Int) (a : Int) (hl : l.length ≤ 1048576) : Ev (fun k => slices_Contains_int_int.f k l a) (hasB l a) := by
  obtain ⟨r, hr, e⟩ := slices_Index_int_int.ev l a hl
  rw [← e]
  exact Ev.bind hr (Ev.now _)

/-! impl_LinksDown -/
theorem impl_LinksDown.ev (l : List S109) (r : List Int) (a : Int) (hl : l.length ≤ 1048576) (hr : r.length ≤ 1048576) : Ev (fun k => impl_LinksDown.f k l r a) (linksDown l (inRound r a)) := by
  have ho := inRound_len r a
  refine Ev.bind (impl_InRound.ev r a hr) ?_
  generalize inRound r a = o at ho ⊢
  have h := foldE_index (g := fun k s i => impl_LinksDown.l0 k s o l l.length i) (f := fun i s => if downL o (l.getD i z109) = true then wrap64 (s + 1) else s) (fin := fun s => s) (fun _ _ => True) l.length 0 trivial
    (fun s _ => Ev.one fun k => by simp only [impl_LinksDown.l0]; rw [if_neg (by omega)])
    (fun i s hi _ => ⟨trivial, fun x hx => by
      refine Ev.step (f := fun k => (slices_Contains_int_int.f k o (l.getD i z109).f0).bind fun t113 => (if t113 = true then (impl_LinksDown.l0 k (wrap64 (s + 1)) o l l.length ((i + 1 : Nat) : Int)) else ((slices_Contains_int_int.f k o (l.getD i z109).f1).bind fun t115 => (if t115 = true then (impl_LinksDown.l0 k (wrap64 (s + 1)) o l l.length ((i + 1 : Nat) : Int)) else (impl_LinksDown.l0 k s o l l.length ((i + 1 : Nat) : Int)))))) (fun k => by
        simp only [impl_LinksDown.l0]
        rw [if_pos (by omega), if_pos (by omega), if_pos (by omega), wrap_nat (by omega)]
        rfl) ?_
      refine Ev.bind (slices_Contains_int_int.ev o _ (by omega)) ?_
      unfold downL at hx
      by_cases h1 : hasB o (l.getD i z109).f0 = true
      · rw [h1, Bool.true_or, if_pos rfl] at hx
        exact Ev.congr (fun k => by rw [if_pos h1]) hx
      · have h1' : hasB o (l.getD i z109).f0 = false := by simpa using h1
        refine Ev.congr (fun k => by rw [if_neg h1]) ?_
        refine Ev.bind (slices_Contains_int_int.ev o _ (by omega)) ?_
        rw [h1', Bool.false_or] at hx
        by_cases h2 : hasB o (l.getD i z109).f1 = true
        · rw [if_pos h2] at hx
          exact Ev.congr (fun k => by rw [if_pos h2]) hx
        · rw [if_neg h2] at hx
          exact Ev.congr (fun k => by rw [if_neg h2]) hx⟩)
  rw [count_countP _ _ (by omega)] at h
  exact h

/-! laws_eqLink -/
theorem laws_eqLink.val (x : S109) : laws_eqLink.f x.f0 x.f1 x.f0 x.f1 = some true := by
  unfold laws_eqLink.f
  simp

/-! laws_eqLinkS -/
theorem laws_eqLinkS.ev_l (l : List S109) (hl : l.length ≤ 1048576) : ∀ (d i : Nat), i + d = l.length → Ev (fun k => laws_eqLinkS.l0 k l l i) true := by
  intro d
  induction d with
  | zero => intro i hi; refine Ev.one fun k => ?_; simp only [laws_eqLinkS.l0]; rw [if_neg (by omega)]
  | succ d ih =>
    intro i hi
    refine Ev.step (fun k => ?_) (ih (i + 1) (by omega))
    simp only [laws_eqLinkS.l0, laws_eqLink.val, Option.bind_some]
    rw [if_pos (by omega), if_pos (by omega), if_pos (by omega), if_pos trivial, wrap_nat (by omega)]
theorem laws_eqLinkS.ev (l : List S109) (hl : l.length ≤ 1048576) : Ev (fun k => laws_eqLinkS.f k l l) true :=
  Ev.congr (fun k => by unfold laws_eqLinkS.f; rw [if_pos rfl] <;> rfl) (laws_eqLinkS.ev_l l hl l.length 0 (by omega))

/-! laws_eqIntS -/
theorem laws_eqIntS.ev_l (l : List Int) (hl : l.length ≤ 1048576) : ∀ (d i : Nat), i + d = l.length → Ev (fun k => laws_eqIntS.l0 k l l i) true := by
  intro d
  induction d with
  | zero => intro i hi; refine Ev.one fun k => ?_; simp only [laws_eqIntS.l0]; rw [if_neg (by omega)]
  | succ d ih =>
    intro i hi
    refine Ev.step (fun k => ?_) (ih (i + 1) (by omega))
    simp only [laws_eqIntS.l0]
    rw [if_pos (by omega), if_pos (by omega), if_pos (by omega), if_pos trivial, wrap_nat (by omega)]
theorem laws_eqIntS.ev (l : List Int) (hl : l.length ≤ 1048576) : Ev (fun k => laws_eqIntS.f k l l) true :=
  Ev.congr (fun k => by unfold laws_eqIntS.f; rw [if_pos rfl] <;> rfl) (laws_eqIntS.ev_l l hl l.length 0 (by omega))

/-! @@ FnExactLinksDown -/
theorem proved : Stated := by
  intro l r a ⟨hl, hw⟩ ⟨hr, _⟩ _
  refine Ev.rounds ?_
  by_cases hb : (r.length : Int) > 1048576
  · exact Ev.all fun k => by unfold laws_FnExactLinksDown.f; rw [if_pos hb]
  have hr2 : r.length ≤ 1048576 := by omega
  obtain ⟨t, ht, hle, hp⟩ := laws_szLinkS.val l 1048576 (by omega) (by omega) hl
  refine Ev.congr (fun k => by unfold laws_FnExactLinksDown.f; rw [if_neg hb, ht, Option.bind_some]) ?_
  by_cases h : t < 0
  · exact Ev.all fun k => by rw [if_pos h]
  · obtain ⟨_, hl2⟩ := hp (by omega)
    have hl3 : (l.map cLink).length ≤ 1048576 := by simpa using hl2
    refine Ev.congr (fun k => by rw [if_neg h]) ?_
    refine Ev.bind (laws_toLinkS.ev l hl2) (Ev.bind (laws_toIntS.ev r hr2) (Ev.bind (spec_LinksDown.ev _ r a hl3 hr2) (Ev.bind (laws_toLinkS.ev l hl2) (Ev.bind (laws_toIntS.ev r hr2) (Ev.bind (impl_LinksDown.ev _ r a hl3 hr2) ?_)))))
    refine Ev.congr (fun k => by rw [if_pos rfl]) ?_
    refine Ev.bind (laws_toLinkS.ev l hl2) (Ev.bind (laws_eqLinkS.ev _ hl3) ?_)
    refine Ev.congr (fun k => by rw [if_pos rfl]) ?_
    refine Ev.bind (laws_toIntS.ev r hr2) (Ev.bind (laws_eqIntS.ev r hr2) ?_)
    exact Ev.all fun k => by simp

end Go.Proofs.Ytindlpkkapelhaa.PureFnExactLinksDown
