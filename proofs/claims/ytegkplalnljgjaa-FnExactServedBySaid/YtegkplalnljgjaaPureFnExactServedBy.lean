/- FnExactServedBy, over numbers and lists alone: what the program's function and the reference's answer is one. Conditions: the numbers are of their kinds. -/
import Derived.Test.YtegkplalnljgjaaKindsFnExactServedBy
import Derived.Test.YtegkplalnljgjaaVFnExactServedByBase
namespace Go.Proofs.Ytegkplalnljgjaa.PureFnExactServedBy
open Go.RowKit Go.Proofs.Ytegkplalnljgjaa.PFnExactServedBy Go.Proofs.YtegkplalnljgjaaW.PrintWords Go.Proofs.YtegkplalnljgjaaW.PrintLast Go.Proofs.YtegkplalnljgjaaW.PrintMore Go.Proofs.Ytegkplalnljgjaa.Base
set_option linter.unusedVariables false
set_option linter.unusedSimpArgs false

/-! laws_szIntS -/
theorem laws_szIntS.val (l : List Int) (a : Int) (h0 : 0 ≤ a) (h1 : a ≤ 1048576) (hl : l.length ≤ maxLen) :
    ∃ t, laws_szIntS.f l a = some t ∧ t ≤ a ∧ (0 ≤ t → t = a - l.length ∧ l.length ≤ 1048576) := by
  unfold maxLen at hl
  unfold laws_szIntS.f
  rw [wrap_id (by omega) (by omega)]
  by_cases h : a - (l.length : Int) < 0
  · rw [if_pos h]; exact ⟨_, rfl, by omega, by omega⟩
  · rw [if_neg h]; exact ⟨_, rfl, by omega, by omega⟩

/-! laws_szLaw -/
theorem laws_szLaw.val (l : List Int) (a : Int) (h0 : 0 ≤ a) (h1 : a ≤ 1048576) (hl : l.length ≤ maxLen) :
    ∃ t, laws_szLaw.f l a = some t ∧ t ≤ a ∧ (0 ≤ t → t = a - l.length ∧ l.length ≤ 1048576) := by
  obtain ⟨t, h, h2, h3⟩ := laws_szIntS.val l a h0 h1 hl
  unfold laws_szLaw.f
  rw [h, Option.bind_some]
  by_cases ht : t < 0
  · rw [if_pos ht]; exact ⟨_, rfl, by omega, by omega⟩
  · rw [if_neg ht]; exact ⟨_, rfl, h2, h3⟩

/-! laws_szLinkS -/
theorem laws_szLinkS.val (l : List S169) (a : Int) (h0 : 0 ≤ a) (h1 : a ≤ 1048576) (hl : l.length ≤ maxLen) :
    ∃ t, laws_szLinkS.f l a = some t ∧ t ≤ a ∧ (0 ≤ t → t = a - l.length ∧ l.length ≤ 1048576) := by
  unfold maxLen at hl
  unfold laws_szLinkS.f
  rw [wrap_id (by omega) (by omega)]
  by_cases h : a - (l.length : Int) < 0
  · rw [if_pos h]; exact ⟨_, rfl, by omega, by omega⟩
  · rw [if_neg h]; exact ⟨_, rfl, by omega, by omega⟩

/-! laws_szTable -/
theorem laws_szTable.val (x : Int) (l m : List Int) (a : Int) (h0 : 0 ≤ a) (h1 : a ≤ 1048576) (hl : l.length ≤ maxLen) (hm : m.length ≤ maxLen) :
    ∃ t, laws_szTable.f x l m a = some t ∧ t ≤ a ∧ (0 ≤ t → l.length ≤ 1048576 ∧ m.length ≤ 1048576) := by
  obtain ⟨t, h, h2, h3⟩ := laws_szIntS.val l a h0 h1 hl
  unfold laws_szTable.f
  rw [h, Option.bind_some]
  by_cases ht : t < 0
  · rw [if_pos ht]; exact ⟨_, rfl, by omega, by omega⟩
  · obtain ⟨u, h4, h5, h6⟩ := laws_szIntS.val m t (by omega) (by omega) hm
    rw [if_neg ht, h4, Option.bind_some]
    by_cases hu : u < 0
    · rw [if_pos hu]; exact ⟨_, rfl, by omega, by omega⟩
    · rw [if_neg hu]; exact ⟨_, rfl, by omega, fun _ => ⟨(h3 (by omega)).2, (h6 (by omega)).2⟩⟩
theorem laws_szTable.sum (x : Int) (l m : List Int) (a : Int) (h0 : 0 ≤ a) (h1 : a ≤ 1048576) (hl : l.length ≤ maxLen) (hm : m.length ≤ maxLen) :
    ∃ t, laws_szTable.f x l m a = some t ∧ t ≤ a ∧ (0 ≤ t → t + ((l.length + m.length : Nat) : Int) ≤ a) := by
  obtain ⟨t, h, h2, h3⟩ := laws_szIntS.val l a h0 h1 hl
  unfold laws_szTable.f
  rw [h, Option.bind_some]
  by_cases ht : t < 0
  · rw [if_pos ht]; exact ⟨_, rfl, by omega, by omega⟩
  · obtain ⟨u, h4, h5, h6⟩ := laws_szIntS.val m t (by omega) (by omega) hm
    rw [if_neg ht, h4, Option.bind_some]
    by_cases hu : u < 0
    · rw [if_pos hu]; exact ⟨_, rfl, by omega, by omega⟩
    · rw [if_neg hu]; exact ⟨_, rfl, by omega, fun _ => by have := (h3 (by omega)).1; have := (h6 (by omega)).1; omega⟩

/-! d_fitT -/
def fitT (n : Nat) (x : S167) : Prop := x.f1.length ≤ n ∧ x.f2.length ≤ n
def fitTi (n : Nat) (x : S80) : Prop := x.f1.length ≤ n ∧ x.f2.length ≤ n

/-! d_cost -/
def tabsCost (l : List S167) : Nat := l.length + (l.map fun x => x.f1.length + x.f2.length).sum
def pieCost (x : S133) : Nat := x.f1.length + tabsCost x.f2
def progCost (l : List S133) : Nat := l.length + (l.map pieCost).sum

/-! laws_szTableS -/
theorem laws_szTableS.ev (l : List S167) (a : Int) (h0 : 0 ≤ a) (h1 : a ≤ 1048576) (hl : l.length ≤ maxLen) (hx : ∀ x ∈ l, fitT maxLen x) :
    ∃ t, Ev (fun k => laws_szTableS.f k l a) t ∧ t ≤ a ∧ (0 ≤ t → l.length ≤ 1048576 ∧ ∀ x ∈ l, fitT 1048576 x) := by
  have hl' := hl
  unfold maxLen at hl'
  by_cases h : a - (l.length : Int) < 0
  · exact ⟨-1, Ev.all fun k => by unfold laws_szTableS.f; rw [wrap_id (by omega) (by omega), if_pos h], by omega, by omega⟩
  · obtain ⟨t, ht, hle, hok⟩ := sz_loop (g := fun k a i => laws_szTableS.l0 k l a i) l z167 (fitT 1048576) (fun a => Ev.one fun k => by simp only [laws_szTableS.l0]; rw [if_neg (by omega)])
      (fun i a hi h0 h1 => by
        have hf := hx _ (getD_mem l z167 hi)
        obtain ⟨t, e, hle, hok⟩ := laws_szTable.val (l.getD i z167).f0 (l.getD i z167).f1 (l.getD i z167).f2 a h0 h1 hf.1 hf.2
        have hk : ∀ k, laws_szTableS.l0 (k + 1) l a i = if t < 0 then some (-1) else laws_szTableS.l0 k l t ((i + 1 : Nat) : Int) := fun k => by
          simp only [laws_szTableS.l0]
          rw [if_pos (by omega), if_pos (by omega), wrap_nat (by omega)]
          show (laws_szTable.f (l.getD i z167).f0 (l.getD i z167).f1 (l.getD i z167).f2 a).bind _ = _
          rw [e]; rfl
        exact ⟨t, hle, fun h => Ev.one fun k => by rw [hk, if_pos h], fun h => ⟨hok h, fun r hr => Ev.step (fun k => by rw [hk, if_neg (by omega)]) hr⟩⟩)
      (a - l.length) (by omega) (by omega)
    exact ⟨t, Ev.congr (fun k => by unfold laws_szTableS.f; rw [wrap_id (by omega) (by omega), if_neg h]) ht, by omega, fun h => ⟨by omega, hok h⟩⟩
theorem laws_szTableS.sum (l : List S167) (a : Int) (h0 : 0 ≤ a) (h1 : a ≤ 1048576) (hl : l.length ≤ maxLen) (hx : ∀ x ∈ l, fitT maxLen x) :
    ∃ t, Ev (fun k => laws_szTableS.f k l a) t ∧ t ≤ a ∧ (0 ≤ t → t + (tabsCost l : Int) ≤ a) := by
  have hl' := hl
  unfold maxLen at hl'
  by_cases h : a - (l.length : Int) < 0
  · exact ⟨-1, Ev.all fun k => by unfold laws_szTableS.f; rw [wrap_id (by omega) (by omega), if_pos h], by omega, by omega⟩
  · obtain ⟨t, ht, hle, hok⟩ := sz_sum (g := fun k a i => laws_szTableS.l0 k l a i) l z167 (fun x => x.f1.length + x.f2.length) (fun a => Ev.one fun k => by simp only [laws_szTableS.l0]; rw [if_neg (by omega)])
      (fun i a hi h0 h1 => by
        have hf := hx _ (getD_mem l z167 hi)
        obtain ⟨t, e, hle, hok⟩ := laws_szTable.sum (l.getD i z167).f0 (l.getD i z167).f1 (l.getD i z167).f2 a h0 h1 hf.1 hf.2
        have hk : ∀ k, laws_szTableS.l0 (k + 1) l a i = if t < 0 then some (-1) else laws_szTableS.l0 k l t ((i + 1 : Nat) : Int) := fun k => by
          simp only [laws_szTableS.l0]
          rw [if_pos (by omega), if_pos (by omega), wrap_nat (by omega)]
          show (laws_szTable.f (l.getD i z167).f0 (l.getD i z167).f1 (l.getD i z167).f2 a).bind _ = _
          rw [e]; rfl
        exact ⟨t, hle, fun h => Ev.one fun k => by rw [hk, if_pos h], fun h => ⟨hok h, fun r hr => Ev.step (fun k => by rw [hk, if_neg (by omega)]) hr⟩⟩)
      (a - l.length) (by omega) (by omega)
    exact ⟨t, Ev.congr (fun k => by unfold laws_szTableS.f; rw [wrap_id (by omega) (by omega), if_neg h]) ht, by omega, fun h => by have := hok h; unfold tabsCost; omega⟩

/-! d_fitP -/
def fitP (n : Nat) (x : S133) : Prop := x.f1.length ≤ n ∧ x.f2.length ≤ n ∧ ∀ t ∈ x.f2, fitT n t
def fitPi (n : Nat) (x : S119) : Prop := x.f1.length ≤ n ∧ x.f2.length ≤ n ∧ ∀ t ∈ x.f2, fitTi n t
def fitQ (n : Nat) (l : List S133) : Prop := l.length ≤ n ∧ ∀ x ∈ l, fitP n x
def fitQi (n : Nat) (l : List S119) : Prop := l.length ≤ n ∧ ∀ x ∈ l, fitPi n x

/-! laws_szPiece -/
theorem laws_szPiece.ev (x : S133) (a : Int) (h0 : 0 ≤ a) (h1 : a ≤ 1048576) (hx : fitP maxLen x) :
    ∃ t, Ev (fun k => laws_szPiece.f k x.f0.f0 x.f0.f1 x.f1 x.f2 a) t ∧ t ≤ a ∧ (0 ≤ t → fitP 1048576 x) := by
  obtain ⟨t, h, h2, h3⟩ := laws_szLinkS.val x.f1 a h0 h1 hx.1
  by_cases ht : t < 0
  · exact ⟨-1, Ev.all fun k => by unfold laws_szPiece.f; rw [h, Option.bind_some, if_pos ht], by omega, by omega⟩
  · obtain ⟨u, h4, h5, h6⟩ := laws_szTableS.ev x.f2 t (by omega) (by omega) hx.2.1 hx.2.2
    have hc : ∀ k, laws_szPiece.f k x.f0.f0 x.f0.f1 x.f1 x.f2 a = (laws_szTableS.f k x.f2 t).bind fun u => if u < 0 then some (-1) else some u := fun k => by
      unfold laws_szPiece.f
      rw [h, Option.bind_some, if_neg ht]
    by_cases hu : u < 0
    · exact ⟨-1, Ev.congr hc (Ev.bind h4 (Ev.all fun k => by rw [if_pos hu])), by omega, by omega⟩
    · exact ⟨u, Ev.congr hc (Ev.bind h4 (Ev.all fun k => by rw [if_neg hu])), by omega, fun _ => ⟨(h3 (by omega)).2, h6 (by omega)⟩⟩
theorem laws_szPiece.sum (x : S133) (a : Int) (h0 : 0 ≤ a) (h1 : a ≤ 1048576) (hx : fitP maxLen x) :
    ∃ t, Ev (fun k => laws_szPiece.f k x.f0.f0 x.f0.f1 x.f1 x.f2 a) t ∧ t ≤ a ∧ (0 ≤ t → t + (pieCost x : Int) ≤ a) := by
  obtain ⟨t, h, h2, h3⟩ := laws_szLinkS.val x.f1 a h0 h1 hx.1
  by_cases ht : t < 0
  · exact ⟨-1, Ev.all fun k => by unfold laws_szPiece.f; rw [h, Option.bind_some, if_pos ht], by omega, by omega⟩
  · obtain ⟨u, h4, h5, h6⟩ := laws_szTableS.sum x.f2 t (by omega) (by omega) hx.2.1 hx.2.2
    have hc : ∀ k, laws_szPiece.f k x.f0.f0 x.f0.f1 x.f1 x.f2 a = (laws_szTableS.f k x.f2 t).bind fun u => if u < 0 then some (-1) else some u := fun k => by
      unfold laws_szPiece.f
      rw [h, Option.bind_some, if_neg ht]
    by_cases hu : u < 0
    · exact ⟨-1, Ev.congr hc (Ev.bind h4 (Ev.all fun k => by rw [if_pos hu])), by omega, by omega⟩
    · exact ⟨u, Ev.congr hc (Ev.bind h4 (Ev.all fun k => by rw [if_neg hu])), by omega, fun _ => by have := (h3 (by omega)).1; have := h6 (by omega); unfold pieCost; omega⟩

/-! laws_szPieceS -/
theorem laws_szPieceS.ev (l : List S133) (a : Int) (h0 : 0 ≤ a) (h1 : a ≤ 1048576) (hx : fitQ maxLen l) :
    ∃ t, Ev (fun k => laws_szPieceS.f k l a) t ∧ t ≤ a ∧ (0 ≤ t → fitQ 1048576 l) := by
  obtain ⟨hl, hx⟩ := hx
  have hl' := hl
  unfold maxLen at hl'
  by_cases h : a - (l.length : Int) < 0
  · exact ⟨-1, Ev.all fun k => by unfold laws_szPieceS.f; rw [wrap_id (by omega) (by omega), if_pos h], by omega, by omega⟩
  · obtain ⟨t, ht, hle, hok⟩ := sz_loop (g := fun k a i => laws_szPieceS.l0 k l a i) l z133 (fitP 1048576) (fun a => Ev.one fun k => by simp only [laws_szPieceS.l0]; rw [if_neg (by omega)])
      (fun i a hi h0 h1 => by
        have hf := hx _ (getD_mem l z133 hi)
        obtain ⟨t, e, hle, hok⟩ := laws_szPiece.ev (l.getD i z133) a h0 h1 hf
        have hk : ∀ k, laws_szPieceS.l0 (k + 1) l a i = (laws_szPiece.f k (l.getD i z133).f0.f0 (l.getD i z133).f0.f1 (l.getD i z133).f1 (l.getD i z133).f2 a).bind fun t => if t < 0 then some (-1) else laws_szPieceS.l0 k l t ((i + 1 : Nat) : Int) := fun k => by
          simp only [laws_szPieceS.l0]
          rw [if_pos (by omega), if_pos (by omega), wrap_nat (by omega)]
          rfl
        exact ⟨t, hle, fun h => Ev.step hk (Ev.bind e (Ev.all fun k => by rw [if_pos h])), fun h => ⟨hok h, fun r hr => Ev.step hk (Ev.bind e (Ev.congr (fun k => by rw [if_neg (by omega)]) hr))⟩⟩)
      (a - l.length) (by omega) (by omega)
    exact ⟨t, Ev.congr (fun k => by unfold laws_szPieceS.f; rw [wrap_id (by omega) (by omega), if_neg h]) ht, by omega, fun h => ⟨by omega, hok h⟩⟩
theorem laws_szPieceS.sum (l : List S133) (a : Int) (h0 : 0 ≤ a) (h1 : a ≤ 1048576) (hx : fitQ maxLen l) :
    ∃ t, Ev (fun k => laws_szPieceS.f k l a) t ∧ t ≤ a ∧ (0 ≤ t → t + (progCost l : Int) ≤ a) := by
  obtain ⟨hl, hx⟩ := hx
  have hl' := hl
  unfold maxLen at hl'
  by_cases h : a - (l.length : Int) < 0
  · exact ⟨-1, Ev.all fun k => by unfold laws_szPieceS.f; rw [wrap_id (by omega) (by omega), if_pos h], by omega, by omega⟩
  · obtain ⟨t, ht, hle, hok⟩ := sz_sum (g := fun k a i => laws_szPieceS.l0 k l a i) l z133 pieCost (fun a => Ev.one fun k => by simp only [laws_szPieceS.l0]; rw [if_neg (by omega)])
      (fun i a hi h0 h1 => by
        have hf := hx _ (getD_mem l z133 hi)
        obtain ⟨t, e, hle, hok⟩ := laws_szPiece.sum (l.getD i z133) a h0 h1 hf
        have hk : ∀ k, laws_szPieceS.l0 (k + 1) l a i = (laws_szPiece.f k (l.getD i z133).f0.f0 (l.getD i z133).f0.f1 (l.getD i z133).f1 (l.getD i z133).f2 a).bind fun t => if t < 0 then some (-1) else laws_szPieceS.l0 k l t ((i + 1 : Nat) : Int) := fun k => by
          simp only [laws_szPieceS.l0]
          rw [if_pos (by omega), if_pos (by omega), wrap_nat (by omega)]
          rfl
        exact ⟨t, hle, fun h => Ev.step hk (Ev.bind e (Ev.all fun k => by rw [if_pos h])), fun h => ⟨hok h, fun r hr => Ev.step hk (Ev.bind e (Ev.congr (fun k => by rw [if_neg (by omega)]) hr))⟩⟩)
      (a - l.length) (by omega) (by omega)
    exact ⟨t, Ev.congr (fun k => by unfold laws_szPieceS.f; rw [wrap_id (by omega) (by omega), if_neg h]) ht, by omega, fun h => by have := hok h; unfold progCost; omega⟩

/-! laws_szProgram -/
theorem laws_szProgram.ev (x y z : Int) (l : List S133) (a : Int) (h0 : 0 ≤ a) (h1 : a ≤ 1048576) (hx : fitQ maxLen l) :
    ∃ t, Ev (fun k => laws_szProgram.f k x y z l a) t ∧ t ≤ a ∧ (0 ≤ t → fitQ 1048576 l) := by
  obtain ⟨t, h, h2, h3⟩ := laws_szPieceS.ev l a h0 h1 hx
  by_cases ht : t < 0
  · exact ⟨-1, Ev.bind h (Ev.all fun k => by rw [if_pos ht]), by omega, by omega⟩
  · exact ⟨t, Ev.bind h (Ev.all fun k => by rw [if_neg ht]), h2, h3⟩
theorem laws_szProgram.sum (x y z : Int) (l : List S133) (a : Int) (h0 : 0 ≤ a) (h1 : a ≤ 1048576) (hx : fitQ maxLen l) :
    ∃ t, Ev (fun k => laws_szProgram.f k x y z l a) t ∧ t ≤ a ∧ (0 ≤ t → t + (progCost l : Int) ≤ a ∧ fitQ 1048576 l) := by
  obtain ⟨t, h, h2, h3⟩ := laws_szPieceS.sum l a h0 h1 hx
  obtain ⟨t', h', _, h3'⟩ := laws_szPieceS.ev l a h0 h1 hx
  have := Ev.uniq h h'
  subst this
  by_cases ht : t < 0
  · exact ⟨-1, Ev.bind h (Ev.all fun k => by rw [if_pos ht]), by omega, by omega⟩
  · exact ⟨t, Ev.bind h (Ev.all fun k => by rw [if_neg ht]), h2, fun h => ⟨h3 h, h3' h⟩⟩

/-! laws_toIntS -/
theorem laws_toIntS.ev_l (l : List Int) (hl : l.length ≤ 1048576) : ∀ (d i : Nat) (o : List Int), i + d = l.length → o.length = l.length → o.take i = l.take i → Ev (fun k => laws_toIntS.l0 k l o i) l := by
  intro d
  induction d with
  | zero =>
    intro i o hi ho ht
    refine Ev.one fun k => ?_
    simp only [laws_toIntS.l0]
    rw [if_neg (by omega), take_full ho (by omega) ht]
  | succ d ih =>
    intro i o hi ho ht
    refine Ev.step (fun k => ?_) (ih (i + 1) (o.set i (l.getD i 0)) (by omega) (by simp [ho]) (set_take o l _ ho (get_of l 0 (by omega)) ht))
    simp only [laws_toIntS.l0]
    rw [if_pos (by omega), if_pos (by omega), if_pos (by omega), wrap_nat (by omega)]
    rfl
theorem laws_toIntS.ev (l : List Int) (hl : l.length ≤ 1048576) : Ev (fun k => laws_toIntS.f k l) l :=
  Ev.congr (fun k => by unfold laws_toIntS.f; rw [if_pos (by omega), if_pos (by omega)] <;> rfl) (laws_toIntS.ev_l l hl l.length 0 _ (by omega) (by simp) (by simp))

/-! laws_toLaw -/
theorem laws_toLaw.ev (l : List Int) (hl : l.length ≤ 1048576) : Ev (fun k => laws_toLaw.f k l) l := Ev.bind (laws_toIntS.ev l hl) (Ev.now _)

/-! laws_toLinkS -/
def cLink (x : S169) : S160 := ⟨x.f0, x.f1⟩
theorem laws_toLinkS.ev_l (l : List S169) (hl : l.length ≤ 1048576) : ∀ (d i : Nat) (o : List S160), i + d = l.length → o.length = l.length → o.take i = (l.map cLink).take i → Ev (fun k => laws_toLinkS.l0 k l o i) (l.map cLink) := by
  intro d
  induction d with
  | zero =>
    intro i o hi ho ht
    refine Ev.one fun k => ?_
    simp only [laws_toLinkS.l0]
    rw [if_neg (by omega), take_full (by simpa using ho) (by simp; omega) ht]
  | succ d ih =>
    intro i o hi ho ht
    refine Ev.step (fun k => ?_) (ih (i + 1) (o.set i (cLink (l.getD i z169))) (by omega) (by simp [ho]) (set_take o _ _ (by simpa using ho) (get_map cLink l z169 (by omega)) ht))
    simp only [laws_toLinkS.l0, laws_toLink.f, Option.bind_some]
    rw [if_pos (by omega), if_pos (by omega), if_pos (by omega), wrap_nat (by omega)]
    rfl
theorem laws_toLinkS.ev (l : List S169) (hl : l.length ≤ 1048576) : Ev (fun k => laws_toLinkS.f k l) (l.map cLink) :=
  Ev.congr (fun k => by unfold laws_toLinkS.f; rw [if_pos (by omega), if_pos (by omega)] <;> rfl) (laws_toLinkS.ev_l l hl l.length 0 _ (by omega) (by simp) (by simp))

/-! laws_toTable -/
theorem laws_toTable.ev (x : Int) (l m : List Int) (hl : l.length ≤ 1048576) (hm : m.length ≤ 1048576) : Ev (fun k => laws_toTable.f k x l m) (x, l, m) :=
  Ev.bind (laws_toIntS.ev l hl) (Ev.bind (laws_toIntS.ev m hm) (Ev.now _))

/-! d_cTable -/
def cTable (x : S167) : S80 := ⟨x.f0, x.f1, x.f2⟩

/-! laws_toTableS -/
theorem laws_toTableS.ev (l : List S167) (hl : l.length ≤ 1048576) (hx : ∀ x ∈ l, fitT 1048576 x) : Ev (fun k => laws_toTableS.f k l) (l.map cTable) := by
  refine Ev.congr (fun k => by unfold laws_toTableS.f; rw [if_pos (by omega), if_pos (by omega)] <;> rfl) (to_loop (g := fun k o i => laws_toTableS.l0 k l o i) l z167 cTable (fun o => Ev.one fun k => by simp only [laws_toTableS.l0]; rw [if_neg (by omega)]) (fun i o hi ho r hr => ?_) _ (by simp))
  have hf := hx _ (getD_mem l z167 hi)
  refine Ev.step (fun k => by simp only [laws_toTableS.l0]; rw [if_pos (by omega), if_pos (by omega), wrap_nat (by omega)]; rfl) (Ev.bind (laws_toTable.ev (l.getD i z167).f0 (l.getD i z167).f1 (l.getD i z167).f2 hf.1 hf.2) ?_)
  exact Ev.congr (fun k => by rw [if_pos (by omega)]; rfl) hr

/-! d_cPiece -/
def cPiece (x : S133) : S119 := ⟨⟨x.f0.f0, x.f0.f1⟩, x.f1.map cLink, x.f2.map cTable⟩

/-! laws_toPiece -/
theorem laws_toPiece.ev (x : S133) (hx : fitP 1048576 x) : Ev (fun k => laws_toPiece.f k x.f0.f0 x.f0.f1 x.f1 x.f2) (x.f0.f0, x.f0.f1, x.f1.map cLink, x.f2.map cTable) := by
  refine Ev.congr (fun k => by unfold laws_toPiece.f; rw [laws_toSpan.f, Option.bind_some]) ?_
  exact Ev.bind (laws_toLinkS.ev x.f1 hx.1) (Ev.bind (laws_toTableS.ev x.f2 hx.2.1 hx.2.2) (Ev.now _))

/-! laws_toPieceS -/
theorem laws_toPieceS.ev (l : List S133) (hx : fitQ 1048576 l) : Ev (fun k => laws_toPieceS.f k l) (l.map cPiece) := by
  obtain ⟨hl, hx⟩ := hx
  refine Ev.congr (fun k => by unfold laws_toPieceS.f; rw [if_pos (by omega), if_pos (by omega)] <;> rfl) (to_loop (g := fun k o i => laws_toPieceS.l0 k l o i) l z133 cPiece (fun o => Ev.one fun k => by simp only [laws_toPieceS.l0]; rw [if_neg (by omega)]) (fun i o hi ho r hr => ?_) _ (by simp))
  have hf := hx _ (getD_mem l z133 hi)
  refine Ev.step (fun k => by simp only [laws_toPieceS.l0]; rw [if_pos (by omega), if_pos (by omega), wrap_nat (by omega)]; rfl) (Ev.bind (laws_toPiece.ev (l.getD i z133) hf) ?_)
  exact Ev.congr (fun k => by rw [if_pos (by omega)]; rfl) hr

/-! laws_toProgram -/
theorem laws_toProgram.ev (x y z : Int) (l : List S133) (hx : fitQ 1048576 l) : Ev (fun k => laws_toProgram.f k x y z l) (x, y, z, l.map cPiece) := Ev.bind (laws_toPieceS.ev l hx) (Ev.now _)

/-! laws_eqIntS -/
theorem laws_eqIntS.ev_l (l : List Int) (hl : l.length ≤ 1048576) : ∀ (d i : Nat), i + d = l.length → Ev (fun k => laws_eqIntS.l0 k l l i) true := by
  intro d
  induction d with
  | zero => intro i hi; refine Ev.one fun k => ?_; simp only [laws_eqIntS.l0]; rw [if_neg (by omega)]
  | succ d ih =>
    intro i hi
    refine Ev.step (fun k => ?_) (ih (i + 1) (by omega))
    simp only [laws_eqIntS.l0]
    rw [if_pos (by omega), if_pos (by omega), if_pos (by omega), if_pos trivial, wrap_nat (by omega)]
theorem laws_eqIntS.ev (l : List Int) (hl : l.length ≤ 1048576) : Ev (fun k => laws_eqIntS.f k l l) true :=
  Ev.congr (fun k => by unfold laws_eqIntS.f; rw [if_pos rfl] <;> rfl) (laws_eqIntS.ev_l l hl l.length 0 (by omega))
theorem laws_eqIntS.ev' (l : List Int) (hl : l.length ≤ 4000000) : Ev (fun k => laws_eqIntS.f k l l) true := by
  refine Ev.congr (fun k => by unfold laws_eqIntS.f; rw [if_pos rfl]) (all_loop (g := fun k i => laws_eqIntS.l0 k l l i) l.length (Ev.one fun k => by simp only [laws_eqIntS.l0]; rw [if_neg (by omega)]) (fun i hi r hr => Ev.step (fun k => ?_) hr))
  simp only [laws_eqIntS.l0]
  rw [if_pos (by omega), if_pos (by omega), if_pos (by omega), if_pos trivial, wrap_nat (by omega)]

/-! laws_eqLaw -/
theorem laws_eqLaw.ev (l : List Int) (hl : l.length ≤ 1048576) : Ev (fun k => laws_eqLaw.f k l l) true := Ev.bind (laws_eqIntS.ev l hl) (Ev.all fun k => rfl)

/-! laws_eqSpan -/
theorem laws_eqSpan.val (a b : Int) : laws_eqSpan.f a b a b = some true := by
  unfold laws_eqSpan.f
  simp

/-! laws_eqLink -/
theorem laws_eqLink.val (x : S160) : laws_eqLink.f x.f0 x.f1 x.f0 x.f1 = some true := by
  unfold laws_eqLink.f
  simp

/-! laws_eqLinkS -/
theorem laws_eqLinkS.ev_l (l : List S160) (hl : l.length ≤ 1048576) : ∀ (d i : Nat), i + d = l.length → Ev (fun k => laws_eqLinkS.l0 k l l i) true := by
  intro d
  induction d with
  | zero => intro i hi; refine Ev.one fun k => ?_; simp only [laws_eqLinkS.l0]; rw [if_neg (by omega)]
  | succ d ih =>
    intro i hi
    refine Ev.step (fun k => ?_) (ih (i + 1) (by omega))
    simp only [laws_eqLinkS.l0, laws_eqLink.val, Option.bind_some]
    rw [if_pos (by omega), if_pos (by omega), if_pos (by omega), if_pos trivial, wrap_nat (by omega)]
theorem laws_eqLinkS.ev (l : List S160) (hl : l.length ≤ 1048576) : Ev (fun k => laws_eqLinkS.f k l l) true :=
  Ev.congr (fun k => by unfold laws_eqLinkS.f; rw [if_pos rfl] <;> rfl) (laws_eqLinkS.ev_l l hl l.length 0 (by omega))

/-! laws_eqTable -/
theorem laws_eqTable.ev (x : Int) (l m : List Int) (hl : l.length ≤ 1048576) (hm : m.length ≤ 1048576) : Ev (fun k => laws_eqTable.f k x l m x l m) true := by
  refine Ev.congr (fun k => by unfold laws_eqTable.f; rw [if_pos rfl]) (Ev.bind (laws_eqIntS.ev l hl) ?_)
  exact Ev.congr (fun k => by rw [if_pos rfl]) (Ev.bindT (laws_eqIntS.ev m hm))

/-! laws_eqTableS -/
theorem laws_eqTableS.ev (l : List S80) (hl : l.length ≤ 1048576) (hx : ∀ x ∈ l, fitTi 1048576 x) : Ev (fun k => laws_eqTableS.f k l l) true := by
  refine Ev.congr (fun k => by unfold laws_eqTableS.f; rw [if_pos rfl]) (all_loop (g := fun k i => laws_eqTableS.l0 k l l i) l.length (Ev.one fun k => by simp only [laws_eqTableS.l0]; rw [if_neg (by omega)]) (fun i hi r hr => ?_))
  have hf := hx _ (getD_mem l z80 hi)
  refine Ev.step (fun k => by simp only [laws_eqTableS.l0]; rw [if_pos (by omega), if_pos (by omega), if_pos (by omega), wrap_nat (by omega)]; rfl) (Ev.bind (laws_eqTable.ev (l.getD i z80).f0 (l.getD i z80).f1 (l.getD i z80).f2 hf.1 hf.2) ?_)
  exact Ev.congr (fun k => by rw [if_pos rfl]) hr

/-! laws_eqPiece -/
theorem laws_eqPiece.ev (x : S119) (hx : fitPi 1048576 x) : Ev (fun k => laws_eqPiece.f k x.f0.f0 x.f0.f1 x.f1 x.f2 x.f0.f0 x.f0.f1 x.f1 x.f2) true := by
  refine Ev.congr (fun k => by unfold laws_eqPiece.f; rw [laws_eqSpan.val, Option.bind_some, if_pos rfl]) (Ev.bind (laws_eqLinkS.ev x.f1 hx.1) ?_)
  exact Ev.congr (fun k => by rw [if_pos rfl]) (Ev.bindT (laws_eqTableS.ev x.f2 hx.2.1 hx.2.2))

/-! laws_eqPieceS -/
theorem laws_eqPieceS.ev (l : List S119) (hx : fitQi 1048576 l) : Ev (fun k => laws_eqPieceS.f k l l) true := by
  obtain ⟨hl, hx⟩ := hx
  refine Ev.congr (fun k => by unfold laws_eqPieceS.f; rw [if_pos rfl]) (all_loop (g := fun k i => laws_eqPieceS.l0 k l l i) l.length (Ev.one fun k => by simp only [laws_eqPieceS.l0]; rw [if_neg (by omega)]) (fun i hi r hr => ?_))
  have hf := hx _ (getD_mem l z119 hi)
  refine Ev.step (fun k => by simp only [laws_eqPieceS.l0]; rw [if_pos (by omega), if_pos (by omega), if_pos (by omega), wrap_nat (by omega)]; rfl) (Ev.bind (laws_eqPiece.ev (l.getD i z119) hf) ?_)
  exact Ev.congr (fun k => by rw [if_pos rfl]) hr

/-! laws_eqProgram -/
theorem laws_eqProgram.ev (x y z : Int) (l : List S119) (hx : fitQi 1048576 l) : Ev (fun k => laws_eqProgram.f k x y z l x y z l) true := by
  refine Ev.congr (fun k => by unfold laws_eqProgram.f; rw [if_pos rfl, if_pos rfl, if_pos rfl]) (Ev.bindT (laws_eqPieceS.ev l hx))

/-! spec_l1In -/
theorem spec_l1In.val (a lo hi : Int) : spec_l1In.f a lo hi = some (inR a lo hi) := by
  unfold spec_l1In.f inR
  by_cases h : a ≥ lo
  · rw [if_pos h]; simp [h]
  · rw [if_neg h]; simp; omega

/-! d_isSpan -/
def isSpan (a b : Int) : Bool := decide (0 ≤ a) && decide (b ≤ 1000) && decide (a < b)

/-! spec_IsSpan -/
theorem spec_IsSpan.val (a b : Int) : spec_IsSpan.f a b = some (isSpan a b) := by
  unfold spec_IsSpan.f isSpan
  by_cases h : a ≥ 0
  · rw [if_pos h]
    by_cases h2 : b ≤ 1000
    · rw [if_pos h2]; simp [h, h2]
    · rw [if_neg h2]; simp; omega
  · rw [if_neg h]; simp; omega

/-! d_inSpan -/
def inSpan (a b t : Int) : Bool := isSpan a b && decide (a ≤ t) && decide (t < b)

/-! spec_InSpan -/
theorem spec_InSpan.val (a b t : Int) : spec_InSpan.f a b t = some (inSpan a b t) := by
  unfold spec_InSpan.f inSpan
  rw [spec_IsSpan.val, Option.bind_some]
  by_cases h : isSpan a b = true
  · rw [if_pos h]
    by_cases h2 : a ≤ t
    · rw [if_pos h2]; simp [h, h2]
    · rw [if_neg h2]; simp; omega
  · rw [if_neg h]; simp [h]

/-! d_pieceAt -/
def pieceAt (p : List S119) (t : Int) : Int := firstAt (fun x => inSpan x.f0.f0 x.f0.f1 t) p 0

/-! spec_PieceAt -/
theorem spec_PieceAt.ev (a b c : Int) (p : List S119) (t : Int) (hl : p.length ≤ 1048576) : Ev (fun k => spec_PieceAt.f k a b c p t) (pieceAt p t) := by
  have : ∀ d i : Nat, i + d = p.length → Ev (fun k => spec_PieceAt.l0 k t i a b c p) (firstAt (fun x => inSpan x.f0.f0 x.f0.f1 t) (p.drop i) i) := by
    intro d
    induction d with
    | zero =>
      intro i hi
      rw [List.drop_eq_nil_of_le (by omega)]
      exact Ev.one fun k => by simp only [spec_PieceAt.l0]; rw [if_neg (by omega)]; rfl
    | succ d ih =>
      intro i hi
      rw [drop_cons p z119 (show i < p.length by omega), firstAt]
      have hk : ∀ k, spec_PieceAt.l0 (k + 1) t i a b c p = if inSpan (p.getD i z119).f0.f0 (p.getD i z119).f0.f1 t = true then some (i : Int) else spec_PieceAt.l0 k t ((i + 1 : Nat) : Int) a b c p := fun k => by
        simp only [spec_PieceAt.l0, spec_InSpan.val, Option.bind_some]
        rw [if_pos (by omega), if_pos (by omega), wrap_nat (by omega)]
        rfl
      by_cases h : inSpan (p.getD i z119).f0.f0 (p.getD i z119).f0.f1 t = true
      · rw [if_pos h]
        exact Ev.one fun k => by rw [hk, if_pos h]
      · rw [if_neg h]
        exact Ev.step (fun k => by rw [hk, if_neg h]) (ih (i + 1) (by omega))
  exact this p.length 0 (by omega)

/-! spec_l15Copy -/
theorem spec_l15Copy.val (x : Int) (l m : List Int) (hl : l.length ≤ 1048576) (hm : m.length ≤ 1048576) : spec_l15Copy.f x l m = some (x, l, m) := by
  unfold spec_l15Copy.f
  rw [Option.bind_some, if_pos (by simp only [List.length_nil]; omega), Option.bind_some, if_pos (by simp only [List.length_nil]; omega), List.nil_append, List.nil_append]

/-! d_tableIn -/
def tableIn (p : List S119) (k d : Int) : Int × List Int × List Int × Bool :=
  if idxB k p.length = true then (if idxB d (rd_T119 p k).f2.length = true then ((rd_T80 (rd_T119 p k).f2 d).f0, (rd_T80 (rd_T119 p k).f2 d).f1, (rd_T80 (rd_T119 p k).f2 d).f2, true) else (0, [], [], false)) else (0, [], [], false)
theorem fit_rd {n : Nat} {p : List S119} (hp : fitQi n p) {k : Int} (hk : idxB k p.length = true) : fitPi n (rd_T119 p k) := by
  obtain ⟨h0, h1⟩ := (idxB_iff _ _).1 hk
  exact hp.2 _ (getD_mem p z119 (by omega))
theorem fit_rdT {n : Nat} {p : List S119} (hp : fitQi n p) {k d : Int} (hk : idxB k p.length = true) (hd : idxB d (rd_T119 p k).f2.length = true) : fitTi n (rd_T80 (rd_T119 p k).f2 d) := by
  obtain ⟨h0, h1⟩ := (idxB_iff _ _).1 hd
  exact (fit_rd hp hk).2.2 _ (getD_mem _ z80 (by omega))
theorem tableIn_len {p : List S119} (hp : fitQi 1048576 p) (k d : Int) : (tableIn p k d).2.1.length ≤ 1048576 ∧ (tableIn p k d).2.2.1.length ≤ 1048576 := by
  unfold tableIn
  split
  · split
    · rename_i h1 h2
      exact fit_rdT hp h1 h2
    · exact ⟨by simp, by simp⟩
  · exact ⟨by simp, by simp⟩

/-! spec_TableIn -/
theorem spec_TableIn.val (a b c : Int) (p : List S119) (k d : Int) (hp : fitQi 1048576 p) : spec_TableIn.f a b c p k d = some (tableIn p k d) := by
  unfold spec_TableIn.f tableIn
  rw [spec_l1In.val, Option.bind_some, inR_idx _ _ hp.1]
  by_cases h : idxB k p.length = true
  · have hf := fit_rd hp h
    obtain ⟨h0, h1⟩ := (idxB_iff _ _).1 h
    rw [if_pos h, if_pos h, if_pos h0, if_pos h1, spec_l1In.val, Option.bind_some, inR_idx _ _ hf.2.1]
    by_cases h2 : idxB d (rd_T119 p k).f2.length = true
    · have hg := fit_rdT hp h h2
      obtain ⟨h3, h4⟩ := (idxB_iff _ _).1 h2
      rw [if_pos h2, if_pos h2, if_pos h3, if_pos h4, spec_l15Copy.val _ _ _ hg.1 hg.2]; rfl
    · rw [if_neg h2, if_neg h2]
  · rw [if_neg h, if_neg h]

/-! d_land -/
def landUp (node : Int) (T : Int × List Int × List Int × Bool) (site : Int) (s : Int × Int) : Int × Int :=
  if T.2.2.2 = true then (if idxB node T.2.1.length = true then (if rd T.2.1 node < 0 then s else if s.1 < 0 then (site, rd T.2.1 node) else if rd T.2.1 node < s.2 then (site, rd T.2.1 node) else if rd T.2.1 node = s.2 then (if site < s.1 then (site, rd T.2.1 node) else s) else s) else s) else s
def landing (l : List Int) (p : List S119) (node t : Int) : Int := ((List.range' 0 l.length).foldl (fun s j => landUp node (tableIn p (pieceAt p t) (rd l ((j : Nat) : Int))) (rd l ((j : Nat) : Int)) s) (-1, 0)).1

/-! spec_LandingFor -/
theorem spec_LandingFor.ev (l : List Int) (a b c : Int) (p : List S119) (node t : Int) (hl : l.length ≤ 1048576) (hp : fitQi 1048576 p) : Ev (fun k => spec_LandingFor.f k l a b c p node t) (landing l p node t) := by
  refine Ev.bind (spec_PieceAt.ev a b c p t hp.1) ?_
  generalize hq : pieceAt p t = kk
  unfold landing
  rw [hq]
  refine foldE_index (g := fun k (s : Int × Int) i => spec_LandingFor.l0 k node s.1 s.2 kk i l a b c p) (f := fun j s => landUp node (tableIn p kk (rd l ((j : Nat) : Int))) (rd l ((j : Nat) : Int)) s) (fin := fun s => s.1) (fun _ _ => True) l.length (-1, 0) trivial (fun s _ => Ev.one fun k => by simp only [spec_LandingFor.l0]; rw [if_neg (by omega)]) (fun i s hi _ => ⟨trivial, fun r hr => ?_⟩)
  have hlen := (tableIn_len hp kk (rd l ((i : Nat) : Int))).1
  refine Ev.step (fun k => by simp only [spec_LandingFor.l0]; rw [if_pos (by omega), if_pos (by omega), spec_TableIn.val _ _ _ _ _ _ hp, Option.bind_some]) ?_
  generalize tableIn p kk (rd l ((i : Nat) : Int)) = T at hr hlen
  obtain ⟨t0, t1, t2, ok⟩ := T
  have hj : ∀ q, q = true → Ev (fun k => spec_LandingFor.l0 k node s.1 s.2 kk ((i + 1 : Nat) : Int) l a b c p) r → Ev (fun k => spec_LandingFor.j1 k node s.1 s.2 kk i q l a b c p t0 t1 t2) r := fun q hq h => Ev.step (fun k => by simp only [spec_LandingFor.j1]; rw [if_pos hq, wrap_nat (by omega)]) h
  dsimp only at hlen hr ⊢
  unfold landUp at hr
  dsimp only at hr
  by_cases h1 : ok = true
  · rw [if_pos h1] at hr
    refine Ev.congr (fun k => by rw [if_pos h1, spec_l1In.val, Option.bind_some, inR_idx _ _ hlen]) ?_
    by_cases h2 : idxB node t1.length = true
    · rw [if_pos h2] at hr
      obtain ⟨h3, h4⟩ := (idxB_iff _ _).1 h2
      refine Ev.congr (fun k => by rw [if_pos h2, if_pos h3, if_pos h4]) ?_
      by_cases h5 : rd t1 node < 0
      · rw [if_pos h5] at hr
        exact hj _ (decide_eq_true h5) hr
      · rw [if_neg h5] at hr
        refine Ev.step (fun k => by simp only [spec_LandingFor.j1]; rw [if_neg (by simpa using h5), wrap_nat (by omega)]) ?_
        by_cases h6 : s.1 < 0
        · rw [if_pos h6] at hr
          exact Ev.congr (fun k => by rw [if_pos h6, if_pos (by omega), if_pos (by omega), if_pos h3, if_pos h4]) hr
        · rw [if_neg h6] at hr
          refine Ev.congr (fun k => by rw [if_neg h6, if_pos h3, if_pos h4]) ?_
          by_cases h7 : rd t1 node < s.2
          · rw [if_pos h7] at hr
            exact Ev.congr (fun k => by rw [if_pos h7, if_pos (by omega), if_pos (by omega)]) hr
          · rw [if_neg h7] at hr
            refine Ev.congr (fun k => by rw [if_neg h7]) ?_
            by_cases h8 : rd t1 node = s.2
            · rw [if_pos h8] at hr
              refine Ev.congr (fun k => by rw [if_pos h8, if_pos (by omega), if_pos (by omega)]) ?_
              by_cases h9 : rd l ((i : Nat) : Int) < s.1
              · rw [if_pos h9] at hr
                exact Ev.congr (fun k => by rw [if_pos h9]) hr
              · rw [if_neg h9] at hr
                exact Ev.congr (fun k => by rw [if_neg h9]) hr
            · rw [if_neg h8] at hr
              exact Ev.congr (fun k => by rw [if_neg h8]) hr
    · rw [if_neg h2] at hr
      exact Ev.congr (fun k => by rw [if_neg h2]) (hj _ rfl hr)
  · rw [if_neg h1] at hr
    exact Ev.congr (fun k => by rw [if_neg h1]) (hj _ rfl hr)

/-! spec_Min -/
theorem spec_Min.val (a b : Int) : spec_Min.f a b = some (mn a b) := by
  unfold spec_Min.f mn
  split <;> rfl

/-! d_served -/
def servedBy (l : List Int) (p : List S119) (a t : Int) : Int := countP (fun j => decide (landing l p ((j : Nat) : Int) t ≥ 0)) (mn a 12).toNat

/-! spec_ServedBy -/
theorem spec_ServedBy.ev (l : List Int) (a b c : Int) (p : List S119) (t : Int) (hl : l.length ≤ 1048576) (hp : fitQi 1048576 p) : Ev (fun k => spec_ServedBy.f k l a b c p t) (servedBy l p a t) := by
  have hm : mn a 12 ≤ 12 := by unfold mn; split <;> omega
  have h := foldE_index (g := fun k s i => spec_ServedBy.l0 k t s i l a b c p) (f := fun i s => if (decide (landing l p ((i : Nat) : Int) t ≥ 0)) = true then wrap64 (s + 1) else s) (fin := fun s => s) (fun _ _ => True) (mn a 12).toNat 0 trivial
    (fun s _ => Ev.one fun k => by simp only [spec_ServedBy.l0, spec_Min.val, Option.bind_some]; rw [if_neg (by omega)])
    (fun i s hi _ => ⟨trivial, fun x hx => by
      refine Ev.step (fun k => by simp only [spec_ServedBy.l0, spec_Min.val, Option.bind_some]; rw [if_pos (by omega), wrap_nat (by omega)]) (Ev.bind (spec_LandingFor.ev l a b c p _ t hl hp) ?_)
      by_cases h1 : landing l p ((i : Nat) : Int) t ≥ 0
      · rw [if_pos (decide_eq_true h1)] at hx
        exact Ev.congr (fun k => by rw [if_pos h1]) hx
      · rw [if_neg (by simpa using h1)] at hx
        exact Ev.congr (fun k => by rw [if_neg h1]) hx⟩)
  rw [count_countP _ _ (by omega)] at h
  exact h

/-! slices_IndexFunc_impl_Piece_impl_Piece -/
theorem slices_IndexFunc_impl_Piece_impl_Piece.first (q : S119 → Bool) : ∀ (l : List S119) (i : Nat), slices_IndexFunc_impl_Piece_impl_Piece.idxAt q l i = firstAt q l i
  | [], i => rfl
  | x :: l, i => by rw [slices_IndexFunc_impl_Piece_impl_Piece.idxAt, firstAt, slices_IndexFunc_impl_Piece_impl_Piece.first q l (i + 1)]

/-! impl_PieceAt -/
theorem impl_PieceAt.val (a b c : Int) (p : List S119) (t : Int) : impl_PieceAt.f a b c p t = some (pieceAt p t) := by
  unfold impl_PieceAt.f pieceAt slices_IndexFunc_impl_Piece_impl_Piece.idx
  rw [slices_IndexFunc_impl_Piece_impl_Piece.first]
  have : (fun x : S119 => impl_PieceAt.has x.f0.f0 x.f0.f1 t) = fun x => inSpan x.f0.f0 x.f0.f1 t := by
    funext x
    unfold impl_PieceAt.has inSpan isSpan
    rfl
  rw [this]

/-! impl_isIndex -/
theorem impl_isIndex.val (a n : Int) : impl_isIndex.f a n = some (decide (0 ≤ a) && decide (a < n)) := by
  unfold impl_isIndex.f
  by_cases h : a ≥ 0
  · rw [if_pos h]; simp [h]
  · rw [if_neg h]; simp; omega
theorem impl_isIndex.nat (a : Int) (n : Nat) : impl_isIndex.f a (n : Int) = some (idxB a n) := impl_isIndex.val a n

/-! slices_Clone_int_int -/
theorem slices_Clone_int_int.val (l : List Int) (hl : l.length ≤ 1048576) : slices_Clone_int_int.f l = some l := by
  unfold slices_Clone_int_int.f
  rw [if_pos (by omega)]

/-! impl_cloneTable -/
theorem impl_cloneTable.val (x : Int) (l m : List Int) (hl : l.length ≤ 1048576) (hm : m.length ≤ 1048576) : impl_cloneTable.f x l m = some (x, l, m) := by
  unfold impl_cloneTable.f
  rw [slices_Clone_int_int.val l hl, Option.bind_some, slices_Clone_int_int.val m hm, Option.bind_some]

/-! impl_TableIn -/
theorem impl_TableIn.val (a b c : Int) (p : List S119) (k d : Int) (hp : fitQi 1048576 p) : impl_TableIn.f a b c p k d = some (tableIn p k d) := by
  unfold impl_TableIn.f tableIn
  rw [impl_isIndex.nat, Option.bind_some]
  by_cases h : idxB k p.length = true
  · have hf := fit_rd hp h
    obtain ⟨h0, h1⟩ := (idxB_iff _ _).1 h
    rw [if_pos h, if_pos h, if_pos h0, if_pos h1, impl_isIndex.nat, Option.bind_some]
    by_cases h2 : idxB d (rd_T119 p k).f2.length = true
    · have hg := fit_rdT hp h h2
      obtain ⟨h3, h4⟩ := (idxB_iff _ _).1 h2
      rw [if_pos h2, if_pos h2, if_pos h3, if_pos h4, impl_cloneTable.val _ _ _ hg.1 hg.2]; rfl
    · rw [if_neg h2, if_neg h2]
  · rw [if_neg h, if_neg h]

/-! impl_LandingFor -/
theorem impl_LandingFor.ev (l : List Int) (a b c : Int) (p : List S119) (node t : Int) (hl : l.length ≤ 1048576) (hp : fitQi 1048576 p) : Ev (fun k => impl_LandingFor.f k l a b c p node t) (landing l p node t) := by
  refine Ev.congr (fun k => by unfold impl_LandingFor.f; rw [impl_PieceAt.val, Option.bind_some]) ?_
  generalize hq : pieceAt p t = kk
  unfold landing
  rw [hq]
  refine foldE_index (g := fun k (s : Int × Int) i => impl_LandingFor.l0 k node s.1 s.2 kk l l.length i a b c p) (f := fun j s => landUp node (tableIn p kk (rd l ((j : Nat) : Int))) (rd l ((j : Nat) : Int)) s) (fin := fun s => s.1) (fun _ _ => True) l.length (-1, 0) trivial (fun s _ => Ev.one fun k => by simp only [impl_LandingFor.l0]; rw [if_neg (by omega)]) (fun i s hi _ => ⟨trivial, fun r hr => ?_⟩)
  have hlen := (tableIn_len hp kk (rd l ((i : Nat) : Int))).1
  refine Ev.step (fun k => by simp only [impl_LandingFor.l0]; rw [if_pos (by omega), if_pos (by omega), if_pos (by omega), impl_TableIn.val _ _ _ _ _ _ hp, Option.bind_some]) ?_
  generalize tableIn p kk (rd l ((i : Nat) : Int)) = T at hr hlen
  obtain ⟨t0, t1, t2, ok⟩ := T
  have hj : ∀ q, q = true → Ev (fun k => impl_LandingFor.l0 k node s.1 s.2 kk l l.length ((i + 1 : Nat) : Int) a b c p) r → Ev (fun k => impl_LandingFor.j1 k node s.1 s.2 kk (rd l ((i : Nat) : Int)) l l.length i q a b c p t0 t1 t2) r := fun q hq h => Ev.step (fun k => by simp only [impl_LandingFor.j1]; rw [if_pos hq, wrap_nat (by omega)]) h
  dsimp only at hlen hr ⊢
  unfold landUp at hr
  dsimp only at hr
  by_cases h1 : ok = true
  · rw [if_pos h1] at hr
    refine Ev.congr (fun k => by rw [if_pos h1, impl_isIndex.nat, Option.bind_some]) ?_
    by_cases h2 : idxB node t1.length = true
    · rw [if_pos h2] at hr
      obtain ⟨h3, h4⟩ := (idxB_iff _ _).1 h2
      refine Ev.congr (fun k => by rw [if_pos h2, if_pos h3, if_pos h4]) ?_
      by_cases h5 : rd t1 node < 0
      · rw [if_pos h5] at hr
        exact hj _ (decide_eq_true h5) hr
      · rw [if_neg h5] at hr
        refine Ev.step (fun k => by simp only [impl_LandingFor.j1]; rw [if_neg (by simpa using h5), wrap_nat (by omega), if_pos h3, if_pos h4]) ?_
        by_cases h6 : s.1 < 0
        · rw [if_pos h6] at hr
          exact Ev.congr (fun k => by rw [if_pos h6]) hr
        · rw [if_neg h6] at hr
          refine Ev.congr (fun k => by rw [if_neg h6]) ?_
          by_cases h7 : rd t1 node < s.2
          · rw [if_pos h7] at hr
            exact Ev.congr (fun k => by rw [if_pos h7]) hr
          · rw [if_neg h7] at hr
            refine Ev.congr (fun k => by rw [if_neg h7]) ?_
            by_cases h8 : rd t1 node = s.2
            · rw [if_pos h8] at hr
              refine Ev.congr (fun k => by rw [if_pos h8]) ?_
              by_cases h9 : rd l ((i : Nat) : Int) < s.1
              · rw [if_pos h9] at hr
                exact Ev.congr (fun k => by rw [if_pos h9]) hr
              · rw [if_neg h9] at hr
                exact Ev.congr (fun k => by rw [if_neg h9]) hr
            · rw [if_neg h8] at hr
              exact Ev.congr (fun k => by rw [if_neg h8]) hr
    · rw [if_neg h2] at hr
      exact Ev.congr (fun k => by rw [if_neg h2]) (hj _ rfl hr)
  · rw [if_neg h1] at hr
    exact Ev.congr (fun k => by rw [if_neg h1]) (hj _ rfl hr)

/-! impl_ServedBy -/
theorem impl_ServedBy.ev (l : List Int) (a b c : Int) (p : List S119) (t : Int) (hl : l.length ≤ 1048576) (hp : fitQi 1048576 p) : Ev (fun k => impl_ServedBy.f k l a b c p t) (servedBy l p a t) := by
  have hm : mn a 12 ≤ 12 := by unfold mn; split <;> omega
  have hx2 : ((mn a 12).toNat : Int) = mx 0 (mn a 12) := by unfold mx; split <;> omega
  have h := foldE_index (g := fun k s i => impl_ServedBy.l0 k t s (mx 0 (mn a 12)) i l a b c p) (f := fun i s => if (decide (landing l p ((i : Nat) : Int) t ≥ 0)) = true then wrap64 (s + 1) else s) (fin := fun s => s) (fun _ _ => True) (mn a 12).toNat 0 trivial
    (fun s _ => Ev.one fun k => by simp only [impl_ServedBy.l0]; rw [if_neg (by omega)])
    (fun i s hi _ => ⟨trivial, fun x hx => by
      refine Ev.step (fun k => by simp only [impl_ServedBy.l0]; rw [if_pos (by omega), wrap_nat (by omega)]) (Ev.bind (impl_LandingFor.ev l a b c p _ t hl hp) ?_)
      by_cases h1 : landing l p ((i : Nat) : Int) t ≥ 0
      · rw [if_pos (decide_eq_true h1)] at hx
        exact Ev.congr (fun k => by rw [if_pos h1]) hx
      · rw [if_neg (by simpa using h1)] at hx
        exact Ev.congr (fun k => by rw [if_neg h1]) hx⟩)
  rw [count_countP _ _ (by omega)] at h
  exact h

/-! d_wQ -/
theorem fit_of {l : List S133} (h : l.length ≤ maxLen ∧ ∀ e_ ∈ l, W133 e_) : fitQ maxLen l :=
  ⟨h.1, fun x hx => ⟨(h.2 x hx).2.1.1, (h.2 x hx).2.2.1, fun t ht => ⟨((h.2 x hx).2.2.2 t ht).2.1.1, ((h.2 x hx).2.2.2 t ht).2.2.1⟩⟩⟩

/-! d_fitMap -/
theorem fit_map {n : Nat} {l : List S133} (h : fitQ n l) : fitQi n (l.map cPiece) := by
  refine ⟨by simpa using h.1, fun x hx => ?_⟩
  obtain ⟨y, hy, rfl⟩ := List.mem_map.1 hx
  obtain ⟨h1, h2, h3⟩ := h.2 y hy
  refine ⟨by simpa [cPiece] using h1, by simpa [cPiece] using h2, fun t ht => ?_⟩
  obtain ⟨u, hu, rfl⟩ := List.mem_map.1 ht
  exact h3 u hu

/-! @@ FnExactServedBy -/
theorem proved : Stated := by
  intro l a b c m i ⟨hl, hw⟩ _ _ _ hm _
  refine Ev.rounds ?_
  obtain ⟨t, ht, hle, hp⟩ := laws_szLaw.val l 1048576 (by omega) (by omega) hl
  refine Ev.congr (fun k => by unfold laws_FnExactServedBy.f; rw [ht, Option.bind_some]) ?_
  by_cases h : t < 0
  · exact Ev.all fun k => by rw [if_pos h]
  obtain ⟨_, hl2⟩ := hp (by omega)
  obtain ⟨u, hu, hle2, hq⟩ := laws_szProgram.ev a b c m t (by omega) (by omega) (fit_of hm)
  refine Ev.congr (fun k => by rw [if_neg h]) (Ev.bind hu ?_)
  by_cases h' : u < 0
  · exact Ev.all fun k => by rw [if_pos h']
  have hq := hq (by omega)
  have hq2 := fit_map hq
  refine Ev.congr (fun k => by rw [if_neg h']) (Ev.bind (laws_toLaw.ev l hl2) (Ev.bind (laws_toProgram.ev a b c m hq) (Ev.bind (spec_ServedBy.ev l a b c _ i hl2 hq2) (Ev.bind (laws_toLaw.ev l hl2) (Ev.bind (laws_toProgram.ev a b c m hq) (Ev.bind (impl_ServedBy.ev l a b c _ i hl2 hq2) ?_))))))
  refine Ev.congr (fun k => by rw [if_pos rfl]) (Ev.bind (laws_toLaw.ev l hl2) (Ev.bind (laws_eqLaw.ev l hl2) ?_))
  refine Ev.congr (fun k => by rw [if_pos rfl]) (Ev.bind (laws_toProgram.ev a b c m hq) (Ev.bindT (laws_eqProgram.ev a b c _ hq2)))

end Go.Proofs.Ytegkplalnljgjaa.PureFnExactServedBy
