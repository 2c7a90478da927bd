/- FnExactLawfulFlows, over numbers and lists alone: what the program's function and the reference's answer is one. Conditions: the numbers are of their kinds. -/
import Derived.Test.YtegkplalnljgjaaKindsFnExactLawfulFlows
import Derived.Test.YtegkplalnljgjaaVFnExactLawfulFlowsBase
namespace Go.Proofs.Ytegkplalnljgjaa.PureFnExactLawfulFlows
open Go.RowKit Go.Proofs.Ytegkplalnljgjaa.PFnExactLawfulFlows Go.Proofs.YtegkplalnljgjaaW.PrintWords Go.Proofs.YtegkplalnljgjaaW.PrintLast Go.Proofs.YtegkplalnljgjaaW.PrintMore Go.Proofs.Ytegkplalnljgjaa.Base
set_option linter.unusedVariables false
set_option linter.unusedSimpArgs false

/-! laws_szIntS -/
theorem laws_szIntS.val (l : List Int) (a : Int) (h0 : 0 ≤ a) (h1 : a ≤ 1048576) (hl : l.length ≤ maxLen) :
    ∃ t, laws_szIntS.f l a = some t ∧ t ≤ a ∧ (0 ≤ t → t = a - l.length ∧ l.length ≤ 1048576) := by
  unfold maxLen at hl
  unfold laws_szIntS.f
  rw [wrap_id (by omega) (by omega)]
  by_cases h : a - (l.length : Int) < 0
  · rw [if_pos h]; exact ⟨_, rfl, by omega, by omega⟩
  · rw [if_neg h]; exact ⟨_, rfl, by omega, by omega⟩

/-! laws_szLaw -/
theorem laws_szLaw.val (l : List Int) (a : Int) (h0 : 0 ≤ a) (h1 : a ≤ 1048576) (hl : l.length ≤ maxLen) :
    ∃ t, laws_szLaw.f l a = some t ∧ t ≤ a ∧ (0 ≤ t → t = a - l.length ∧ l.length ≤ 1048576) := by
  obtain ⟨t, h, h2, h3⟩ := laws_szIntS.val l a h0 h1 hl
  unfold laws_szLaw.f
  rw [h, Option.bind_some]
  by_cases ht : t < 0
  · rw [if_pos ht]; exact ⟨_, rfl, by omega, by omega⟩
  · rw [if_neg ht]; exact ⟨_, rfl, h2, h3⟩

/-! laws_szLinkS -/
theorem laws_szLinkS.val (l : List S169) (a : Int) (h0 : 0 ≤ a) (h1 : a ≤ 1048576) (hl : l.length ≤ maxLen) :
    ∃ t, laws_szLinkS.f l a = some t ∧ t ≤ a ∧ (0 ≤ t → t = a - l.length ∧ l.length ≤ 1048576) := by
  unfold maxLen at hl
  unfold laws_szLinkS.f
  rw [wrap_id (by omega) (by omega)]
  by_cases h : a - (l.length : Int) < 0
  · rw [if_pos h]; exact ⟨_, rfl, by omega, by omega⟩
  · rw [if_neg h]; exact ⟨_, rfl, by omega, by omega⟩

/-! laws_szTable -/
theorem laws_szTable.val (x : Int) (l m : List Int) (a : Int) (h0 : 0 ≤ a) (h1 : a ≤ 1048576) (hl : l.length ≤ maxLen) (hm : m.length ≤ maxLen) :
    ∃ t, laws_szTable.f x l m a = some t ∧ t ≤ a ∧ (0 ≤ t → l.length ≤ 1048576 ∧ m.length ≤ 1048576) := by
  obtain ⟨t, h, h2, h3⟩ := laws_szIntS.val l a h0 h1 hl
  unfold laws_szTable.f
  rw [h, Option.bind_some]
  by_cases ht : t < 0
  · rw [if_pos ht]; exact ⟨_, rfl, by omega, by omega⟩
  · obtain ⟨u, h4, h5, h6⟩ := laws_szIntS.val m t (by omega) (by omega) hm
    rw [if_neg ht, h4, Option.bind_some]
    by_cases hu : u < 0
    · rw [if_pos hu]; exact ⟨_, rfl, by omega, by omega⟩
    · rw [if_neg hu]; exact ⟨_, rfl, by omega, fun _ => ⟨(h3 (by omega)).2, (h6 (by omega)).2⟩⟩
theorem laws_szTable.sum (x : Int) (l m : List Int) (a : Int) (h0 : 0 ≤ a) (h1 : a ≤ 1048576) (hl : l.length ≤ maxLen) (hm : m.length ≤ maxLen) :
    ∃ t, laws_szTable.f x l m a = some t ∧ t ≤ a ∧ (0 ≤ t → t + ((l.length + m.length : Nat) : Int) ≤ a) := by
  obtain ⟨t, h, h2, h3⟩ := laws_szIntS.val l a h0 h1 hl
  unfold laws_szTable.f
  rw [h, Option.bind_some]
  by_cases ht : t < 0
  · rw [if_pos ht]; exact ⟨_, rfl, by omega, by omega⟩
  · obtain ⟨u, h4, h5, h6⟩ := laws_szIntS.val m t (by omega) (by omega) hm
    rw [if_neg ht, h4, Option.bind_some]
    by_cases hu : u < 0
    · rw [if_pos hu]; exact ⟨_, rfl, by omega, by omega⟩
    · rw [if_neg hu]; exact ⟨_, rfl, by omega, fun _ => by have := (h3 (by omega)).1; have := (h6 (by omega)).1; omega⟩

/-! d_fitT -/
def fitT (n : Nat) (x : S167) : Prop := x.f1.length ≤ n ∧ x.f2.length ≤ n
def fitTi (n : Nat) (x : S80) : Prop := x.f1.length ≤ n ∧ x.f2.length ≤ n

/-! d_cost -/
def tabsCost (l : List S167) : Nat := l.length + (l.map fun x => x.f1.length + x.f2.length).sum
def pieCost (x : S133) : Nat := x.f1.length + tabsCost x.f2
def progCost (l : List S133) : Nat := l.length + (l.map pieCost).sum

/-! laws_szTableS -/
theorem laws_szTableS.ev (l : List S167) (a : Int) (h0 : 0 ≤ a) (h1 : a ≤ 1048576) (hl : l.length ≤ maxLen) (hx : ∀ x ∈ l, fitT maxLen x) :
    ∃ t, Ev (fun k => laws_szTableS.f k l a) t ∧ t ≤ a ∧ (0 ≤ t → l.length ≤ 1048576 ∧ ∀ x ∈ l, fitT 1048576 x) := by
  have hl' := hl
  unfold maxLen at hl'
  by_cases h : a - (l.length : Int) < 0
  · exact ⟨-1, Ev.all fun k => by unfold laws_szTableS.f; rw [wrap_id (by omega) (by omega), if_pos h], by omega, by omega⟩
  · obtain ⟨t, ht, hle, hok⟩ := sz_loop (g := fun k a i => laws_szTableS.l0 k l a i) l z167 (fitT 1048576) (fun a => Ev.one fun k => by simp only [laws_szTableS.l0]; rw [if_neg (by omega)])
      (fun i a hi h0 h1 => by
        have hf := hx _ (getD_mem l z167 hi)
        obtain ⟨t, e, hle, hok⟩ := laws_szTable.val (l.getD i z167).f0 (l.getD i z167).f1 (l.getD i z167).f2 a h0 h1 hf.1 hf.2
        have hk : ∀ k, laws_szTableS.l0 (k + 1) l a i = if t < 0 then some (-1) else laws_szTableS.l0 k l t ((i + 1 : Nat) : Int) := fun k => by
          simp only [laws_szTableS.l0]
          rw [if_pos (by omega), if_pos (by omega), wrap_nat (by omega)]
          show (laws_szTable.f (l.getD i z167).f0 (l.getD i z167).f1 (l.getD i z167).f2 a).bind _ = _
          rw [e]; rfl
        exact ⟨t, hle, fun h => Ev.one fun k => by rw [hk, if_pos h], fun h => ⟨hok h, fun r hr => Ev.step (fun k => by rw [hk, if_neg (by omega)]) hr⟩⟩)
      (a - l.length) (by omega) (by omega)
    exact ⟨t, Ev.congr (fun k => by unfold laws_szTableS.f; rw [wrap_id (by omega) (by omega), if_neg h]) ht, by omega, fun h => ⟨by omega, hok h⟩⟩
theorem laws_szTableS.sum (l : List S167) (a : Int) (h0 : 0 ≤ a) (h1 : a ≤ 1048576) (hl : l.length ≤ maxLen) (hx : ∀ x ∈ l, fitT maxLen x) :
    ∃ t, Ev (fun k => laws_szTableS.f k l a) t ∧ t ≤ a ∧ (0 ≤ t → t + (tabsCost l : Int) ≤ a) := by
  have hl' := hl
  unfold maxLen at hl'
  by_cases h : a - (l.length : Int) < 0
  · exact ⟨-1, Ev.all fun k => by unfold laws_szTableS.f; rw [wrap_id (by omega) (by omega), if_pos h], by omega, by omega⟩
  · obtain ⟨t, ht, hle, hok⟩ := sz_sum (g := fun k a i => laws_szTableS.l0 k l a i) l z167 (fun x => x.f1.length + x.f2.length) (fun a => Ev.one fun k => by simp only [laws_szTableS.l0]; rw [if_neg (by omega)])
      (fun i a hi h0 h1 => by
        have hf := hx _ (getD_mem l z167 hi)
        obtain ⟨t, e, hle, hok⟩ := laws_szTable.sum (l.getD i z167).f0 (l.getD i z167).f1 (l.getD i z167).f2 a h0 h1 hf.1 hf.2
        have hk : ∀ k, laws_szTableS.l0 (k + 1) l a i = if t < 0 then some (-1) else laws_szTableS.l0 k l t ((i + 1 : Nat) : Int) := fun k => by
          simp only [laws_szTableS.l0]
          rw [if_pos (by omega), if_pos (by omega), wrap_nat (by omega)]
          show (laws_szTable.f (l.getD i z167).f0 (l.getD i z167).f1 (l.getD i z167).f2 a).bind _ = _
          rw [e]; rfl
        exact ⟨t, hle, fun h => Ev.one fun k => by rw [hk, if_pos h], fun h => ⟨hok h, fun r hr => Ev.step (fun k => by rw [hk, if_neg (by omega)]) hr⟩⟩)
      (a - l.length) (by omega) (by omega)
    exact ⟨t, Ev.congr (fun k => by unfold laws_szTableS.f; rw [wrap_id (by omega) (by omega), if_neg h]) ht, by omega, fun h => by have := hok h; unfold tabsCost; omega⟩

/-! d_fitP -/
def fitP (n : Nat) (x : S133) : Prop := x.f1.length ≤ n ∧ x.f2.length ≤ n ∧ ∀ t ∈ x.f2, fitT n t
def fitPi (n : Nat) (x : S119) : Prop := x.f1.length ≤ n ∧ x.f2.length ≤ n ∧ ∀ t ∈ x.f2, fitTi n t
def fitQ (n : Nat) (l : List S133) : Prop := l.length ≤ n ∧ ∀ x ∈ l, fitP n x
def fitQi (n : Nat) (l : List S119) : Prop := l.length ≤ n ∧ ∀ x ∈ l, fitPi n x

/-! laws_szPiece -/
theorem laws_szPiece.ev (x : S133) (a : Int) (h0 : 0 ≤ a) (h1 : a ≤ 1048576) (hx : fitP maxLen x) :
    ∃ t, Ev (fun k => laws_szPiece.f k x.f0.f0 x.f0.f1 x.f1 x.f2 a) t ∧ t ≤ a ∧ (0 ≤ t → fitP 1048576 x) := by
  obtain ⟨t, h, h2, h3⟩ := laws_szLinkS.val x.f1 a h0 h1 hx.1
  by_cases ht : t < 0
  · exact ⟨-1, Ev.all fun k => by unfold laws_szPiece.f; rw [h, Option.bind_some, if_pos ht], by omega, by omega⟩
  · obtain ⟨u, h4, h5, h6⟩ := laws_szTableS.ev x.f2 t (by omega) (by omega) hx.2.1 hx.2.2
    have hc : ∀ k, laws_szPiece.f k x.f0.f0 x.f0.f1 x.f1 x.f2 a = (laws_szTableS.f k x.f2 t).bind fun u => if u < 0 then some (-1) else some u := fun k => by
      unfold laws_szPiece.f
      rw [h, Option.bind_some, if_neg ht]
    by_cases hu : u < 0
    · exact ⟨-1, Ev.congr hc (Ev.bind h4 (Ev.all fun k => by rw [if_pos hu])), by omega, by omega⟩
    · exact ⟨u, Ev.congr hc (Ev.bind h4 (Ev.all fun k => by rw [if_neg hu])), by omega, fun _ => ⟨(h3 (by omega)).2, h6 (by omega)⟩⟩
theorem laws_szPiece.sum (x : S133) (a : Int) (h0 : 0 ≤ a) (h1 : a ≤ 1048576) (hx : fitP maxLen x) :
    ∃ t, Ev (fun k => laws_szPiece.f k x.f0.f0 x.f0.f1 x.f1 x.f2 a) t ∧ t ≤ a ∧ (0 ≤ t → t + (pieCost x : Int) ≤ a) := by
  obtain ⟨t, h, h2, h3⟩ := laws_szLinkS.val x.f1 a h0 h1 hx.1
  by_cases ht : t < 0
  · exact ⟨-1, Ev.all fun k => by unfold laws_szPiece.f; rw [h, Option.bind_some, if_pos ht], by omega, by omega⟩
  · obtain ⟨u, h4, h5, h6⟩ := laws_szTableS.sum x.f2 t (by omega) (by omega) hx.2.1 hx.2.2
    have hc : ∀ k, laws_szPiece.f k x.f0.f0 x.f0.f1 x.f1 x.f2 a = (laws_szTableS.f k x.f2 t).bind fun u => if u < 0 then some (-1) else some u := fun k => by
      unfold laws_szPiece.f
      rw [h, Option.bind_some, if_neg ht]
    by_cases hu : u < 0
    · exact ⟨-1, Ev.congr hc (Ev.bind h4 (Ev.all fun k => by rw [if_pos hu])), by omega, by omega⟩
    · exact ⟨u, Ev.congr hc (Ev.bind h4 (Ev.all fun k => by rw [if_neg hu])), by omega, fun _ => by have := (h3 (by omega)).1; have := h6 (by omega); unfold pieCost; omega⟩

/-! laws_szPieceS -/
theorem laws_szPieceS.ev (l : List S133) (a : Int) (h0 : 0 ≤ a) (h1 : a ≤ 1048576) (hx : fitQ maxLen l) :
    ∃ t, Ev (fun k => laws_szPieceS.f k l a) t ∧ t ≤ a ∧ (0 ≤ t → fitQ 1048576 l) := by
  obtain ⟨hl, hx⟩ := hx
  have hl' := hl
  unfold maxLen at hl'
  by_cases h : a - (l.length : Int) < 0
  · exact ⟨-1, Ev.all fun k => by unfold laws_szPieceS.f; rw [wrap_id (by omega) (by omega), if_pos h], by omega, by omega⟩
  · obtain ⟨t, ht, hle, hok⟩ := sz_loop (g := fun k a i => laws_szPieceS.l0 k l a i) l z133 (fitP 1048576) (fun a => Ev.one fun k => by simp only [laws_szPieceS.l0]; rw [if_neg (by omega)])
      (fun i a hi h0 h1 => by
        have hf := hx _ (getD_mem l z133 hi)
        obtain ⟨t, e, hle, hok⟩ := laws_szPiece.ev (l.getD i z133) a h0 h1 hf
        have hk : ∀ k, laws_szPieceS.l0 (k + 1) l a i = (laws_szPiece.f k (l.getD i z133).f0.f0 (l.getD i z133).f0.f1 (l.getD i z133).f1 (l.getD i z133).f2 a).bind fun t => if t < 0 then some (-1) else laws_szPieceS.l0 k l t ((i + 1 : Nat) : Int) := fun k => by
          simp only [laws_szPieceS.l0]
          rw [if_pos (by omega), if_pos (by omega), wrap_nat (by omega)]
          rfl
        exact ⟨t, hle, fun h => Ev.step hk (Ev.bind e (Ev.all fun k => by rw [if_pos h])), fun h => ⟨hok h, fun r hr => Ev.step hk (Ev.bind e (Ev.congr (fun k => by rw [if_neg (by omega)]) hr))⟩⟩)
      (a - l.length) (by omega) (by omega)
    exact ⟨t, Ev.congr (fun k => by unfold laws_szPieceS.f; rw [wrap_id (by omega) (by omega), if_neg h]) ht, by omega, fun h => ⟨by omega, hok h⟩⟩
theorem laws_szPieceS.sum (l : List S133) (a : Int) (h0 : 0 ≤ a) (h1 : a ≤ 1048576) (hx : fitQ maxLen l) :
    ∃ t, Ev (fun k => laws_szPieceS.f k l a) t ∧ t ≤ a ∧ (0 ≤ t → t + (progCost l : Int) ≤ a) := by
  obtain ⟨hl, hx⟩ := hx
  have hl' := hl
  unfold maxLen at hl'
  by_cases h : a - (l.length : Int) < 0
  · exact ⟨-1, Ev.all fun k => by unfold laws_szPieceS.f; rw [wrap_id (by omega) (by omega), if_pos h], by omega, by omega⟩
  · obtain ⟨t, ht, hle, hok⟩ := sz_sum (g := fun k a i => laws_szPieceS.l0 k l a i) l z133 pieCost (fun a => Ev.one fun k => by simp only [laws_szPieceS.l0]; rw [if_neg (by omega)])
      (fun i a hi h0 h1 => by
        have hf := hx _ (getD_mem l z133 hi)
        obtain ⟨t, e, hle, hok⟩ := laws_szPiece.sum (l.getD i z133) a h0 h1 hf
        have hk : ∀ k, laws_szPieceS.l0 (k + 1) l a i = (laws_szPiece.f k (l.getD i z133).f0.f0 (l.getD i z133).f0.f1 (l.getD i z133).f1 (l.getD i z133).f2 a).bind fun t => if t < 0 then some (-1) else laws_szPieceS.l0 k l t ((i + 1 : Nat) : Int) := fun k => by
          simp only [laws_szPieceS.l0]
          rw [if_pos (by omega), if_pos (by omega), wrap_nat (by omega)]
          rfl
        exact ⟨t, hle, fun h => Ev.step hk (Ev.bind e (Ev.all fun k => by rw [if_pos h])), fun h => ⟨hok h, fun r hr => Ev.step hk (Ev.bind e (Ev.congr (fun k => by rw [if_neg (by omega)]) hr))⟩⟩)
      (a - l.length) (by omega) (by omega)
    exact ⟨t, Ev.congr (fun k => by unfold laws_szPieceS.f; rw [wrap_id (by omega) (by omega), if_neg h]) ht, by omega, fun h => by have := hok h; unfold progCost; omega⟩

/-! laws_szProgram -/
theorem laws_szProgram.ev (x y z : Int) (l : List S133) (a : Int) (h0 : 0 ≤ a) (h1 : a ≤ 1048576) (hx : fitQ maxLen l) :
    ∃ t, Ev (fun k => laws_szProgram.f k x y z l a) t ∧ t ≤ a ∧ (0 ≤ t → fitQ 1048576 l) := by
  obtain ⟨t, h, h2, h3⟩ := laws_szPieceS.ev l a h0 h1 hx
  by_cases ht : t < 0
  · exact ⟨-1, Ev.bind h (Ev.all fun k => by rw [if_pos ht]), by omega, by omega⟩
  · exact ⟨t, Ev.bind h (Ev.all fun k => by rw [if_neg ht]), h2, h3⟩
theorem laws_szProgram.sum (x y z : Int) (l : List S133) (a : Int) (h0 : 0 ≤ a) (h1 : a ≤ 1048576) (hx : fitQ maxLen l) :
    ∃ t, Ev (fun k => laws_szProgram.f k x y z l a) t ∧ t ≤ a ∧ (0 ≤ t → t + (progCost l : Int) ≤ a ∧ fitQ 1048576 l) := by
  obtain ⟨t, h, h2, h3⟩ := laws_szPieceS.sum l a h0 h1 hx
  obtain ⟨t', h', _, h3'⟩ := laws_szPieceS.ev l a h0 h1 hx
  have := Ev.uniq h h'
  subst this
  by_cases ht : t < 0
  · exact ⟨-1, Ev.bind h (Ev.all fun k => by rw [if_pos ht]), by omega, by omega⟩
  · exact ⟨t, Ev.bind h (Ev.all fun k => by rw [if_neg ht]), h2, fun h => ⟨h3 h, h3' h⟩⟩

/-! laws_toIntS -/
theorem laws_toIntS.ev_l (l : List Int) (hl : l.length ≤ 1048576) : ∀ (d i : Nat) (o : List Int), i + d = l.length → o.length = l.length → o.take i = l.take i → Ev (fun k => laws_toIntS.l0 k l o i) l := by
  intro d
  induction d with
  | zero =>
    intro i o hi ho ht
    refine Ev.one fun k => ?_
    simp only [laws_toIntS.l0]
    rw [if_neg (by omega), take_full ho (by omega) ht]
  | succ d ih =>
    intro i o hi ho ht
    refine Ev.step (fun k => ?_) (ih (i + 1) (o.set i (l.getD i 0)) (by omega) (by simp [ho]) (set_take o l _ ho (get_of l 0 (by omega)) ht))
    simp only [laws_toIntS.l0]
    rw [if_pos (by omega), if_pos (by omega), if_pos (by omega), wrap_nat (by omega)]
    rfl
theorem laws_toIntS.ev (l : List Int) (hl : l.length ≤ 1048576) : Ev (fun k => laws_toIntS.f k l) l :=
  Ev.congr (fun k => by unfold laws_toIntS.f; rw [if_pos (by omega), if_pos (by omega)] <;> rfl) (laws_toIntS.ev_l l hl l.length 0 _ (by omega) (by simp) (by simp))

/-! laws_toLaw -/
theorem laws_toLaw.ev (l : List Int) (hl : l.length ≤ 1048576) : Ev (fun k => laws_toLaw.f k l) l := Ev.bind (laws_toIntS.ev l hl) (Ev.now _)

/-! laws_toLinkS -/
def cLink (x : S169) : S160 := ⟨x.f0, x.f1⟩
theorem laws_toLinkS.ev_l (l : List S169) (hl : l.length ≤ 1048576) : ∀ (d i : Nat) (o : List S160), i + d = l.length → o.length = l.length → o.take i = (l.map cLink).take i → Ev (fun k => laws_toLinkS.l0 k l o i) (l.map cLink) := by
  intro d
  induction d with
  | zero =>
    intro i o hi ho ht
    refine Ev.one fun k => ?_
    simp only [laws_toLinkS.l0]
    rw [if_neg (by omega), take_full (by simpa using ho) (by simp; omega) ht]
  | succ d ih =>
    intro i o hi ho ht
    refine Ev.step (fun k => ?_) (ih (i + 1) (o.set i (cLink (l.getD i z169))) (by omega) (by simp [ho]) (set_take o _ _ (by simpa using ho) (get_map cLink l z169 (by omega)) ht))
    simp only [laws_toLinkS.l0, laws_toLink.f, Option.bind_some]
    rw [if_pos (by omega), if_pos (by omega), if_pos (by omega), wrap_nat (by omega)]
    rfl
theorem laws_toLinkS.ev (l : List S169) (hl : l.length ≤ 1048576) : Ev (fun k => laws_toLinkS.f k l) (l.map cLink) :=
  Ev.congr (fun k => by unfold laws_toLinkS.f; rw [if_pos (by omega), if_pos (by omega)] <;> rfl) (laws_toLinkS.ev_l l hl l.length 0 _ (by omega) (by simp) (by simp))

/-! laws_toTable -/
theorem laws_toTable.ev (x : Int) (l m : List Int) (hl : l.length ≤ 1048576) (hm : m.length ≤ 1048576) : Ev (fun k => laws_toTable.f k x l m) (x, l, m) :=
  Ev.bind (laws_toIntS.ev l hl) (Ev.bind (laws_toIntS.ev m hm) (Ev.now _))

/-! d_cTable -/
def cTable (x : S167) : S80 := ⟨x.f0, x.f1, x.f2⟩

/-! laws_toTableS -/
theorem laws_toTableS.ev (l : List S167) (hl : l.length ≤ 1048576) (hx : ∀ x ∈ l, fitT 1048576 x) : Ev (fun k => laws_toTableS.f k l) (l.map cTable) := by
  refine Ev.congr (fun k => by unfold laws_toTableS.f; rw [if_pos (by omega), if_pos (by omega)] <;> rfl) (to_loop (g := fun k o i => laws_toTableS.l0 k l o i) l z167 cTable (fun o => Ev.one fun k => by simp only [laws_toTableS.l0]; rw [if_neg (by omega)]) (fun i o hi ho r hr => ?_) _ (by simp))
  have hf := hx _ (getD_mem l z167 hi)
  refine Ev.step (fun k => by simp only [laws_toTableS.l0]; rw [if_pos (by omega), if_pos (by omega), wrap_nat (by omega)]; rfl) (Ev.bind (laws_toTable.ev (l.getD i z167).f0 (l.getD i z167).f1 (l.getD i z167).f2 hf.1 hf.2) ?_)
  exact Ev.congr (fun k => by rw [if_pos (by omega)]; rfl) hr

/-! d_cPiece -/
def cPiece (x : S133) : S119 := ⟨⟨x.f0.f0, x.f0.f1⟩, x.f1.map cLink, x.f2.map cTable⟩

/-! laws_toPiece -/
theorem laws_toPiece.ev (x : S133) (hx : fitP 1048576 x) : Ev (fun k => laws_toPiece.f k x.f0.f0 x.f0.f1 x.f1 x.f2) (x.f0.f0, x.f0.f1, x.f1.map cLink, x.f2.map cTable) := by
  refine Ev.congr (fun k => by unfold laws_toPiece.f; rw [laws_toSpan.f, Option.bind_some]) ?_
  exact Ev.bind (laws_toLinkS.ev x.f1 hx.1) (Ev.bind (laws_toTableS.ev x.f2 hx.2.1 hx.2.2) (Ev.now _))

/-! laws_toPieceS -/
theorem laws_toPieceS.ev (l : List S133) (hx : fitQ 1048576 l) : Ev (fun k => laws_toPieceS.f k l) (l.map cPiece) := by
  obtain ⟨hl, hx⟩ := hx
  refine Ev.congr (fun k => by unfold laws_toPieceS.f; rw [if_pos (by omega), if_pos (by omega)] <;> rfl) (to_loop (g := fun k o i => laws_toPieceS.l0 k l o i) l z133 cPiece (fun o => Ev.one fun k => by simp only [laws_toPieceS.l0]; rw [if_neg (by omega)]) (fun i o hi ho r hr => ?_) _ (by simp))
  have hf := hx _ (getD_mem l z133 hi)
  refine Ev.step (fun k => by simp only [laws_toPieceS.l0]; rw [if_pos (by omega), if_pos (by omega), wrap_nat (by omega)]; rfl) (Ev.bind (laws_toPiece.ev (l.getD i z133) hf) ?_)
  exact Ev.congr (fun k => by rw [if_pos (by omega)]; rfl) hr

/-! laws_toProgram -/
theorem laws_toProgram.ev (x y z : Int) (l : List S133) (hx : fitQ 1048576 l) : Ev (fun k => laws_toProgram.f k x y z l) (x, y, z, l.map cPiece) := Ev.bind (laws_toPieceS.ev l hx) (Ev.now _)

/-! laws_eqIntS -/
theorem laws_eqIntS.ev_l (l : List Int) (hl : l.length ≤ 1048576) : ∀ (d i : Nat), i + d = l.length → Ev (fun k => laws_eqIntS.l0 k l l i) true := by
  intro d
  induction d with
  | zero => intro i hi; refine Ev.one fun k => ?_; simp only [laws_eqIntS.l0]; rw [if_neg (by omega)]
  | succ d ih =>
    intro i hi
    refine Ev.step (fun k => ?_) (ih (i + 1) (by omega))
    simp only [laws_eqIntS.l0]
    rw [if_pos (by omega), if_pos (by omega), if_pos (by omega), if_pos trivial, wrap_nat (by omega)]
theorem laws_eqIntS.ev (l : List Int) (hl : l.length ≤ 1048576) : Ev (fun k => laws_eqIntS.f k l l) true :=
  Ev.congr (fun k => by unfold laws_eqIntS.f; rw [if_pos rfl] <;> rfl) (laws_eqIntS.ev_l l hl l.length 0 (by omega))
theorem laws_eqIntS.ev' (l : List Int) (hl : l.length ≤ 4000000) : Ev (fun k => laws_eqIntS.f k l l) true := by
  refine Ev.congr (fun k => by unfold laws_eqIntS.f; rw [if_pos rfl]) (all_loop (g := fun k i => laws_eqIntS.l0 k l l i) l.length (Ev.one fun k => by simp only [laws_eqIntS.l0]; rw [if_neg (by omega)]) (fun i hi r hr => Ev.step (fun k => ?_) hr))
  simp only [laws_eqIntS.l0]
  rw [if_pos (by omega), if_pos (by omega), if_pos (by omega), if_pos trivial, wrap_nat (by omega)]

/-! laws_eqLaw -/
theorem laws_eqLaw.ev (l : List Int) (hl : l.length ≤ 1048576) : Ev (fun k => laws_eqLaw.f k l l) true := Ev.bind (laws_eqIntS.ev l hl) (Ev.all fun k => rfl)

/-! laws_eqSpan -/
theorem laws_eqSpan.val (a b : Int) : laws_eqSpan.f a b a b = some true := by
  unfold laws_eqSpan.f
  simp

/-! laws_eqLink -/
theorem laws_eqLink.val (x : S160) : laws_eqLink.f x.f0 x.f1 x.f0 x.f1 = some true := by
  unfold laws_eqLink.f
  simp

/-! laws_eqLinkS -/
theorem laws_eqLinkS.ev_l (l : List S160) (hl : l.length ≤ 1048576) : ∀ (d i : Nat), i + d = l.length → Ev (fun k => laws_eqLinkS.l0 k l l i) true := by
  intro d
  induction d with
  | zero => intro i hi; refine Ev.one fun k => ?_; simp only [laws_eqLinkS.l0]; rw [if_neg (by omega)]
  | succ d ih =>
    intro i hi
    refine Ev.step (fun k => ?_) (ih (i + 1) (by omega))
    simp only [laws_eqLinkS.l0, laws_eqLink.val, Option.bind_some]
    rw [if_pos (by omega), if_pos (by omega), if_pos (by omega), if_pos trivial, wrap_nat (by omega)]
theorem laws_eqLinkS.ev (l : List S160) (hl : l.length ≤ 1048576) : Ev (fun k => laws_eqLinkS.f k l l) true :=
  Ev.congr (fun k => by unfold laws_eqLinkS.f; rw [if_pos rfl] <;> rfl) (laws_eqLinkS.ev_l l hl l.length 0 (by omega))

/-! laws_eqTable -/
theorem laws_eqTable.ev (x : Int) (l m : List Int) (hl : l.length ≤ 1048576) (hm : m.length ≤ 1048576) : Ev (fun k => laws_eqTable.f k x l m x l m) true := by
  refine Ev.congr (fun k => by unfold laws_eqTable.f; rw [if_pos rfl]) (Ev.bind (laws_eqIntS.ev l hl) ?_)
  exact Ev.congr (fun k => by rw [if_pos rfl]) (Ev.bindT (laws_eqIntS.ev m hm))

/-! laws_eqTableS -/
theorem laws_eqTableS.ev (l : List S80) (hl : l.length ≤ 1048576) (hx : ∀ x ∈ l, fitTi 1048576 x) : Ev (fun k => laws_eqTableS.f k l l) true := by
  refine Ev.congr (fun k => by unfold laws_eqTableS.f; rw [if_pos rfl]) (all_loop (g := fun k i => laws_eqTableS.l0 k l l i) l.length (Ev.one fun k => by simp only [laws_eqTableS.l0]; rw [if_neg (by omega)]) (fun i hi r hr => ?_))
  have hf := hx _ (getD_mem l z80 hi)
  refine Ev.step (fun k => by simp only [laws_eqTableS.l0]; rw [if_pos (by omega), if_pos (by omega), if_pos (by omega), wrap_nat (by omega)]; rfl) (Ev.bind (laws_eqTable.ev (l.getD i z80).f0 (l.getD i z80).f1 (l.getD i z80).f2 hf.1 hf.2) ?_)
  exact Ev.congr (fun k => by rw [if_pos rfl]) hr

/-! laws_eqPiece -/
theorem laws_eqPiece.ev (x : S119) (hx : fitPi 1048576 x) : Ev (fun k => laws_eqPiece.f k x.f0.f0 x.f0.f1 x.f1 x.f2 x.f0.f0 x.f0.f1 x.f1 x.f2) true := by
  refine Ev.congr (fun k => by unfold laws_eqPiece.f; rw [laws_eqSpan.val, Option.bind_some, if_pos rfl]) (Ev.bind (laws_eqLinkS.ev x.f1 hx.1) ?_)
  exact Ev.congr (fun k => by rw [if_pos rfl]) (Ev.bindT (laws_eqTableS.ev x.f2 hx.2.1 hx.2.2))

/-! laws_eqPieceS -/
theorem laws_eqPieceS.ev (l : List S119) (hx : fitQi 1048576 l) : Ev (fun k => laws_eqPieceS.f k l l) true := by
  obtain ⟨hl, hx⟩ := hx
  refine Ev.congr (fun k => by unfold laws_eqPieceS.f; rw [if_pos rfl]) (all_loop (g := fun k i => laws_eqPieceS.l0 k l l i) l.length (Ev.one fun k => by simp only [laws_eqPieceS.l0]; rw [if_neg (by omega)]) (fun i hi r hr => ?_))
  have hf := hx _ (getD_mem l z119 hi)
  refine Ev.step (fun k => by simp only [laws_eqPieceS.l0]; rw [if_pos (by omega), if_pos (by omega), if_pos (by omega), wrap_nat (by omega)]; rfl) (Ev.bind (laws_eqPiece.ev (l.getD i z119) hf) ?_)
  exact Ev.congr (fun k => by rw [if_pos rfl]) hr

/-! laws_eqProgram -/
theorem laws_eqProgram.ev (x y z : Int) (l : List S119) (hx : fitQi 1048576 l) : Ev (fun k => laws_eqProgram.f k x y z l x y z l) true := by
  refine Ev.congr (fun k => by unfold laws_eqProgram.f; rw [if_pos rfl, if_pos rfl, if_pos rfl]) (Ev.bindT (laws_eqPieceS.ev l hx))

/-! laws_szFlowS -/
theorem laws_szFlowS.val (l : List S87) (a : Int) (h0 : 0 ≤ a) (h1 : a ≤ 1048576) (hl : l.length ≤ maxLen) :
    ∃ t, laws_szFlowS.f l a = some t ∧ t ≤ a ∧ (0 ≤ t → t = a - l.length ∧ l.length ≤ 1048576) := by
  unfold maxLen at hl
  unfold laws_szFlowS.f
  rw [wrap_id (by omega) (by omega)]
  by_cases h : a - (l.length : Int) < 0
  · rw [if_pos h]; exact ⟨_, rfl, by omega, by omega⟩
  · rw [if_neg h]; exact ⟨_, rfl, by omega, by omega⟩

/-! spec_l15Has -/
theorem spec_l15Has.ev (l : List Int) (a : Int) (hl : l.length ≤ 1048576) : Ev (fun k => spec_l15Has.f k l a) (hasB l a) := by
  have h := find_list (g := fun k i => spec_l15Has.l0 k l a i) (q := fun x => x == a) (r := true) (e := false) l 0
    (Ev.one fun k => by simp only [spec_l15Has.l0]; rw [if_neg (by omega)])
    (fun i k hi => by
      simp only [spec_l15Has.l0]
      rw [if_pos (by omega), if_pos (by omega), wrap_nat (by omega), rd_nat]
      by_cases h : l.getD i 0 = a
      · rw [if_pos h, if_pos (by simpa using h)]
      · rw [if_neg h, if_neg (by simpa using h)])
  rw [ite_bool] at h
  exact h

/-! d_landB -/
def landB (l : List Int) (a b i : Int) : Bool := decide (0 ≤ i) && decide (i < a) && (decide (i < b) || hasB l i)

/-! spec_IsLanding -/
theorem spec_IsLanding.ev (l : List Int) (a b c : Int) (m : List S119) (i : Int) (hl : l.length ≤ 1048576) : Ev (fun k => spec_IsLanding.f k l a b c m i) (landB l a b i) := by
  unfold landB
  by_cases h : i ≥ 0
  · rw [decide_eq_true (show 0 ≤ i from h), Bool.true_and]
    refine Ev.congr (fun k => by unfold spec_IsLanding.f; rw [if_pos h]) ?_
    by_cases h2 : i < a
    · rw [decide_eq_true h2, Bool.true_and]
      refine Ev.congr (fun k => by rw [if_pos h2]) ?_
      by_cases h3 : i < b
      · exact Ev.all fun k => by rw [if_pos h3, decide_eq_true h3]; rfl
      · rw [decide_eq_false h3, Bool.false_or]
        exact Ev.congr (fun k => by rw [if_neg h3]) (Ev.bind (spec_l15Has.ev l i hl) (Ev.now _))
    · exact Ev.all fun k => by rw [if_neg h2, decide_eq_false h2]; rfl
  · exact Ev.all fun k => by unfold spec_IsLanding.f; rw [if_neg h, decide_eq_false (show ¬ 0 ≤ i by omega)]; rfl

/-! d_lawful -/
def lawful (l : List Int) (a b : Int) (fs : List S86) : List S86 := (List.range' 0 fs.length).foldl (fun o j => if landB l a b (rd_T86 fs ((j : Nat) : Int)).f2 = true then o ++ [rd_T86 fs ((j : Nat) : Int)] else o) []
theorem lawful_len (l : List Int) (a b : Int) (fs : List S86) : (lawful l a b fs).length ≤ fs.length := by
  have : ∀ d i (o : List S86), ((List.range' i d).foldl (fun o j => if landB l a b (rd_T86 fs ((j : Nat) : Int)).f2 = true then o ++ [rd_T86 fs ((j : Nat) : Int)] else o) o).length ≤ o.length + d := by
    intro d
    induction d with
    | zero => intro i o; exact Nat.le_refl _
    | succ d ih =>
      intro i o
      rw [List.range'_succ, List.foldl_cons]
      refine Nat.le_trans (ih (i + 1) _) ?_
      split
      · rw [List.length_append, List.length_singleton]; omega
      · omega
  have h := this fs.length 0 []
  simpa [lawful] using h

/-! spec_LawfulFlows -/
theorem spec_LawfulFlows.ev (l : List Int) (a b c : Int) (m : List S119) (fs : List S86) (hl : l.length ≤ 1048576) (hf : fs.length ≤ 1048576) : Ev (fun k => spec_LawfulFlows.f k l a b c m fs) (lawful l a b fs) := by
  refine foldE_index (g := fun k o i => spec_LawfulFlows.l0 k fs o i l a b c m) (f := fun j o => if landB l a b (rd_T86 fs ((j : Nat) : Int)).f2 = true then o ++ [rd_T86 fs ((j : Nat) : Int)] else o) (fin := fun o => o) (fun i o => o.length ≤ i) fs.length [] (by simp) (fun o _ => Ev.one fun k => by simp only [spec_LawfulFlows.l0]; rw [if_neg (by omega)]) (fun i o hi hI => ⟨ite_snoc_len o _ hI, fun R hR => ?_⟩)
  refine Ev.step (fun k => by simp only [spec_LawfulFlows.l0]; rw [if_pos (by omega), if_pos (by omega), wrap_nat (by omega)]) (Ev.bind (spec_IsLanding.ev l a b c m _ hl) ?_)
  by_cases h : landB l a b (rd_T86 fs ((i : Nat) : Int)).f2 = true
  · rw [if_pos h] at hR
    exact Ev.congr (fun k => by rw [if_pos h, if_pos (by omega)]) hR
  · rw [if_neg h] at hR
    exact Ev.congr (fun k => by rw [if_neg h]) hR

/-! laws_toFlowS -/
def cFlow (x : S87) : S86 := ⟨x.f0, x.f1, x.f2, x.f3⟩
theorem laws_toFlowS.ev_l (l : List S87) (hl : l.length ≤ 1048576) : ∀ (d i : Nat) (o : List S86), i + d = l.length → o.length = l.length → o.take i = (l.map cFlow).take i → Ev (fun k => laws_toFlowS.l0 k l o i) (l.map cFlow) := by
  intro d
  induction d with
  | zero =>
    intro i o hi ho ht
    refine Ev.one fun k => ?_
    simp only [laws_toFlowS.l0]
    rw [if_neg (by omega), take_full (by simpa using ho) (by simp; omega) ht]
  | succ d ih =>
    intro i o hi ho ht
    refine Ev.step (fun k => ?_) (ih (i + 1) (o.set i (cFlow (l.getD i z87))) (by omega) (by simp [ho]) (set_take o _ _ (by simpa using ho) (get_map cFlow l z87 (by omega)) ht))
    simp only [laws_toFlowS.l0, laws_toFlow.f, Option.bind_some]
    rw [if_pos (by omega), if_pos (by omega), if_pos (by omega), wrap_nat (by omega)]
    rfl
theorem laws_toFlowS.ev (l : List S87) (hl : l.length ≤ 1048576) : Ev (fun k => laws_toFlowS.f k l) (l.map cFlow) :=
  Ev.congr (fun k => by unfold laws_toFlowS.f; rw [if_pos (by omega), if_pos (by omega)] <;> rfl) (laws_toFlowS.ev_l l hl l.length 0 _ (by omega) (by simp) (by simp))

/-! impl_isIndex -/
theorem impl_isIndex.val (a n : Int) : impl_isIndex.f a n = some (decide (0 ≤ a) && decide (a < n)) := by
  unfold impl_isIndex.f
  by_cases h : a ≥ 0
  · rw [if_pos h]; simp [h]
  · rw [if_neg h]; simp; omega
theorem impl_isIndex.nat (a : Int) (n : Nat) : impl_isIndex.f a (n : Int) = some (idxB a n) := impl_isIndex.val a n

/-! slices_Index_int_int -/
theorem slices_Index_int_int.ev_l (l : List Int) (a : Int) (hl : l.length ≤ 1048576) : ∀ (d i : Nat), i + d = l.length → ∃ r, Ev (fun k => slices_Index_int_int.l0 k l a l.length i) r ∧ decide (r ≥ 0) = (l.drop i).any (fun x => x == a) := by
  intro d
  induction d with
  | zero =>
    intro i hi
    exact ⟨-1, Ev.one fun k => by simp only [slices_Index_int_int.l0]; rw [if_neg (by omega)], by rw [List.drop_eq_nil_of_le (by omega)]; rfl⟩
  | succ d ih =>
    intro i hi
    rw [drop_cons l 0 (show i < l.length by omega), List.any_cons]
    by_cases h : a = l.getD i 0
    · refine ⟨(i : Int), Ev.one fun k => ?_, ?_⟩
      · simp only [slices_Index_int_int.l0]
        rw [if_pos (by omega), if_pos (by omega), if_pos (by omega), rd_nat, if_pos h]
      · rw [← h]; simp
    · obtain ⟨r, hr, hd⟩ := ih (i + 1) (by omega)
      refine ⟨r, Ev.step (fun k => ?_) hr, ?_⟩
      · simp only [slices_Index_int_int.l0]
        rw [if_pos (by omega), if_pos (by omega), if_pos (by omega), rd_nat, if_neg h, wrap_nat (by omega)]
      · have : (l.getD i 0 == a) = false := by rw [beq_eq_false_iff_ne]; exact fun e => h e.symm
        rw [this, Bool.false_or, hd]
theorem slices_Index_int_int.ev (l : List Int) (a : Int) (hl : l.length ≤ 1048576) : ∃ r, Ev (fun k => slices_Index_int_int.f k l a) r ∧ decide (r ≥ 0) = hasB l a := by
  have := slices_Index_int_int.ev_l l a hl l.length 0 (by omega)
  rw [List.drop_zero] at this
  exact this

/-! slices_Contains_int_int -/
theorem slices_Contains_int_int.ev (l : List Int) (a : Int) (hl : l.length ≤ 1048576) : Ev (fun k => slices_Contains_int_int.f k l a) (hasB l a) := by
  obtain ⟨r, hr, e⟩ := slices_Index_int_int.ev l a hl
  rw [← e]
  exact Ev.bind hr (Ev.now _)

/-! impl_IsLanding -/
theorem impl_IsLanding.ev (l : List Int) (a b c : Int) (m : List S119) (i : Int) (hl : l.length ≤ 1048576) : Ev (fun k => impl_IsLanding.f k l a b c m i) (landB l a b i) := by
  unfold landB
  by_cases h : i ≥ 0
  · rw [decide_eq_true (show 0 ≤ i from h), Bool.true_and]
    refine Ev.congr (fun k => by unfold impl_IsLanding.f impl_isIndex.f; rw [if_pos h, Option.bind_some]) ?_
    by_cases h2 : i < a
    · rw [decide_eq_true h2, Bool.true_and]
      refine Ev.congr (fun k => by rw [if_pos rfl]) ?_
      by_cases h3 : i < b
      · exact Ev.all fun k => by rw [if_pos h3, decide_eq_true h3]; rfl
      · rw [decide_eq_false h3, Bool.false_or]
        exact Ev.congr (fun k => by rw [if_neg h3]) (Ev.bind (slices_Contains_int_int.ev l i hl) (Ev.now _))
    · exact Ev.all fun k => by rw [decide_eq_false h2, if_neg (by simp)]; rfl
  · exact Ev.all fun k => by unfold impl_IsLanding.f impl_isIndex.f; rw [if_neg h, Option.bind_some, if_neg (by simp), decide_eq_false (show ¬ 0 ≤ i by omega)]; rfl

/-! impl_LawfulFlows -/
theorem impl_LawfulFlows.ev (l : List Int) (a b c : Int) (m : List S119) (fs : List S86) (hl : l.length ≤ 1048576) (hf : fs.length ≤ 1048576) : Ev (fun k => impl_LawfulFlows.f k l a b c m fs) (lawful l a b fs) := by
  refine foldE_index (g := fun k o i => impl_LawfulFlows.l0 k o fs fs.length i l a b c m) (f := fun j o => if landB l a b (rd_T86 fs ((j : Nat) : Int)).f2 = true then o ++ [rd_T86 fs ((j : Nat) : Int)] else o) (fin := fun o => o) (fun i o => o.length ≤ i) fs.length [] (by simp) (fun o _ => Ev.one fun k => by simp only [impl_LawfulFlows.l0]; rw [if_neg (by omega)]) (fun i o hi hI => ⟨ite_snoc_len o _ hI, fun R hR => ?_⟩)
  refine Ev.step (fun k => by simp only [impl_LawfulFlows.l0]; rw [if_pos (by omega), if_pos (by omega), if_pos (by omega), wrap_nat (by omega)]) (Ev.bind (impl_IsLanding.ev l a b c m _ hl) ?_)
  by_cases h : landB l a b (rd_T86 fs ((i : Nat) : Int)).f2 = true
  · rw [if_pos h] at hR
    exact Ev.congr (fun k => by rw [if_pos h, if_pos (by omega)]) hR
  · rw [if_neg h] at hR
    exact Ev.congr (fun k => by rw [if_neg h]) hR

/-! laws_eqFlow -/
theorem laws_eqFlow.val (x : S86) : laws_eqFlow.f x.f0 x.f1 x.f2 x.f3 x.f0 x.f1 x.f2 x.f3 = some true := by
  unfold laws_eqFlow.f
  simp

/-! laws_eqFlowS -/
theorem laws_eqFlowS.ev_l (l : List S86) (hl : l.length ≤ 1048576) : ∀ (d i : Nat), i + d = l.length → Ev (fun k => laws_eqFlowS.l0 k l l i) true := by
  intro d
  induction d with
  | zero => intro i hi; refine Ev.one fun k => ?_; simp only [laws_eqFlowS.l0]; rw [if_neg (by omega)]
  | succ d ih =>
    intro i hi
    refine Ev.step (fun k => ?_) (ih (i + 1) (by omega))
    simp only [laws_eqFlowS.l0, laws_eqFlow.val, Option.bind_some]
    rw [if_pos (by omega), if_pos (by omega), if_pos (by omega), if_pos trivial, wrap_nat (by omega)]
theorem laws_eqFlowS.ev (l : List S86) (hl : l.length ≤ 1048576) : Ev (fun k => laws_eqFlowS.f k l l) true :=
  Ev.congr (fun k => by unfold laws_eqFlowS.f; rw [if_pos rfl] <;> rfl) (laws_eqFlowS.ev_l l hl l.length 0 (by omega))

/-! laws_markIntS -/
theorem laws_markIntS.ev_l (a : Int) (n : Nat) (h0 : 0 ≤ a) (h1 : a + n ≤ 4611686018427387904) : ∀ (d i : Nat) (o : List Int), i + d = n → o.length = n → o.take i = (marks a n).take i →
    Ev (fun k => laws_markIntS.l0 k o (a + i) i) (a + n, marks a n) := by
  intro d
  induction d with
  | zero =>
    intro i o hi ho ht
    refine Ev.one fun k => ?_
    simp only [laws_markIntS.l0]
    rw [if_neg (by omega), take_full (by rw [marks_length]; exact ho) (by rw [marks_length]; omega) ht, show i = n by omega]
  | succ d ih =>
    intro i o hi ho ht
    refine Ev.step (fun k => ?_) (ih (i + 1) (o.set i (a + i)) (by omega) (by simp [ho]) (set_take o _ _ (by rw [marks_length]; exact ho) (marks_get a n i (by omega)) ht))
    simp only [laws_markIntS.l0]
    rw [if_pos (by omega), if_pos (by omega), wrap_nat (by omega), wrap_id (by omega) (by omega)]
    rw [show a + (i : Int) + 1 = a + ((i + 1 : Nat) : Int) by omega]
    rfl
theorem laws_markIntS.ev (l : List Int) (a : Int) (h0 : 0 ≤ a) (h1 : a + l.length ≤ 4611686018427387904) : Ev (fun k => laws_markIntS.f k l a) (a + l.length, marks a l.length) := by
  have := laws_markIntS.ev_l a l.length h0 h1 l.length 0 l (by omega) rfl (by simp)
  rw [show a + ((0 : Nat) : Int) = a by omega] at this
  exact this

/-! laws_markLaw -/
theorem laws_markLaw.ev (l : List Int) (a : Int) (h0 : 0 ≤ a) (h1 : a + l.length ≤ 4611686018427387904) : Ev (fun k => laws_markLaw.f k l a) (a + l.length, marks a l.length) := Ev.bind (laws_markIntS.ev l a h0 h1) (Ev.now _)

/-! laws_markLinkS -/
def mkLink (a : Int) (j : Nat) : S160 := ⟨a + 2 * (j : Int), a + 2 * (j : Int) + 1⟩
def marksLink (a : Int) (n : Nat) : List S160 := (List.range n).map (mkLink a)
theorem marksLink_length (a : Int) (n : Nat) : (marksLink a n).length = n := by simp [marksLink]
theorem marksLink_get (a : Int) (n i : Nat) (h : i < n) : (marksLink a n)[i]? = some (mkLink a i) := by simp [marksLink, h]
theorem marksLink_getD (a : Int) (n i : Nat) (h : i < n) : (marksLink a n).getD i z160 = mkLink a i := by rw [List.getD_eq_getElem?_getD, marksLink_get a n i h]; rfl
theorem laws_markLinkS.ev_l (a : Int) (n : Nat) (h0 : 0 ≤ a) (h1 : a + 2 * n ≤ 4611686018427387904) : ∀ (d i : Nat) (o : List S160), i + d = n → o.length = n → o.take i = (marksLink a n).take i →
    Ev (fun k => laws_markLinkS.l0 k o (a + 2 * (i : Int)) i) (a + 2 * (n : Int), marksLink a n) := by
  intro d
  induction d with
  | zero =>
    intro i o hi ho ht
    refine Ev.one fun k => ?_
    simp only [laws_markLinkS.l0]
    rw [if_neg (by omega), take_full (by rw [marksLink_length]; exact ho) (by rw [marksLink_length]; omega) ht, show i = n by omega]
  | succ d ih =>
    intro i o hi ho ht
    refine Ev.step (fun k => ?_) (ih (i + 1) (o.set i (mkLink a i)) (by omega) (by simp [ho]) (set_take o _ _ (by rw [marksLink_length]; exact ho) (marksLink_get a n i (by omega)) ht))
    have e : ∀ v, rd_T160 (o.set i v) (i : Int) = v := fun v => getD_set_self o _ v (by omega)
    simp only [laws_markLinkS.l0, Option.bind_some, Int.toNat_natCast, e, List.set_set]
    rw [if_pos (by omega), if_pos (by omega), wrap_nat (by omega)]
    rw [wrap_id (x := a + 2 * (i : Int) + 1) (by omega) (by omega)]
    rw [wrap_id (x := a + 2 * (i : Int) + 1 + 1) (by omega) (by omega)]
    rw [show a + 2 * (i : Int) + 1 + 1 = a + 2 * ((i + 1 : Nat) : Int) by omega]
    rfl
theorem laws_markLinkS.ev (l : List S160) (a : Int) (h0 : 0 ≤ a) (h1 : a ≤ 4000000000) (hl : l.length ≤ 1048576) : Ev (fun k => laws_markLinkS.f k l a) (a + 2 * (l.length : Int), marksLink a l.length) := by
  have := laws_markLinkS.ev_l a l.length h0 (by omega) l.length 0 l (by omega) rfl (by simp)
  rw [show a + 2 * ((0 : Nat) : Int) = a by omega] at this
  exact this

/-! laws_markProgram -/
theorem laws_markProgram.val (x y z : Int) (p : List S119) (a : Int) (h0 : 0 ≤ a) (h : a + (pieSize_ (pieShape_ p) : Int) ≤ 4000000000) : laws_markProgram.f x y z p a = some (a + (pieSize_ (pieShape_ p) : Int)) := if_pos ⟨h0, h⟩
theorem tab_cost : ∀ l : List S167, tabSize_ (tabShape_ (l.map cTable)) = tabsCost l
  | [] => rfl
  | x :: l => by
    have := tab_cost l
    unfold tabSize_ tabShape_ tabsCost at this ⊢
    simp only [List.map_cons, List.sum_cons, List.length_cons, cTable] at this ⊢
    omega
theorem pie_cost : ∀ l : List S133, pieSize_ (pieShape_ (l.map cPiece)) ≤ 2 * progCost l
  | [] => Nat.le_refl _
  | x :: l => by
    have h := pie_cost l
    have h2 := tab_cost x.f2
    unfold pieSize_ pieShape_ progCost at h ⊢
    simp only [List.map_cons, List.sum_cons, List.length_cons, cPiece, List.length_map] at h ⊢
    rw [h2, show pieCost x = x.f1.length + tabsCost x.f2 from rfl]
    omega

/-! laws_markFlowS -/
def mkFlow (a : Int) (j : Nat) : S86 := ⟨a + 4 * (j : Int), a + 4 * (j : Int) + 1, a + 4 * (j : Int) + 1 + 1, a + 4 * (j : Int) + 1 + 1 + 1⟩
def marksFlow (a : Int) (n : Nat) : List S86 := (List.range n).map (mkFlow a)
theorem marksFlow_length (a : Int) (n : Nat) : (marksFlow a n).length = n := by simp [marksFlow]
theorem marksFlow_get (a : Int) (n i : Nat) (h : i < n) : (marksFlow a n)[i]? = some (mkFlow a i) := by simp [marksFlow, h]
theorem marksFlow_getD (a : Int) (n i : Nat) (h : i < n) : (marksFlow a n).getD i z86 = mkFlow a i := by rw [List.getD_eq_getElem?_getD, marksFlow_get a n i h]; rfl
theorem laws_markFlowS.ev_l (a : Int) (n : Nat) (h0 : 0 ≤ a) (h1 : a + 4 * n ≤ 4611686018427387904) : ∀ (d i : Nat) (o : List S86), i + d = n → o.length = n → o.take i = (marksFlow a n).take i →
    Ev (fun k => laws_markFlowS.l0 k o (a + 4 * (i : Int)) i) (a + 4 * (n : Int), marksFlow a n) := by
  intro d
  induction d with
  | zero =>
    intro i o hi ho ht
    refine Ev.one fun k => ?_
    simp only [laws_markFlowS.l0]
    rw [if_neg (by omega), take_full (by rw [marksFlow_length]; exact ho) (by rw [marksFlow_length]; omega) ht, show i = n by omega]
  | succ d ih =>
    intro i o hi ho ht
    refine Ev.step (fun k => ?_) (ih (i + 1) (o.set i (mkFlow a i)) (by omega) (by simp [ho]) (set_take o _ _ (by rw [marksFlow_length]; exact ho) (marksFlow_get a n i (by omega)) ht))
    have e : ∀ v, rd_T86 (o.set i v) (i : Int) = v := fun v => getD_set_self o _ v (by omega)
    simp only [laws_markFlowS.l0, Option.bind_some, Int.toNat_natCast, e, List.set_set]
    rw [if_pos (by omega), if_pos (by omega), wrap_nat (by omega)]
    rw [wrap_id (x := a + 4 * (i : Int) + 1) (by omega) (by omega)]
    rw [wrap_id (x := a + 4 * (i : Int) + 1 + 1) (by omega) (by omega)]
    rw [wrap_id (x := a + 4 * (i : Int) + 1 + 1 + 1) (by omega) (by omega)]
    rw [wrap_id (x := a + 4 * (i : Int) + 1 + 1 + 1 + 1) (by omega) (by omega)]
    rw [show a + 4 * (i : Int) + 1 + 1 + 1 + 1 = a + 4 * ((i + 1 : Nat) : Int) by omega]
    rfl
theorem laws_markFlowS.ev (l : List S86) (a : Int) (h0 : 0 ≤ a) (h1 : a ≤ 4000000000) (hl : l.length ≤ 1048576) : Ev (fun k => laws_markFlowS.f k l a) (a + 4 * (l.length : Int), marksFlow a l.length) := by
  have := laws_markFlowS.ev_l a l.length h0 (by omega) l.length 0 l (by omega) rfl (by simp)
  rw [show a + 4 * ((0 : Nat) : Int) = a by omega] at this
  exact this

/-! laws_heldFlowS -/
theorem laws_heldFlowS.ev_l (a : Int) (n : Nat) (h0 : 0 ≤ a) (h1 : a + 4 * n ≤ 4611686018427387904) : ∀ (d i : Nat), i + d = n → Ev (fun k => laws_heldFlowS.l0 k (marksFlow a n) (a + 4 * (i : Int)) i) (a + 4 * (n : Int)) := by
  intro d
  induction d with
  | zero =>
    intro i hi
    refine Ev.one fun k => ?_
    simp only [laws_heldFlowS.l0]
    rw [if_neg (by rw [marksFlow_length]; omega), show i = n by omega]
  | succ d ih =>
    intro i hi
    refine Ev.step (fun k => ?_) (ih (i + 1) (by omega))
    have e : rd_T86 (marksFlow a n) (i : Int) = mkFlow a i := marksFlow_getD a n i (by omega)
    simp only [laws_heldFlowS.l0, e]
    rw [if_pos (by rw [marksFlow_length]; omega), if_pos (by omega), wrap_nat (by omega)]
    rw [wrap_id (x := a + 4 * (i : Int) + 1) (by omega) (by omega)]
    rw [wrap_id (x := a + 4 * (i : Int) + 1 + 1) (by omega) (by omega)]
    rw [wrap_id (x := a + 4 * (i : Int) + 1 + 1 + 1) (by omega) (by omega)]
    rw [wrap_id (x := a + 4 * (i : Int) + 1 + 1 + 1 + 1) (by omega) (by omega)]
    simp only [mkFlow, if_true]
    rw [show a + 4 * (i : Int) + 1 + 1 + 1 + 1 = a + 4 * ((i + 1 : Nat) : Int) by omega]
theorem laws_heldFlowS.ev (a : Int) (n : Nat) (h0 : 0 ≤ a) (h1 : a ≤ 4000000000) (hn : n ≤ 1048576) : Ev (fun k => laws_heldFlowS.f k (marksFlow a n) a) (a + 4 * (n : Int)) := by
  have := laws_heldFlowS.ev_l a n h0 (by omega) n 0 (by omega)
  rw [show a + 4 * ((0 : Nat) : Int) = a by omega] at this
  exact this

/-! d_wQ -/
theorem fit_of {l : List S133} (h : l.length ≤ maxLen ∧ ∀ e_ ∈ l, W133 e_) : fitQ maxLen l :=
  ⟨h.1, fun x hx => ⟨(h.2 x hx).2.1.1, (h.2 x hx).2.2.1, fun t ht => ⟨((h.2 x hx).2.2.2 t ht).2.1.1, ((h.2 x hx).2.2.2 t ht).2.2.1⟩⟩⟩

/-! d_fitMap -/
theorem fit_map {n : Nat} {l : List S133} (h : fitQ n l) : fitQi n (l.map cPiece) := by
  refine ⟨by simpa using h.1, fun x hx => ?_⟩
  obtain ⟨y, hy, rfl⟩ := List.mem_map.1 hx
  obtain ⟨h1, h2, h3⟩ := h.2 y hy
  refine ⟨by simpa [cPiece] using h1, by simpa [cPiece] using h2, fun t ht => ?_⟩
  obtain ⟨u, hu, rfl⟩ := List.mem_map.1 ht
  exact h3 u hu

/-! @@ FnExactLawfulFlows -/
theorem proved : Stated := by
  intro l a b c m fs ⟨hl, hw⟩ _ _ _ hm hfs
  refine Ev.rounds ?_
  obtain ⟨t, ht, hle, hp⟩ := laws_szLaw.val l 1048576 (by omega) (by omega) hl
  refine Ev.congr (fun k => by unfold laws_FnExactLawfulFlows.f; rw [ht, Option.bind_some]) ?_
  by_cases h : t < 0
  · exact Ev.all fun k => by rw [if_pos h]
  obtain ⟨_, hl2⟩ := hp (by omega)
  obtain ⟨u, hu, hle2, hq⟩ := laws_szProgram.sum a b c m t (by omega) (by omega) (fit_of hm)
  refine Ev.congr (fun k => by rw [if_neg h]) (Ev.bind hu ?_)
  by_cases h' : u < 0
  · exact Ev.all fun k => by rw [if_pos h']
  obtain ⟨hcost, hq⟩ := hq (by omega)
  have hq2 := fit_map hq
  have hpc := pie_cost m
  obtain ⟨v, hv, hle3, hp3⟩ := laws_szFlowS.val fs u (by omega) (by omega) hfs.1
  refine Ev.congr (fun k => by rw [if_neg h', hv, Option.bind_some]) ?_
  by_cases h'' : v < 0
  · exact Ev.all fun k => by rw [if_pos h'']
  obtain ⟨_, hf2⟩ := hp3 (by omega)
  have hf3 : (fs.map cFlow).length ≤ 1048576 := by simpa using hf2
  have hs := spec_LawfulFlows.ev l a b c (m.map cPiece) _ hl2 hf3
  have hi := impl_LawfulFlows.ev l a b c (m.map cPiece) _ hl2 hf3
  have hlen := lawful_len l a b (fs.map cFlow)
  generalize lawful l a b (fs.map cFlow) = R at hs hi hlen
  have hR : Ev (fun k => laws_eqFlowS.f k R R) true := laws_eqFlowS.ev R (by omega)
  have hfl : (fs.map cFlow).length = fs.length := List.length_map _
  refine Ev.congr (fun k => by rw [if_neg h'']) (Ev.bind (laws_toLaw.ev l hl2) (Ev.bind (laws_toProgram.ev a b c m hq) (Ev.bind (laws_toFlowS.ev fs hf2) (Ev.bind hs (Ev.bind (laws_toLaw.ev l hl2) (Ev.bind (laws_toProgram.ev a b c m hq) (Ev.bind (laws_toFlowS.ev fs hf2) (Ev.bind hi (Ev.bind hR ?_)))))))))
  refine Ev.congr (fun k => by rw [if_pos rfl]) (Ev.bind (laws_toLaw.ev l hl2) (Ev.bind (laws_eqLaw.ev l hl2) ?_))
  refine Ev.congr (fun k => by rw [if_pos rfl]) (Ev.bind (laws_toProgram.ev a b c m hq) (Ev.bind (laws_eqProgram.ev a b c _ hq2) ?_))
  refine Ev.congr (fun k => by rw [if_pos rfl]) (Ev.bind (laws_toFlowS.ev fs hf2) (Ev.bind (laws_eqFlowS.ev _ hf3) ?_))
  refine Ev.congr (fun k => by rw [if_pos rfl]) (Ev.bind (laws_markLaw.ev l 1 (by omega) (by omega)) ?_)
  refine Ev.congr (fun k => by rw [laws_markProgram.val _ _ _ _ _ (by dsimp only; omega) (by dsimp only; omega), Option.bind_some]) (Ev.bind (laws_markFlowS.ev _ _ (by dsimp only; omega) (by dsimp only; omega) hf3) ?_)
  refine Ev.congr (fun k => by rw [if_neg (by dsimp only; omega)]) (Ev.bind hR ?_)
  refine Ev.step (fun k => by simp only [laws_FnExactLawfulFlows.j0]; rw [if_neg (by simp)]) ?_
  refine Ev.bind (laws_markFlowS.ev R 1 (by omega) (by omega) (by omega)) (Ev.bind (laws_heldFlowS.ev 1 _ (by omega) (by omega) (by omega)) ?_)
  refine Ev.congr (fun k => by rw [if_neg (by omega), if_pos rfl]) (Ev.bind (laws_toLaw.ev l hl2) (Ev.bind (laws_toProgram.ev a b c m hq) (Ev.bind (laws_toFlowS.ev fs hf2) (Ev.bind hi (Ev.bind hR ?_)))))
  refine Ev.congr (fun k => by rw [if_pos rfl]) (Ev.bind (laws_heldFlowS.ev 1 _ (by omega) (by omega) (by omega)) ?_)
  exact Ev.all fun k => by rw [if_neg (by omega), if_pos rfl]

end Go.Proofs.Ytegkplalnljgjaa.PureFnExactLawfulFlows
