/- FnExactHandoversOf, over numbers and lists alone: what the program's function and the reference's answer is one. Conditions: the numbers are of their kinds. -/
import Derived.Test.YtlogjmgghnifoaaKindsFnExactHandoversOf
import Derived.Test.YtlogjmgghnifoaaVFnExactHandoversOfBase
namespace Go.Proofs.Ytlogjmgghnifoaa.PureFnExactHandoversOf
open Go.RowKit Go.Proofs.Ytlogjmgghnifoaa.PFnExactHandoversOf Go.Proofs.YtlogjmgghnifoaaW.PrintWords Go.Proofs.YtlogjmgghnifoaaW.PrintLast Go.Proofs.YtlogjmgghnifoaaW.PrintMore Go.Proofs.Ytlogjmgghnifoaa.Base
set_option linter.unusedVariables false
set_option linter.unusedSimpArgs false

/-! laws_szLinkS -/
theorem laws_szLinkS.val (l : List S168) (a : Int) (h0 : 0 ≤ a) (h1 : a ≤ 1048576) (hl : l.length ≤ maxLen) :
    ∃ t, laws_szLinkS.f l a = some t ∧ t ≤ a ∧ (0 ≤ t → t = a - l.length ∧ l.length ≤ 1048576) := by
  unfold maxLen at hl
  unfold laws_szLinkS.f
  rw [wrap_id (by omega) (by omega)]
  by_cases h : a - (l.length : Int) < 0
  · rw [if_pos h]; exact ⟨_, rfl, by omega, by omega⟩
  · rw [if_neg h]; exact ⟨_, rfl, by omega, by omega⟩

/-! laws_szIntS -/
theorem laws_szIntS.val (l : List Int) (a : Int) (h0 : 0 ≤ a) (h1 : a ≤ 1048576) (hl : l.length ≤ maxLen) :
    ∃ t, laws_szIntS.f l a = some t ∧ t ≤ a ∧ (0 ≤ t → t = a - l.length ∧ l.length ≤ 1048576) := by
  unfold maxLen at hl
  unfold laws_szIntS.f
  rw [wrap_id (by omega) (by omega)]
  by_cases h : a - (l.length : Int) < 0
  · rw [if_pos h]; exact ⟨_, rfl, by omega, by omega⟩
  · rw [if_neg h]; exact ⟨_, rfl, by omega, by omega⟩

/-! laws_szTable -/
theorem laws_szTable.val (x : Int) (l m : List Int) (a : Int) (h0 : 0 ≤ a) (h1 : a ≤ 1048576) (hl : l.length ≤ maxLen) (hm : m.length ≤ maxLen) :
    ∃ t, laws_szTable.f x l m a = some t ∧ t ≤ a ∧ (0 ≤ t → l.length ≤ 1048576 ∧ m.length ≤ 1048576) := by
  obtain ⟨t, h, h2, h3⟩ := laws_szIntS.val l a h0 h1 hl
  unfold laws_szTable.f
  rw [h, Option.bind_some]
  by_cases ht : t < 0
  · rw [if_pos ht]; exact ⟨_, rfl, by omega, by omega⟩
  · obtain ⟨u, h4, h5, h6⟩ := laws_szIntS.val m t (by omega) (by omega) hm
    rw [if_neg ht, h4, Option.bind_some]
    by_cases hu : u < 0
    · rw [if_pos hu]; exact ⟨_, rfl, by omega, by omega⟩
    · rw [if_neg hu]; exact ⟨_, rfl, by omega, fun _ => ⟨(h3 (by omega)).2, (h6 (by omega)).2⟩⟩
theorem laws_szTable.sum (x : Int) (l m : List Int) (a : Int) (h0 : 0 ≤ a) (h1 : a ≤ 1048576) (hl : l.length ≤ maxLen) (hm : m.length ≤ maxLen) :
    ∃ t, laws_szTable.f x l m a = some t ∧ t ≤ a ∧ (0 ≤ t → t + ((l.length + m.length : Nat) : Int) ≤ a) := by
  obtain ⟨t, h, h2, h3⟩ := laws_szIntS.val l a h0 h1 hl
  unfold laws_szTable.f
  rw [h, Option.bind_some]
  by_cases ht : t < 0
  · rw [if_pos ht]; exact ⟨_, rfl, by omega, by omega⟩
  · obtain ⟨u, h4, h5, h6⟩ := laws_szIntS.val m t (by omega) (by omega) hm
    rw [if_neg ht, h4, Option.bind_some]
    by_cases hu : u < 0
    · rw [if_pos hu]; exact ⟨_, rfl, by omega, by omega⟩
    · rw [if_neg hu]; exact ⟨_, rfl, by omega, fun _ => by have := (h3 (by omega)).1; have := (h6 (by omega)).1; omega⟩

/-! d_fitT -/
def fitT (n : Nat) (x : S285) : Prop := x.f1.length ≤ n ∧ x.f2.length ≤ n
def fitTi (n : Nat) (x : S247) : Prop := x.f1.length ≤ n ∧ x.f2.length ≤ n

/-! d_cost -/
def tabsCost (l : List S285) : Nat := l.length + (l.map fun x => x.f1.length + x.f2.length).sum
def pieCost (x : S177) : Nat := x.f1.length + tabsCost x.f2
def progCost (l : List S177) : Nat := l.length + (l.map pieCost).sum

/-! laws_szTableS -/
theorem laws_szTableS.ev (l : List S285) (a : Int) (h0 : 0 ≤ a) (h1 : a ≤ 1048576) (hl : l.length ≤ maxLen) (hx : ∀ x ∈ l, fitT maxLen x) :
    ∃ t, Ev (fun k => laws_szTableS.f k l a) t ∧ t ≤ a ∧ (0 ≤ t → l.length ≤ 1048576 ∧ ∀ x ∈ l, fitT 1048576 x) := by
  have hl' := hl
  unfold maxLen at hl'
  by_cases h : a - (l.length : Int) < 0
  · exact ⟨-1, Ev.all fun k => by unfold laws_szTableS.f; rw [wrap_id (by omega) (by omega), if_pos h], by omega, by omega⟩
  · obtain ⟨t, ht, hle, hok⟩ := sz_loop (g := fun k a i => laws_szTableS.l0 k l a i) l z285 (fitT 1048576) (fun a => Ev.one fun k => by simp only [laws_szTableS.l0]; rw [if_neg (by omega)])
      (fun i a hi h0 h1 => by
        have hf := hx _ (getD_mem l z285 hi)
        obtain ⟨t, e, hle, hok⟩ := laws_szTable.val (l.getD i z285).f0 (l.getD i z285).f1 (l.getD i z285).f2 a h0 h1 hf.1 hf.2
        have hk : ∀ k, laws_szTableS.l0 (k + 1) l a i = if t < 0 then some (-1) else laws_szTableS.l0 k l t ((i + 1 : Nat) : Int) := fun k => by
          simp only [laws_szTableS.l0]
          rw [if_pos (by omega), if_pos (by omega), wrap_nat (by omega)]
          show (laws_szTable.f (l.getD i z285).f0 (l.getD i z285).f1 (l.getD i z285).f2 a).bind _ = _
          rw [e]; rfl
        exact ⟨t, hle, fun h => Ev.one fun k => by rw [hk, if_pos h], fun h => ⟨hok h, fun r hr => Ev.step (fun k => by rw [hk, if_neg (by omega)]) hr⟩⟩)
      (a - l.length) (by omega) (by omega)
    exact ⟨t, Ev.congr (fun k => by unfold laws_szTableS.f; rw [wrap_id (by omega) (by omega), if_neg h]) ht, by omega, fun h => ⟨by omega, hok h⟩⟩
theorem laws_szTableS.sum (l : List S285) (a : Int) (h0 : 0 ≤ a) (h1 : a ≤ 1048576) (hl : l.length ≤ maxLen) (hx : ∀ x ∈ l, fitT maxLen x) :
    ∃ t, Ev (fun k => laws_szTableS.f k l a) t ∧ t ≤ a ∧ (0 ≤ t → t + (tabsCost l : Int) ≤ a) := by
  have hl' := hl
  unfold maxLen at hl'
  by_cases h : a - (l.length : Int) < 0
  · exact ⟨-1, Ev.all fun k => by unfold laws_szTableS.f; rw [wrap_id (by omega) (by omega), if_pos h], by omega, by omega⟩
  · obtain ⟨t, ht, hle, hok⟩ := sz_sum (g := fun k a i => laws_szTableS.l0 k l a i) l z285 (fun x => x.f1.length + x.f2.length) (fun a => Ev.one fun k => by simp only [laws_szTableS.l0]; rw [if_neg (by omega)])
      (fun i a hi h0 h1 => by
        have hf := hx _ (getD_mem l z285 hi)
        obtain ⟨t, e, hle, hok⟩ := laws_szTable.sum (l.getD i z285).f0 (l.getD i z285).f1 (l.getD i z285).f2 a h0 h1 hf.1 hf.2
        have hk : ∀ k, laws_szTableS.l0 (k + 1) l a i = if t < 0 then some (-1) else laws_szTableS.l0 k l t ((i + 1 : Nat) : Int) := fun k => by
          simp only [laws_szTableS.l0]
          rw [if_pos (by omega), if_pos (by omega), wrap_nat (by omega)]
          show (laws_szTable.f (l.getD i z285).f0 (l.getD i z285).f1 (l.getD i z285).f2 a).bind _ = _
          rw [e]; rfl
        exact ⟨t, hle, fun h => Ev.one fun k => by rw [hk, if_pos h], fun h => ⟨hok h, fun r hr => Ev.step (fun k => by rw [hk, if_neg (by omega)]) hr⟩⟩)
      (a - l.length) (by omega) (by omega)
    exact ⟨t, Ev.congr (fun k => by unfold laws_szTableS.f; rw [wrap_id (by omega) (by omega), if_neg h]) ht, by omega, fun h => by have := hok h; unfold tabsCost; omega⟩

/-! d_fitP -/
def fitP (n : Nat) (x : S177) : Prop := x.f1.length ≤ n ∧ x.f2.length ≤ n ∧ ∀ t ∈ x.f2, fitT n t
def fitPi (n : Nat) (x : S112) : Prop := x.f1.length ≤ n ∧ x.f2.length ≤ n ∧ ∀ t ∈ x.f2, fitTi n t
def fitQ (n : Nat) (l : List S177) : Prop := l.length ≤ n ∧ ∀ x ∈ l, fitP n x
def fitQi (n : Nat) (l : List S112) : Prop := l.length ≤ n ∧ ∀ x ∈ l, fitPi n x

/-! laws_szPiece -/
theorem laws_szPiece.ev (x : S177) (a : Int) (h0 : 0 ≤ a) (h1 : a ≤ 1048576) (hx : fitP maxLen x) :
    ∃ t, Ev (fun k => laws_szPiece.f k x.f0.f0 x.f0.f1 x.f1 x.f2 a) t ∧ t ≤ a ∧ (0 ≤ t → fitP 1048576 x) := by
  obtain ⟨t, h, h2, h3⟩ := laws_szLinkS.val x.f1 a h0 h1 hx.1
  by_cases ht : t < 0
  · exact ⟨-1, Ev.all fun k => by unfold laws_szPiece.f; rw [h, Option.bind_some, if_pos ht], by omega, by omega⟩
  · obtain ⟨u, h4, h5, h6⟩ := laws_szTableS.ev x.f2 t (by omega) (by omega) hx.2.1 hx.2.2
    have hc : ∀ k, laws_szPiece.f k x.f0.f0 x.f0.f1 x.f1 x.f2 a = (laws_szTableS.f k x.f2 t).bind fun u => if u < 0 then some (-1) else some u := fun k => by
      unfold laws_szPiece.f
      rw [h, Option.bind_some, if_neg ht]
    by_cases hu : u < 0
    · exact ⟨-1, Ev.congr hc (Ev.bind h4 (Ev.all fun k => by rw [if_pos hu])), by omega, by omega⟩
    · exact ⟨u, Ev.congr hc (Ev.bind h4 (Ev.all fun k => by rw [if_neg hu])), by omega, fun _ => ⟨(h3 (by omega)).2, h6 (by omega)⟩⟩
theorem laws_szPiece.sum (x : S177) (a : Int) (h0 : 0 ≤ a) (h1 : a ≤ 1048576) (hx : fitP maxLen x) :
    ∃ t, Ev (fun k => laws_szPiece.f k x.f0.f0 x.f0.f1 x.f1 x.f2 a) t ∧ t ≤ a ∧ (0 ≤ t → t + (pieCost x : Int) ≤ a) := by
  obtain ⟨t, h, h2, h3⟩ := laws_szLinkS.val x.f1 a h0 h1 hx.1
  by_cases ht : t < 0
  · exact ⟨-1, Ev.all fun k => by unfold laws_szPiece.f; rw [h, Option.bind_some, if_pos ht], by omega, by omega⟩
  · obtain ⟨u, h4, h5, h6⟩ := laws_szTableS.sum x.f2 t (by omega) (by omega) hx.2.1 hx.2.2
    have hc : ∀ k, laws_szPiece.f k x.f0.f0 x.f0.f1 x.f1 x.f2 a = (laws_szTableS.f k x.f2 t).bind fun u => if u < 0 then some (-1) else some u := fun k => by
      unfold laws_szPiece.f
      rw [h, Option.bind_some, if_neg ht]
    by_cases hu : u < 0
    · exact ⟨-1, Ev.congr hc (Ev.bind h4 (Ev.all fun k => by rw [if_pos hu])), by omega, by omega⟩
    · exact ⟨u, Ev.congr hc (Ev.bind h4 (Ev.all fun k => by rw [if_neg hu])), by omega, fun _ => by have := (h3 (by omega)).1; have := h6 (by omega); unfold pieCost; omega⟩

/-! laws_szPieceS -/
theorem laws_szPieceS.ev (l : List S177) (a : Int) (h0 : 0 ≤ a) (h1 : a ≤ 1048576) (hx : fitQ maxLen l) :
    ∃ t, Ev (fun k => laws_szPieceS.f k l a) t ∧ t ≤ a ∧ (0 ≤ t → fitQ 1048576 l) := by
  obtain ⟨hl, hx⟩ := hx
  have hl' := hl
  unfold maxLen at hl'
  by_cases h : a - (l.length : Int) < 0
  · exact ⟨-1, Ev.all fun k => by unfold laws_szPieceS.f; rw [wrap_id (by omega) (by omega), if_pos h], by omega, by omega⟩
  · obtain ⟨t, ht, hle, hok⟩ := sz_loop (g := fun k a i => laws_szPieceS.l0 k l a i) l z177 (fitP 1048576) (fun a => Ev.one fun k => by simp only [laws_szPieceS.l0]; rw [if_neg (by omega)])
      (fun i a hi h0 h1 => by
        have hf := hx _ (getD_mem l z177 hi)
        obtain ⟨t, e, hle, hok⟩ := laws_szPiece.ev (l.getD i z177) a h0 h1 hf
        have hk : ∀ k, laws_szPieceS.l0 (k + 1) l a i = (laws_szPiece.f k (l.getD i z177).f0.f0 (l.getD i z177).f0.f1 (l.getD i z177).f1 (l.getD i z177).f2 a).bind fun t => if t < 0 then some (-1) else laws_szPieceS.l0 k l t ((i + 1 : Nat) : Int) := fun k => by
          simp only [laws_szPieceS.l0]
          rw [if_pos (by omega), if_pos (by omega), wrap_nat (by omega)]
          rfl
        exact ⟨t, hle, fun h => Ev.step hk (Ev.bind e (Ev.all fun k => by rw [if_pos h])), fun h => ⟨hok h, fun r hr => Ev.step hk (Ev.bind e (Ev.congr (fun k => by rw [if_neg (by omega)]) hr))⟩⟩)
      (a - l.length) (by omega) (by omega)
    exact ⟨t, Ev.congr (fun k => by unfold laws_szPieceS.f; rw [wrap_id (by omega) (by omega), if_neg h]) ht, by omega, fun h => ⟨by omega, hok h⟩⟩
theorem laws_szPieceS.sum (l : List S177) (a : Int) (h0 : 0 ≤ a) (h1 : a ≤ 1048576) (hx : fitQ maxLen l) :
    ∃ t, Ev (fun k => laws_szPieceS.f k l a) t ∧ t ≤ a ∧ (0 ≤ t → t + (progCost l : Int) ≤ a) := by
  obtain ⟨hl, hx⟩ := hx
  have hl' := hl
  unfold maxLen at hl'
  by_cases h : a - (l.length : Int) < 0
  · exact ⟨-1, Ev.all fun k => by unfold laws_szPieceS.f; rw [wrap_id (by omega) (by omega), if_pos h], by omega, by omega⟩
  · obtain ⟨t, ht, hle, hok⟩ := sz_sum (g := fun k a i => laws_szPieceS.l0 k l a i) l z177 pieCost (fun a => Ev.one fun k => by simp only [laws_szPieceS.l0]; rw [if_neg (by omega)])
      (fun i a hi h0 h1 => by
        have hf := hx _ (getD_mem l z177 hi)
        obtain ⟨t, e, hle, hok⟩ := laws_szPiece.sum (l.getD i z177) a h0 h1 hf
        have hk : ∀ k, laws_szPieceS.l0 (k + 1) l a i = (laws_szPiece.f k (l.getD i z177).f0.f0 (l.getD i z177).f0.f1 (l.getD i z177).f1 (l.getD i z177).f2 a).bind fun t => if t < 0 then some (-1) else laws_szPieceS.l0 k l t ((i + 1 : Nat) : Int) := fun k => by
          simp only [laws_szPieceS.l0]
          rw [if_pos (by omega), if_pos (by omega), wrap_nat (by omega)]
          rfl
        exact ⟨t, hle, fun h => Ev.step hk (Ev.bind e (Ev.all fun k => by rw [if_pos h])), fun h => ⟨hok h, fun r hr => Ev.step hk (Ev.bind e (Ev.congr (fun k => by rw [if_neg (by omega)]) hr))⟩⟩)
      (a - l.length) (by omega) (by omega)
    exact ⟨t, Ev.congr (fun k => by unfold laws_szPieceS.f; rw [wrap_id (by omega) (by omega), if_neg h]) ht, by omega, fun h => by have := hok h; unfold progCost; omega⟩

/-! laws_szProgram -/
theorem laws_szProgram.ev (x y z : Int) (l : List S177) (a : Int) (h0 : 0 ≤ a) (h1 : a ≤ 1048576) (hx : fitQ maxLen l) :
    ∃ t, Ev (fun k => laws_szProgram.f k x y z l a) t ∧ t ≤ a ∧ (0 ≤ t → fitQ 1048576 l) := by
  obtain ⟨t, h, h2, h3⟩ := laws_szPieceS.ev l a h0 h1 hx
  by_cases ht : t < 0
  · exact ⟨-1, Ev.bind h (Ev.all fun k => by rw [if_pos ht]), by omega, by omega⟩
  · exact ⟨t, Ev.bind h (Ev.all fun k => by rw [if_neg ht]), h2, h3⟩
theorem laws_szProgram.sum (x y z : Int) (l : List S177) (a : Int) (h0 : 0 ≤ a) (h1 : a ≤ 1048576) (hx : fitQ maxLen l) :
    ∃ t, Ev (fun k => laws_szProgram.f k x y z l a) t ∧ t ≤ a ∧ (0 ≤ t → t + (progCost l : Int) ≤ a ∧ fitQ 1048576 l) := by
  obtain ⟨t, h, h2, h3⟩ := laws_szPieceS.sum l a h0 h1 hx
  obtain ⟨t', h', _, h3'⟩ := laws_szPieceS.ev l a h0 h1 hx
  have := Ev.uniq h h'
  subst this
  by_cases ht : t < 0
  · exact ⟨-1, Ev.bind h (Ev.all fun k => by rw [if_pos ht]), by omega, by omega⟩
  · exact ⟨t, Ev.bind h (Ev.all fun k => by rw [if_neg ht]), h2, fun h => ⟨h3 h, h3' h⟩⟩

/-! laws_toLinkS -/
def cLink (x : S168) : S166 := ⟨x.f0, x.f1⟩
theorem laws_toLinkS.ev_l (l : List S168) (hl : l.length ≤ 1048576) : ∀ (d i : Nat) (o : List S166), i + d = l.length → o.length = l.length → o.take i = (l.map cLink).take i → Ev (fun k => laws_toLinkS.l0 k l o i) (l.map cLink) := by
  intro d
  induction d with
  | zero =>
    intro i o hi ho ht
    refine Ev.one fun k => ?_
    simp only [laws_toLinkS.l0]
    rw [if_neg (by omega), take_full (by simpa using ho) (by simp; omega) ht]
  | succ d ih =>
    intro i o hi ho ht
    refine Ev.step (fun k => ?_) (ih (i + 1) (o.set i (cLink (l.getD i z168))) (by omega) (by simp [ho]) (set_take o _ _ (by simpa using ho) (get_map cLink l z168 (by omega)) ht))
    simp only [laws_toLinkS.l0, laws_toLink.f, Option.bind_some]
    rw [if_pos (by omega), if_pos (by omega), if_pos (by omega), wrap_nat (by omega)]
    rfl
theorem laws_toLinkS.ev (l : List S168) (hl : l.length ≤ 1048576) : Ev (fun k => laws_toLinkS.f k l) (l.map cLink) :=
  Ev.congr (fun k => by unfold laws_toLinkS.f; rw [if_pos (by omega), if_pos (by omega)] <;> rfl) (laws_toLinkS.ev_l l hl l.length 0 _ (by omega) (by simp) (by simp))

/-! laws_toIntS -/
theorem laws_toIntS.ev_l (l : List Int) (hl : l.length ≤ 1048576) : ∀ (d i : Nat) (o : List Int), i + d = l.length → o.length = l.length → o.take i = l.take i → Ev (fun k => laws_toIntS.l0 k l o i) l := by
  intro d
  induction d with
  | zero =>
    intro i o hi ho ht
    refine Ev.one fun k => ?_
    simp only [laws_toIntS.l0]
    rw [if_neg (by omega), take_full ho (by omega) ht]
  | succ d ih =>
    intro i o hi ho ht
    refine Ev.step (fun k => ?_) (ih (i + 1) (o.set i (l.getD i 0)) (by omega) (by simp [ho]) (set_take o l _ ho (get_of l 0 (by omega)) ht))
    simp only [laws_toIntS.l0]
    rw [if_pos (by omega), if_pos (by omega), if_pos (by omega), wrap_nat (by omega)]
    rfl
theorem laws_toIntS.ev (l : List Int) (hl : l.length ≤ 1048576) : Ev (fun k => laws_toIntS.f k l) l :=
  Ev.congr (fun k => by unfold laws_toIntS.f; rw [if_pos (by omega), if_pos (by omega)] <;> rfl) (laws_toIntS.ev_l l hl l.length 0 _ (by omega) (by simp) (by simp))

/-! laws_toTable -/
theorem laws_toTable.ev (x : Int) (l m : List Int) (hl : l.length ≤ 1048576) (hm : m.length ≤ 1048576) : Ev (fun k => laws_toTable.f k x l m) (x, l, m) :=
  Ev.bind (laws_toIntS.ev l hl) (Ev.bind (laws_toIntS.ev m hm) (Ev.now _))

/-! d_cTable -/
def cTable (x : S285) : S247 := ⟨x.f0, x.f1, x.f2⟩

/-! laws_toTableS -/
theorem laws_toTableS.ev (l : List S285) (hl : l.length ≤ 1048576) (hx : ∀ x ∈ l, fitT 1048576 x) : Ev (fun k => laws_toTableS.f k l) (l.map cTable) := by
  refine Ev.congr (fun k => by unfold laws_toTableS.f; rw [if_pos (by omega), if_pos (by omega)] <;> rfl) (to_loop (g := fun k o i => laws_toTableS.l0 k l o i) l z285 cTable (fun o => Ev.one fun k => by simp only [laws_toTableS.l0]; rw [if_neg (by omega)]) (fun i o hi ho r hr => ?_) _ (by simp))
  have hf := hx _ (getD_mem l z285 hi)
  refine Ev.step (fun k => by simp only [laws_toTableS.l0]; rw [if_pos (by omega), if_pos (by omega), wrap_nat (by omega)]; rfl) (Ev.bind (laws_toTable.ev (l.getD i z285).f0 (l.getD i z285).f1 (l.getD i z285).f2 hf.1 hf.2) ?_)
  exact Ev.congr (fun k => by rw [if_pos (by omega)]; rfl) hr

/-! d_cPiece -/
def cPiece (x : S177) : S112 := ⟨⟨x.f0.f0, x.f0.f1⟩, x.f1.map cLink, x.f2.map cTable⟩

/-! laws_toPiece -/
theorem laws_toPiece.ev (x : S177) (hx : fitP 1048576 x) : Ev (fun k => laws_toPiece.f k x.f0.f0 x.f0.f1 x.f1 x.f2) (x.f0.f0, x.f0.f1, x.f1.map cLink, x.f2.map cTable) := by
  refine Ev.congr (fun k => by unfold laws_toPiece.f; rw [laws_toSpan.f, Option.bind_some]) ?_
  exact Ev.bind (laws_toLinkS.ev x.f1 hx.1) (Ev.bind (laws_toTableS.ev x.f2 hx.2.1 hx.2.2) (Ev.now _))

/-! laws_toPieceS -/
theorem laws_toPieceS.ev (l : List S177) (hx : fitQ 1048576 l) : Ev (fun k => laws_toPieceS.f k l) (l.map cPiece) := by
  obtain ⟨hl, hx⟩ := hx
  refine Ev.congr (fun k => by unfold laws_toPieceS.f; rw [if_pos (by omega), if_pos (by omega)] <;> rfl) (to_loop (g := fun k o i => laws_toPieceS.l0 k l o i) l z177 cPiece (fun o => Ev.one fun k => by simp only [laws_toPieceS.l0]; rw [if_neg (by omega)]) (fun i o hi ho r hr => ?_) _ (by simp))
  have hf := hx _ (getD_mem l z177 hi)
  refine Ev.step (fun k => by simp only [laws_toPieceS.l0]; rw [if_pos (by omega), if_pos (by omega), wrap_nat (by omega)]; rfl) (Ev.bind (laws_toPiece.ev (l.getD i z177) hf) ?_)
  exact Ev.congr (fun k => by rw [if_pos (by omega)]; rfl) hr

/-! laws_toProgram -/
theorem laws_toProgram.ev (x y z : Int) (l : List S177) (hx : fitQ 1048576 l) : Ev (fun k => laws_toProgram.f k x y z l) (x, y, z, l.map cPiece) := Ev.bind (laws_toPieceS.ev l hx) (Ev.now _)

/-! laws_eqLink -/
theorem laws_eqLink.val (x : S166) : laws_eqLink.f x.f0 x.f1 x.f0 x.f1 = some true := by
  unfold laws_eqLink.f
  simp

/-! laws_eqLinkS -/
theorem laws_eqLinkS.ev_l (l : List S166) (hl : l.length ≤ 1048576) : ∀ (d i : Nat), i + d = l.length → Ev (fun k => laws_eqLinkS.l0 k l l i) true := by
  intro d
  induction d with
  | zero => intro i hi; refine Ev.one fun k => ?_; simp only [laws_eqLinkS.l0]; rw [if_neg (by omega)]
  | succ d ih =>
    intro i hi
    refine Ev.step (fun k => ?_) (ih (i + 1) (by omega))
    simp only [laws_eqLinkS.l0, laws_eqLink.val, Option.bind_some]
    rw [if_pos (by omega), if_pos (by omega), if_pos (by omega), if_pos trivial, wrap_nat (by omega)]
theorem laws_eqLinkS.ev (l : List S166) (hl : l.length ≤ 1048576) : Ev (fun k => laws_eqLinkS.f k l l) true :=
  Ev.congr (fun k => by unfold laws_eqLinkS.f; rw [if_pos rfl] <;> rfl) (laws_eqLinkS.ev_l l hl l.length 0 (by omega))

/-! laws_eqSpan -/
theorem laws_eqSpan.val (a b : Int) : laws_eqSpan.f a b a b = some true := by
  unfold laws_eqSpan.f
  simp

/-! laws_eqIntS -/
theorem laws_eqIntS.ev_l (l : List Int) (hl : l.length ≤ 1048576) : ∀ (d i : Nat), i + d = l.length → Ev (fun k => laws_eqIntS.l0 k l l i) true := by
  intro d
  induction d with
  | zero => intro i hi; refine Ev.one fun k => ?_; simp only [laws_eqIntS.l0]; rw [if_neg (by omega)]
  | succ d ih =>
    intro i hi
    refine Ev.step (fun k => ?_) (ih (i + 1) (by omega))
    simp only [laws_eqIntS.l0]
    rw [if_pos (by omega), if_pos (by omega), if_pos (by omega), if_pos trivial, wrap_nat (by omega)]
theorem laws_eqIntS.ev (l : List Int) (hl : l.length ≤ 1048576) : Ev (fun k => laws_eqIntS.f k l l) true :=
  Ev.congr (fun k => by unfold laws_eqIntS.f; rw [if_pos rfl] <;> rfl) (laws_eqIntS.ev_l l hl l.length 0 (by omega))
theorem laws_eqIntS.ev' (l : List Int) (hl : l.length ≤ 4000000) : Ev (fun k => laws_eqIntS.f k l l) true := by
  refine Ev.congr (fun k => by unfold laws_eqIntS.f; rw [if_pos rfl]) (all_loop (g := fun k i => laws_eqIntS.l0 k l l i) l.length (Ev.one fun k => by simp only [laws_eqIntS.l0]; rw [if_neg (by omega)]) (fun i hi r hr => Ev.step (fun k => ?_) hr))
  simp only [laws_eqIntS.l0]
  rw [if_pos (by omega), if_pos (by omega), if_pos (by omega), if_pos trivial, wrap_nat (by omega)]

/-! laws_eqTable -/
theorem laws_eqTable.ev (x : Int) (l m : List Int) (hl : l.length ≤ 1048576) (hm : m.length ≤ 1048576) : Ev (fun k => laws_eqTable.f k x l m x l m) true := by
  refine Ev.congr (fun k => by unfold laws_eqTable.f; rw [if_pos rfl]) (Ev.bind (laws_eqIntS.ev l hl) ?_)
  exact Ev.congr (fun k => by rw [if_pos rfl]) (Ev.bindT (laws_eqIntS.ev m hm))

/-! laws_eqTableS -/
theorem laws_eqTableS.ev (l : List S247) (hl : l.length ≤ 1048576) (hx : ∀ x ∈ l, fitTi 1048576 x) : Ev (fun k => laws_eqTableS.f k l l) true := by
  refine Ev.congr (fun k => by unfold laws_eqTableS.f; rw [if_pos rfl]) (all_loop (g := fun k i => laws_eqTableS.l0 k l l i) l.length (Ev.one fun k => by simp only [laws_eqTableS.l0]; rw [if_neg (by omega)]) (fun i hi r hr => ?_))
  have hf := hx _ (getD_mem l z247 hi)
  refine Ev.step (fun k => by simp only [laws_eqTableS.l0]; rw [if_pos (by omega), if_pos (by omega), if_pos (by omega), wrap_nat (by omega)]; rfl) (Ev.bind (laws_eqTable.ev (l.getD i z247).f0 (l.getD i z247).f1 (l.getD i z247).f2 hf.1 hf.2) ?_)
  exact Ev.congr (fun k => by rw [if_pos rfl]) hr

/-! laws_eqPiece -/
theorem laws_eqPiece.ev (x : S112) (hx : fitPi 1048576 x) : Ev (fun k => laws_eqPiece.f k x.f0.f0 x.f0.f1 x.f1 x.f2 x.f0.f0 x.f0.f1 x.f1 x.f2) true := by
  refine Ev.congr (fun k => by unfold laws_eqPiece.f; rw [laws_eqSpan.val, Option.bind_some, if_pos rfl]) (Ev.bind (laws_eqLinkS.ev x.f1 hx.1) ?_)
  exact Ev.congr (fun k => by rw [if_pos rfl]) (Ev.bindT (laws_eqTableS.ev x.f2 hx.2.1 hx.2.2))

/-! laws_eqPieceS -/
theorem laws_eqPieceS.ev (l : List S112) (hx : fitQi 1048576 l) : Ev (fun k => laws_eqPieceS.f k l l) true := by
  obtain ⟨hl, hx⟩ := hx
  refine Ev.congr (fun k => by unfold laws_eqPieceS.f; rw [if_pos rfl]) (all_loop (g := fun k i => laws_eqPieceS.l0 k l l i) l.length (Ev.one fun k => by simp only [laws_eqPieceS.l0]; rw [if_neg (by omega)]) (fun i hi r hr => ?_))
  have hf := hx _ (getD_mem l z112 hi)
  refine Ev.step (fun k => by simp only [laws_eqPieceS.l0]; rw [if_pos (by omega), if_pos (by omega), if_pos (by omega), wrap_nat (by omega)]; rfl) (Ev.bind (laws_eqPiece.ev (l.getD i z112) hf) ?_)
  exact Ev.congr (fun k => by rw [if_pos rfl]) hr

/-! laws_eqProgram -/
theorem laws_eqProgram.ev (x y z : Int) (l : List S112) (hx : fitQi 1048576 l) : Ev (fun k => laws_eqProgram.f k x y z l x y z l) true := by
  refine Ev.congr (fun k => by unfold laws_eqProgram.f; rw [if_pos rfl, if_pos rfl, if_pos rfl]) (Ev.bindT (laws_eqPieceS.ev l hx))

/-! laws_markIntS -/
theorem laws_markIntS.ev_l (a : Int) (n : Nat) (h0 : 0 ≤ a) (h1 : a + n ≤ 4611686018427387904) : ∀ (d i : Nat) (o : List Int), i + d = n → o.length = n → o.take i = (marks a n).take i →
    Ev (fun k => laws_markIntS.l0 k o (a + i) i) (a + n, marks a n) := by
  intro d
  induction d with
  | zero =>
    intro i o hi ho ht
    refine Ev.one fun k => ?_
    simp only [laws_markIntS.l0]
    rw [if_neg (by omega), take_full (by rw [marks_length]; exact ho) (by rw [marks_length]; omega) ht, show i = n by omega]
  | succ d ih =>
    intro i o hi ho ht
    refine Ev.step (fun k => ?_) (ih (i + 1) (o.set i (a + i)) (by omega) (by simp [ho]) (set_take o _ _ (by rw [marks_length]; exact ho) (marks_get a n i (by omega)) ht))
    simp only [laws_markIntS.l0]
    rw [if_pos (by omega), if_pos (by omega), wrap_nat (by omega), wrap_id (by omega) (by omega)]
    rw [show a + (i : Int) + 1 = a + ((i + 1 : Nat) : Int) by omega]
    rfl
theorem laws_markIntS.ev (l : List Int) (a : Int) (h0 : 0 ≤ a) (h1 : a + l.length ≤ 4611686018427387904) : Ev (fun k => laws_markIntS.f k l a) (a + l.length, marks a l.length) := by
  have := laws_markIntS.ev_l a l.length h0 h1 l.length 0 l (by omega) rfl (by simp)
  rw [show a + ((0 : Nat) : Int) = a by omega] at this
  exact this

/-! laws_markLinkS -/
def mkLink (a : Int) (j : Nat) : S166 := ⟨a + 2 * (j : Int), a + 2 * (j : Int) + 1⟩
def marksLink (a : Int) (n : Nat) : List S166 := (List.range n).map (mkLink a)
theorem marksLink_length (a : Int) (n : Nat) : (marksLink a n).length = n := by simp [marksLink]
theorem marksLink_get (a : Int) (n i : Nat) (h : i < n) : (marksLink a n)[i]? = some (mkLink a i) := by simp [marksLink, h]
theorem marksLink_getD (a : Int) (n i : Nat) (h : i < n) : (marksLink a n).getD i z166 = mkLink a i := by rw [List.getD_eq_getElem?_getD, marksLink_get a n i h]; rfl
theorem laws_markLinkS.ev_l (a : Int) (n : Nat) (h0 : 0 ≤ a) (h1 : a + 2 * n ≤ 4611686018427387904) : ∀ (d i : Nat) (o : List S166), i + d = n → o.length = n → o.take i = (marksLink a n).take i →
    Ev (fun k => laws_markLinkS.l0 k o (a + 2 * (i : Int)) i) (a + 2 * (n : Int), marksLink a n) := by
  intro d
  induction d with
  | zero =>
    intro i o hi ho ht
    refine Ev.one fun k => ?_
    simp only [laws_markLinkS.l0]
    rw [if_neg (by omega), take_full (by rw [marksLink_length]; exact ho) (by rw [marksLink_length]; omega) ht, show i = n by omega]
  | succ d ih =>
    intro i o hi ho ht
    refine Ev.step (fun k => ?_) (ih (i + 1) (o.set i (mkLink a i)) (by omega) (by simp [ho]) (set_take o _ _ (by rw [marksLink_length]; exact ho) (marksLink_get a n i (by omega)) ht))
    have e : ∀ v, rd_T166 (o.set i v) (i : Int) = v := fun v => getD_set_self o _ v (by omega)
    simp only [laws_markLinkS.l0, Option.bind_some, Int.toNat_natCast, e, List.set_set]
    rw [if_pos (by omega), if_pos (by omega), wrap_nat (by omega)]
    rw [wrap_id (x := a + 2 * (i : Int) + 1) (by omega) (by omega)]
    rw [wrap_id (x := a + 2 * (i : Int) + 1 + 1) (by omega) (by omega)]
    rw [show a + 2 * (i : Int) + 1 + 1 = a + 2 * ((i + 1 : Nat) : Int) by omega]
    rfl
theorem laws_markLinkS.ev (l : List S166) (a : Int) (h0 : 0 ≤ a) (h1 : a ≤ 4000000000) (hl : l.length ≤ 1048576) : Ev (fun k => laws_markLinkS.f k l a) (a + 2 * (l.length : Int), marksLink a l.length) := by
  have := laws_markLinkS.ev_l a l.length h0 (by omega) l.length 0 l (by omega) rfl (by simp)
  rw [show a + 2 * ((0 : Nat) : Int) = a by omega] at this
  exact this

/-! laws_markProgram -/
theorem laws_markProgram.val (x y z : Int) (p : List S112) (a : Int) (h0 : 0 ≤ a) (h : a + (pieSize_ (pieShape_ p) : Int) ≤ 4000000000) : laws_markProgram.f x y z p a = some (a + (pieSize_ (pieShape_ p) : Int)) := if_pos ⟨h0, h⟩
theorem tab_cost : ∀ l : List S285, tabSize_ (tabShape_ (l.map cTable)) = tabsCost l
  | [] => rfl
  | x :: l => by
    have := tab_cost l
    unfold tabSize_ tabShape_ tabsCost at this ⊢
    simp only [List.map_cons, List.sum_cons, List.length_cons, cTable] at this ⊢
    omega
theorem pie_cost : ∀ l : List S177, pieSize_ (pieShape_ (l.map cPiece)) ≤ 2 * progCost l
  | [] => Nat.le_refl _
  | x :: l => by
    have h := pie_cost l
    have h2 := tab_cost x.f2
    unfold pieSize_ pieShape_ progCost at h ⊢
    simp only [List.map_cons, List.sum_cons, List.length_cons, cPiece, List.length_map] at h ⊢
    rw [h2, show pieCost x = x.f1.length + tabsCost x.f2 from rfl]
    omega

/-! d_neigh -/
theorem strict_ext : ∀ (l1 l2 : List Int), l1.Pairwise (· < ·) → l2.Pairwise (· < ·) → (∀ x, x ∈ l1 ↔ x ∈ l2) → l1 = l2
  | [], [], _, _, _ => rfl
  | [], y :: l2, _, _, h => absurd ((h y).2 List.mem_cons_self) (by simp)
  | x :: l1, [], _, _, h => absurd ((h x).1 List.mem_cons_self) (by simp)
  | x :: l1, y :: l2, h1, h2, h => by
    rw [List.pairwise_cons] at h1 h2
    have hx : x = y := by
      rcases List.mem_cons.1 ((h x).1 List.mem_cons_self) with e | e
      · exact e
      · have a := h2.1 x e
        rcases List.mem_cons.1 ((h y).2 List.mem_cons_self) with e' | e'
        · omega
        · have b := h1.1 y e'
          omega
    subst hx
    rw [strict_ext l1 l2 h1.2 h2.2 fun z => ?_]
    constructor
    · intro hz
      have a := h1.1 z hz
      rcases List.mem_cons.1 ((h z).1 (List.mem_cons_of_mem _ hz)) with e | e
      · omega
      · exact e
    · intro hz
      have a := h2.1 z hz
      rcases List.mem_cons.1 ((h z).2 (List.mem_cons_of_mem _ hz)) with e | e
      · omega
      · exact e
def posU (n : Int) : List Int → Nat
  | [] => 0
  | x :: l => if x < n then posU n l + 1 else 0
def insU (n : Int) (out : List Int) : List Int := if posU n out = out.length ∨ ¬ out.getD (posU n out) 0 = n then out.take (posU n out) ++ [n] ++ out.drop (posU n out) else out
theorem insU_lt {x n : Int} (h : x < n) (l : List Int) : insU n (x :: l) = x :: insU n l := by
  unfold insU
  simp only [posU, if_pos h, List.length_cons, List.getD_cons_succ, List.take_succ_cons, List.drop_succ_cons, Nat.add_right_cancel_iff]
  split <;> simp
theorem insU_ge {x n : Int} (h : ¬ x < n) (l : List Int) : insU n (x :: l) = if x = n then x :: l else n :: x :: l := by
  unfold insU
  simp only [posU, if_neg h, List.length_cons, List.getD_cons_zero, List.take_zero, List.drop_zero, List.nil_append]
  by_cases e : x = n
  · rw [if_neg (by simp [e]), if_pos e]
  · rw [if_pos (Or.inr e), if_neg e]; rfl
theorem insU_mem (n : Int) : ∀ (l : List Int) (z : Int), z ∈ insU n l ↔ z = n ∨ z ∈ l
  | [], z => by simp [insU, posU]
  | x :: l, z => by
    by_cases h : x < n
    · rw [insU_lt h, List.mem_cons, insU_mem n l z, List.mem_cons]
      constructor
      · rintro (e | e | e)
        · exact .inr (.inl e)
        · exact .inl e
        · exact .inr (.inr e)
      · rintro (e | e | e)
        · exact .inr (.inl e)
        · exact .inl e
        · exact .inr (.inr e)
    · rw [insU_ge h]
      split
      · rename_i e
        simp only [List.mem_cons]
        constructor
        · exact .inr
        · rintro (e' | e')
          · exact .inl (by omega)
          · exact e'
      · simp only [List.mem_cons]
theorem insU_strict (n : Int) : ∀ (l : List Int), l.Pairwise (· < ·) → (insU n l).Pairwise (· < ·)
  | [], _ => by simp [insU, posU]
  | x :: l, h => by
    have h' := List.pairwise_cons.1 h
    by_cases hx : x < n
    · rw [insU_lt hx, List.pairwise_cons]
      refine ⟨fun z hz => ?_, insU_strict n l h'.2⟩
      rcases (insU_mem n l z).1 hz with e | e
      · omega
      · exact h'.1 z e
    · rw [insU_ge hx]
      split
      · exact h
      · rw [List.pairwise_cons]
        refine ⟨fun z hz => ?_, h⟩
        rcases List.mem_cons.1 hz with e | e
        · omega
        · have := h'.1 z e
          omega
theorem compact_sorted (zs : List Int) (hs : ∀ i j, i ≤ j → j < zs.length → zs.toArray[i]! ≤ zs.toArray[j]!) : ∀ m, m ≤ zs.length → (Go.Lib.compactUpTo zs.toArray m).Pairwise (· < ·) ∧ ∀ z, z ∈ Go.Lib.compactUpTo zs.toArray m ↔ ∃ j, j < m ∧ zs.toArray[j]! = z := by
  intro m
  induction m with
  | zero => intro _; exact ⟨by simp [Go.Lib.compactUpTo], fun z => by simp [Go.Lib.compactUpTo]⟩
  | succ m ih =>
    intro hm
    obtain ⟨h1, h2⟩ := ih (by omega)
    rw [Go.Lib.compactUpTo_succ]
    by_cases hk : Go.Lib.keeps zs.toArray m = true
    · rw [if_pos hk]
      refine ⟨List.pairwise_append.2 ⟨h1, by simp, fun z hz y hy => ?_⟩, fun z => ?_⟩
      · rw [List.mem_singleton] at hy
        subst hy
        obtain ⟨j, hj, e⟩ := (h2 z).1 hz
        unfold Go.Lib.keeps at hk
        rcases of_decide_eq_true hk with h0 | h0
        · omega
        · have a := hs j (m - 1) (by omega) (by omega)
          have b := hs (m - 1) m (by omega) (by omega)
          omega
      · rw [List.mem_append, List.mem_singleton, h2 z]
        constructor
        · rintro (⟨j, hj, e⟩ | e)
          · exact ⟨j, by omega, e⟩
          · exact ⟨m, by omega, e.symm⟩
        · rintro ⟨j, hj, e⟩
          by_cases hjm : j = m
          · exact .inr (by rw [← e, hjm])
          · exact .inl ⟨j, by omega, e⟩
    · rw [if_neg hk, List.append_nil]
      refine ⟨h1, fun z => ?_⟩
      rw [h2 z]
      have hk' : Go.Lib.keeps zs.toArray m = false := by simpa using hk
      unfold Go.Lib.keeps at hk'
      have h0 := of_decide_eq_false hk'
      constructor
      · rintro ⟨j, hj, e⟩
        exact ⟨j, by omega, e⟩
      · rintro ⟨j, hj, e⟩
        by_cases hjm : j = m
        · refine ⟨m - 1, by omega, ?_⟩
          have : zs.toArray[m]! = zs.toArray[m - 1]! := Classical.byContradiction fun h => h0 (.inr h)
          rw [← this, ← hjm]; exact e
        · exact ⟨j, by omega, e⟩
theorem fold_insU : ∀ (l o : List Int), o.Pairwise (· < ·) → (l.foldl (fun o n => insU n o) o).Pairwise (· < ·) ∧ ∀ z, z ∈ l.foldl (fun o n => insU n o) o ↔ z ∈ o ∨ z ∈ l
  | [], o, h => ⟨h, fun z => by simp⟩
  | n :: l, o, h => by
    obtain ⟨h1, h2⟩ := fold_insU l (insU n o) (insU_strict n o h)
    refine ⟨h1, fun z => ?_⟩
    rw [List.foldl_cons, h2 z, insU_mem, List.mem_cons]
    constructor
    · rintro ((e | e) | e)
      · exact .inr (.inl e)
      · exact .inl e
      · exact .inr (.inr e)
    · rintro (e | e | e)
      · exact .inl (.inr e)
      · exact .inl (.inl e)
      · exact .inr e
theorem compact_sort (l : List Int) : Go.Lib.compact (l.mergeSort fun x y => decide (x ≤ y)) = l.foldl (fun o n => insU n o) [] := by
  have hp : (l.mergeSort fun x y => decide (x ≤ y)).Pairwise fun x y => decide (x ≤ y) = true := List.pairwise_mergeSort (fun a b c h1 h2 => by simp only [decide_eq_true_eq] at *; omega) (fun a b => by simp only [Bool.or_eq_true, decide_eq_true_eq]; omega) l
  have hm : ∀ z, z ∈ (l.mergeSort fun x y => decide (x ≤ y)) ↔ z ∈ l := fun z => List.mem_mergeSort
  generalize (l.mergeSort fun x y => decide (x ≤ y)) = zs at hp hm
  have hg : ∀ j, j < zs.length → zs.toArray[j]! = zs.getD j 0 := fun j hj => by
    rw [List.getD_eq_getElem?_getD, List.getElem?_eq_getElem hj]
    simp [hj]
  have hs : ∀ i j, i ≤ j → j < zs.length → zs.toArray[i]! ≤ zs.toArray[j]! := fun i j hij hj => by
    rcases Nat.lt_or_ge i j with h | h
    · have := List.pairwise_iff_getElem.1 hp i j (by omega) hj h
      simp only [decide_eq_true_eq] at this
      rw [hg i (by omega), hg j hj, List.getD_eq_getElem?_getD, List.getD_eq_getElem?_getD, List.getElem?_eq_getElem hj, List.getElem?_eq_getElem (show i < zs.length by omega)]
      exact this
    · rw [show i = j by omega]; exact Int.le_refl _
  obtain ⟨h1, h2⟩ := compact_sorted zs hs zs.length (Nat.le_refl _)
  obtain ⟨h3, h4⟩ := fold_insU l [] List.Pairwise.nil
  refine strict_ext _ _ h1 h3 fun z => ?_
  show z ∈ Go.Lib.compactUpTo zs.toArray zs.length ↔ _
  rw [h2 z, h4 z, ← hm z]
  constructor
  · rintro ⟨j, hj, e⟩
    refine .inr ?_
    rw [← e, hg j hj, List.getD_eq_getElem?_getD, List.getElem?_eq_getElem hj]
    exact List.getElem_mem hj
  · rintro (e | e)
    · cases e
    · obtain ⟨j, hj, e⟩ := List.getElem_of_mem e
      exact ⟨j, hj, by rw [hg j hj, List.getD_eq_getElem?_getD, List.getElem?_eq_getElem hj]; exact e⟩

/-! d_nbs -/
theorem insU_len (n : Int) (o : List Int) : (insU n o).length ≤ o.length + 1 := by
  unfold insU
  split
  · simp; omega
  · omega
theorem posU_le (n : Int) : ∀ l : List Int, posU n l ≤ l.length
  | [] => Nat.le_refl _
  | x :: l => by
    rw [posU]
    have := posU_le n l
    split
    · simp only [List.length_cons]; omega
    · simp
theorem insU_idem (n : Int) (o : List Int) (h : o.Pairwise (· < ·)) : insU n (insU n o) = insU n o :=
  strict_ext _ _ (insU_strict n _ (insU_strict n o h)) (insU_strict n o h) fun z => by
    rw [insU_mem, insU_mem]
    constructor
    · rintro (e | e)
      · exact .inl e
      · exact e
    · exact .inr
def nbStep (node : Int) (o : List Int) (x : S166) : List Int := if x.f0 = node then insU x.f1 o else if x.f1 = node then insU x.f0 o else o
def nbs (l : List S166) (node : Int) : List Int := l.foldl (nbStep node) []
theorem nbStep_len (node : Int) (o : List Int) (x : S166) : (nbStep node o x).length ≤ o.length + 1 := by
  unfold nbStep
  split
  · exact insU_len _ _
  · split
    · exact insU_len _ _
    · omega
theorem nbs_len (l : List S166) (node : Int) : (nbs l node).length ≤ l.length := by
  have : ∀ (l : List S166) (o : List Int), (l.foldl (nbStep node) o).length ≤ o.length + l.length := by
    intro l
    induction l with
    | nil => intro o; simp
    | cons x l ih =>
      intro o
      have h1 := ih (nbStep node o x)
      have h2 := nbStep_len node o x
      simp only [List.foldl_cons, List.length_cons]
      omega
  simpa [nbs] using this l []
def rawStep (node : Int) (r : List Int) (x : S166) : List Int := if x.f1 = node then (if x.f0 = node then r ++ [x.f1] else r) ++ [x.f0] else if x.f0 = node then r ++ [x.f1] else r
theorem raw_nbs (node : Int) : ∀ (l : List S166) (r : List Int), (l.foldl (rawStep node) r).foldl (fun o n => insU n o) [] = l.foldl (nbStep node) (r.foldl (fun o n => insU n o) [])
  | [], r => rfl
  | x :: l, r => by
    have hs := (fold_insU r [] List.Pairwise.nil).1
    rw [List.foldl_cons, List.foldl_cons, raw_nbs node l]
    congr 1
    unfold rawStep nbStep
    by_cases h0 : x.f0 = node
    · by_cases h1 : x.f1 = node
      · rw [if_pos h1, if_pos h0, if_pos h0, List.foldl_append, List.foldl_append]
        simp only [List.foldl_cons, List.foldl_nil]
        rw [h0, h1]
        exact insU_idem _ _ hs
      · rw [if_neg h1, if_pos h0, if_pos h0, List.foldl_append]
        rfl
    · by_cases h1 : x.f1 = node
      · rw [if_pos h1, if_neg h0, if_neg h0, if_pos h1, List.foldl_append]
        rfl
      · rw [if_neg h1, if_neg h0, if_neg h0, if_neg h1]
theorem raw_len (node : Int) : ∀ (l : List S166) (r : List Int), (l.foldl (rawStep node) r).length ≤ r.length + 2 * l.length
  | [], r => by simp
  | x :: l, r => by
    have h1 := raw_len node l (rawStep node r x)
    have h2 : (rawStep node r x).length ≤ r.length + 2 := by
      unfold rawStep
      repeat' split
      all_goals simp
    simp only [List.foldl_cons, List.length_cons]
    omega

/-! impl_NeighborsIn -/
theorem rawStep_len (node : Int) (r : List Int) (x : S166) : (rawStep node r x).length ≤ r.length + 2 := by
  unfold rawStep
  repeat' split
  all_goals simp
theorem impl_NeighborsIn.step (l : List S166) (node : Int) (s : List Int) (i k : Nat) (hl : l.length ≤ 1048576) (hi : i < l.length) (hs : s.length ≤ 2 * i) :
    impl_NeighborsIn.l0 (k + 1) node s l (l.length : Int) i = impl_NeighborsIn.l0 k node (rawStep node s (l.getD i z166)) l (l.length : Int) ((i + 1 : Nat) : Int) := by
  simp only [impl_NeighborsIn.l0]
  rw [if_pos (by omega), if_pos (by omega), if_pos (by omega), wrap_nat (by omega), show rd_T166 l (i : Int) = l.getD i z166 from rfl]
  unfold rawStep
  by_cases h0 : (l.getD i z166).f0 = node
  · rw [if_pos h0, if_pos (by omega), Option.bind_some]
    by_cases h1 : (l.getD i z166).f1 = node
    · rw [if_pos h1, if_pos (by rw [List.length_append, List.length_singleton]; omega), if_pos h1, if_pos h0]
    · rw [if_neg h1, if_neg h1, if_pos h0]
  · rw [if_neg h0]
    by_cases h1 : (l.getD i z166).f1 = node
    · rw [if_pos h1, if_pos (by omega), if_pos h1, if_neg h0]
    · rw [if_neg h1, if_neg h1, if_neg h0]
theorem impl_NeighborsIn.ev (l : List S166) (node : Int) (hl : l.length ≤ 1048576) : Ev (fun k => impl_NeighborsIn.f k l node) (nbs l node) := by
  have h := fold_index (g := fun k s i => impl_NeighborsIn.l0 k node s l (l.length : Int) i) (f := fun i s => rawStep node s (l.getD i z166)) (fin := fun s => s.foldl (fun o n => insU n o) []) (fun i s => s.length ≤ 2 * i) l.length [] (by simp)
    (fun s hs => Ev.one fun k => by
      simp only [impl_NeighborsIn.l0]
      rw [if_neg (by omega)]
      unfold slices_Sort_int_int.f slices_Compact_int_int.f
      rw [if_pos (by omega), Option.bind_some, Option.bind_some]
      exact congrArg some (compact_sort s))
    (fun i s hi hs => ⟨Nat.le_trans (rawStep_len _ _ _) (by omega), fun k => impl_NeighborsIn.step l node s i k hl hi hs⟩)
  rw [foldl_index l z166 (fun s x => rawStep node s x) [], raw_nbs node l []] at h
  exact h

/-! impl_isIndex -/
theorem impl_isIndex.val (a n : Int) : impl_isIndex.f a n = some (decide (0 ≤ a) && decide (a < n)) := by
  unfold impl_isIndex.f
  by_cases h : a ≥ 0
  · rw [if_pos h]; simp [h]
  · rw [if_neg h]; simp; omega
theorem impl_isIndex.nat (a : Int) (n : Nat) : impl_isIndex.f a (n : Int) = some (idxB a n) := impl_isIndex.val a n

/-! d_hasLink -/
def linkQ (a b : Int) (x : S166) : Bool := (x.f0 == a) && (x.f1 == b) || (x.f0 == b) && (x.f1 == a)
def hasLink (p : List S112) (k a b : Int) : Bool := idxB k p.length && (rd_T112 p k).f1.any (linkQ a b)
theorem fit_links {n : Nat} {p : List S112} (hp : fitQi n p) {k : Int} (hk : idxB k p.length = true) : (rd_T112 p k).f1.length ≤ n := by
  obtain ⟨h0, h1⟩ := (idxB_iff _ _).1 hk
  exact (hp.2 _ (getD_mem p z112 (show k.toNat < p.length by omega))).1

/-! d_servers -/
def serversIn (p : List S112) (kk site : Int) : List Int := if idxB kk p.length = true then nbs (rd_T112 p kk).f1 site else []
theorem servers_len (p : List S112) (kk site : Int) (hp : fitQi 1048576 p) : (serversIn p kk site).length ≤ 1048576 := by
  unfold serversIn
  split
  · rename_i h
    exact Nat.le_trans (nbs_len _ _) (fit_links hp h)
  · simp

/-! impl_ServersIn -/
theorem impl_ServersIn.ev (x y z : Int) (p : List S112) (kk site : Int) (hp : fitQi 1048576 p) : Ev (fun k => impl_ServersIn.f k x y z p kk site) (serversIn p kk site) := by
  refine Ev.congr (fun k => by unfold impl_ServersIn.f; rw [impl_isIndex.nat, Option.bind_some]) ?_
  unfold serversIn
  by_cases h : idxB kk p.length = true
  · have hl := fit_links hp h
    obtain ⟨h0, h1⟩ := (idxB_iff _ _).1 h
    rw [if_pos h]
    refine Ev.congr (fun k => by rw [if_pos h, if_pos h0, if_pos h1]) ?_
    exact Ev.bind (impl_NeighborsIn.ev _ site hl) (Ev.now _)
  · rw [if_neg h]
    exact Ev.all fun k => by rw [if_neg h]

/-! d_eqL -/
def eqL (a b : List Int) : Bool := decide (a = b)
theorem eq_drop (a b : List Int) (i : Nat) (ha : i < a.length) (hb : i < b.length) : (a.drop i = b.drop i) ↔ (a.getD i 0 = b.getD i 0 ∧ a.drop (i + 1) = b.drop (i + 1)) := by
  rw [drop_cons a 0 ha, drop_cons b 0 hb, List.cons.injEq]

/-! slices_Equal_int_int -/
theorem slices_Equal_int_int.ev_l (a b : List Int) (hl : a.length ≤ 1048576) (he : a.length = b.length) : ∀ (d i : Nat), i + d = a.length → Ev (fun k => slices_Equal_int_int.l0 k a b a.length i) (decide (a.drop i = b.drop i)) := by
  intro d
  induction d with
  | zero =>
    intro i hi
    rw [List.drop_eq_nil_of_le (by omega), List.drop_eq_nil_of_le (by omega)]
    refine Ev.one fun k => ?_; simp only [slices_Equal_int_int.l0]; rw [if_neg (by omega)]; simp
  | succ d ih =>
    intro i hi
    by_cases h : a.getD i 0 = b.getD i 0
    · have e : decide (a.drop i = b.drop i) = decide (a.drop (i + 1) = b.drop (i + 1)) := by
        rw [decide_eq_decide, eq_drop a b i (by omega) (by omega)]; simp only [h, true_and]
      rw [e]
      refine Ev.step (fun k => ?_) (ih (i + 1) (by omega))
      simp only [slices_Equal_int_int.l0]
      rw [if_pos (by omega), if_pos (by omega), if_pos (by omega), if_pos (by omega), rd_nat, rd_nat, if_pos h, wrap_nat (by omega)]
    · have e : decide (a.drop i = b.drop i) = false := by
        rw [decide_eq_false_iff_not, eq_drop a b i (by omega) (by omega)]; exact fun hh => h hh.1
      rw [e]
      refine Ev.one fun k => ?_
      simp only [slices_Equal_int_int.l0]
      rw [if_pos (by omega), if_pos (by omega), if_pos (by omega), if_pos (by omega), rd_nat, rd_nat, if_neg h]
theorem slices_Equal_int_int.ev (a b : List Int) (hl : a.length ≤ 1048576) : Ev (fun k => slices_Equal_int_int.f k a b) (eqL a b) := by
  unfold eqL
  by_cases he : a.length = b.length
  · refine Ev.congr (fun k => by unfold slices_Equal_int_int.f; rw [if_pos (by omega)]) ?_
    have := slices_Equal_int_int.ev_l a b hl he a.length 0 (by omega)
    simpa using this
  · refine Ev.all (fun k => ?_)
    unfold slices_Equal_int_int.f
    rw [if_neg (by omega)]
    have : decide (a = b) = false := by rw [decide_eq_false_iff_not]; intro h; exact he (by rw [h])
    rw [this]

/-! d_hands -/
def handStep (p : List S112) (site : Int) (o : List S87) (j : Nat) : List S87 := if eqL (serversIn p ((j - 1 : Nat) : Int) site) (serversIn p (j : Int) site) = true then o else o ++ [⟨(rd_T112 p (j : Int)).f0.f0, serversIn p ((j - 1 : Nat) : Int) site, serversIn p (j : Int) site⟩]
def handL (p : List S112) (site : Int) : List S87 := (List.range' 1 (p.length - 1)).foldl (fun o j => handStep p site o j) []
def okH (x : S87) : Prop := x.f1.length ≤ 1048576 ∧ x.f2.length ≤ 1048576
theorem handStep_ok (p : List S112) (site : Int) (hp : fitQi 1048576 p) (o : List S87) (j i : Nat) (h : o.length ≤ i ∧ ∀ x ∈ o, okH x) : (handStep p site o j).length ≤ i + 1 ∧ ∀ x ∈ handStep p site o j, okH x := by
  unfold handStep
  split
  · exact ⟨by omega, h.2⟩
  · refine ⟨by rw [List.length_append, List.length_singleton]; omega, fun x hx => ?_⟩
    rcases List.mem_append.1 hx with hx | hx
    · exact h.2 x hx
    · rw [List.mem_singleton] at hx
      subst hx
      exact ⟨servers_len _ _ _ hp, servers_len _ _ _ hp⟩
theorem handL_ok (p : List S112) (site : Int) (hp : fitQi 1048576 p) : (handL p site).length ≤ 1048576 ∧ ∀ x ∈ handL p site, okH x := by
  have : ∀ d i (o : List S87), o.length ≤ i ∧ (∀ x ∈ o, okH x) → ((List.range' i d).foldl (fun o j => handStep p site o j) o).length ≤ i + d ∧ ∀ x ∈ (List.range' i d).foldl (fun o j => handStep p site o j) o, okH x := by
    intro d
    induction d with
    | zero => intro i o h; simpa using h
    | succ d ih =>
      intro i o h
      rw [List.range'_succ, List.foldl_cons]
      have := ih (i + 1) _ (handStep_ok p site hp o i i h)
      exact ⟨by omega, this.2⟩
  have h := this (p.length - 1) 1 [] ⟨by simp, fun x hx => by cases hx⟩
  exact ⟨by have := hp.1; unfold handL; omega, h.2⟩

/-! impl_HandoversOf -/
theorem impl_HandoversOf.ev (a b c : Int) (p : List S112) (site : Int) (hp : fitQi 1048576 p) : Ev (fun k => impl_HandoversOf.f k a b c p site) (handL p site) := by
  have hl := hp.1
  by_cases h0 : p.length = 0
  · have : handL p site = [] := by unfold handL; rw [h0]; rfl
    rw [this]
    exact Ev.one (g := fun k => impl_HandoversOf.l0 k site [] 1 a b c p) fun k => by simp only [impl_HandoversOf.l0]; rw [if_neg (by omega)]
  · exact foldE (g := fun k o i => impl_HandoversOf.l0 k site o i a b c p) (f := fun i o => handStep p site o i) (fin := fun o => o) (fun i o => o.length ≤ i ∧ 1 ≤ i) p.length
      (fun s _ => Ev.one fun k => by simp only [impl_HandoversOf.l0]; rw [if_neg (by omega)])
      (fun i o hi ho => ⟨⟨by unfold handStep; split; · omega
                             · rw [List.length_append, List.length_singleton]; omega, by omega⟩, fun r hr => by
        refine Ev.step (fun k => by simp only [impl_HandoversOf.l0]; rw [if_pos (by omega), wrap_pred (by omega) (by omega), wrap_nat (by omega)]) (Ev.bind (impl_ServersIn.ev a b c p ((i - 1 : Nat) : Int) site hp) (Ev.bind (impl_ServersIn.ev a b c p i site hp) (Ev.bind (slices_Equal_int_int.ev _ _ (servers_len p _ site hp)) ?_)))
        unfold handStep at hr
        by_cases h : eqL (serversIn p ((i - 1 : Nat) : Int) site) (serversIn p (i : Int) site) = true
        · rw [if_pos h] at hr
          exact Ev.congr (fun k => by rw [if_pos h]) hr
        · rw [if_neg h] at hr
          exact Ev.congr (fun k => by rw [if_neg h, if_pos (by omega), if_pos (by omega)]) hr⟩) (p.length - 1) 1 [] (by omega) ⟨by simp, by omega⟩

/-! spec_l1In -/
theorem spec_l1In.val (a lo hi : Int) : spec_l1In.f a lo hi = some (inR a lo hi) := by
  unfold spec_l1In.f inR
  by_cases h : a ≥ lo
  · rw [if_pos h]; simp [h]
  · rw [if_neg h]; simp; omega

/-! spec_NeighborsIn -/
theorem spec_NeighborsIn.ev_l1 (l : List S166) (node : Int) (o : List Int) (x6 : Int) (n : Int) (ho : o.length ≤ 4000000) (R : List Int) (h6 : Ev (fun k => spec_NeighborsIn.l0 k l node (insU n o) (wrap64 (x6 + 1))) R) :
    ∀ (d i : Nat), i + d = o.length → posU n o = i + posU n (o.drop i) → Ev (fun k => spec_NeighborsIn.l1 k l node o x6 n i) R := by
  have put : ∀ i : Nat, i ≤ o.length → posU n o = i → (i = o.length ∨ ¬ o.getD i 0 = n) → ∀ b : Bool, b = true → Ev (fun k => spec_NeighborsIn.j4 k l node o x6 n i b) R := fun i hi hp hc b hb => by
    have e : insU n o = o.take i ++ [n] ++ o.drop i := by
      unfold insU
      rw [hp, if_pos hc]
    rw [e] at h6
    refine Ev.step (fun k => ?_) h6
    simp only [spec_NeighborsIn.j4]
    rw [if_pos hb, Option.bind_some, if_pos (by omega), if_pos (by omega), Option.bind_some, Int.toNat_natCast, if_pos (by simp; omega), Option.bind_some, Option.bind_some, if_pos (by simp; omega), Option.bind_some, Option.bind_some, if_pos (by simp; omega), List.nil_append]
  intro d
  induction d with
  | zero =>
    intro i hi hp
    rw [List.drop_eq_nil_of_le (by omega)] at hp
    have hp' : posU n o = i := by simpa [posU] using hp
    refine Ev.step (fun k => by simp only [spec_NeighborsIn.l1]; rw [if_neg (by omega)]) ?_
    refine Ev.step (fun k => by simp only [spec_NeighborsIn.j3]; rw [if_neg (by simp), if_pos (by omega)]) (put i (by omega) hp' (.inl (by omega)) true rfl)
  | succ d ih =>
    intro i hi hp
    rw [drop_cons o 0 (by omega), posU] at hp
    refine Ev.step (fun k => by simp only [spec_NeighborsIn.l1]; rw [if_pos (by omega), if_pos (by omega), rd_nat]) ?_
    by_cases hx : o.getD i 0 < n
    · rw [if_pos hx] at hp
      exact Ev.step (fun k => by simp only [spec_NeighborsIn.j3]; rw [if_pos (decide_eq_true hx), wrap_nat (by omega)]) (ih (i + 1) (by omega) (by omega))
    · rw [if_neg hx] at hp
      have hp' : posU n o = i := by omega
      refine Ev.step (fun k => by simp only [spec_NeighborsIn.j3]; rw [if_neg (by simpa using hx), if_neg (by omega), if_pos (by omega), if_pos (by omega), rd_nat]) ?_
      by_cases he : o.getD i 0 = n
      · have e : insU n o = o := by
          unfold insU
          rw [hp', if_neg (by rintro (h | h); omega; exact h he)]
        rw [e] at h6
        exact Ev.step (fun k => by simp only [spec_NeighborsIn.j4]; rw [if_neg (by simpa using he)]) h6
      · exact put i (by omega) hp' (.inr he) _ (by simpa using he)
theorem spec_NeighborsIn.ev (l : List S166) (node : Int) (hl : l.length ≤ 1048576) : Ev (fun k => spec_NeighborsIn.f k l node) (nbs l node) := by
  have h := foldE_index (g := fun k o i => spec_NeighborsIn.l0 k l node o i) (f := fun j o => nbStep node o (l.getD j z166)) (fin := fun o => o) (fun i o => o.length ≤ i) l.length [] (by simp)
    (fun o ho => Ev.one fun k => by simp only [spec_NeighborsIn.l0]; rw [if_neg (by omega)])
    (fun i o hi ho => by
      refine ⟨Nat.le_trans (nbStep_len _ _ _) (by omega), fun r hr => ?_⟩
      rw [show (((i + 1 : Nat) : Int)) = wrap64 ((i : Int) + 1) from (wrap_nat (by omega)).symm] at hr
      have one : ∀ n, nbStep node o (l.getD i z166) = insU n o → Ev (fun k => spec_NeighborsIn.j1 k l node o i n) r := fun n e => by
        rw [e] at hr
        exact Ev.step (fun k => by simp only [spec_NeighborsIn.j1]; rfl) (spec_NeighborsIn.ev_l1 l node o i n (by omega) r hr o.length 0 (by omega) (by simp))
      have rdE : rd_T166 l (i : Int) = l.getD i z166 := rfl
      by_cases h0 : (l.getD i z166).f0 = node
      · exact Ev.step (fun k => by simp only [spec_NeighborsIn.l0]; rw [if_pos (by omega), if_pos (by omega), rdE, if_pos h0]) (one _ (by unfold nbStep; rw [if_pos h0]))
      · by_cases h1 : (l.getD i z166).f1 = node
        · exact Ev.step (fun k => by simp only [spec_NeighborsIn.l0]; rw [if_pos (by omega), if_pos (by omega), rdE, if_neg h0, if_pos h1]) (one _ (by unfold nbStep; rw [if_neg h0, if_pos h1]))
        · have e : nbStep node o (l.getD i z166) = o := by unfold nbStep; rw [if_neg h0, if_neg h1]
          rw [e] at hr
          exact Ev.step (fun k => by simp only [spec_NeighborsIn.l0]; rw [if_pos (by omega), if_pos (by omega), rdE, if_neg h0, if_neg h1]) hr)
  rw [foldl_index l z166 (fun o x => nbStep node o x) []] at h
  exact h

/-! spec_ServersIn -/
theorem spec_ServersIn.ev (x y z : Int) (p : List S112) (kk site : Int) (hp : fitQi 1048576 p) : Ev (fun k => spec_ServersIn.f k x y z p kk site) (serversIn p kk site) := by
  refine Ev.congr (fun k => by unfold spec_ServersIn.f; rw [spec_l1In.val, Option.bind_some, inR_idx _ _ hp.1]) ?_
  unfold serversIn
  by_cases h : idxB kk p.length = true
  · have hl := fit_links hp h
    obtain ⟨h0, h1⟩ := (idxB_iff _ _).1 h
    rw [if_pos h]
    refine Ev.congr (fun k => by rw [if_pos h, if_pos h0, if_pos h1]) ?_
    exact Ev.bind (spec_NeighborsIn.ev _ site hl) (Ev.now _)
  · rw [if_neg h]
    exact Ev.all fun k => by rw [if_neg h]

/-! spec_EqualInts -/
theorem spec_EqualInts.ev_l (a b : List Int) (hl : a.length ≤ 1048576) (he : a.length = b.length) : ∀ (d i : Nat), i + d = a.length → Ev (fun k => spec_EqualInts.l0 k a b i) (decide (a.drop i = b.drop i)) := by
  intro d
  induction d with
  | zero =>
    intro i hi
    rw [List.drop_eq_nil_of_le (by omega), List.drop_eq_nil_of_le (by omega)]
    refine Ev.one fun k => ?_; simp only [spec_EqualInts.l0]; rw [if_neg (by omega)]; simp
  | succ d ih =>
    intro i hi
    by_cases h : a.getD i 0 = b.getD i 0
    · have e : decide (a.drop i = b.drop i) = decide (a.drop (i + 1) = b.drop (i + 1)) := by
        rw [decide_eq_decide, eq_drop a b i (by omega) (by omega)]; simp only [h, true_and]
      rw [e]
      refine Ev.step (fun k => ?_) (ih (i + 1) (by omega))
      simp only [spec_EqualInts.l0]
      rw [if_pos (by omega), if_pos (by omega), if_pos (by omega), rd_nat, rd_nat, if_pos h, wrap_nat (by omega)]
    · have e : decide (a.drop i = b.drop i) = false := by
        rw [decide_eq_false_iff_not, eq_drop a b i (by omega) (by omega)]; exact fun hh => h hh.1
      rw [e]
      refine Ev.one fun k => ?_
      simp only [spec_EqualInts.l0]
      rw [if_pos (by omega), if_pos (by omega), if_pos (by omega), rd_nat, rd_nat, if_neg h]
theorem spec_EqualInts.ev (a b : List Int) (hl : a.length ≤ 1048576) : Ev (fun k => spec_EqualInts.f k a b) (eqL a b) := by
  unfold eqL
  by_cases he : a.length = b.length
  · refine Ev.congr (fun k => by unfold spec_EqualInts.f; rw [if_pos (by omega)]) ?_
    have := spec_EqualInts.ev_l a b hl he a.length 0 (by omega)
    simpa using this
  · refine Ev.all (fun k => ?_)
    unfold spec_EqualInts.f
    rw [if_neg (by omega)]
    have : decide (a = b) = false := by rw [decide_eq_false_iff_not]; intro h; exact he (by rw [h])
    rw [this]

/-! spec_HandoversOf -/
theorem spec_HandoversOf.ev (a b c : Int) (p : List S112) (site : Int) (hp : fitQi 1048576 p) : Ev (fun k => spec_HandoversOf.f k a b c p site) (handL p site) := by
  have hl := hp.1
  by_cases h0 : p.length = 0
  · have : handL p site = [] := by unfold handL; rw [h0]; rfl
    rw [this]
    exact Ev.one (g := fun k => spec_HandoversOf.l0 k site [] 1 a b c p) fun k => by simp only [spec_HandoversOf.l0]; rw [if_neg (by omega)]
  · exact foldE (g := fun k o i => spec_HandoversOf.l0 k site o i a b c p) (f := fun i o => handStep p site o i) (fin := fun o => o) (fun i o => o.length ≤ i ∧ 1 ≤ i) p.length
      (fun s _ => Ev.one fun k => by simp only [spec_HandoversOf.l0]; rw [if_neg (by omega)])
      (fun i o hi ho => ⟨⟨by unfold handStep; split; · omega
                             · rw [List.length_append, List.length_singleton]; omega, by omega⟩, fun r hr => by
        refine Ev.step (fun k => by simp only [spec_HandoversOf.l0]; rw [if_pos (by omega), wrap_pred (by omega) (by omega), wrap_nat (by omega)]) (Ev.bind (spec_ServersIn.ev a b c p ((i - 1 : Nat) : Int) site hp) (Ev.bind (spec_ServersIn.ev a b c p i site hp) (Ev.bind (spec_EqualInts.ev _ _ (servers_len p _ site hp)) ?_)))
        unfold handStep at hr
        by_cases h : eqL (serversIn p ((i - 1 : Nat) : Int) site) (serversIn p (i : Int) site) = true
        · rw [if_pos h] at hr
          exact Ev.congr (fun k => by rw [if_pos h]) hr
        · rw [if_neg h] at hr
          exact Ev.congr (fun k => by rw [if_neg h, if_pos (by omega), if_pos (by omega)]) hr⟩) (p.length - 1) 1 [] (by omega) ⟨by simp, by omega⟩

/-! laws_eqHandover -/
theorem laws_eqHandover.ev (x : Int) (l m : List Int) (hl : l.length ≤ 1048576) (hm : m.length ≤ 1048576) : Ev (fun k => laws_eqHandover.f k x l m x l m) true := by
  refine Ev.congr (fun k => by unfold laws_eqHandover.f; rw [if_pos rfl]) (Ev.bind (laws_eqIntS.ev l hl) ?_)
  exact Ev.congr (fun k => by rw [if_pos rfl]) (Ev.bindT (laws_eqIntS.ev m hm))

/-! laws_eqHandoverS -/
theorem laws_eqHandoverS.ev (l : List S87) (hl : l.length ≤ 1048576) (ho : ∀ x ∈ l, okH x) : Ev (fun k => laws_eqHandoverS.f k l l) true := by
  refine Ev.congr (fun k => by unfold laws_eqHandoverS.f; rw [if_pos rfl]) (all_loop (g := fun k i => laws_eqHandoverS.l0 k l l i) l.length (Ev.one fun k => by simp only [laws_eqHandoverS.l0]; rw [if_neg (by omega)]) (fun i hi r hr => ?_))
  have hx := ho _ (getD_mem l z87 hi)
  refine Ev.step (fun k => by simp only [laws_eqHandoverS.l0]; rw [if_pos (by omega), if_pos (by omega), if_pos (by omega), wrap_nat (by omega), show rd_T87 l (i : Int) = l.getD i z87 from rfl]) (Ev.bind (laws_eqHandover.ev _ _ _ hx.1 hx.2) (Ev.congr (fun k => by rw [if_pos rfl]) hr))

/-! d_markH -/
def costH : List S87 → Nat
  | [] => 0
  | x :: t => 1 + x.f1.length + x.f2.length + costH t
def mkH : List S87 → Int → List S87
  | [], _ => []
  | x :: t, a => ⟨a, marks (a + 1) x.f1.length, marks (a + 1 + x.f1.length) x.f2.length⟩ :: mkH t (a + 1 + x.f1.length + x.f2.length)
theorem mkH_len : ∀ (l : List S87) (a : Int), (mkH l a).length = l.length
  | [], _ => rfl
  | x :: t, a => by rw [mkH, List.length_cons, List.length_cons, mkH_len t]
theorem costH_le : ∀ (l : List S87), (∀ x ∈ l, okH x) → costH l ≤ 2097153 * l.length
  | [], _ => by simp [costH]
  | x :: t, h => by
    have hx := h x (by simp)
    have := costH_le t (fun y hy => h y (by simp [hy]))
    rw [costH, List.length_cons]
    unfold okH at hx
    omega
theorem pre_rd (o t : List S87) (x : S87) : rd_T87 (o ++ x :: t) (o.length : Int) = x := by
  show (o ++ x :: t).getD ((o.length : Int).toNat) z87 = x
  rw [Int.toNat_natCast]
  simp [List.getD_eq_getElem?_getD]
theorem pre_set (o t : List S87) (x y : S87) : (o ++ x :: t).set o.length y = (o ++ [y]) ++ t := by
  simp [List.set_append]

/-! laws_markHandoverS -/
theorem laws_markHandoverS.ev_l : ∀ (t o : List S87) (a : Int), 0 ≤ a → a + costH t ≤ 4611686018427000000 → o.length + t.length ≤ 1048576 → Ev (fun k => laws_markHandoverS.l0 k (o ++ t) a (o.length : Int)) (a + costH t, o ++ mkH t a)
  | [], o, a, h0, h1, h2 => Ev.one fun k => by
    simp only [laws_markHandoverS.l0]
    rw [if_neg (by simp)]
    simp [costH, mkH]
  | x :: t, o, a, h0, h1, h2 => by
    rw [costH] at h1
    rw [List.length_cons] at h2
    refine Ev.step (fun k => by simp only [laws_markHandoverS.l0]; rw [if_pos (by rw [List.length_append, List.length_cons]; omega), if_pos (by omega), pre_rd, wrap_id (x := a + 1) (by omega) (by omega), Int.toNat_natCast, wrap_nat (by omega)]) ?_
    refine Ev.bind (laws_markIntS.ev x.f1 (a + 1) (by omega) (by omega)) (Ev.bind (laws_markIntS.ev x.f2 (a + 1 + x.f1.length) (by omega) (by omega)) ?_)
    rw [pre_set]
    have ih := laws_markHandoverS.ev_l t (o ++ [⟨a, marks (a + 1) x.f1.length, marks (a + 1 + x.f1.length) x.f2.length⟩]) (a + 1 + x.f1.length + x.f2.length) (by omega) (by omega) (by rw [List.length_append, List.length_singleton]; omega)
    rw [List.length_append, List.length_singleton] at ih
    rw [show a + ((costH (x :: t) : Nat) : Int) = a + 1 + x.f1.length + x.f2.length + ((costH t : Nat) : Int) by rw [costH]; omega, mkH]
    simp only [List.append_assoc, List.cons_append, List.nil_append] at ih ⊢
    exact ih
theorem laws_markHandoverS.ev (l : List S87) (a : Int) (h0 : 0 ≤ a) (h1 : a + costH l ≤ 4611686018427000000) (h2 : l.length ≤ 1048576) : Ev (fun k => laws_markHandoverS.f k l a) (a + costH l, mkH l a) := laws_markHandoverS.ev_l l [] a h0 h1 (by simpa using h2)

/-! laws_heldIntS -/
theorem laws_heldIntS.ev_l (a : Int) (n : Nat) (h0 : 0 ≤ a) (h1 : a + n ≤ 4611686018427387904) : ∀ (d i : Nat), i + d = n → Ev (fun k => laws_heldIntS.l0 k (marks a n) (a + i) i) (a + n) := by
  intro d
  induction d with
  | zero =>
    intro i hi
    refine Ev.one fun k => ?_
    simp only [laws_heldIntS.l0]
    rw [if_neg (by rw [marks_length]; omega), show i = n by omega]
  | succ d ih =>
    intro i hi
    refine Ev.step (fun k => ?_) (ih (i + 1) (by omega))
    simp only [laws_heldIntS.l0]
    rw [if_pos (by rw [marks_length]; omega), if_pos (by omega), rd_nat, if_pos (marks_getD a n i (by omega)), wrap_nat (by omega), wrap_id (by omega) (by omega)]
    rw [show a + (i : Int) + 1 = a + ((i + 1 : Nat) : Int) by omega]
theorem laws_heldIntS.ev (a : Int) (n : Nat) (h0 : 0 ≤ a) (h1 : a + n ≤ 4611686018427387904) : Ev (fun k => laws_heldIntS.f k (marks a n) a) (a + n) := by
  have := laws_heldIntS.ev_l a n h0 h1 n 0 (by omega)
  rw [show a + ((0 : Nat) : Int) = a by omega] at this
  exact this

/-! laws_heldHandoverS -/
theorem laws_heldHandoverS.ev_l : ∀ (t o : List S87) (a : Int), 0 ≤ a → a + costH t ≤ 4611686018427000000 → o.length + t.length ≤ 1048576 → Ev (fun k => laws_heldHandoverS.l0 k (o ++ mkH t a) a (o.length : Int)) (a + costH t)
  | [], o, a, h0, h1, h2 => Ev.one fun k => by
    simp only [laws_heldHandoverS.l0]
    rw [if_neg (by simp [mkH])]
    simp [costH]
  | x :: t, o, a, h0, h1, h2 => by
    rw [costH] at h1
    rw [List.length_cons] at h2
    rw [mkH]
    refine Ev.step (fun k => by simp only [laws_heldHandoverS.l0]; rw [if_pos (by rw [List.length_append, List.length_cons]; omega), if_pos (by omega), pre_rd, if_pos rfl, wrap_id (x := a + 1) (by omega) (by omega), wrap_nat (by omega)]) ?_
    refine Ev.bind (laws_heldIntS.ev (a + 1) x.f1.length (by omega) (by omega)) (Ev.congr (fun k => by rw [if_neg (by omega)]) (Ev.bind (laws_heldIntS.ev (a + 1 + x.f1.length) x.f2.length (by omega) (by omega)) (Ev.congr (fun k => by rw [if_neg (by omega)]) ?_)))
    have ih := laws_heldHandoverS.ev_l t (o ++ [⟨a, marks (a + 1) x.f1.length, marks (a + 1 + x.f1.length) x.f2.length⟩]) (a + 1 + x.f1.length + x.f2.length) (by omega) (by omega) (by rw [List.length_append, List.length_singleton]; omega)
    rw [List.length_append, List.length_singleton, List.append_assoc] at ih
    rw [show a + ((costH (x :: t) : Nat) : Int) = a + 1 + x.f1.length + x.f2.length + ((costH t : Nat) : Int) by rw [costH]; omega]
    exact ih
theorem laws_heldHandoverS.ev (l : List S87) (a : Int) (h0 : 0 ≤ a) (h1 : a + costH l ≤ 4611686018427000000) (h2 : l.length ≤ 1048576) : Ev (fun k => laws_heldHandoverS.f k (mkH l a) a) (a + costH l) := laws_heldHandoverS.ev_l l [] a h0 h1 (by simpa using h2)

/-! d_wQ -/
theorem fit_of {l : List S177} (h : l.length ≤ maxLen ∧ ∀ e_ ∈ l, W177 e_) : fitQ maxLen l :=
  ⟨h.1, fun x hx => ⟨(h.2 x hx).2.1.1, (h.2 x hx).2.2.1, fun t ht => ⟨((h.2 x hx).2.2.2 t ht).2.1.1, ((h.2 x hx).2.2.2 t ht).2.2.1⟩⟩⟩

/-! d_fitMap -/
theorem fit_map {n : Nat} {l : List S177} (h : fitQ n l) : fitQi n (l.map cPiece) := by
  refine ⟨by simpa using h.1, fun x hx => ?_⟩
  obtain ⟨y, hy, rfl⟩ := List.mem_map.1 hx
  obtain ⟨h1, h2, h3⟩ := h.2 y hy
  refine ⟨by simpa [cPiece] using h1, by simpa [cPiece] using h2, fun t ht => ?_⟩
  obtain ⟨u, hu, rfl⟩ := List.mem_map.1 ht
  exact h3 u hu

/-! @@ FnExactHandoversOf -/
theorem proved : Stated := by
  intro a b c m i1 _ _ _ hm _
  refine Ev.rounds ?_
  obtain ⟨u, hu, hle, hq⟩ := laws_szProgram.sum a b c m 1048576 (by omega) (by omega) (fit_of hm)
  refine Ev.bind hu ?_
  by_cases h' : u < 0
  · exact Ev.all fun k => by rw [if_pos h']
  obtain ⟨hcost, hq⟩ := hq (by omega)
  have hq2 := fit_map hq
  have hpc := pie_cost m
  have hs := spec_HandoversOf.ev a b c (m.map cPiece) i1 hq2
  have hi := impl_HandoversOf.ev a b c (m.map cPiece) i1 hq2
  obtain ⟨hlen, hok⟩ := handL_ok (m.map cPiece) i1 hq2
  generalize handL (m.map cPiece) i1 = R at hs hi hlen hok
  have hR : Ev (fun k => laws_eqHandoverS.f k R R) true := laws_eqHandoverS.ev R hlen hok
  have hcR := costH_le R hok
  have hmk := laws_markHandoverS.ev R 1 (by omega) (by omega) hlen
  have hhd := laws_heldHandoverS.ev R 1 (by omega) (by omega) hlen
  refine Ev.congr (fun k => by rw [if_neg h']) (Ev.bind (laws_toProgram.ev a b c m hq) (Ev.bind hs (Ev.bind (laws_toProgram.ev a b c m hq) (Ev.bind hi (Ev.bind hR ?_)))))
  refine Ev.congr (fun k => by rw [if_pos rfl]) (Ev.bind (laws_toProgram.ev a b c m hq) (Ev.bind (laws_eqProgram.ev a b c _ hq2) ?_))
  refine Ev.congr (fun k => by rw [if_pos rfl, laws_markProgram.val _ _ _ _ _ (by omega) (by dsimp only; omega), Option.bind_some, if_neg (by dsimp only; omega)]) (Ev.bind hR ?_)
  refine Ev.congr (fun k => by rw [if_pos rfl]) (Ev.bind hmk (Ev.bind hhd ?_))
  refine Ev.congr (fun k => by rw [if_neg (by omega), if_pos rfl]) (Ev.bind (laws_toProgram.ev a b c m hq) (Ev.bind hi (Ev.bind hR ?_)))
  refine Ev.congr (fun k => by rw [if_pos rfl]) (Ev.bind hhd ?_)
  exact Ev.all fun k => by rw [if_neg (by omega), if_pos rfl]

end Go.Proofs.Ytlogjmgghnifoaa.PureFnExactHandoversOf
