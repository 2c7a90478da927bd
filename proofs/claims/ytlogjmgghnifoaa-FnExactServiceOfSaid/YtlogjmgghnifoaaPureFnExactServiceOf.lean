/- FnExactServiceOf, over numbers and lists alone: what the program's function and the reference's answer is one. Conditions: the numbers are of their kinds. -/
import Derived.Test.YtlogjmgghnifoaaKindsFnExactServiceOf
import Derived.Test.YtlogjmgghnifoaaVFnExactServiceOfBase
namespace Go.Proofs.Ytlogjmgghnifoaa.PureFnExactServiceOf
open Go.RowKit Go.Proofs.Ytlogjmgghnifoaa.PFnExactServiceOf Go.Proofs.YtlogjmgghnifoaaW.PrintWords Go.Proofs.YtlogjmgghnifoaaW.PrintLast Go.Proofs.YtlogjmgghnifoaaW.PrintMore Go.Proofs.Ytlogjmgghnifoaa.Base
set_option linter.unusedVariables false
set_option linter.unusedSimpArgs false

/-! laws_szLinkS -/
theorem laws_szLinkS.val (l : List S168) (a : Int) (h0 : 0 ≤ a) (h1 : a ≤ 1048576) (hl : l.length ≤ maxLen) :
    ∃ t, laws_szLinkS.f l a = some t ∧ t ≤ a ∧ (0 ≤ t → t = a - l.length ∧ l.length ≤ 1048576) := by
  unfold maxLen at hl
  unfold laws_szLinkS.f
  rw [wrap_id (by omega) (by omega)]
  by_cases h : a - (l.length : Int) < 0
  · rw [if_pos h]; exact ⟨_, rfl, by omega, by omega⟩
  · rw [if_neg h]; exact ⟨_, rfl, by omega, by omega⟩

/-! laws_szIntS -/
theorem laws_szIntS.val (l : List Int) (a : Int) (h0 : 0 ≤ a) (h1 : a ≤ 1048576) (hl : l.length ≤ maxLen) :
    ∃ t, laws_szIntS.f l a = some t ∧ t ≤ a ∧ (0 ≤ t → t = a - l.length ∧ l.length ≤ 1048576) := by
  unfold maxLen at hl
  unfold laws_szIntS.f
  rw [wrap_id (by omega) (by omega)]
  by_cases h : a - (l.length : Int) < 0
  · rw [if_pos h]; exact ⟨_, rfl, by omega, by omega⟩
  · rw [if_neg h]; exact ⟨_, rfl, by omega, by omega⟩

/-! laws_szTable -/
theorem laws_szTable.val (x : Int) (l m : List Int) (a : Int) (h0 : 0 ≤ a) (h1 : a ≤ 1048576) (hl : l.length ≤ maxLen) (hm : m.length ≤ maxLen) :
    ∃ t, laws_szTable.f x l m a = some t ∧ t ≤ a ∧ (0 ≤ t → l.length ≤ 1048576 ∧ m.length ≤ 1048576) := by
  obtain ⟨t, h, h2, h3⟩ := laws_szIntS.val l a h0 h1 hl
  unfold laws_szTable.f
  rw [h, Option.bind_some]
  by_cases ht : t < 0
  · rw [if_pos ht]; exact ⟨_, rfl, by omega, by omega⟩
  · obtain ⟨u, h4, h5, h6⟩ := laws_szIntS.val m t (by omega) (by omega) hm
    rw [if_neg ht, h4, Option.bind_some]
    by_cases hu : u < 0
    · rw [if_pos hu]; exact ⟨_, rfl, by omega, by omega⟩
    · rw [if_neg hu]; exact ⟨_, rfl, by omega, fun _ => ⟨(h3 (by omega)).2, (h6 (by omega)).2⟩⟩
theorem laws_szTable.sum (x : Int) (l m : List Int) (a : Int) (h0 : 0 ≤ a) (h1 : a ≤ 1048576) (hl : l.length ≤ maxLen) (hm : m.length ≤ maxLen) :
    ∃ t, laws_szTable.f x l m a = some t ∧ t ≤ a ∧ (0 ≤ t → t + ((l.length + m.length : Nat) : Int) ≤ a) := by
  obtain ⟨t, h, h2, h3⟩ := laws_szIntS.val l a h0 h1 hl
  unfold laws_szTable.f
  rw [h, Option.bind_some]
  by_cases ht : t < 0
  · rw [if_pos ht]; exact ⟨_, rfl, by omega, by omega⟩
  · obtain ⟨u, h4, h5, h6⟩ := laws_szIntS.val m t (by omega) (by omega) hm
    rw [if_neg ht, h4, Option.bind_some]
    by_cases hu : u < 0
    · rw [if_pos hu]; exact ⟨_, rfl, by omega, by omega⟩
    · rw [if_neg hu]; exact ⟨_, rfl, by omega, fun _ => by have := (h3 (by omega)).1; have := (h6 (by omega)).1; omega⟩

/-! d_fitT -/
def fitT (n : Nat) (x : S285) : Prop := x.f1.length ≤ n ∧ x.f2.length ≤ n
def fitTi (n : Nat) (x : S247) : Prop := x.f1.length ≤ n ∧ x.f2.length ≤ n

/-! d_cost -/
def tabsCost (l : List S285) : Nat := l.length + (l.map fun x => x.f1.length + x.f2.length).sum
def pieCost (x : S177) : Nat := x.f1.length + tabsCost x.f2
def progCost (l : List S177) : Nat := l.length + (l.map pieCost).sum

/-! laws_szTableS -/
theorem laws_szTableS.ev (l : List S285) (a : Int) (h0 : 0 ≤ a) (h1 : a ≤ 1048576) (hl : l.length ≤ maxLen) (hx : ∀ x ∈ l, fitT maxLen x) :
    ∃ t, Ev (fun k => laws_szTableS.f k l a) t ∧ t ≤ a ∧ (0 ≤ t → l.length ≤ 1048576 ∧ ∀ x ∈ l, fitT 1048576 x) := by
  have hl' := hl
  unfold maxLen at hl'
  by_cases h : a - (l.length : Int) < 0
  · exact ⟨-1, Ev.all fun k => by unfold laws_szTableS.f; rw [wrap_id (by omega) (by omega), if_pos h], by omega, by omega⟩
  · obtain ⟨t, ht, hle, hok⟩ := sz_loop (g := fun k a i => laws_szTableS.l0 k l a i) l z285 (fitT 1048576) (fun a => Ev.one fun k => by simp only [laws_szTableS.l0]; rw [if_neg (by omega)])
      (fun i a hi h0 h1 => by
        have hf := hx _ (getD_mem l z285 hi)
        obtain ⟨t, e, hle, hok⟩ := laws_szTable.val (l.getD i z285).f0 (l.getD i z285).f1 (l.getD i z285).f2 a h0 h1 hf.1 hf.2
        have hk : ∀ k, laws_szTableS.l0 (k + 1) l a i = if t < 0 then some (-1) else laws_szTableS.l0 k l t ((i + 1 : Nat) : Int) := fun k => by
          simp only [laws_szTableS.l0]
          rw [if_pos (by omega), if_pos (by omega), wrap_nat (by omega)]
          show (laws_szTable.f (l.getD i z285).f0 (l.getD i z285).f1 (l.getD i z285).f2 a).bind _ = _
          rw [e]; rfl
        exact ⟨t, hle, fun h => Ev.one fun k => by rw [hk, if_pos h], fun h => ⟨hok h, fun r hr => Ev.step (fun k => by rw [hk, if_neg (by omega)]) hr⟩⟩)
      (a - l.length) (by omega) (by omega)
    exact ⟨t, Ev.congr (fun k => by unfold laws_szTableS.f; rw [wrap_id (by omega) (by omega), if_neg h]) ht, by omega, fun h => ⟨by omega, hok h⟩⟩
theorem laws_szTableS.sum (l : List S285) (a : Int) (h0 : 0 ≤ a) (h1 : a ≤ 1048576) (hl : l.length ≤ maxLen) (hx : ∀ x ∈ l, fitT maxLen x) :
    ∃ t, Ev (fun k => laws_szTableS.f k l a) t ∧ t ≤ a ∧ (0 ≤ t → t + (tabsCost l : Int) ≤ a) := by
  have hl' := hl
  unfold maxLen at hl'
  by_cases h : a - (l.length : Int) < 0
  · exact ⟨-1, Ev.all fun k => by unfold laws_szTableS.f; rw [wrap_id (by omega) (by omega), if_pos h], by omega, by omega⟩
  · obtain ⟨t, ht, hle, hok⟩ := sz_sum (g := fun k a i => laws_szTableS.l0 k l a i) l z285 (fun x => x.f1.length + x.f2.length) (fun a => Ev.one fun k => by simp only [laws_szTableS.l0]; rw [if_neg (by omega)])
      (fun i a hi h0 h1 => by
        have hf := hx _ (getD_mem l z285 hi)
        obtain ⟨t, e, hle, hok⟩ := laws_szTable.sum (l.getD i z285).f0 (l.getD i z285).f1 (l.getD i z285).f2 a h0 h1 hf.1 hf.2
        have hk : ∀ k, laws_szTableS.l0 (k + 1) l a i = if t < 0 then some (-1) else laws_szTableS.l0 k l t ((i + 1 : Nat) : Int) := fun k => by
          simp only [laws_szTableS.l0]
          rw [if_pos (by omega), if_pos (by omega), wrap_nat (by omega)]
          show (laws_szTable.f (l.getD i z285).f0 (l.getD i z285).f1 (l.getD i z285).f2 a).bind _ = _
          rw [e]; rfl
        exact ⟨t, hle, fun h => Ev.one fun k => by rw [hk, if_pos h], fun h => ⟨hok h, fun r hr => Ev.step (fun k => by rw [hk, if_neg (by omega)]) hr⟩⟩)
      (a - l.length) (by omega) (by omega)
    exact ⟨t, Ev.congr (fun k => by unfold laws_szTableS.f; rw [wrap_id (by omega) (by omega), if_neg h]) ht, by omega, fun h => by have := hok h; unfold tabsCost; omega⟩

/-! d_fitP -/
def fitP (n : Nat) (x : S177) : Prop := x.f1.length ≤ n ∧ x.f2.length ≤ n ∧ ∀ t ∈ x.f2, fitT n t
def fitPi (n : Nat) (x : S112) : Prop := x.f1.length ≤ n ∧ x.f2.length ≤ n ∧ ∀ t ∈ x.f2, fitTi n t
def fitQ (n : Nat) (l : List S177) : Prop := l.length ≤ n ∧ ∀ x ∈ l, fitP n x
def fitQi (n : Nat) (l : List S112) : Prop := l.length ≤ n ∧ ∀ x ∈ l, fitPi n x

/-! laws_szPiece -/
theorem laws_szPiece.ev (x : S177) (a : Int) (h0 : 0 ≤ a) (h1 : a ≤ 1048576) (hx : fitP maxLen x) :
    ∃ t, Ev (fun k => laws_szPiece.f k x.f0.f0 x.f0.f1 x.f1 x.f2 a) t ∧ t ≤ a ∧ (0 ≤ t → fitP 1048576 x) := by
  obtain ⟨t, h, h2, h3⟩ := laws_szLinkS.val x.f1 a h0 h1 hx.1
  by_cases ht : t < 0
  · exact ⟨-1, Ev.all fun k => by unfold laws_szPiece.f; rw [h, Option.bind_some, if_pos ht], by omega, by omega⟩
  · obtain ⟨u, h4, h5, h6⟩ := laws_szTableS.ev x.f2 t (by omega) (by omega) hx.2.1 hx.2.2
    have hc : ∀ k, laws_szPiece.f k x.f0.f0 x.f0.f1 x.f1 x.f2 a = (laws_szTableS.f k x.f2 t).bind fun u => if u < 0 then some (-1) else some u := fun k => by
      unfold laws_szPiece.f
      rw [h, Option.bind_some, if_neg ht]
    by_cases hu : u < 0
    · exact ⟨-1, Ev.congr hc (Ev.bind h4 (Ev.all fun k => by rw [if_pos hu])), by omega, by omega⟩
    · exact ⟨u, Ev.congr hc (Ev.bind h4 (Ev.all fun k => by rw [if_neg hu])), by omega, fun _ => ⟨(h3 (by omega)).2, h6 (by omega)⟩⟩
theorem laws_szPiece.sum (x : S177) (a : Int) (h0 : 0 ≤ a) (h1 : a ≤ 1048576) (hx : fitP maxLen x) :
    ∃ t, Ev (fun k => laws_szPiece.f k x.f0.f0 x.f0.f1 x.f1 x.f2 a) t ∧ t ≤ a ∧ (0 ≤ t → t + (pieCost x : Int) ≤ a) := by
  obtain ⟨t, h, h2, h3⟩ := laws_szLinkS.val x.f1 a h0 h1 hx.1
  by_cases ht : t < 0
  · exact ⟨-1, Ev.all fun k => by unfold laws_szPiece.f; rw [h, Option.bind_some, if_pos ht], by omega, by omega⟩
  · obtain ⟨u, h4, h5, h6⟩ := laws_szTableS.sum x.f2 t (by omega) (by omega) hx.2.1 hx.2.2
    have hc : ∀ k, laws_szPiece.f k x.f0.f0 x.f0.f1 x.f1 x.f2 a = (laws_szTableS.f k x.f2 t).bind fun u => if u < 0 then some (-1) else some u := fun k => by
      unfold laws_szPiece.f
      rw [h, Option.bind_some, if_neg ht]
    by_cases hu : u < 0
    · exact ⟨-1, Ev.congr hc (Ev.bind h4 (Ev.all fun k => by rw [if_pos hu])), by omega, by omega⟩
    · exact ⟨u, Ev.congr hc (Ev.bind h4 (Ev.all fun k => by rw [if_neg hu])), by omega, fun _ => by have := (h3 (by omega)).1; have := h6 (by omega); unfold pieCost; omega⟩

/-! laws_szPieceS -/
theorem laws_szPieceS.ev (l : List S177) (a : Int) (h0 : 0 ≤ a) (h1 : a ≤ 1048576) (hx : fitQ maxLen l) :
    ∃ t, Ev (fun k => laws_szPieceS.f k l a) t ∧ t ≤ a ∧ (0 ≤ t → fitQ 1048576 l) := by
  obtain ⟨hl, hx⟩ := hx
  have hl' := hl
  unfold maxLen at hl'
  by_cases h : a - (l.length : Int) < 0
  · exact ⟨-1, Ev.all fun k => by unfold laws_szPieceS.f; rw [wrap_id (by omega) (by omega), if_pos h], by omega, by omega⟩
  · obtain ⟨t, ht, hle, hok⟩ := sz_loop (g := fun k a i => laws_szPieceS.l0 k l a i) l z177 (fitP 1048576) (fun a => Ev.one fun k => by simp only [laws_szPieceS.l0]; rw [if_neg (by omega)])
      (fun i a hi h0 h1 => by
        have hf := hx _ (getD_mem l z177 hi)
        obtain ⟨t, e, hle, hok⟩ := laws_szPiece.ev (l.getD i z177) a h0 h1 hf
        have hk : ∀ k, laws_szPieceS.l0 (k + 1) l a i = (laws_szPiece.f k (l.getD i z177).f0.f0 (l.getD i z177).f0.f1 (l.getD i z177).f1 (l.getD i z177).f2 a).bind fun t => if t < 0 then some (-1) else laws_szPieceS.l0 k l t ((i + 1 : Nat) : Int) := fun k => by
          simp only [laws_szPieceS.l0]
          rw [if_pos (by omega), if_pos (by omega), wrap_nat (by omega)]
          rfl
        exact ⟨t, hle, fun h => Ev.step hk (Ev.bind e (Ev.all fun k => by rw [if_pos h])), fun h => ⟨hok h, fun r hr => Ev.step hk (Ev.bind e (Ev.congr (fun k => by rw [if_neg (by omega)]) hr))⟩⟩)
      (a - l.length) (by omega) (by omega)
    exact ⟨t, Ev.congr (fun k => by unfold laws_szPieceS.f; rw [wrap_id (by omega) (by omega), if_neg h]) ht, by omega, fun h => ⟨by omega, hok h⟩⟩
theorem laws_szPieceS.sum (l : List S177) (a : Int) (h0 : 0 ≤ a) (h1 : a ≤ 1048576) (hx : fitQ maxLen l) :
    ∃ t, Ev (fun k => laws_szPieceS.f k l a) t ∧ t ≤ a ∧ (0 ≤ t → t + (progCost l : Int) ≤ a) := by
  obtain ⟨hl, hx⟩ := hx
  have hl' := hl
  unfold maxLen at hl'
  by_cases h : a - (l.length : Int) < 0
  · exact ⟨-1, Ev.all fun k => by unfold laws_szPieceS.f; rw [wrap_id (by omega) (by omega), if_pos h], by omega, by omega⟩
  · obtain ⟨t, ht, hle, hok⟩ := sz_sum (g := fun k a i => laws_szPieceS.l0 k l a i) l z177 pieCost (fun a => Ev.one fun k => by simp only [laws_szPieceS.l0]; rw [if_neg (by omega)])
      (fun i a hi h0 h1 => by
        have hf := hx _ (getD_mem l z177 hi)
        obtain ⟨t, e, hle, hok⟩ := laws_szPiece.sum (l.getD i z177) a h0 h1 hf
        have hk : ∀ k, laws_szPieceS.l0 (k + 1) l a i = (laws_szPiece.f k (l.getD i z177).f0.f0 (l.getD i z177).f0.f1 (l.getD i z177).f1 (l.getD i z177).f2 a).bind fun t => if t < 0 then some (-1) else laws_szPieceS.l0 k l t ((i + 1 : Nat) : Int) := fun k => by
          simp only [laws_szPieceS.l0]
          rw [if_pos (by omega), if_pos (by omega), wrap_nat (by omega)]
          rfl
        exact ⟨t, hle, fun h => Ev.step hk (Ev.bind e (Ev.all fun k => by rw [if_pos h])), fun h => ⟨hok h, fun r hr => Ev.step hk (Ev.bind e (Ev.congr (fun k => by rw [if_neg (by omega)]) hr))⟩⟩)
      (a - l.length) (by omega) (by omega)
    exact ⟨t, Ev.congr (fun k => by unfold laws_szPieceS.f; rw [wrap_id (by omega) (by omega), if_neg h]) ht, by omega, fun h => by have := hok h; unfold progCost; omega⟩

/-! laws_szProgram -/
theorem laws_szProgram.ev (x y z : Int) (l : List S177) (a : Int) (h0 : 0 ≤ a) (h1 : a ≤ 1048576) (hx : fitQ maxLen l) :
    ∃ t, Ev (fun k => laws_szProgram.f k x y z l a) t ∧ t ≤ a ∧ (0 ≤ t → fitQ 1048576 l) := by
  obtain ⟨t, h, h2, h3⟩ := laws_szPieceS.ev l a h0 h1 hx
  by_cases ht : t < 0
  · exact ⟨-1, Ev.bind h (Ev.all fun k => by rw [if_pos ht]), by omega, by omega⟩
  · exact ⟨t, Ev.bind h (Ev.all fun k => by rw [if_neg ht]), h2, h3⟩
theorem laws_szProgram.sum (x y z : Int) (l : List S177) (a : Int) (h0 : 0 ≤ a) (h1 : a ≤ 1048576) (hx : fitQ maxLen l) :
    ∃ t, Ev (fun k => laws_szProgram.f k x y z l a) t ∧ t ≤ a ∧ (0 ≤ t → t + (progCost l : Int) ≤ a ∧ fitQ 1048576 l) := by
  obtain ⟨t, h, h2, h3⟩ := laws_szPieceS.sum l a h0 h1 hx
  obtain ⟨t', h', _, h3'⟩ := laws_szPieceS.ev l a h0 h1 hx
  have := Ev.uniq h h'
  subst this
  by_cases ht : t < 0
  · exact ⟨-1, Ev.bind h (Ev.all fun k => by rw [if_pos ht]), by omega, by omega⟩
  · exact ⟨t, Ev.bind h (Ev.all fun k => by rw [if_neg ht]), h2, fun h => ⟨h3 h, h3' h⟩⟩

/-! laws_toLinkS -/
def cLink (x : S168) : S166 := ⟨x.f0, x.f1⟩
theorem laws_toLinkS.ev_l (l : List S168) (hl : l.length ≤ 1048576) : ∀ (d i : Nat) (o : List S166), i + d = l.length → o.length = l.length → o.take i = (l.map cLink).take i → Ev (fun k => laws_toLinkS.l0 k l o i) (l.map cLink) := by
  intro d
  induction d with
  | zero =>
    intro i o hi ho ht
    refine Ev.one fun k => ?_
    simp only [laws_toLinkS.l0]
    rw [if_neg (by omega), take_full (by simpa using ho) (by simp; omega) ht]
  | succ d ih =>
    intro i o hi ho ht
    refine Ev.step (fun k => ?_) (ih (i + 1) (o.set i (cLink (l.getD i z168))) (by omega) (by simp [ho]) (set_take o _ _ (by simpa using ho) (get_map cLink l z168 (by omega)) ht))
    simp only [laws_toLinkS.l0, laws_toLink.f, Option.bind_some]
    rw [if_pos (by omega), if_pos (by omega), if_pos (by omega), wrap_nat (by omega)]
    rfl
theorem laws_toLinkS.ev (l : List S168) (hl : l.length ≤ 1048576) : Ev (fun k => laws_toLinkS.f k l) (l.map cLink) :=
  Ev.congr (fun k => by unfold laws_toLinkS.f; rw [if_pos (by omega), if_pos (by omega)] <;> rfl) (laws_toLinkS.ev_l l hl l.length 0 _ (by omega) (by simp) (by simp))

/-! laws_toIntS -/
theorem laws_toIntS.ev_l (l : List Int) (hl : l.length ≤ 1048576) : ∀ (d i : Nat) (o : List Int), i + d = l.length → o.length = l.length → o.take i = l.take i → Ev (fun k => laws_toIntS.l0 k l o i) l := by
  intro d
  induction d with
  | zero =>
    intro i o hi ho ht
    refine Ev.one fun k => ?_
    simp only [laws_toIntS.l0]
    rw [if_neg (by omega), take_full ho (by omega) ht]
  | succ d ih =>
    intro i o hi ho ht
    refine Ev.step (fun k => ?_) (ih (i + 1) (o.set i (l.getD i 0)) (by omega) (by simp [ho]) (set_take o l _ ho (get_of l 0 (by omega)) ht))
    simp only [laws_toIntS.l0]
    rw [if_pos (by omega), if_pos (by omega), if_pos (by omega), wrap_nat (by omega)]
    rfl
theorem laws_toIntS.ev (l : List Int) (hl : l.length ≤ 1048576) : Ev (fun k => laws_toIntS.f k l) l :=
  Ev.congr (fun k => by unfold laws_toIntS.f; rw [if_pos (by omega), if_pos (by omega)] <;> rfl) (laws_toIntS.ev_l l hl l.length 0 _ (by omega) (by simp) (by simp))

/-! laws_toTable -/
theorem laws_toTable.ev (x : Int) (l m : List Int) (hl : l.length ≤ 1048576) (hm : m.length ≤ 1048576) : Ev (fun k => laws_toTable.f k x l m) (x, l, m) :=
  Ev.bind (laws_toIntS.ev l hl) (Ev.bind (laws_toIntS.ev m hm) (Ev.now _))

/-! d_cTable -/
def cTable (x : S285) : S247 := ⟨x.f0, x.f1, x.f2⟩

/-! laws_toTableS -/
theorem laws_toTableS.ev (l : List S285) (hl : l.length ≤ 1048576) (hx : ∀ x ∈ l, fitT 1048576 x) : Ev (fun k => laws_toTableS.f k l) (l.map cTable) := by
  refine Ev.congr (fun k => by unfold laws_toTableS.f; rw [if_pos (by omega), if_pos (by omega)] <;> rfl) (to_loop (g := fun k o i => laws_toTableS.l0 k l o i) l z285 cTable (fun o => Ev.one fun k => by simp only [laws_toTableS.l0]; rw [if_neg (by omega)]) (fun i o hi ho r hr => ?_) _ (by simp))
  have hf := hx _ (getD_mem l z285 hi)
  refine Ev.step (fun k => by simp only [laws_toTableS.l0]; rw [if_pos (by omega), if_pos (by omega), wrap_nat (by omega)]; rfl) (Ev.bind (laws_toTable.ev (l.getD i z285).f0 (l.getD i z285).f1 (l.getD i z285).f2 hf.1 hf.2) ?_)
  exact Ev.congr (fun k => by rw [if_pos (by omega)]; rfl) hr

/-! d_cPiece -/
def cPiece (x : S177) : S112 := ⟨⟨x.f0.f0, x.f0.f1⟩, x.f1.map cLink, x.f2.map cTable⟩

/-! laws_toPiece -/
theorem laws_toPiece.ev (x : S177) (hx : fitP 1048576 x) : Ev (fun k => laws_toPiece.f k x.f0.f0 x.f0.f1 x.f1 x.f2) (x.f0.f0, x.f0.f1, x.f1.map cLink, x.f2.map cTable) := by
  refine Ev.congr (fun k => by unfold laws_toPiece.f; rw [laws_toSpan.f, Option.bind_some]) ?_
  exact Ev.bind (laws_toLinkS.ev x.f1 hx.1) (Ev.bind (laws_toTableS.ev x.f2 hx.2.1 hx.2.2) (Ev.now _))

/-! laws_toPieceS -/
theorem laws_toPieceS.ev (l : List S177) (hx : fitQ 1048576 l) : Ev (fun k => laws_toPieceS.f k l) (l.map cPiece) := by
  obtain ⟨hl, hx⟩ := hx
  refine Ev.congr (fun k => by unfold laws_toPieceS.f; rw [if_pos (by omega), if_pos (by omega)] <;> rfl) (to_loop (g := fun k o i => laws_toPieceS.l0 k l o i) l z177 cPiece (fun o => Ev.one fun k => by simp only [laws_toPieceS.l0]; rw [if_neg (by omega)]) (fun i o hi ho r hr => ?_) _ (by simp))
  have hf := hx _ (getD_mem l z177 hi)
  refine Ev.step (fun k => by simp only [laws_toPieceS.l0]; rw [if_pos (by omega), if_pos (by omega), wrap_nat (by omega)]; rfl) (Ev.bind (laws_toPiece.ev (l.getD i z177) hf) ?_)
  exact Ev.congr (fun k => by rw [if_pos (by omega)]; rfl) hr

/-! laws_toProgram -/
theorem laws_toProgram.ev (x y z : Int) (l : List S177) (hx : fitQ 1048576 l) : Ev (fun k => laws_toProgram.f k x y z l) (x, y, z, l.map cPiece) := Ev.bind (laws_toPieceS.ev l hx) (Ev.now _)

/-! laws_eqSpan -/
theorem laws_eqSpan.val (a b : Int) : laws_eqSpan.f a b a b = some true := by
  unfold laws_eqSpan.f
  simp

/-! laws_eqSpanS -/
theorem laws_eqSpanS.ev_l (l : List S109) (hl : l.length ≤ 1048576) : ∀ (d i : Nat), i + d = l.length → Ev (fun k => laws_eqSpanS.l0 k l l i) true := by
  intro d
  induction d with
  | zero => intro i hi; refine Ev.one fun k => ?_; simp only [laws_eqSpanS.l0]; rw [if_neg (by omega)]
  | succ d ih =>
    intro i hi
    refine Ev.step (fun k => ?_) (ih (i + 1) (by omega))
    simp only [laws_eqSpanS.l0, laws_eqSpan.val, Option.bind_some]
    rw [if_pos (by omega), if_pos (by omega), if_pos (by omega), if_pos trivial, wrap_nat (by omega)]
theorem laws_eqSpanS.ev (l : List S109) (hl : l.length ≤ 1048576) : Ev (fun k => laws_eqSpanS.f k l l) true :=
  Ev.congr (fun k => by unfold laws_eqSpanS.f; rw [if_pos rfl] <;> rfl) (laws_eqSpanS.ev_l l hl l.length 0 (by omega))

/-! laws_eqLink -/
theorem laws_eqLink.val (x : S166) : laws_eqLink.f x.f0 x.f1 x.f0 x.f1 = some true := by
  unfold laws_eqLink.f
  simp

/-! laws_eqLinkS -/
theorem laws_eqLinkS.ev_l (l : List S166) (hl : l.length ≤ 1048576) : ∀ (d i : Nat), i + d = l.length → Ev (fun k => laws_eqLinkS.l0 k l l i) true := by
  intro d
  induction d with
  | zero => intro i hi; refine Ev.one fun k => ?_; simp only [laws_eqLinkS.l0]; rw [if_neg (by omega)]
  | succ d ih =>
    intro i hi
    refine Ev.step (fun k => ?_) (ih (i + 1) (by omega))
    simp only [laws_eqLinkS.l0, laws_eqLink.val, Option.bind_some]
    rw [if_pos (by omega), if_pos (by omega), if_pos (by omega), if_pos trivial, wrap_nat (by omega)]
theorem laws_eqLinkS.ev (l : List S166) (hl : l.length ≤ 1048576) : Ev (fun k => laws_eqLinkS.f k l l) true :=
  Ev.congr (fun k => by unfold laws_eqLinkS.f; rw [if_pos rfl] <;> rfl) (laws_eqLinkS.ev_l l hl l.length 0 (by omega))

/-! laws_eqIntS -/
theorem laws_eqIntS.ev_l (l : List Int) (hl : l.length ≤ 1048576) : ∀ (d i : Nat), i + d = l.length → Ev (fun k => laws_eqIntS.l0 k l l i) true := by
  intro d
  induction d with
  | zero => intro i hi; refine Ev.one fun k => ?_; simp only [laws_eqIntS.l0]; rw [if_neg (by omega)]
  | succ d ih =>
    intro i hi
    refine Ev.step (fun k => ?_) (ih (i + 1) (by omega))
    simp only [laws_eqIntS.l0]
    rw [if_pos (by omega), if_pos (by omega), if_pos (by omega), if_pos trivial, wrap_nat (by omega)]
theorem laws_eqIntS.ev (l : List Int) (hl : l.length ≤ 1048576) : Ev (fun k => laws_eqIntS.f k l l) true :=
  Ev.congr (fun k => by unfold laws_eqIntS.f; rw [if_pos rfl] <;> rfl) (laws_eqIntS.ev_l l hl l.length 0 (by omega))
theorem laws_eqIntS.ev' (l : List Int) (hl : l.length ≤ 4000000) : Ev (fun k => laws_eqIntS.f k l l) true := by
  refine Ev.congr (fun k => by unfold laws_eqIntS.f; rw [if_pos rfl]) (all_loop (g := fun k i => laws_eqIntS.l0 k l l i) l.length (Ev.one fun k => by simp only [laws_eqIntS.l0]; rw [if_neg (by omega)]) (fun i hi r hr => Ev.step (fun k => ?_) hr))
  simp only [laws_eqIntS.l0]
  rw [if_pos (by omega), if_pos (by omega), if_pos (by omega), if_pos trivial, wrap_nat (by omega)]

/-! laws_eqTable -/
theorem laws_eqTable.ev (x : Int) (l m : List Int) (hl : l.length ≤ 1048576) (hm : m.length ≤ 1048576) : Ev (fun k => laws_eqTable.f k x l m x l m) true := by
  refine Ev.congr (fun k => by unfold laws_eqTable.f; rw [if_pos rfl]) (Ev.bind (laws_eqIntS.ev l hl) ?_)
  exact Ev.congr (fun k => by rw [if_pos rfl]) (Ev.bindT (laws_eqIntS.ev m hm))

/-! laws_eqTableS -/
theorem laws_eqTableS.ev (l : List S247) (hl : l.length ≤ 1048576) (hx : ∀ x ∈ l, fitTi 1048576 x) : Ev (fun k => laws_eqTableS.f k l l) true := by
  refine Ev.congr (fun k => by unfold laws_eqTableS.f; rw [if_pos rfl]) (all_loop (g := fun k i => laws_eqTableS.l0 k l l i) l.length (Ev.one fun k => by simp only [laws_eqTableS.l0]; rw [if_neg (by omega)]) (fun i hi r hr => ?_))
  have hf := hx _ (getD_mem l z247 hi)
  refine Ev.step (fun k => by simp only [laws_eqTableS.l0]; rw [if_pos (by omega), if_pos (by omega), if_pos (by omega), wrap_nat (by omega)]; rfl) (Ev.bind (laws_eqTable.ev (l.getD i z247).f0 (l.getD i z247).f1 (l.getD i z247).f2 hf.1 hf.2) ?_)
  exact Ev.congr (fun k => by rw [if_pos rfl]) hr

/-! laws_eqPiece -/
theorem laws_eqPiece.ev (x : S112) (hx : fitPi 1048576 x) : Ev (fun k => laws_eqPiece.f k x.f0.f0 x.f0.f1 x.f1 x.f2 x.f0.f0 x.f0.f1 x.f1 x.f2) true := by
  refine Ev.congr (fun k => by unfold laws_eqPiece.f; rw [laws_eqSpan.val, Option.bind_some, if_pos rfl]) (Ev.bind (laws_eqLinkS.ev x.f1 hx.1) ?_)
  exact Ev.congr (fun k => by rw [if_pos rfl]) (Ev.bindT (laws_eqTableS.ev x.f2 hx.2.1 hx.2.2))

/-! laws_eqPieceS -/
theorem laws_eqPieceS.ev (l : List S112) (hx : fitQi 1048576 l) : Ev (fun k => laws_eqPieceS.f k l l) true := by
  obtain ⟨hl, hx⟩ := hx
  refine Ev.congr (fun k => by unfold laws_eqPieceS.f; rw [if_pos rfl]) (all_loop (g := fun k i => laws_eqPieceS.l0 k l l i) l.length (Ev.one fun k => by simp only [laws_eqPieceS.l0]; rw [if_neg (by omega)]) (fun i hi r hr => ?_))
  have hf := hx _ (getD_mem l z112 hi)
  refine Ev.step (fun k => by simp only [laws_eqPieceS.l0]; rw [if_pos (by omega), if_pos (by omega), if_pos (by omega), wrap_nat (by omega)]; rfl) (Ev.bind (laws_eqPiece.ev (l.getD i z112) hf) ?_)
  exact Ev.congr (fun k => by rw [if_pos rfl]) hr

/-! laws_eqProgram -/
theorem laws_eqProgram.ev (x y z : Int) (l : List S112) (hx : fitQi 1048576 l) : Ev (fun k => laws_eqProgram.f k x y z l x y z l) true := by
  refine Ev.congr (fun k => by unfold laws_eqProgram.f; rw [if_pos rfl, if_pos rfl, if_pos rfl]) (Ev.bindT (laws_eqPieceS.ev l hx))

/-! laws_markIntS -/
theorem laws_markIntS.ev_l (a : Int) (n : Nat) (h0 : 0 ≤ a) (h1 : a + n ≤ 4611686018427387904) : ∀ (d i : Nat) (o : List Int), i + d = n → o.length = n → o.take i = (marks a n).take i →
    Ev (fun k => laws_markIntS.l0 k o (a + i) i) (a + n, marks a n) := by
  intro d
  induction d with
  | zero =>
    intro i o hi ho ht
    refine Ev.one fun k => ?_
    simp only [laws_markIntS.l0]
    rw [if_neg (by omega), take_full (by rw [marks_length]; exact ho) (by rw [marks_length]; omega) ht, show i = n by omega]
  | succ d ih =>
    intro i o hi ho ht
    refine Ev.step (fun k => ?_) (ih (i + 1) (o.set i (a + i)) (by omega) (by simp [ho]) (set_take o _ _ (by rw [marks_length]; exact ho) (marks_get a n i (by omega)) ht))
    simp only [laws_markIntS.l0]
    rw [if_pos (by omega), if_pos (by omega), wrap_nat (by omega), wrap_id (by omega) (by omega)]
    rw [show a + (i : Int) + 1 = a + ((i + 1 : Nat) : Int) by omega]
    rfl
theorem laws_markIntS.ev (l : List Int) (a : Int) (h0 : 0 ≤ a) (h1 : a + l.length ≤ 4611686018427387904) : Ev (fun k => laws_markIntS.f k l a) (a + l.length, marks a l.length) := by
  have := laws_markIntS.ev_l a l.length h0 h1 l.length 0 l (by omega) rfl (by simp)
  rw [show a + ((0 : Nat) : Int) = a by omega] at this
  exact this

/-! laws_markLinkS -/
def mkLink (a : Int) (j : Nat) : S166 := ⟨a + 2 * (j : Int), a + 2 * (j : Int) + 1⟩
def marksLink (a : Int) (n : Nat) : List S166 := (List.range n).map (mkLink a)
theorem marksLink_length (a : Int) (n : Nat) : (marksLink a n).length = n := by simp [marksLink]
theorem marksLink_get (a : Int) (n i : Nat) (h : i < n) : (marksLink a n)[i]? = some (mkLink a i) := by simp [marksLink, h]
theorem marksLink_getD (a : Int) (n i : Nat) (h : i < n) : (marksLink a n).getD i z166 = mkLink a i := by rw [List.getD_eq_getElem?_getD, marksLink_get a n i h]; rfl
theorem laws_markLinkS.ev_l (a : Int) (n : Nat) (h0 : 0 ≤ a) (h1 : a + 2 * n ≤ 4611686018427387904) : ∀ (d i : Nat) (o : List S166), i + d = n → o.length = n → o.take i = (marksLink a n).take i →
    Ev (fun k => laws_markLinkS.l0 k o (a + 2 * (i : Int)) i) (a + 2 * (n : Int), marksLink a n) := by
  intro d
  induction d with
  | zero =>
    intro i o hi ho ht
    refine Ev.one fun k => ?_
    simp only [laws_markLinkS.l0]
    rw [if_neg (by omega), take_full (by rw [marksLink_length]; exact ho) (by rw [marksLink_length]; omega) ht, show i = n by omega]
  | succ d ih =>
    intro i o hi ho ht
    refine Ev.step (fun k => ?_) (ih (i + 1) (o.set i (mkLink a i)) (by omega) (by simp [ho]) (set_take o _ _ (by rw [marksLink_length]; exact ho) (marksLink_get a n i (by omega)) ht))
    have e : ∀ v, rd_T166 (o.set i v) (i : Int) = v := fun v => getD_set_self o _ v (by omega)
    simp only [laws_markLinkS.l0, Option.bind_some, Int.toNat_natCast, e, List.set_set]
    rw [if_pos (by omega), if_pos (by omega), wrap_nat (by omega)]
    rw [wrap_id (x := a + 2 * (i : Int) + 1) (by omega) (by omega)]
    rw [wrap_id (x := a + 2 * (i : Int) + 1 + 1) (by omega) (by omega)]
    rw [show a + 2 * (i : Int) + 1 + 1 = a + 2 * ((i + 1 : Nat) : Int) by omega]
    rfl
theorem laws_markLinkS.ev (l : List S166) (a : Int) (h0 : 0 ≤ a) (h1 : a ≤ 4000000000) (hl : l.length ≤ 1048576) : Ev (fun k => laws_markLinkS.f k l a) (a + 2 * (l.length : Int), marksLink a l.length) := by
  have := laws_markLinkS.ev_l a l.length h0 (by omega) l.length 0 l (by omega) rfl (by simp)
  rw [show a + 2 * ((0 : Nat) : Int) = a by omega] at this
  exact this

/-! laws_markProgram -/
theorem laws_markProgram.val (x y z : Int) (p : List S112) (a : Int) (h0 : 0 ≤ a) (h : a + (pieSize_ (pieShape_ p) : Int) ≤ 4000000000) : laws_markProgram.f x y z p a = some (a + (pieSize_ (pieShape_ p) : Int)) := if_pos ⟨h0, h⟩
theorem tab_cost : ∀ l : List S285, tabSize_ (tabShape_ (l.map cTable)) = tabsCost l
  | [] => rfl
  | x :: l => by
    have := tab_cost l
    unfold tabSize_ tabShape_ tabsCost at this ⊢
    simp only [List.map_cons, List.sum_cons, List.length_cons, cTable] at this ⊢
    omega
theorem pie_cost : ∀ l : List S177, pieSize_ (pieShape_ (l.map cPiece)) ≤ 2 * progCost l
  | [] => Nat.le_refl _
  | x :: l => by
    have h := pie_cost l
    have h2 := tab_cost x.f2
    unfold pieSize_ pieShape_ progCost at h ⊢
    simp only [List.map_cons, List.sum_cons, List.length_cons, cPiece, List.length_map] at h ⊢
    rw [h2, show pieCost x = x.f1.length + tabsCost x.f2 from rfl]
    omega

/-! laws_markSpanS -/
def mkSpan (a : Int) (j : Nat) : S109 := ⟨a + 2 * (j : Int), a + 2 * (j : Int) + 1⟩
def marksSpan (a : Int) (n : Nat) : List S109 := (List.range n).map (mkSpan a)
theorem marksSpan_length (a : Int) (n : Nat) : (marksSpan a n).length = n := by simp [marksSpan]
theorem marksSpan_get (a : Int) (n i : Nat) (h : i < n) : (marksSpan a n)[i]? = some (mkSpan a i) := by simp [marksSpan, h]
theorem marksSpan_getD (a : Int) (n i : Nat) (h : i < n) : (marksSpan a n).getD i z109 = mkSpan a i := by rw [List.getD_eq_getElem?_getD, marksSpan_get a n i h]; rfl
theorem laws_markSpanS.ev_l (a : Int) (n : Nat) (h0 : 0 ≤ a) (h1 : a + 2 * n ≤ 4611686018427387904) : ∀ (d i : Nat) (o : List S109), i + d = n → o.length = n → o.take i = (marksSpan a n).take i →
    Ev (fun k => laws_markSpanS.l0 k o (a + 2 * (i : Int)) i) (a + 2 * (n : Int), marksSpan a n) := by
  intro d
  induction d with
  | zero =>
    intro i o hi ho ht
    refine Ev.one fun k => ?_
    simp only [laws_markSpanS.l0]
    rw [if_neg (by omega), take_full (by rw [marksSpan_length]; exact ho) (by rw [marksSpan_length]; omega) ht, show i = n by omega]
  | succ d ih =>
    intro i o hi ho ht
    refine Ev.step (fun k => ?_) (ih (i + 1) (o.set i (mkSpan a i)) (by omega) (by simp [ho]) (set_take o _ _ (by rw [marksSpan_length]; exact ho) (marksSpan_get a n i (by omega)) ht))
    have e : ∀ v, rd_T109 (o.set i v) (i : Int) = v := fun v => getD_set_self o _ v (by omega)
    simp only [laws_markSpanS.l0, Option.bind_some, Int.toNat_natCast, e, List.set_set]
    rw [if_pos (by omega), if_pos (by omega), wrap_nat (by omega)]
    rw [wrap_id (x := a + 2 * (i : Int) + 1) (by omega) (by omega)]
    rw [wrap_id (x := a + 2 * (i : Int) + 1 + 1) (by omega) (by omega)]
    rw [show a + 2 * (i : Int) + 1 + 1 = a + 2 * ((i + 1 : Nat) : Int) by omega]
    rfl
theorem laws_markSpanS.ev (l : List S109) (a : Int) (h0 : 0 ≤ a) (h1 : a ≤ 4000000000) (hl : l.length ≤ 1048576) : Ev (fun k => laws_markSpanS.f k l a) (a + 2 * (l.length : Int), marksSpan a l.length) := by
  have := laws_markSpanS.ev_l a l.length h0 (by omega) l.length 0 l (by omega) rfl (by simp)
  rw [show a + 2 * ((0 : Nat) : Int) = a by omega] at this
  exact this

/-! laws_heldSpanS -/
theorem laws_heldSpanS.ev_l (a : Int) (n : Nat) (h0 : 0 ≤ a) (h1 : a + 2 * n ≤ 4611686018427387904) : ∀ (d i : Nat), i + d = n → Ev (fun k => laws_heldSpanS.l0 k (marksSpan a n) (a + 2 * (i : Int)) i) (a + 2 * (n : Int)) := by
  intro d
  induction d with
  | zero =>
    intro i hi
    refine Ev.one fun k => ?_
    simp only [laws_heldSpanS.l0]
    rw [if_neg (by rw [marksSpan_length]; omega), show i = n by omega]
  | succ d ih =>
    intro i hi
    refine Ev.step (fun k => ?_) (ih (i + 1) (by omega))
    have e : rd_T109 (marksSpan a n) (i : Int) = mkSpan a i := marksSpan_getD a n i (by omega)
    simp only [laws_heldSpanS.l0, e]
    rw [if_pos (by rw [marksSpan_length]; omega), if_pos (by omega), wrap_nat (by omega)]
    rw [wrap_id (x := a + 2 * (i : Int) + 1) (by omega) (by omega)]
    rw [wrap_id (x := a + 2 * (i : Int) + 1 + 1) (by omega) (by omega)]
    simp only [mkSpan, if_true]
    rw [show a + 2 * (i : Int) + 1 + 1 = a + 2 * ((i + 1 : Nat) : Int) by omega]
theorem laws_heldSpanS.ev (a : Int) (n : Nat) (h0 : 0 ≤ a) (h1 : a ≤ 4000000000) (hn : n ≤ 1048576) : Ev (fun k => laws_heldSpanS.f k (marksSpan a n) a) (a + 2 * (n : Int)) := by
  have := laws_heldSpanS.ev_l a n h0 (by omega) n 0 (by omega)
  rw [show a + 2 * ((0 : Nat) : Int) = a by omega] at this
  exact this

/-! spec_l1In -/
theorem spec_l1In.val (a lo hi : Int) : spec_l1In.f a lo hi = some (inR a lo hi) := by
  unfold spec_l1In.f inR
  by_cases h : a ≥ lo
  · rw [if_pos h]; simp [h]
  · rw [if_neg h]; simp; omega

/-! d_neigh -/
theorem strict_ext : ∀ (l1 l2 : List Int), l1.Pairwise (· < ·) → l2.Pairwise (· < ·) → (∀ x, x ∈ l1 ↔ x ∈ l2) → l1 = l2
  | [], [], _, _, _ => rfl
  | [], y :: l2, _, _, h => absurd ((h y).2 List.mem_cons_self) (by simp)
  | x :: l1, [], _, _, h => absurd ((h x).1 List.mem_cons_self) (by simp)
  | x :: l1, y :: l2, h1, h2, h => by
    rw [List.pairwise_cons] at h1 h2
    have hx : x = y := by
      rcases List.mem_cons.1 ((h x).1 List.mem_cons_self) with e | e
      · exact e
      · have a := h2.1 x e
        rcases List.mem_cons.1 ((h y).2 List.mem_cons_self) with e' | e'
        · omega
        · have b := h1.1 y e'
          omega
    subst hx
    rw [strict_ext l1 l2 h1.2 h2.2 fun z => ?_]
    constructor
    · intro hz
      have a := h1.1 z hz
      rcases List.mem_cons.1 ((h z).1 (List.mem_cons_of_mem _ hz)) with e | e
      · omega
      · exact e
    · intro hz
      have a := h2.1 z hz
      rcases List.mem_cons.1 ((h z).2 (List.mem_cons_of_mem _ hz)) with e | e
      · omega
      · exact e
def posU (n : Int) : List Int → Nat
  | [] => 0
  | x :: l => if x < n then posU n l + 1 else 0
def insU (n : Int) (out : List Int) : List Int := if posU n out = out.length ∨ ¬ out.getD (posU n out) 0 = n then out.take (posU n out) ++ [n] ++ out.drop (posU n out) else out
theorem insU_lt {x n : Int} (h : x < n) (l : List Int) : insU n (x :: l) = x :: insU n l := by
  unfold insU
  simp only [posU, if_pos h, List.length_cons, List.getD_cons_succ, List.take_succ_cons, List.drop_succ_cons, Nat.add_right_cancel_iff]
  split <;> simp
theorem insU_ge {x n : Int} (h : ¬ x < n) (l : List Int) : insU n (x :: l) = if x = n then x :: l else n :: x :: l := by
  unfold insU
  simp only [posU, if_neg h, List.length_cons, List.getD_cons_zero, List.take_zero, List.drop_zero, List.nil_append]
  by_cases e : x = n
  · rw [if_neg (by simp [e]), if_pos e]
  · rw [if_pos (Or.inr e), if_neg e]; rfl
theorem insU_mem (n : Int) : ∀ (l : List Int) (z : Int), z ∈ insU n l ↔ z = n ∨ z ∈ l
  | [], z => by simp [insU, posU]
  | x :: l, z => by
    by_cases h : x < n
    · rw [insU_lt h, List.mem_cons, insU_mem n l z, List.mem_cons]
      constructor
      · rintro (e | e | e)
        · exact .inr (.inl e)
        · exact .inl e
        · exact .inr (.inr e)
      · rintro (e | e | e)
        · exact .inr (.inl e)
        · exact .inl e
        · exact .inr (.inr e)
    · rw [insU_ge h]
      split
      · rename_i e
        simp only [List.mem_cons]
        constructor
        · exact .inr
        · rintro (e' | e')
          · exact .inl (by omega)
          · exact e'
      · simp only [List.mem_cons]
theorem insU_strict (n : Int) : ∀ (l : List Int), l.Pairwise (· < ·) → (insU n l).Pairwise (· < ·)
  | [], _ => by simp [insU, posU]
  | x :: l, h => by
    have h' := List.pairwise_cons.1 h
    by_cases hx : x < n
    · rw [insU_lt hx, List.pairwise_cons]
      refine ⟨fun z hz => ?_, insU_strict n l h'.2⟩
      rcases (insU_mem n l z).1 hz with e | e
      · omega
      · exact h'.1 z e
    · rw [insU_ge hx]
      split
      · exact h
      · rw [List.pairwise_cons]
        refine ⟨fun z hz => ?_, h⟩
        rcases List.mem_cons.1 hz with e | e
        · omega
        · have := h'.1 z e
          omega
theorem compact_sorted (zs : List Int) (hs : ∀ i j, i ≤ j → j < zs.length → zs.toArray[i]! ≤ zs.toArray[j]!) : ∀ m, m ≤ zs.length → (Go.Lib.compactUpTo zs.toArray m).Pairwise (· < ·) ∧ ∀ z, z ∈ Go.Lib.compactUpTo zs.toArray m ↔ ∃ j, j < m ∧ zs.toArray[j]! = z := by
  intro m
  induction m with
  | zero => intro _; exact ⟨by simp [Go.Lib.compactUpTo], fun z => by simp [Go.Lib.compactUpTo]⟩
  | succ m ih =>
    intro hm
    obtain ⟨h1, h2⟩ := ih (by omega)
    rw [Go.Lib.compactUpTo_succ]
    by_cases hk : Go.Lib.keeps zs.toArray m = true
    · rw [if_pos hk]
      refine ⟨List.pairwise_append.2 ⟨h1, by simp, fun z hz y hy => ?_⟩, fun z => ?_⟩
      · rw [List.mem_singleton] at hy
        subst hy
        obtain ⟨j, hj, e⟩ := (h2 z).1 hz
        unfold Go.Lib.keeps at hk
        rcases of_decide_eq_true hk with h0 | h0
        · omega
        · have a := hs j (m - 1) (by omega) (by omega)
          have b := hs (m - 1) m (by omega) (by omega)
          omega
      · rw [List.mem_append, List.mem_singleton, h2 z]
        constructor
        · rintro (⟨j, hj, e⟩ | e)
          · exact ⟨j, by omega, e⟩
          · exact ⟨m, by omega, e.symm⟩
        · rintro ⟨j, hj, e⟩
          by_cases hjm : j = m
          · exact .inr (by rw [← e, hjm])
          · exact .inl ⟨j, by omega, e⟩
    · rw [if_neg hk, List.append_nil]
      refine ⟨h1, fun z => ?_⟩
      rw [h2 z]
      have hk' : Go.Lib.keeps zs.toArray m = false := by simpa using hk
      unfold Go.Lib.keeps at hk'
      have h0 := of_decide_eq_false hk'
      constructor
      · rintro ⟨j, hj, e⟩
        exact ⟨j, by omega, e⟩
      · rintro ⟨j, hj, e⟩
        by_cases hjm : j = m
        · refine ⟨m - 1, by omega, ?_⟩
          have : zs.toArray[m]! = zs.toArray[m - 1]! := Classical.byContradiction fun h => h0 (.inr h)
          rw [← this, ← hjm]; exact e
        · exact ⟨j, by omega, e⟩
theorem fold_insU : ∀ (l o : List Int), o.Pairwise (· < ·) → (l.foldl (fun o n => insU n o) o).Pairwise (· < ·) ∧ ∀ z, z ∈ l.foldl (fun o n => insU n o) o ↔ z ∈ o ∨ z ∈ l
  | [], o, h => ⟨h, fun z => by simp⟩
  | n :: l, o, h => by
    obtain ⟨h1, h2⟩ := fold_insU l (insU n o) (insU_strict n o h)
    refine ⟨h1, fun z => ?_⟩
    rw [List.foldl_cons, h2 z, insU_mem, List.mem_cons]
    constructor
    · rintro ((e | e) | e)
      · exact .inr (.inl e)
      · exact .inl e
      · exact .inr (.inr e)
    · rintro (e | e | e)
      · exact .inl (.inr e)
      · exact .inl (.inl e)
      · exact .inr e
theorem compact_sort (l : List Int) : Go.Lib.compact (l.mergeSort fun x y => decide (x ≤ y)) = l.foldl (fun o n => insU n o) [] := by
  have hp : (l.mergeSort fun x y => decide (x ≤ y)).Pairwise fun x y => decide (x ≤ y) = true := List.pairwise_mergeSort (fun a b c h1 h2 => by simp only [decide_eq_true_eq] at *; omega) (fun a b => by simp only [Bool.or_eq_true, decide_eq_true_eq]; omega) l
  have hm : ∀ z, z ∈ (l.mergeSort fun x y => decide (x ≤ y)) ↔ z ∈ l := fun z => List.mem_mergeSort
  generalize (l.mergeSort fun x y => decide (x ≤ y)) = zs at hp hm
  have hg : ∀ j, j < zs.length → zs.toArray[j]! = zs.getD j 0 := fun j hj => by
    rw [List.getD_eq_getElem?_getD, List.getElem?_eq_getElem hj]
    simp [hj]
  have hs : ∀ i j, i ≤ j → j < zs.length → zs.toArray[i]! ≤ zs.toArray[j]! := fun i j hij hj => by
    rcases Nat.lt_or_ge i j with h | h
    · have := List.pairwise_iff_getElem.1 hp i j (by omega) hj h
      simp only [decide_eq_true_eq] at this
      rw [hg i (by omega), hg j hj, List.getD_eq_getElem?_getD, List.getD_eq_getElem?_getD, List.getElem?_eq_getElem hj, List.getElem?_eq_getElem (show i < zs.length by omega)]
      exact this
    · rw [show i = j by omega]; exact Int.le_refl _
  obtain ⟨h1, h2⟩ := compact_sorted zs hs zs.length (Nat.le_refl _)
  obtain ⟨h3, h4⟩ := fold_insU l [] List.Pairwise.nil
  refine strict_ext _ _ h1 h3 fun z => ?_
  show z ∈ Go.Lib.compactUpTo zs.toArray zs.length ↔ _
  rw [h2 z, h4 z, ← hm z]
  constructor
  · rintro ⟨j, hj, e⟩
    refine .inr ?_
    rw [← e, hg j hj, List.getD_eq_getElem?_getD, List.getElem?_eq_getElem hj]
    exact List.getElem_mem hj
  · rintro (e | e)
    · cases e
    · obtain ⟨j, hj, e⟩ := List.getElem_of_mem e
      exact ⟨j, hj, by rw [hg j hj, List.getD_eq_getElem?_getD, List.getElem?_eq_getElem hj]; exact e⟩

/-! d_nbs -/
theorem insU_len (n : Int) (o : List Int) : (insU n o).length ≤ o.length + 1 := by
  unfold insU
  split
  · simp; omega
  · omega
theorem posU_le (n : Int) : ∀ l : List Int, posU n l ≤ l.length
  | [] => Nat.le_refl _
  | x :: l => by
    rw [posU]
    have := posU_le n l
    split
    · simp only [List.length_cons]; omega
    · simp
theorem insU_idem (n : Int) (o : List Int) (h : o.Pairwise (· < ·)) : insU n (insU n o) = insU n o :=
  strict_ext _ _ (insU_strict n _ (insU_strict n o h)) (insU_strict n o h) fun z => by
    rw [insU_mem, insU_mem]
    constructor
    · rintro (e | e)
      · exact .inl e
      · exact e
    · exact .inr
def nbStep (node : Int) (o : List Int) (x : S166) : List Int := if x.f0 = node then insU x.f1 o else if x.f1 = node then insU x.f0 o else o
def nbs (l : List S166) (node : Int) : List Int := l.foldl (nbStep node) []
theorem nbStep_len (node : Int) (o : List Int) (x : S166) : (nbStep node o x).length ≤ o.length + 1 := by
  unfold nbStep
  split
  · exact insU_len _ _
  · split
    · exact insU_len _ _
    · omega
theorem nbs_len (l : List S166) (node : Int) : (nbs l node).length ≤ l.length := by
  have : ∀ (l : List S166) (o : List Int), (l.foldl (nbStep node) o).length ≤ o.length + l.length := by
    intro l
    induction l with
    | nil => intro o; simp
    | cons x l ih =>
      intro o
      have h1 := ih (nbStep node o x)
      have h2 := nbStep_len node o x
      simp only [List.foldl_cons, List.length_cons]
      omega
  simpa [nbs] using this l []
def rawStep (node : Int) (r : List Int) (x : S166) : List Int := if x.f1 = node then (if x.f0 = node then r ++ [x.f1] else r) ++ [x.f0] else if x.f0 = node then r ++ [x.f1] else r
theorem raw_nbs (node : Int) : ∀ (l : List S166) (r : List Int), (l.foldl (rawStep node) r).foldl (fun o n => insU n o) [] = l.foldl (nbStep node) (r.foldl (fun o n => insU n o) [])
  | [], r => rfl
  | x :: l, r => by
    have hs := (fold_insU r [] List.Pairwise.nil).1
    rw [List.foldl_cons, List.foldl_cons, raw_nbs node l]
    congr 1
    unfold rawStep nbStep
    by_cases h0 : x.f0 = node
    · by_cases h1 : x.f1 = node
      · rw [if_pos h1, if_pos h0, if_pos h0, List.foldl_append, List.foldl_append]
        simp only [List.foldl_cons, List.foldl_nil]
        rw [h0, h1]
        exact insU_idem _ _ hs
      · rw [if_neg h1, if_pos h0, if_pos h0, List.foldl_append]
        rfl
    · by_cases h1 : x.f1 = node
      · rw [if_pos h1, if_neg h0, if_neg h0, if_pos h1, List.foldl_append]
        rfl
      · rw [if_neg h1, if_neg h0, if_neg h0, if_neg h1]
theorem raw_len (node : Int) : ∀ (l : List S166) (r : List Int), (l.foldl (rawStep node) r).length ≤ r.length + 2 * l.length
  | [], r => by simp
  | x :: l, r => by
    have h1 := raw_len node l (rawStep node r x)
    have h2 : (rawStep node r x).length ≤ r.length + 2 := by
      unfold rawStep
      repeat' split
      all_goals simp
    simp only [List.foldl_cons, List.length_cons]
    omega

/-! spec_NeighborsIn -/
theorem spec_NeighborsIn.ev_l1 (l : List S166) (node : Int) (o : List Int) (x6 : Int) (n : Int) (ho : o.length ≤ 4000000) (R : List Int) (h6 : Ev (fun k => spec_NeighborsIn.l0 k l node (insU n o) (wrap64 (x6 + 1))) R) :
    ∀ (d i : Nat), i + d = o.length → posU n o = i + posU n (o.drop i) → Ev (fun k => spec_NeighborsIn.l1 k l node o x6 n i) R := by
  have put : ∀ i : Nat, i ≤ o.length → posU n o = i → (i = o.length ∨ ¬ o.getD i 0 = n) → ∀ b : Bool, b = true → Ev (fun k => spec_NeighborsIn.j4 k l node o x6 n i b) R := fun i hi hp hc b hb => by
    have e : insU n o = o.take i ++ [n] ++ o.drop i := by
      unfold insU
      rw [hp, if_pos hc]
    rw [e] at h6
    refine Ev.step (fun k => ?_) h6
    simp only [spec_NeighborsIn.j4]
    rw [if_pos hb, Option.bind_some, if_pos (by omega), if_pos (by omega), Option.bind_some, Int.toNat_natCast, if_pos (by simp; omega), Option.bind_some, Option.bind_some, if_pos (by simp; omega), Option.bind_some, Option.bind_some, if_pos (by simp; omega), List.nil_append]
  intro d
  induction d with
  | zero =>
    intro i hi hp
    rw [List.drop_eq_nil_of_le (by omega)] at hp
    have hp' : posU n o = i := by simpa [posU] using hp
    refine Ev.step (fun k => by simp only [spec_NeighborsIn.l1]; rw [if_neg (by omega)]) ?_
    refine Ev.step (fun k => by simp only [spec_NeighborsIn.j3]; rw [if_neg (by simp), if_pos (by omega)]) (put i (by omega) hp' (.inl (by omega)) true rfl)
  | succ d ih =>
    intro i hi hp
    rw [drop_cons o 0 (by omega), posU] at hp
    refine Ev.step (fun k => by simp only [spec_NeighborsIn.l1]; rw [if_pos (by omega), if_pos (by omega), rd_nat]) ?_
    by_cases hx : o.getD i 0 < n
    · rw [if_pos hx] at hp
      exact Ev.step (fun k => by simp only [spec_NeighborsIn.j3]; rw [if_pos (decide_eq_true hx), wrap_nat (by omega)]) (ih (i + 1) (by omega) (by omega))
    · rw [if_neg hx] at hp
      have hp' : posU n o = i := by omega
      refine Ev.step (fun k => by simp only [spec_NeighborsIn.j3]; rw [if_neg (by simpa using hx), if_neg (by omega), if_pos (by omega), if_pos (by omega), rd_nat]) ?_
      by_cases he : o.getD i 0 = n
      · have e : insU n o = o := by
          unfold insU
          rw [hp', if_neg (by rintro (h | h); omega; exact h he)]
        rw [e] at h6
        exact Ev.step (fun k => by simp only [spec_NeighborsIn.j4]; rw [if_neg (by simpa using he)]) h6
      · exact put i (by omega) hp' (.inr he) _ (by simpa using he)
theorem spec_NeighborsIn.ev (l : List S166) (node : Int) (hl : l.length ≤ 1048576) : Ev (fun k => spec_NeighborsIn.f k l node) (nbs l node) := by
  have h := foldE_index (g := fun k o i => spec_NeighborsIn.l0 k l node o i) (f := fun j o => nbStep node o (l.getD j z166)) (fin := fun o => o) (fun i o => o.length ≤ i) l.length [] (by simp)
    (fun o ho => Ev.one fun k => by simp only [spec_NeighborsIn.l0]; rw [if_neg (by omega)])
    (fun i o hi ho => by
      refine ⟨Nat.le_trans (nbStep_len _ _ _) (by omega), fun r hr => ?_⟩
      rw [show (((i + 1 : Nat) : Int)) = wrap64 ((i : Int) + 1) from (wrap_nat (by omega)).symm] at hr
      have one : ∀ n, nbStep node o (l.getD i z166) = insU n o → Ev (fun k => spec_NeighborsIn.j1 k l node o i n) r := fun n e => by
        rw [e] at hr
        exact Ev.step (fun k => by simp only [spec_NeighborsIn.j1]; rfl) (spec_NeighborsIn.ev_l1 l node o i n (by omega) r hr o.length 0 (by omega) (by simp))
      have rdE : rd_T166 l (i : Int) = l.getD i z166 := rfl
      by_cases h0 : (l.getD i z166).f0 = node
      · exact Ev.step (fun k => by simp only [spec_NeighborsIn.l0]; rw [if_pos (by omega), if_pos (by omega), rdE, if_pos h0]) (one _ (by unfold nbStep; rw [if_pos h0]))
      · by_cases h1 : (l.getD i z166).f1 = node
        · exact Ev.step (fun k => by simp only [spec_NeighborsIn.l0]; rw [if_pos (by omega), if_pos (by omega), rdE, if_neg h0, if_pos h1]) (one _ (by unfold nbStep; rw [if_neg h0, if_pos h1]))
        · have e : nbStep node o (l.getD i z166) = o := by unfold nbStep; rw [if_neg h0, if_neg h1]
          rw [e] at hr
          exact Ev.step (fun k => by simp only [spec_NeighborsIn.l0]; rw [if_pos (by omega), if_pos (by omega), rdE, if_neg h0, if_neg h1]) hr)
  rw [foldl_index l z166 (fun o x => nbStep node o x) []] at h
  exact h

/-! d_hasLink -/
def linkQ (a b : Int) (x : S166) : Bool := (x.f0 == a) && (x.f1 == b) || (x.f0 == b) && (x.f1 == a)
def hasLink (p : List S112) (k a b : Int) : Bool := idxB k p.length && (rd_T112 p k).f1.any (linkQ a b)
theorem fit_links {n : Nat} {p : List S112} (hp : fitQi n p) {k : Int} (hk : idxB k p.length = true) : (rd_T112 p k).f1.length ≤ n := by
  obtain ⟨h0, h1⟩ := (idxB_iff _ _).1 hk
  exact (hp.2 _ (getD_mem p z112 (show k.toNat < p.length by omega))).1

/-! d_servers -/
def serversIn (p : List S112) (kk site : Int) : List Int := if idxB kk p.length = true then nbs (rd_T112 p kk).f1 site else []
theorem servers_len (p : List S112) (kk site : Int) (hp : fitQi 1048576 p) : (serversIn p kk site).length ≤ 1048576 := by
  unfold serversIn
  split
  · rename_i h
    exact Nat.le_trans (nbs_len _ _) (fit_links hp h)
  · simp

/-! spec_ServersIn -/
theorem spec_ServersIn.ev (x y z : Int) (p : List S112) (kk site : Int) (hp : fitQi 1048576 p) : Ev (fun k => spec_ServersIn.f k x y z p kk site) (serversIn p kk site) := by
  refine Ev.congr (fun k => by unfold spec_ServersIn.f; rw [spec_l1In.val, Option.bind_some, inR_idx _ _ hp.1]) ?_
  unfold serversIn
  by_cases h : idxB kk p.length = true
  · have hl := fit_links hp h
    obtain ⟨h0, h1⟩ := (idxB_iff _ _).1 h
    rw [if_pos h]
    refine Ev.congr (fun k => by rw [if_pos h, if_pos h0, if_pos h1]) ?_
    exact Ev.bind (spec_NeighborsIn.ev _ site hl) (Ev.now _)
  · rw [if_neg h]
    exact Ev.all fun k => by rw [if_neg h]

/-! spec_Max -/
theorem spec_Max.val (a b : Int) : spec_Max.f a b = some (mx a b) := by
  unfold spec_Max.f mx
  by_cases h : b > a
  · rw [if_pos h, if_pos (by omega)]
  · rw [if_neg h, if_neg (by omega)]

/-! d_isSpan -/
def isSpan (a b : Int) : Bool := decide (0 ≤ a) && decide (b ≤ 1000) && decide (a < b)

/-! spec_IsSpan -/
theorem spec_IsSpan.val (a b : Int) : spec_IsSpan.f a b = some (isSpan a b) := by
  unfold spec_IsSpan.f isSpan
  by_cases h : a ≥ 0
  · rw [if_pos h]
    by_cases h2 : b ≤ 1000
    · rw [if_pos h2]; simp [h, h2]
    · rw [if_neg h2]; simp; omega
  · rw [if_neg h]; simp; omega

/-! d_inSpan -/
def inSpan (a b t : Int) : Bool := isSpan a b && decide (a ≤ t) && decide (t < b)

/-! d_joinS -/
def covT (l : List S109) (t : Int) : Bool := l.any fun x => inSpan x.f0 x.f1 t
def putS (o : List S109) (t : Int) : List S109 := if 0 < o.length ∧ (o.getD (o.length - 1) z109).f1 = t then o.set (o.length - 1) ⟨(o.getD (o.length - 1) z109).f0, t + 1⟩ else o ++ [⟨t, t + 1⟩]
def joinStep (q : Int → Bool) (o : List S109) (j : Nat) : List S109 := if q (j : Int) = true then putS o (j : Int) else o
def joinS (l : List S109) : List S109 := (List.range' 0 1000).foldl (fun o j => joinStep (covT l) o j) []
theorem putS_len (o : List S109) (t : Int) : (putS o t).length ≤ o.length + 1 := by
  unfold putS
  split <;> simp
theorem joinStep_len (q : Int → Bool) (o : List S109) (j i : Nat) (h : o.length ≤ i) : (joinStep q o j).length ≤ i + 1 := by
  unfold joinStep
  split
  · have := putS_len o (j : Int); omega
  · omega
theorem joinS_len (l : List S109) : (joinS l).length ≤ 1000 := by
  have : ∀ d i (o : List S109), o.length ≤ i → ((List.range' i d).foldl (fun o j => joinStep (covT l) o j) o).length ≤ i + d := by
    intro d
    induction d with
    | zero => intro i o h; simpa using h
    | succ d ih => intro i o h; rw [List.range'_succ, List.foldl_cons]; have := ih (i + 1) _ (joinStep_len (covT l) o i i h); omega
  exact this 1000 0 [] (by simp)
def lastS (l : List S109) : Int := l.foldl (fun m x => if isSpan x.f0 x.f1 = true then mx m x.f1 else m) 0
theorem lastS_spec : ∀ (l : List S109) (m : Int), 0 ≤ m → m ≤ 1000 → 0 ≤ l.foldl (fun m x => if isSpan x.f0 x.f1 = true then mx m x.f1 else m) m ∧ l.foldl (fun m x => if isSpan x.f0 x.f1 = true then mx m x.f1 else m) m ≤ 1000 ∧ m ≤ l.foldl (fun m x => if isSpan x.f0 x.f1 = true then mx m x.f1 else m) m ∧
    ∀ x ∈ l, isSpan x.f0 x.f1 = true → x.f1 ≤ l.foldl (fun m x => if isSpan x.f0 x.f1 = true then mx m x.f1 else m) m
  | [], m, h0, h1 => ⟨h0, h1, Int.le_refl _, fun x hx => by cases hx⟩
  | y :: l, m, h0, h1 => by
    rw [List.foldl_cons]
    have one : 0 ≤ (if isSpan y.f0 y.f1 = true then mx m y.f1 else m) ∧ (if isSpan y.f0 y.f1 = true then mx m y.f1 else m) ≤ 1000 ∧ m ≤ (if isSpan y.f0 y.f1 = true then mx m y.f1 else m) ∧ (isSpan y.f0 y.f1 = true → y.f1 ≤ (if isSpan y.f0 y.f1 = true then mx m y.f1 else m)) := by
      split
      · rename_i h
        unfold isSpan at h
        simp only [Bool.and_eq_true, decide_eq_true_eq] at h
        unfold mx
        split <;> refine ⟨by omega, by omega, by omega, fun _ => by omega⟩
      · rename_i h
        exact ⟨h0, h1, Int.le_refl _, fun h' => absurd h' h⟩
    obtain ⟨a1, a2, a3, a4⟩ := lastS_spec l _ one.1 one.2.1
    refine ⟨a1, a2, Int.le_trans one.2.2.1 a3, fun x hx hs => ?_⟩
    rcases List.mem_cons.1 hx with rfl | hx
    · exact Int.le_trans (one.2.2.2 hs) a3
    · exact a4 x hx hs
theorem cov_last (l : List S109) (t : Int) (h : lastS l ≤ t) : covT l t = false := by
  unfold covT
  rw [List.any_eq_false]
  intro x hx he
  unfold inSpan at he
  simp only [Bool.and_eq_true, decide_eq_true_eq] at he
  have := (lastS_spec l 0 (by omega) (by omega)).2.2.2 x hx he.1.1
  unfold lastS at h
  omega
theorem joinS_short (l : List S109) : (List.range' 0 (lastS l).toNat).foldl (fun o j => joinStep (covT l) o j) [] = joinS l := by
  obtain ⟨h0, h1, _⟩ := lastS_spec l 0 (by omega) (by omega)
  have e : ∀ (d i : Nat) (o : List S109), lastS l ≤ (i : Int) → (List.range' i d).foldl (fun o j => joinStep (covT l) o j) o = o := by
    intro d
    induction d with
    | zero => intro i o _; rfl
    | succ d ih =>
      intro i o h
      rw [List.range'_succ, List.foldl_cons, show joinStep (covT l) o i = o by unfold joinStep; rw [cov_last l _ h]; rfl]
      exact ih (i + 1) o (by omega)
  have h0' : 0 ≤ lastS l := h0
  have h1' : lastS l ≤ 1000 := h1
  unfold joinS
  rw [show (1000 : Nat) = (lastS l).toNat + (1000 - (lastS l).toNat) by omega, ← List.range'_append_1, List.foldl_append]
  exact (e _ _ _ (by omega)).symm

/-! spec_l4Last -/
theorem spec_l4Last.ev (l : List S109) (hl : l.length ≤ 1048576) : Ev (fun k => spec_l4Last.f k l) (lastS l) :=
  fold_list (g := fun k s i => spec_l4Last.l0 k l s i) (f := fun m x => if isSpan x.f0 x.f1 = true then mx m x.f1 else m) (fin := fun s => s) l z109 0
    (fun s => Ev.one fun k => by simp only [spec_l4Last.l0]; rw [if_neg (by omega)])
    (fun i s k hi => by
      simp only [spec_l4Last.l0]
      rw [if_pos (by omega), if_pos (by omega), spec_IsSpan.val, Option.bind_some, wrap_nat (by omega), spec_Max.val, Option.bind_some, show rd_T109 l (i : Int) = l.getD i z109 from rfl]
      by_cases h : isSpan (l.getD i z109).f0 (l.getD i z109).f1 = true
      · rw [if_pos h, if_pos h]
      · rw [if_neg h, if_neg h])

/-! spec_InSpan -/
theorem spec_InSpan.val (a b t : Int) : spec_InSpan.f a b t = some (inSpan a b t) := by
  unfold spec_InSpan.f inSpan
  rw [spec_IsSpan.val, Option.bind_some]
  by_cases h : isSpan a b = true
  · rw [if_pos h]
    by_cases h2 : a ≤ t
    · rw [if_pos h2]; simp [h, h2]
    · rw [if_neg h2]; simp; omega
  · rw [if_neg h]; simp [h]

/-! spec_InSpans -/
theorem spec_InSpans.ev (l : List S109) (t : Int) (hl : l.length ≤ 1048576) : Ev (fun k => spec_InSpans.f k l t) (covT l t) := by
  have h := find_list (g := fun k i => spec_InSpans.l0 k l t i) (q := fun x : S109 => inSpan x.f0 x.f1 t) (r := true) (e := false) l z109
    (Ev.one fun k => by simp only [spec_InSpans.l0]; rw [if_neg (by omega)])
    (fun i k hi => by
      simp only [spec_InSpans.l0]
      rw [if_pos (by omega), if_pos (by omega), spec_InSpan.val, Option.bind_some, wrap_nat (by omega), show rd_T109 l (i : Int) = l.getD i z109 from rfl])
  rw [ite_bool] at h
  exact h

/-! spec_l4Put -/
theorem spec_l4Put.val (o : List S109) (t : Int) (ho : o.length ≤ 1048576) (h0 : 0 ≤ t) (h1 : t ≤ 1000) : spec_l4Put.f o t = some (putS o t) := by
  unfold spec_l4Put.f putS
  rw [show wrap64 (t + 1) = t + 1 by unfold wrap64; omega]
  by_cases hp : 0 < o.length
  · rw [if_pos (show (o.length : Int) > 0 by omega), show wrap64 ((o.length : Int) - 1) = ((o.length - 1 : Nat) : Int) by unfold wrap64; omega, if_pos (by omega), if_pos (by omega), show rd_T109 o ((o.length - 1 : Nat) : Int) = o.getD (o.length - 1) z109 from rfl, Int.toNat_natCast]
    by_cases h : (o.getD (o.length - 1) z109).f1 = t
    · rw [if_pos h, if_pos ⟨hp, h⟩]
    · rw [if_neg h, if_pos (by omega), if_neg (fun h' => h h'.2)]
  · rw [if_neg (by omega), if_pos (by omega), if_neg (fun h' => hp h'.1)]

/-! spec_JoinSpans -/
theorem spec_JoinSpans.ev (l : List S109) (hl : l.length ≤ 1048576) : Ev (fun k => spec_JoinSpans.f k l) (joinS l) := by
  refine Ev.bind (spec_l4Last.ev l hl) ?_
  obtain ⟨h0, h1, _⟩ := lastS_spec l 0 (by omega) (by omega)
  have hn : ((lastS l).toNat : Int) = lastS l := Int.toNat_of_nonneg h0
  have h := foldE_index (g := fun k o i => spec_JoinSpans.l0 k l o (lastS l) i) (f := fun i o => joinStep (covT l) o i) (fin := fun o => o) (fun i o => o.length ≤ i) (lastS l).toNat [] (by simp)
    (fun s _ => Ev.one fun k => by simp only [spec_JoinSpans.l0]; rw [if_neg (by omega)])
    (fun i s hi hs => ⟨joinStep_len _ _ _ _ hs, fun r hr => by
      have h1' : lastS l ≤ 1000 := h1
      refine Ev.step (fun k => by simp only [spec_JoinSpans.l0]; rw [if_pos (by omega), wrap_nat (by omega)]) (Ev.bind (spec_InSpans.ev l i hl) ?_)
      unfold joinStep at hr
      by_cases hq : covT l (i : Int) = true
      · rw [if_pos hq] at hr
        exact Ev.congr (fun k => by rw [if_pos hq, spec_l4Put.val s i (by omega) (by omega) (by omega), Option.bind_some]) hr
      · rw [if_neg hq] at hr
        exact Ev.congr (fun k => by rw [if_neg hq]) hr⟩)
  rw [joinS_short] at h
  exact h

/-! spec_l15Has -/
theorem spec_l15Has.ev (l : List Int) (a : Int) (hl : l.length ≤ 1048576) : Ev (fun k => spec_l15Has.f k l a) (hasB l a) := by
  have h := find_list (g := fun k i => spec_l15Has.l0 k l a i) (q := fun x => x == a) (r := true) (e := false) l 0
    (Ev.one fun k => by simp only [spec_l15Has.l0]; rw [if_neg (by omega)])
    (fun i k hi => by
      simp only [spec_l15Has.l0]
      rw [if_pos (by omega), if_pos (by omega), wrap_nat (by omega), rd_nat]
      by_cases h : l.getD i 0 = a
      · rw [if_pos h, if_pos (by simpa using h)]
      · rw [if_neg h, if_neg (by simpa using h)])
  rw [ite_bool] at h
  exact h

/-! d_service -/
def srvQ (p : List S112) (site server : Int) (j : Int) : Bool := hasB (serversIn p j site) server
def srvStep (p : List S112) (site server : Int) (o : List S109) (j : Nat) : List S109 := if srvQ p site server (j : Int) = true then o ++ [⟨(rd_T112 p (j : Int)).f0.f0, (rd_T112 p (j : Int)).f0.f1⟩] else o
def serviceL (p : List S112) (site server : Int) : List S109 := (List.range' 0 p.length).foldl (fun o j => srvStep p site server o j) []
theorem srvStep_len (p : List S112) (site server : Int) (o : List S109) (j : Nat) (h : o.length ≤ j) : (srvStep p site server o j).length ≤ j + 1 := by
  unfold srvStep
  split
  · rw [List.length_append, List.length_singleton]; omega
  · omega

/-! spec_ServiceOf -/
theorem spec_ServiceOf.ev (a b c : Int) (p : List S112) (site server : Int) (hp : fitQi 1048576 p) : Ev (fun k => spec_ServiceOf.f k a b c p site server) (joinS (serviceL p site server)) := by
  have hl := hp.1
  exact foldE_index (g := fun k o i => spec_ServiceOf.l0 k site server o i a b c p) (f := fun i o => srvStep p site server o i) (fin := fun o => joinS o) (fun i o => o.length ≤ i) p.length [] (by simp)
    (fun s hs => Ev.step (fun k => by simp only [spec_ServiceOf.l0]; rw [if_neg (by omega)]) (Ev.bind (spec_JoinSpans.ev s (by omega)) (Ev.now _)))
    (fun i o hi ho => ⟨srvStep_len _ _ _ _ _ ho, fun r hr => by
      refine Ev.step (fun k => by simp only [spec_ServiceOf.l0]; rw [if_pos (by omega), wrap_nat (by omega)]) (Ev.bind (spec_ServersIn.ev a b c p i site hp) (Ev.bind (spec_l15Has.ev _ server (servers_len p i site hp)) ?_))
      unfold srvStep srvQ at hr
      by_cases h : hasB (serversIn p (i : Int) site) server = true
      · rw [if_pos h] at hr
        exact Ev.congr (fun k => by rw [if_pos h, if_pos (by omega), if_pos (by omega)]) hr
      · rw [if_neg h] at hr
        exact Ev.congr (fun k => by rw [if_neg h]) hr⟩)

/-! impl_NeighborsIn -/
theorem rawStep_len (node : Int) (r : List Int) (x : S166) : (rawStep node r x).length ≤ r.length + 2 := by
  unfold rawStep
  repeat' split
  all_goals simp
theorem impl_NeighborsIn.step (l : List S166) (node : Int) (s : List Int) (i k : Nat) (hl : l.length ≤ 1048576) (hi : i < l.length) (hs : s.length ≤ 2 * i) :
    impl_NeighborsIn.l0 (k + 1) node s l (l.length : Int) i = impl_NeighborsIn.l0 k node (rawStep node s (l.getD i z166)) l (l.length : Int) ((i + 1 : Nat) : Int) := by
  simp only [impl_NeighborsIn.l0]
  rw [if_pos (by omega), if_pos (by omega), if_pos (by omega), wrap_nat (by omega), show rd_T166 l (i : Int) = l.getD i z166 from rfl]
  unfold rawStep
  by_cases h0 : (l.getD i z166).f0 = node
  · rw [if_pos h0, if_pos (by omega), Option.bind_some]
    by_cases h1 : (l.getD i z166).f1 = node
    · rw [if_pos h1, if_pos (by rw [List.length_append, List.length_singleton]; omega), if_pos h1, if_pos h0]
    · rw [if_neg h1, if_neg h1, if_pos h0]
  · rw [if_neg h0]
    by_cases h1 : (l.getD i z166).f1 = node
    · rw [if_pos h1, if_pos (by omega), if_pos h1, if_neg h0]
    · rw [if_neg h1, if_neg h1, if_neg h0]
theorem impl_NeighborsIn.ev (l : List S166) (node : Int) (hl : l.length ≤ 1048576) : Ev (fun k => impl_NeighborsIn.f k l node) (nbs l node) := by
  have h := fold_index (g := fun k s i => impl_NeighborsIn.l0 k node s l (l.length : Int) i) (f := fun i s => rawStep node s (l.getD i z166)) (fin := fun s => s.foldl (fun o n => insU n o) []) (fun i s => s.length ≤ 2 * i) l.length [] (by simp)
    (fun s hs => Ev.one fun k => by
      simp only [impl_NeighborsIn.l0]
      rw [if_neg (by omega)]
      unfold slices_Sort_int_int.f slices_Compact_int_int.f
      rw [if_pos (by omega), Option.bind_some, Option.bind_some]
      exact congrArg some (compact_sort s))
    (fun i s hi hs => ⟨Nat.le_trans (rawStep_len _ _ _) (by omega), fun k => impl_NeighborsIn.step l node s i k hl hi hs⟩)
  rw [foldl_index l z166 (fun s x => rawStep node s x) [], raw_nbs node l []] at h
  exact h

/-! impl_isIndex -/
theorem impl_isIndex.val (a n : Int) : impl_isIndex.f a n = some (decide (0 ≤ a) && decide (a < n)) := by
  unfold impl_isIndex.f
  by_cases h : a ≥ 0
  · rw [if_pos h]; simp [h]
  · rw [if_neg h]; simp; omega
theorem impl_isIndex.nat (a : Int) (n : Nat) : impl_isIndex.f a (n : Int) = some (idxB a n) := impl_isIndex.val a n

/-! impl_ServersIn -/
theorem impl_ServersIn.ev (x y z : Int) (p : List S112) (kk site : Int) (hp : fitQi 1048576 p) : Ev (fun k => impl_ServersIn.f k x y z p kk site) (serversIn p kk site) := by
  refine Ev.congr (fun k => by unfold impl_ServersIn.f; rw [impl_isIndex.nat, Option.bind_some]) ?_
  unfold serversIn
  by_cases h : idxB kk p.length = true
  · have hl := fit_links hp h
    obtain ⟨h0, h1⟩ := (idxB_iff _ _).1 h
    rw [if_pos h]
    refine Ev.congr (fun k => by rw [if_pos h, if_pos h0, if_pos h1]) ?_
    exact Ev.bind (impl_NeighborsIn.ev _ site hl) (Ev.now _)
  · rw [if_neg h]
    exact Ev.all fun k => by rw [if_neg h]

/-! impl_IsSpan -/
theorem impl_IsSpan.val (a b : Int) : impl_IsSpan.f a b = some (isSpan a b) := by
  unfold impl_IsSpan.f isSpan
  by_cases h : a ≥ 0
  · rw [if_pos h]
    by_cases h2 : b ≤ 1000
    · rw [if_pos h2]; simp [h, h2]
    · rw [if_neg h2]; simp; omega
  · rw [if_neg h]; simp; omega

/-! d_bits -/
def setR (b : List Bool) (t : Nat) : Nat → List Bool
  | 0 => b
  | d + 1 => setR (b.set t true) (t + 1) d
theorem setR_len : ∀ (d t : Nat) (b : List Bool), (setR b t d).length = b.length
  | 0, _, _ => rfl
  | d + 1, t, b => by rw [setR, setR_len d]; simp
theorem setR_get : ∀ (d t : Nat) (b : List Bool) (u : Nat), t + d ≤ b.length → (setR b t d).getD u false = (b.getD u false || (decide (t ≤ u) && decide (u < t + d)))
  | 0, t, b, u, _ => by
    rw [setR]
    have : (decide (t ≤ u) && decide (u < t + 0)) = false := by simp
    rw [this, Bool.or_false]
  | d + 1, t, b, u, h => by
    rw [setR, setR_get d (t + 1) (b.set t true) u (by simp; omega)]
    by_cases e : t = u
    · subst e
      rw [getD_set_self b false true (by omega)]
      simp
    · have e1 : (b.set t true).getD u false = b.getD u false := by simp [List.getD_eq_getElem?_getD, List.getElem?_set_ne e]
      rw [e1]
      congr 1
      rw [Bool.eq_iff_iff]
      simp
      omega
def bitS (b : List Bool) (x : S109) : List Bool := if isSpan x.f0 x.f1 = true then setR b x.f0.toNat (x.f1 - x.f0).toNat else b
theorem bitS_len (b : List Bool) (x : S109) : (bitS b x).length = b.length := by
  unfold bitS
  split
  · exact setR_len _ _ _
  · rfl
def bitsOf (l : List S109) : List Bool := l.foldl bitS (List.replicate 1000 false)
theorem bits_spec (t : Nat) : ∀ (l : List S109) (b : List Bool), b.length = 1000 → (l.foldl bitS b).length = 1000 ∧ (l.foldl bitS b).getD t false = (b.getD t false || covT l (t : Int))
  | [], b, h => ⟨h, by simp [covT]⟩
  | x :: l, b, h => by
    rw [List.foldl_cons]
    obtain ⟨h1, h2⟩ := bits_spec t l (bitS b x) (by rw [bitS_len]; exact h)
    refine ⟨h1, ?_⟩
    rw [h2]
    unfold covT
    rw [List.any_cons, ← Bool.or_assoc]
    congr 1
    unfold bitS inSpan
    by_cases hs : isSpan x.f0 x.f1 = true
    · rw [if_pos hs]
      have hs' := hs
      unfold isSpan at hs'
      simp only [Bool.and_eq_true, decide_eq_true_eq] at hs'
      rw [setR_get _ _ _ _ (by omega), hs]
      congr 1
      rw [Bool.eq_iff_iff]
      simp
      omega
    · rw [if_neg hs]
      have : isSpan x.f0 x.f1 = false := by simpa using hs
      rw [this]
      simp

/-! impl_ticks -/
theorem impl_ticks.ev_l1 (l : List S109) (n i a e : Int) (r : List Bool) : ∀ (d t : Nat) (b : List Bool), (t : Int) + d = e → t + d ≤ b.length → b.length ≤ 1000 →
    Ev (fun k => impl_ticks.l0 k (setR b t d) l n (wrap64 (i + 1))) r → Ev (fun k => impl_ticks.l1 k b t l n i a e) r := by
  intro d
  induction d with
  | zero =>
    intro t b h1 h2 h3 h
    exact Ev.step (fun k => by simp only [impl_ticks.l1]; rw [if_neg (by omega)]; rfl) h
  | succ d ih =>
    intro t b h1 h2 h3 h
    refine Ev.step (fun k => by simp only [impl_ticks.l1]; rw [if_pos (by omega), if_pos (by omega), if_pos (by omega), wrap_nat (by omega), Int.toNat_natCast]) (ih (t + 1) (b.set t true) (by omega) (by simp; omega) (by simpa using h3) h)
theorem impl_ticks.ev (l : List S109) (hl : l.length ≤ 1048576) : Ev (fun k => impl_ticks.f k l) (bitsOf l) := by
  have h := foldE_index (g := fun k b i => impl_ticks.l0 k b l (l.length : Int) i) (f := fun i b => bitS b (l.getD i z109)) (fin := fun b => b) (fun _ b => b.length = 1000) l.length (List.replicate 1000 false) List.length_replicate
    (fun s _ => Ev.one fun k => by simp only [impl_ticks.l0]; rw [if_neg (by omega)])
    (fun i b hi hb => ⟨by rw [bitS_len]; exact hb, fun r hr => by
      rw [show (((i + 1 : Nat) : Int)) = wrap64 ((i : Int) + 1) from (wrap_nat (by omega)).symm] at hr
      unfold bitS at hr
      by_cases hs : isSpan (l.getD i z109).f0 (l.getD i z109).f1 = true
      · rw [if_pos hs] at hr
        have hs' := hs
        unfold isSpan at hs'
        simp only [Bool.and_eq_true, decide_eq_true_eq] at hs'
        have := impl_ticks.ev_l1 l (l.length : Int) i (l.getD i z109).f0 (l.getD i z109).f1 r ((l.getD i z109).f1 - (l.getD i z109).f0).toNat (l.getD i z109).f0.toNat b (by omega) (by omega) (by omega) hr
        rw [Int.toNat_of_nonneg hs'.1.1] at this
        exact Ev.step (fun k => by simp only [impl_ticks.l0]; rw [if_pos (by omega), if_pos (by omega), if_pos (by omega), impl_IsSpan.val, Option.bind_some, show rd_T109 l (i : Int) = l.getD i z109 from rfl, if_pos hs]) this
      · rw [if_neg hs] at hr
        exact Ev.step (fun k => by simp only [impl_ticks.l0]; rw [if_pos (by omega), if_pos (by omega), if_pos (by omega), impl_IsSpan.val, Option.bind_some, show rd_T109 l (i : Int) = l.getD i z109 from rfl, if_neg hs]) hr⟩)
  rw [foldl_index l z109 bitS] at h
  exact Ev.congr (fun k => by unfold impl_ticks.f; rw [if_pos (by omega)]) h

/-! impl_JoinSpans -/
theorem impl_JoinSpans.ev (l : List S109) (hl : l.length ≤ 1048576) : Ev (fun k => impl_JoinSpans.f k l) (joinS l) := by
  refine Ev.bind (impl_ticks.ev l hl) ?_
  have hp : ∀ t : Nat, t < 1000 → impl_JoinSpans.p (bitsOf l) (t : Int) = some (covT l (t : Int)) := fun t ht => by
    obtain ⟨h1, h2⟩ := bits_spec t l (List.replicate 1000 false) List.length_replicate
    unfold impl_JoinSpans.p
    rw [if_pos ⟨by omega, by unfold bitsOf; omega⟩]
    show some ((bitsOf l).getD (t : Int).toNat false) = _
    rw [Int.toNat_natCast]
    unfold bitsOf
    rw [h2]
    have : (List.replicate 1000 false).getD t false = false := by rw [List.getD_eq_getElem?_getD, List.getElem?_replicate, if_pos ht]; rfl
    rw [this, Bool.false_or]
  have h := fold_index (g := fun k o i => impl_spansWhere.l0 k 1000 (impl_JoinSpans.p (bitsOf l)) o i) (f := fun i o => joinStep (covT l) o i) (fin := fun o => o) (fun i o => o.length ≤ i) 1000 [] (by simp)
    (fun s _ => Ev.one fun k => by simp only [impl_spansWhere.l0]; rw [if_neg (by unfold mn; simp)])
    (fun i o hi hs => ⟨joinStep_len _ _ _ _ hs, fun k => by
      simp only [impl_spansWhere.l0]
      rw [if_pos (by unfold mn; simp; omega), hp i hi, Option.bind_some, wrap_nat (by omega)]
      unfold joinStep putS
      by_cases hq : covT l (i : Int) = true
      · rw [if_pos hq, if_pos hq]
        by_cases hl0 : 0 < o.length
        · rw [show wrap64 ((o.length : Int) - 1) = ((o.length - 1 : Nat) : Int) by unfold wrap64; omega, if_pos (by omega), if_pos (by omega), if_pos (by omega), show rd_T109 o ((o.length - 1 : Nat) : Int) = o.getD (o.length - 1) z109 from rfl, Int.toNat_natCast]
          by_cases h : (o.getD (o.length - 1) z109).f1 = (i : Int)
          · rw [if_pos h, if_pos ⟨hl0, h⟩, h, show wrap64 ((i : Int) + 1) = (i : Int) + 1 by unfold wrap64; omega]
          · rw [if_neg h, if_pos (by omega), if_neg (fun h' => h h'.2)]
            rfl
        · rw [if_neg (by unfold wrap64; omega), if_pos (by omega), if_neg (fun h' => hl0 h'.1)]
          rfl
      · rw [if_neg hq, if_neg hq]⟩)
  exact h

/-! d_gaps -/
def gapQ (p : List S112) (site : Int) (j : Int) : Bool := decide (((serversIn p j site).length : Int) = 0)
def gapStep (p : List S112) (site : Int) (o : List S109) (j : Nat) : List S109 := if gapQ p site (j : Int) = true then o ++ [⟨(rd_T112 p (j : Int)).f0.f0, (rd_T112 p (j : Int)).f0.f1⟩] else o
def gapsL (p : List S112) (site : Int) : List S109 := (List.range' 0 p.length).foldl (fun o j => gapStep p site o j) []
theorem gapStep_len (p : List S112) (site : Int) (o : List S109) (j : Nat) (h : o.length ≤ j) : (gapStep p site o j).length ≤ j + 1 := by
  unfold gapStep
  split
  · rw [List.length_append, List.length_singleton]; omega
  · omega

/-! impl_spansOf -/
theorem impl_spansOf.agree (p : List S112) (P Q : Int → Option Bool) (h : ∀ t : Int, 0 ≤ t → t < (p.length : Int) → P t = Q t) : ∀ (k : Nat) (o : List S109) (i : Int), impl_spansOf.l0 k P o p (p.length : Int) i = impl_spansOf.l0 k Q o p (p.length : Int) i
  | 0, _, _ => rfl
  | k + 1, o, i => by
    simp only [impl_spansOf.l0]
    by_cases h1 : i < (p.length : Int)
    · by_cases h0 : 0 ≤ i
      · rw [h i h0 h1]
        simp only [impl_spansOf.agree p P Q h k]
      · rw [if_pos h1, if_neg h0, if_pos h1, if_neg h0]
    · rw [if_neg h1, if_neg h1]
theorem impl_spansOf.ev (p : List S112) (q : Int → Bool) (hp : p.length ≤ 1048576) : Ev (fun k => impl_spansOf.l0 k (fun t => some (q t)) [] p (p.length : Int) 0) (joinS ((List.range' 0 p.length).foldl (fun (o : List S109) (j : Nat) => if q ((j : Nat) : Int) = true then o ++ [(⟨(rd_T112 p ((j : Nat) : Int)).f0.f0, (rd_T112 p ((j : Nat) : Int)).f0.f1⟩ : S109)] else o) [])) :=
  foldE_index (g := fun k o i => impl_spansOf.l0 k (fun t => some (q t)) o p (p.length : Int) i) (f := fun (j : Nat) (o : List S109) => if q ((j : Nat) : Int) = true then o ++ [(⟨(rd_T112 p ((j : Nat) : Int)).f0.f0, (rd_T112 p ((j : Nat) : Int)).f0.f1⟩ : S109)] else o) (fin := fun o => joinS o) (fun i o => o.length ≤ i) p.length [] (by simp)
    (fun s hs => Ev.step (fun k => by simp only [impl_spansOf.l0]; rw [if_neg (by omega)]) (Ev.bind (impl_JoinSpans.ev s (by omega)) (Ev.now _)))
    (fun i o hi ho => ⟨by
      split
      · rw [List.length_append, List.length_singleton]; omega
      · omega, fun r hr => by
      refine Ev.step (fun k => ?_) hr
      simp only [impl_spansOf.l0]
      rw [if_pos (by omega), if_pos (by omega), if_pos (by omega), Option.bind_some, wrap_nat (by omega)]
      by_cases h : q (i : Int) = true
      · rw [if_pos h, if_pos h, if_pos (by omega)]
      · rw [if_neg h, if_neg h]⟩)

/-! slices_Index_int_int -/
theorem slices_Index_int_int.ev_l (l : List Int) (a : Int) (hl : l.length ≤ 1048576) : ∀ (d i : Nat), i + d = l.length → ∃ r, Ev (fun k => slices_Index_int_int.l0 k l a l.length i) r ∧ decide (r ≥ 0) = (l.drop i).any (fun x => x == a) := by
  intro d
  induction d with
  | zero =>
    intro i hi
    exact ⟨-1, Ev.one fun k => by simp only [slices_Index_int_int.l0]; rw [if_neg (by omega)], by rw [List.drop_eq_nil_of_le (by omega)]; rfl⟩
  | succ d ih =>
    intro i hi
    rw [drop_cons l 0 (show i < l.length by omega), List.any_cons]
    by_cases h : a = l.getD i 0
    · refine ⟨(i : Int), Ev.one fun k => ?_, ?_⟩
      · simp only [slices_Index_int_int.l0]
        rw [if_pos (by omega), if_pos (by omega), if_pos (by omega), rd_nat, if_pos h]
      · rw [← h]; simp
    · obtain ⟨r, hr, hd⟩ := ih (i + 1) (by omega)
      refine ⟨r, Ev.step (fun k => ?_) hr, ?_⟩
      · simp only [slices_Index_int_int.l0]
        rw [if_pos (by omega), if_pos (by omega), if_pos (by omega), rd_nat, if_neg h, wrap_nat (by omega)]
      · have : (l.getD i 0 == a) = false := by rw [beq_eq_false_iff_ne]; exact fun e => h e.symm
        rw [this, Bool.false_or, hd]
theorem slices_Index_int_int.ev (l : List Int) (a : Int) (hl : l.length ≤ 1048576) : ∃ r, Ev (fun k => slices_Index_int_int.f k l a) r ∧ decide (r ≥ 0) = hasB l a := by
  have := slices_Index_int_int.ev_l l a hl l.length 0 (by omega)
  rw [List.drop_zero] at this
  exact this

/-! slices_Contains_int_int -/
theorem slices_Contains_int_int.ev (l : List Int) (a : Int) (hl : l.length ≤ 1048576) : Ev (fun k => slices_Contains_int_int.f k l a) (hasB l a) := by
  obtain ⟨r, hr, e⟩ := slices_Index_int_int.ev l a hl
  rw [← e]
  exact Ev.bind hr (Ev.now _)

/-! impl_ServiceOf -/
theorem impl_ServiceOf.all (a b c : Int) (p : List S112) (site server : Int) (hp : fitQi 1048576 p) : ∀ n : Nat, ∃ K, ∀ k, K ≤ k → ∀ t : Int, 0 ≤ t → t < (n : Int) → impl_ServiceOf.p k a b c p site server t = some (srvQ p site server t)
  | 0 => ⟨0, fun k _ t h0 h1 => by omega⟩
  | n + 1 => by
    obtain ⟨K, hK⟩ := impl_ServiceOf.all a b c p site server hp n
    obtain ⟨K2, hK2⟩ := impl_ServersIn.ev a b c p (n : Int) site hp
    obtain ⟨K3, hK3⟩ := slices_Contains_int_int.ev (serversIn p (n : Int) site) server (servers_len p n site hp)
    refine ⟨K + K2 + K3, fun k hk t h0 h1 => ?_⟩
    by_cases e : t < (n : Int)
    · exact hK k (by omega) t h0 e
    · have : t = (n : Int) := by omega
      subst this
      unfold impl_ServiceOf.p
      rw [show impl_ServersIn.f k a b c p (n : Int) site = some (serversIn p (n : Int) site) from hK2 k (by omega), Option.bind_some]
      exact hK3 k (by omega)
theorem impl_ServiceOf.ev (a b c : Int) (p : List S112) (site server : Int) (hp : fitQi 1048576 p) : Ev (fun k => impl_ServiceOf.f k a b c p site server) (joinS (serviceL p site server)) := by
  obtain ⟨K, hK⟩ := impl_ServiceOf.all a b c p site server hp p.length
  obtain ⟨K2, hK2⟩ := impl_spansOf.ev p (srvQ p site server) hp.1
  refine ⟨K + K2, fun k hk => ?_⟩
  show impl_spansOf.l0 k (impl_ServiceOf.p k a b c p site server) [] p (p.length : Int) 0 = _
  rw [impl_spansOf.agree p _ (fun t => some (srvQ p site server t)) (fun t h0 h1 => hK k (by omega) t h0 h1) k]
  exact hK2 k (by omega)

/-! d_wQ -/
theorem fit_of {l : List S177} (h : l.length ≤ maxLen ∧ ∀ e_ ∈ l, W177 e_) : fitQ maxLen l :=
  ⟨h.1, fun x hx => ⟨(h.2 x hx).2.1.1, (h.2 x hx).2.2.1, fun t ht => ⟨((h.2 x hx).2.2.2 t ht).2.1.1, ((h.2 x hx).2.2.2 t ht).2.2.1⟩⟩⟩

/-! d_fitMap -/
theorem fit_map {n : Nat} {l : List S177} (h : fitQ n l) : fitQi n (l.map cPiece) := by
  refine ⟨by simpa using h.1, fun x hx => ?_⟩
  obtain ⟨y, hy, rfl⟩ := List.mem_map.1 hx
  obtain ⟨h1, h2, h3⟩ := h.2 y hy
  refine ⟨by simpa [cPiece] using h1, by simpa [cPiece] using h2, fun t ht => ?_⟩
  obtain ⟨u, hu, rfl⟩ := List.mem_map.1 ht
  exact h3 u hu

/-! @@ FnExactServiceOf -/
theorem proved : Stated := by
  intro a b c m i1 i2 _ _ _ hm _ _
  refine Ev.rounds ?_
  obtain ⟨u, hu, hle, hq⟩ := laws_szProgram.sum a b c m 1048576 (by omega) (by omega) (fit_of hm)
  refine Ev.bind hu ?_
  by_cases h' : u < 0
  · exact Ev.all fun k => by rw [if_pos h']
  obtain ⟨hcost, hq⟩ := hq (by omega)
  have hq2 := fit_map hq
  have hpc := pie_cost m
  have hs := spec_ServiceOf.ev a b c (m.map cPiece) i1 i2 hq2
  have hi := impl_ServiceOf.ev a b c (m.map cPiece) i1 i2 hq2
  have hlen := joinS_len (serviceL (m.map cPiece) i1 i2)
  generalize joinS (serviceL (m.map cPiece) i1 i2) = R at hs hi hlen
  have hR : Ev (fun k => laws_eqSpanS.f k R R) true := laws_eqSpanS.ev R (by omega)
  refine Ev.congr (fun k => by rw [if_neg h']) (Ev.bind (laws_toProgram.ev a b c m hq) (Ev.bind hs (Ev.bind (laws_toProgram.ev a b c m hq) (Ev.bind hi (Ev.bind hR ?_)))))
  refine Ev.congr (fun k => by rw [if_pos rfl]) (Ev.bind (laws_toProgram.ev a b c m hq) (Ev.bind (laws_eqProgram.ev a b c _ hq2) ?_))
  refine Ev.congr (fun k => by rw [if_pos rfl, laws_markProgram.val _ _ _ _ _ (by omega) (by dsimp only; omega), Option.bind_some, if_neg (by dsimp only; omega)]) (Ev.bind hR ?_)
  refine Ev.step (fun k => by simp only [laws_FnExactServiceOf.j0]; rw [if_neg (by simp)]) ?_
  refine Ev.bind (laws_markSpanS.ev R 1 (by omega) (by omega) (by omega)) (Ev.bind (laws_heldSpanS.ev 1 _ (by omega) (by omega) (by omega)) ?_)
  refine Ev.congr (fun k => by rw [if_neg (by omega), if_pos rfl]) (Ev.bind (laws_toProgram.ev a b c m hq) (Ev.bind hi (Ev.bind hR ?_)))
  refine Ev.congr (fun k => by rw [if_pos rfl]) (Ev.bind (laws_heldSpanS.ev 1 _ (by omega) (by omega) (by omega)) ?_)
  exact Ev.all fun k => by rw [if_neg (by omega), if_pos rfl]

end Go.Proofs.Ytlogjmgghnifoaa.PureFnExactServiceOf
