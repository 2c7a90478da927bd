/- FnExactAdmitFlow, over numbers and lists alone: what the program's function and the reference's answer is one. Conditions: the numbers are of their kinds. -/
import Derived.Test.YtdodogkgmpaioaaKindsFnExactAdmitFlow
import Derived.Test.YtdodogkgmpaioaaVFnExactAdmitFlowBase
namespace Go.Proofs.Ytdodogkgmpaioaa.PureFnExactAdmitFlow
open Go.RowKit Go.Proofs.Ytdodogkgmpaioaa.PFnExactAdmitFlow Go.Proofs.YtdodogkgmpaioaaW.PrintWords Go.Proofs.YtdodogkgmpaioaaW.PrintLast Go.Proofs.YtdodogkgmpaioaaW.PrintMore Go.Proofs.Ytdodogkgmpaioaa.Base
set_option linter.unusedVariables false
set_option linter.unusedSimpArgs false

/-! laws_szLinkS -/
theorem laws_szLinkS.val (l : List S151) (a : Int) (h0 : 0 ≤ a) (h1 : a ≤ 1048576) (hl : l.length ≤ maxLen) :
    ∃ t, laws_szLinkS.f l a = some t ∧ t ≤ a ∧ (0 ≤ t → t = a - l.length ∧ l.length ≤ 1048576) := by
  unfold maxLen at hl
  unfold laws_szLinkS.f
  rw [wrap_id (by omega) (by omega)]
  by_cases h : a - (l.length : Int) < 0
  · rw [if_pos h]; exact ⟨_, rfl, by omega, by omega⟩
  · rw [if_neg h]; exact ⟨_, rfl, by omega, by omega⟩

/-! laws_szIntS -/
theorem laws_szIntS.val (l : List Int) (a : Int) (h0 : 0 ≤ a) (h1 : a ≤ 1048576) (hl : l.length ≤ maxLen) :
    ∃ t, laws_szIntS.f l a = some t ∧ t ≤ a ∧ (0 ≤ t → t = a - l.length ∧ l.length ≤ 1048576) := by
  unfold maxLen at hl
  unfold laws_szIntS.f
  rw [wrap_id (by omega) (by omega)]
  by_cases h : a - (l.length : Int) < 0
  · rw [if_pos h]; exact ⟨_, rfl, by omega, by omega⟩
  · rw [if_neg h]; exact ⟨_, rfl, by omega, by omega⟩

/-! laws_szTable -/
theorem laws_szTable.val (x : Int) (l m : List Int) (a : Int) (h0 : 0 ≤ a) (h1 : a ≤ 1048576) (hl : l.length ≤ maxLen) (hm : m.length ≤ maxLen) :
    ∃ t, laws_szTable.f x l m a = some t ∧ t ≤ a ∧ (0 ≤ t → l.length ≤ 1048576 ∧ m.length ≤ 1048576) := by
  obtain ⟨t, h, h2, h3⟩ := laws_szIntS.val l a h0 h1 hl
  unfold laws_szTable.f
  rw [h, Option.bind_some]
  by_cases ht : t < 0
  · rw [if_pos ht]; exact ⟨_, rfl, by omega, by omega⟩
  · obtain ⟨u, h4, h5, h6⟩ := laws_szIntS.val m t (by omega) (by omega) hm
    rw [if_neg ht, h4, Option.bind_some]
    by_cases hu : u < 0
    · rw [if_pos hu]; exact ⟨_, rfl, by omega, by omega⟩
    · rw [if_neg hu]; exact ⟨_, rfl, by omega, fun _ => ⟨(h3 (by omega)).2, (h6 (by omega)).2⟩⟩
theorem laws_szTable.sum (x : Int) (l m : List Int) (a : Int) (h0 : 0 ≤ a) (h1 : a ≤ 1048576) (hl : l.length ≤ maxLen) (hm : m.length ≤ maxLen) :
    ∃ t, laws_szTable.f x l m a = some t ∧ t ≤ a ∧ (0 ≤ t → t + ((l.length + m.length : Nat) : Int) ≤ a) := by
  obtain ⟨t, h, h2, h3⟩ := laws_szIntS.val l a h0 h1 hl
  unfold laws_szTable.f
  rw [h, Option.bind_some]
  by_cases ht : t < 0
  · rw [if_pos ht]; exact ⟨_, rfl, by omega, by omega⟩
  · obtain ⟨u, h4, h5, h6⟩ := laws_szIntS.val m t (by omega) (by omega) hm
    rw [if_neg ht, h4, Option.bind_some]
    by_cases hu : u < 0
    · rw [if_pos hu]; exact ⟨_, rfl, by omega, by omega⟩
    · rw [if_neg hu]; exact ⟨_, rfl, by omega, fun _ => by have := (h3 (by omega)).1; have := (h6 (by omega)).1; omega⟩

/-! d_fitT -/
def fitT (n : Nat) (x : S149) : Prop := x.f1.length ≤ n ∧ x.f2.length ≤ n
def fitTi (n : Nat) (x : S80) : Prop := x.f1.length ≤ n ∧ x.f2.length ≤ n

/-! d_cost -/
def tabsCost (l : List S149) : Nat := l.length + (l.map fun x => x.f1.length + x.f2.length).sum
def pieCost (x : S98) : Nat := x.f1.length + tabsCost x.f2
def progCost (l : List S98) : Nat := l.length + (l.map pieCost).sum

/-! laws_szTableS -/
theorem laws_szTableS.ev (l : List S149) (a : Int) (h0 : 0 ≤ a) (h1 : a ≤ 1048576) (hl : l.length ≤ maxLen) (hx : ∀ x ∈ l, fitT maxLen x) :
    ∃ t, Ev (fun k => laws_szTableS.f k l a) t ∧ t ≤ a ∧ (0 ≤ t → l.length ≤ 1048576 ∧ ∀ x ∈ l, fitT 1048576 x) := by
  have hl' := hl
  unfold maxLen at hl'
  by_cases h : a - (l.length : Int) < 0
  · exact ⟨-1, Ev.all fun k => by unfold laws_szTableS.f; rw [wrap_id (by omega) (by omega), if_pos h], by omega, by omega⟩
  · obtain ⟨t, ht, hle, hok⟩ := sz_loop (g := fun k a i => laws_szTableS.l0 k l a i) l z149 (fitT 1048576) (fun a => Ev.one fun k => by simp only [laws_szTableS.l0]; rw [if_neg (by omega)])
      (fun i a hi h0 h1 => by
        have hf := hx _ (getD_mem l z149 hi)
        obtain ⟨t, e, hle, hok⟩ := laws_szTable.val (l.getD i z149).f0 (l.getD i z149).f1 (l.getD i z149).f2 a h0 h1 hf.1 hf.2
        have hk : ∀ k, laws_szTableS.l0 (k + 1) l a i = if t < 0 then some (-1) else laws_szTableS.l0 k l t ((i + 1 : Nat) : Int) := fun k => by
          simp only [laws_szTableS.l0]
          rw [if_pos (by omega), if_pos (by omega), wrap_nat (by omega)]
          show (laws_szTable.f (l.getD i z149).f0 (l.getD i z149).f1 (l.getD i z149).f2 a).bind _ = _
          rw [e]; rfl
        exact ⟨t, hle, fun h => Ev.one fun k => by rw [hk, if_pos h], fun h => ⟨hok h, fun r hr => Ev.step (fun k => by rw [hk, if_neg (by omega)]) hr⟩⟩)
      (a - l.length) (by omega) (by omega)
    exact ⟨t, Ev.congr (fun k => by unfold laws_szTableS.f; rw [wrap_id (by omega) (by omega), if_neg h]) ht, by omega, fun h => ⟨by omega, hok h⟩⟩
theorem laws_szTableS.sum (l : List S149) (a : Int) (h0 : 0 ≤ a) (h1 : a ≤ 1048576) (hl : l.length ≤ maxLen) (hx : ∀ x ∈ l, fitT maxLen x) :
    ∃ t, Ev (fun k => laws_szTableS.f k l a) t ∧ t ≤ a ∧ (0 ≤ t → t + (tabsCost l : Int) ≤ a) := by
  have hl' := hl
  unfold maxLen at hl'
  by_cases h : a - (l.length : Int) < 0
  · exact ⟨-1, Ev.all fun k => by unfold laws_szTableS.f; rw [wrap_id (by omega) (by omega), if_pos h], by omega, by omega⟩
  · obtain ⟨t, ht, hle, hok⟩ := sz_sum (g := fun k a i => laws_szTableS.l0 k l a i) l z149 (fun x => x.f1.length + x.f2.length) (fun a => Ev.one fun k => by simp only [laws_szTableS.l0]; rw [if_neg (by omega)])
      (fun i a hi h0 h1 => by
        have hf := hx _ (getD_mem l z149 hi)
        obtain ⟨t, e, hle, hok⟩ := laws_szTable.sum (l.getD i z149).f0 (l.getD i z149).f1 (l.getD i z149).f2 a h0 h1 hf.1 hf.2
        have hk : ∀ k, laws_szTableS.l0 (k + 1) l a i = if t < 0 then some (-1) else laws_szTableS.l0 k l t ((i + 1 : Nat) : Int) := fun k => by
          simp only [laws_szTableS.l0]
          rw [if_pos (by omega), if_pos (by omega), wrap_nat (by omega)]
          show (laws_szTable.f (l.getD i z149).f0 (l.getD i z149).f1 (l.getD i z149).f2 a).bind _ = _
          rw [e]; rfl
        exact ⟨t, hle, fun h => Ev.one fun k => by rw [hk, if_pos h], fun h => ⟨hok h, fun r hr => Ev.step (fun k => by rw [hk, if_neg (by omega)]) hr⟩⟩)
      (a - l.length) (by omega) (by omega)
    exact ⟨t, Ev.congr (fun k => by unfold laws_szTableS.f; rw [wrap_id (by omega) (by omega), if_neg h]) ht, by omega, fun h => by have := hok h; unfold tabsCost; omega⟩

/-! d_fitP -/
def fitP (n : Nat) (x : S98) : Prop := x.f1.length ≤ n ∧ x.f2.length ≤ n ∧ ∀ t ∈ x.f2, fitT n t
def fitPi (n : Nat) (x : S103) : Prop := x.f1.length ≤ n ∧ x.f2.length ≤ n ∧ ∀ t ∈ x.f2, fitTi n t
def fitQ (n : Nat) (l : List S98) : Prop := l.length ≤ n ∧ ∀ x ∈ l, fitP n x
def fitQi (n : Nat) (l : List S103) : Prop := l.length ≤ n ∧ ∀ x ∈ l, fitPi n x

/-! laws_szPiece -/
theorem laws_szPiece.ev (x : S98) (a : Int) (h0 : 0 ≤ a) (h1 : a ≤ 1048576) (hx : fitP maxLen x) :
    ∃ t, Ev (fun k => laws_szPiece.f k x.f0.f0 x.f0.f1 x.f1 x.f2 a) t ∧ t ≤ a ∧ (0 ≤ t → fitP 1048576 x) := by
  obtain ⟨t, h, h2, h3⟩ := laws_szLinkS.val x.f1 a h0 h1 hx.1
  by_cases ht : t < 0
  · exact ⟨-1, Ev.all fun k => by unfold laws_szPiece.f; rw [h, Option.bind_some, if_pos ht], by omega, by omega⟩
  · obtain ⟨u, h4, h5, h6⟩ := laws_szTableS.ev x.f2 t (by omega) (by omega) hx.2.1 hx.2.2
    have hc : ∀ k, laws_szPiece.f k x.f0.f0 x.f0.f1 x.f1 x.f2 a = (laws_szTableS.f k x.f2 t).bind fun u => if u < 0 then some (-1) else some u := fun k => by
      unfold laws_szPiece.f
      rw [h, Option.bind_some, if_neg ht]
    by_cases hu : u < 0
    · exact ⟨-1, Ev.congr hc (Ev.bind h4 (Ev.all fun k => by rw [if_pos hu])), by omega, by omega⟩
    · exact ⟨u, Ev.congr hc (Ev.bind h4 (Ev.all fun k => by rw [if_neg hu])), by omega, fun _ => ⟨(h3 (by omega)).2, h6 (by omega)⟩⟩
theorem laws_szPiece.sum (x : S98) (a : Int) (h0 : 0 ≤ a) (h1 : a ≤ 1048576) (hx : fitP maxLen x) :
    ∃ t, Ev (fun k => laws_szPiece.f k x.f0.f0 x.f0.f1 x.f1 x.f2 a) t ∧ t ≤ a ∧ (0 ≤ t → t + (pieCost x : Int) ≤ a) := by
  obtain ⟨t, h, h2, h3⟩ := laws_szLinkS.val x.f1 a h0 h1 hx.1
  by_cases ht : t < 0
  · exact ⟨-1, Ev.all fun k => by unfold laws_szPiece.f; rw [h, Option.bind_some, if_pos ht], by omega, by omega⟩
  · obtain ⟨u, h4, h5, h6⟩ := laws_szTableS.sum x.f2 t (by omega) (by omega) hx.2.1 hx.2.2
    have hc : ∀ k, laws_szPiece.f k x.f0.f0 x.f0.f1 x.f1 x.f2 a = (laws_szTableS.f k x.f2 t).bind fun u => if u < 0 then some (-1) else some u := fun k => by
      unfold laws_szPiece.f
      rw [h, Option.bind_some, if_neg ht]
    by_cases hu : u < 0
    · exact ⟨-1, Ev.congr hc (Ev.bind h4 (Ev.all fun k => by rw [if_pos hu])), by omega, by omega⟩
    · exact ⟨u, Ev.congr hc (Ev.bind h4 (Ev.all fun k => by rw [if_neg hu])), by omega, fun _ => by have := (h3 (by omega)).1; have := h6 (by omega); unfold pieCost; omega⟩

/-! laws_szPieceS -/
theorem laws_szPieceS.ev (l : List S98) (a : Int) (h0 : 0 ≤ a) (h1 : a ≤ 1048576) (hx : fitQ maxLen l) :
    ∃ t, Ev (fun k => laws_szPieceS.f k l a) t ∧ t ≤ a ∧ (0 ≤ t → fitQ 1048576 l) := by
  obtain ⟨hl, hx⟩ := hx
  have hl' := hl
  unfold maxLen at hl'
  by_cases h : a - (l.length : Int) < 0
  · exact ⟨-1, Ev.all fun k => by unfold laws_szPieceS.f; rw [wrap_id (by omega) (by omega), if_pos h], by omega, by omega⟩
  · obtain ⟨t, ht, hle, hok⟩ := sz_loop (g := fun k a i => laws_szPieceS.l0 k l a i) l z98 (fitP 1048576) (fun a => Ev.one fun k => by simp only [laws_szPieceS.l0]; rw [if_neg (by omega)])
      (fun i a hi h0 h1 => by
        have hf := hx _ (getD_mem l z98 hi)
        obtain ⟨t, e, hle, hok⟩ := laws_szPiece.ev (l.getD i z98) a h0 h1 hf
        have hk : ∀ k, laws_szPieceS.l0 (k + 1) l a i = (laws_szPiece.f k (l.getD i z98).f0.f0 (l.getD i z98).f0.f1 (l.getD i z98).f1 (l.getD i z98).f2 a).bind fun t => if t < 0 then some (-1) else laws_szPieceS.l0 k l t ((i + 1 : Nat) : Int) := fun k => by
          simp only [laws_szPieceS.l0]
          rw [if_pos (by omega), if_pos (by omega), wrap_nat (by omega)]
          rfl
        exact ⟨t, hle, fun h => Ev.step hk (Ev.bind e (Ev.all fun k => by rw [if_pos h])), fun h => ⟨hok h, fun r hr => Ev.step hk (Ev.bind e (Ev.congr (fun k => by rw [if_neg (by omega)]) hr))⟩⟩)
      (a - l.length) (by omega) (by omega)
    exact ⟨t, Ev.congr (fun k => by unfold laws_szPieceS.f; rw [wrap_id (by omega) (by omega), if_neg h]) ht, by omega, fun h => ⟨by omega, hok h⟩⟩
theorem laws_szPieceS.sum (l : List S98) (a : Int) (h0 : 0 ≤ a) (h1 : a ≤ 1048576) (hx : fitQ maxLen l) :
    ∃ t, Ev (fun k => laws_szPieceS.f k l a) t ∧ t ≤ a ∧ (0 ≤ t → t + (progCost l : Int) ≤ a) := by
  obtain ⟨hl, hx⟩ := hx
  have hl' := hl
  unfold maxLen at hl'
  by_cases h : a - (l.length : Int) < 0
  · exact ⟨-1, Ev.all fun k => by unfold laws_szPieceS.f; rw [wrap_id (by omega) (by omega), if_pos h], by omega, by omega⟩
  · obtain ⟨t, ht, hle, hok⟩ := sz_sum (g := fun k a i => laws_szPieceS.l0 k l a i) l z98 pieCost (fun a => Ev.one fun k => by simp only [laws_szPieceS.l0]; rw [if_neg (by omega)])
      (fun i a hi h0 h1 => by
        have hf := hx _ (getD_mem l z98 hi)
        obtain ⟨t, e, hle, hok⟩ := laws_szPiece.sum (l.getD i z98) a h0 h1 hf
        have hk : ∀ k, laws_szPieceS.l0 (k + 1) l a i = (laws_szPiece.f k (l.getD i z98).f0.f0 (l.getD i z98).f0.f1 (l.getD i z98).f1 (l.getD i z98).f2 a).bind fun t => if t < 0 then some (-1) else laws_szPieceS.l0 k l t ((i + 1 : Nat) : Int) := fun k => by
          simp only [laws_szPieceS.l0]
          rw [if_pos (by omega), if_pos (by omega), wrap_nat (by omega)]
          rfl
        exact ⟨t, hle, fun h => Ev.step hk (Ev.bind e (Ev.all fun k => by rw [if_pos h])), fun h => ⟨hok h, fun r hr => Ev.step hk (Ev.bind e (Ev.congr (fun k => by rw [if_neg (by omega)]) hr))⟩⟩)
      (a - l.length) (by omega) (by omega)
    exact ⟨t, Ev.congr (fun k => by unfold laws_szPieceS.f; rw [wrap_id (by omega) (by omega), if_neg h]) ht, by omega, fun h => by have := hok h; unfold progCost; omega⟩

/-! laws_szProgram -/
theorem laws_szProgram.ev (x y z : Int) (l : List S98) (a : Int) (h0 : 0 ≤ a) (h1 : a ≤ 1048576) (hx : fitQ maxLen l) :
    ∃ t, Ev (fun k => laws_szProgram.f k x y z l a) t ∧ t ≤ a ∧ (0 ≤ t → fitQ 1048576 l) := by
  obtain ⟨t, h, h2, h3⟩ := laws_szPieceS.ev l a h0 h1 hx
  by_cases ht : t < 0
  · exact ⟨-1, Ev.bind h (Ev.all fun k => by rw [if_pos ht]), by omega, by omega⟩
  · exact ⟨t, Ev.bind h (Ev.all fun k => by rw [if_neg ht]), h2, h3⟩
theorem laws_szProgram.sum (x y z : Int) (l : List S98) (a : Int) (h0 : 0 ≤ a) (h1 : a ≤ 1048576) (hx : fitQ maxLen l) :
    ∃ t, Ev (fun k => laws_szProgram.f k x y z l a) t ∧ t ≤ a ∧ (0 ≤ t → t + (progCost l : Int) ≤ a ∧ fitQ 1048576 l) := by
  obtain ⟨t, h, h2, h3⟩ := laws_szPieceS.sum l a h0 h1 hx
  obtain ⟨t', h', _, h3'⟩ := laws_szPieceS.ev l a h0 h1 hx
  have := Ev.uniq h h'
  subst this
  by_cases ht : t < 0
  · exact ⟨-1, Ev.bind h (Ev.all fun k => by rw [if_pos ht]), by omega, by omega⟩
  · exact ⟨t, Ev.bind h (Ev.all fun k => by rw [if_neg ht]), h2, fun h => ⟨h3 h, h3' h⟩⟩

/-! laws_szFlowS -/
theorem laws_szFlowS.val (l : List S39) (a : Int) (h0 : 0 ≤ a) (h1 : a ≤ 1048576) (hl : l.length ≤ maxLen) :
    ∃ t, laws_szFlowS.f l a = some t ∧ t ≤ a ∧ (0 ≤ t → t = a - l.length ∧ l.length ≤ 1048576) := by
  unfold maxLen at hl
  unfold laws_szFlowS.f
  rw [wrap_id (by omega) (by omega)]
  by_cases h : a - (l.length : Int) < 0
  · rw [if_pos h]; exact ⟨_, rfl, by omega, by omega⟩
  · rw [if_neg h]; exact ⟨_, rfl, by omega, by omega⟩

/-! laws_toLinkS -/
def cLink (x : S151) : S123 := ⟨x.f0, x.f1⟩
theorem laws_toLinkS.ev_l (l : List S151) (hl : l.length ≤ 1048576) : ∀ (d i : Nat) (o : List S123), i + d = l.length → o.length = l.length → o.take i = (l.map cLink).take i → Ev (fun k => laws_toLinkS.l0 k l o i) (l.map cLink) := by
  intro d
  induction d with
  | zero =>
    intro i o hi ho ht
    refine Ev.one fun k => ?_
    simp only [laws_toLinkS.l0]
    rw [if_neg (by omega), take_full (by simpa using ho) (by simp; omega) ht]
  | succ d ih =>
    intro i o hi ho ht
    refine Ev.step (fun k => ?_) (ih (i + 1) (o.set i (cLink (l.getD i z151))) (by omega) (by simp [ho]) (set_take o _ _ (by simpa using ho) (get_map cLink l z151 (by omega)) ht))
    simp only [laws_toLinkS.l0, laws_toLink.f, Option.bind_some]
    rw [if_pos (by omega), if_pos (by omega), if_pos (by omega), wrap_nat (by omega)]
    rfl
theorem laws_toLinkS.ev (l : List S151) (hl : l.length ≤ 1048576) : Ev (fun k => laws_toLinkS.f k l) (l.map cLink) :=
  Ev.congr (fun k => by unfold laws_toLinkS.f; rw [if_pos (by omega), if_pos (by omega)] <;> rfl) (laws_toLinkS.ev_l l hl l.length 0 _ (by omega) (by simp) (by simp))

/-! laws_toIntS -/
theorem laws_toIntS.ev_l (l : List Int) (hl : l.length ≤ 1048576) : ∀ (d i : Nat) (o : List Int), i + d = l.length → o.length = l.length → o.take i = l.take i → Ev (fun k => laws_toIntS.l0 k l o i) l := by
  intro d
  induction d with
  | zero =>
    intro i o hi ho ht
    refine Ev.one fun k => ?_
    simp only [laws_toIntS.l0]
    rw [if_neg (by omega), take_full ho (by omega) ht]
  | succ d ih =>
    intro i o hi ho ht
    refine Ev.step (fun k => ?_) (ih (i + 1) (o.set i (l.getD i 0)) (by omega) (by simp [ho]) (set_take o l _ ho (get_of l 0 (by omega)) ht))
    simp only [laws_toIntS.l0]
    rw [if_pos (by omega), if_pos (by omega), if_pos (by omega), wrap_nat (by omega)]
    rfl
theorem laws_toIntS.ev (l : List Int) (hl : l.length ≤ 1048576) : Ev (fun k => laws_toIntS.f k l) l :=
  Ev.congr (fun k => by unfold laws_toIntS.f; rw [if_pos (by omega), if_pos (by omega)] <;> rfl) (laws_toIntS.ev_l l hl l.length 0 _ (by omega) (by simp) (by simp))

/-! laws_toTable -/
theorem laws_toTable.ev (x : Int) (l m : List Int) (hl : l.length ≤ 1048576) (hm : m.length ≤ 1048576) : Ev (fun k => laws_toTable.f k x l m) (x, l, m) :=
  Ev.bind (laws_toIntS.ev l hl) (Ev.bind (laws_toIntS.ev m hm) (Ev.now _))

/-! d_cTable -/
def cTable (x : S149) : S80 := ⟨x.f0, x.f1, x.f2⟩

/-! laws_toTableS -/
theorem laws_toTableS.ev (l : List S149) (hl : l.length ≤ 1048576) (hx : ∀ x ∈ l, fitT 1048576 x) : Ev (fun k => laws_toTableS.f k l) (l.map cTable) := by
  refine Ev.congr (fun k => by unfold laws_toTableS.f; rw [if_pos (by omega), if_pos (by omega)] <;> rfl) (to_loop (g := fun k o i => laws_toTableS.l0 k l o i) l z149 cTable (fun o => Ev.one fun k => by simp only [laws_toTableS.l0]; rw [if_neg (by omega)]) (fun i o hi ho r hr => ?_) _ (by simp))
  have hf := hx _ (getD_mem l z149 hi)
  refine Ev.step (fun k => by simp only [laws_toTableS.l0]; rw [if_pos (by omega), if_pos (by omega), wrap_nat (by omega)]; rfl) (Ev.bind (laws_toTable.ev (l.getD i z149).f0 (l.getD i z149).f1 (l.getD i z149).f2 hf.1 hf.2) ?_)
  exact Ev.congr (fun k => by rw [if_pos (by omega)]; rfl) hr

/-! d_cPiece -/
def cPiece (x : S98) : S103 := ⟨⟨x.f0.f0, x.f0.f1⟩, x.f1.map cLink, x.f2.map cTable⟩

/-! laws_toPiece -/
theorem laws_toPiece.ev (x : S98) (hx : fitP 1048576 x) : Ev (fun k => laws_toPiece.f k x.f0.f0 x.f0.f1 x.f1 x.f2) (x.f0.f0, x.f0.f1, x.f1.map cLink, x.f2.map cTable) := by
  refine Ev.congr (fun k => by unfold laws_toPiece.f; rw [laws_toSpan.f, Option.bind_some]) ?_
  exact Ev.bind (laws_toLinkS.ev x.f1 hx.1) (Ev.bind (laws_toTableS.ev x.f2 hx.2.1 hx.2.2) (Ev.now _))

/-! laws_toPieceS -/
theorem laws_toPieceS.ev (l : List S98) (hx : fitQ 1048576 l) : Ev (fun k => laws_toPieceS.f k l) (l.map cPiece) := by
  obtain ⟨hl, hx⟩ := hx
  refine Ev.congr (fun k => by unfold laws_toPieceS.f; rw [if_pos (by omega), if_pos (by omega)] <;> rfl) (to_loop (g := fun k o i => laws_toPieceS.l0 k l o i) l z98 cPiece (fun o => Ev.one fun k => by simp only [laws_toPieceS.l0]; rw [if_neg (by omega)]) (fun i o hi ho r hr => ?_) _ (by simp))
  have hf := hx _ (getD_mem l z98 hi)
  refine Ev.step (fun k => by simp only [laws_toPieceS.l0]; rw [if_pos (by omega), if_pos (by omega), wrap_nat (by omega)]; rfl) (Ev.bind (laws_toPiece.ev (l.getD i z98) hf) ?_)
  exact Ev.congr (fun k => by rw [if_pos (by omega)]; rfl) hr

/-! laws_toProgram -/
theorem laws_toProgram.ev (x y z : Int) (l : List S98) (hx : fitQ 1048576 l) : Ev (fun k => laws_toProgram.f k x y z l) (x, y, z, l.map cPiece) := Ev.bind (laws_toPieceS.ev l hx) (Ev.now _)

/-! laws_toFlowS -/
def cFlow (x : S39) : S42 := ⟨x.f0, x.f1, x.f2, x.f3⟩
theorem laws_toFlowS.ev_l (l : List S39) (hl : l.length ≤ 1048576) : ∀ (d i : Nat) (o : List S42), i + d = l.length → o.length = l.length → o.take i = (l.map cFlow).take i → Ev (fun k => laws_toFlowS.l0 k l o i) (l.map cFlow) := by
  intro d
  induction d with
  | zero =>
    intro i o hi ho ht
    refine Ev.one fun k => ?_
    simp only [laws_toFlowS.l0]
    rw [if_neg (by omega), take_full (by simpa using ho) (by simp; omega) ht]
  | succ d ih =>
    intro i o hi ho ht
    refine Ev.step (fun k => ?_) (ih (i + 1) (o.set i (cFlow (l.getD i z39))) (by omega) (by simp [ho]) (set_take o _ _ (by simpa using ho) (get_map cFlow l z39 (by omega)) ht))
    simp only [laws_toFlowS.l0, laws_toFlow.f, Option.bind_some]
    rw [if_pos (by omega), if_pos (by omega), if_pos (by omega), wrap_nat (by omega)]
    rfl
theorem laws_toFlowS.ev (l : List S39) (hl : l.length ≤ 1048576) : Ev (fun k => laws_toFlowS.f k l) (l.map cFlow) :=
  Ev.congr (fun k => by unfold laws_toFlowS.f; rw [if_pos (by omega), if_pos (by omega)] <;> rfl) (laws_toFlowS.ev_l l hl l.length 0 _ (by omega) (by simp) (by simp))

/-! laws_eqSpan -/
theorem laws_eqSpan.val (a b : Int) : laws_eqSpan.f a b a b = some true := by
  unfold laws_eqSpan.f
  simp

/-! laws_eqLink -/
theorem laws_eqLink.val (x : S123) : laws_eqLink.f x.f0 x.f1 x.f0 x.f1 = some true := by
  unfold laws_eqLink.f
  simp

/-! laws_eqLinkS -/
theorem laws_eqLinkS.ev_l (l : List S123) (hl : l.length ≤ 1048576) : ∀ (d i : Nat), i + d = l.length → Ev (fun k => laws_eqLinkS.l0 k l l i) true := by
  intro d
  induction d with
  | zero => intro i hi; refine Ev.one fun k => ?_; simp only [laws_eqLinkS.l0]; rw [if_neg (by omega)]
  | succ d ih =>
    intro i hi
    refine Ev.step (fun k => ?_) (ih (i + 1) (by omega))
    simp only [laws_eqLinkS.l0, laws_eqLink.val, Option.bind_some]
    rw [if_pos (by omega), if_pos (by omega), if_pos (by omega), if_pos trivial, wrap_nat (by omega)]
theorem laws_eqLinkS.ev (l : List S123) (hl : l.length ≤ 1048576) : Ev (fun k => laws_eqLinkS.f k l l) true :=
  Ev.congr (fun k => by unfold laws_eqLinkS.f; rw [if_pos rfl] <;> rfl) (laws_eqLinkS.ev_l l hl l.length 0 (by omega))

/-! laws_eqIntS -/
theorem laws_eqIntS.ev_l (l : List Int) (hl : l.length ≤ 1048576) : ∀ (d i : Nat), i + d = l.length → Ev (fun k => laws_eqIntS.l0 k l l i) true := by
  intro d
  induction d with
  | zero => intro i hi; refine Ev.one fun k => ?_; simp only [laws_eqIntS.l0]; rw [if_neg (by omega)]
  | succ d ih =>
    intro i hi
    refine Ev.step (fun k => ?_) (ih (i + 1) (by omega))
    simp only [laws_eqIntS.l0]
    rw [if_pos (by omega), if_pos (by omega), if_pos (by omega), if_pos trivial, wrap_nat (by omega)]
theorem laws_eqIntS.ev (l : List Int) (hl : l.length ≤ 1048576) : Ev (fun k => laws_eqIntS.f k l l) true :=
  Ev.congr (fun k => by unfold laws_eqIntS.f; rw [if_pos rfl] <;> rfl) (laws_eqIntS.ev_l l hl l.length 0 (by omega))
theorem laws_eqIntS.ev' (l : List Int) (hl : l.length ≤ 4000000) : Ev (fun k => laws_eqIntS.f k l l) true := by
  refine Ev.congr (fun k => by unfold laws_eqIntS.f; rw [if_pos rfl]) (all_loop (g := fun k i => laws_eqIntS.l0 k l l i) l.length (Ev.one fun k => by simp only [laws_eqIntS.l0]; rw [if_neg (by omega)]) (fun i hi r hr => Ev.step (fun k => ?_) hr))
  simp only [laws_eqIntS.l0]
  rw [if_pos (by omega), if_pos (by omega), if_pos (by omega), if_pos trivial, wrap_nat (by omega)]

/-! laws_eqTable -/
theorem laws_eqTable.ev (x : Int) (l m : List Int) (hl : l.length ≤ 1048576) (hm : m.length ≤ 1048576) : Ev (fun k => laws_eqTable.f k x l m x l m) true := by
  refine Ev.congr (fun k => by unfold laws_eqTable.f; rw [if_pos rfl]) (Ev.bind (laws_eqIntS.ev l hl) ?_)
  exact Ev.congr (fun k => by rw [if_pos rfl]) (Ev.bindT (laws_eqIntS.ev m hm))

/-! laws_eqTableS -/
theorem laws_eqTableS.ev (l : List S80) (hl : l.length ≤ 1048576) (hx : ∀ x ∈ l, fitTi 1048576 x) : Ev (fun k => laws_eqTableS.f k l l) true := by
  refine Ev.congr (fun k => by unfold laws_eqTableS.f; rw [if_pos rfl]) (all_loop (g := fun k i => laws_eqTableS.l0 k l l i) l.length (Ev.one fun k => by simp only [laws_eqTableS.l0]; rw [if_neg (by omega)]) (fun i hi r hr => ?_))
  have hf := hx _ (getD_mem l z80 hi)
  refine Ev.step (fun k => by simp only [laws_eqTableS.l0]; rw [if_pos (by omega), if_pos (by omega), if_pos (by omega), wrap_nat (by omega)]; rfl) (Ev.bind (laws_eqTable.ev (l.getD i z80).f0 (l.getD i z80).f1 (l.getD i z80).f2 hf.1 hf.2) ?_)
  exact Ev.congr (fun k => by rw [if_pos rfl]) hr

/-! laws_eqPiece -/
theorem laws_eqPiece.ev (x : S103) (hx : fitPi 1048576 x) : Ev (fun k => laws_eqPiece.f k x.f0.f0 x.f0.f1 x.f1 x.f2 x.f0.f0 x.f0.f1 x.f1 x.f2) true := by
  refine Ev.congr (fun k => by unfold laws_eqPiece.f; rw [laws_eqSpan.val, Option.bind_some, if_pos rfl]) (Ev.bind (laws_eqLinkS.ev x.f1 hx.1) ?_)
  exact Ev.congr (fun k => by rw [if_pos rfl]) (Ev.bindT (laws_eqTableS.ev x.f2 hx.2.1 hx.2.2))

/-! laws_eqPieceS -/
theorem laws_eqPieceS.ev (l : List S103) (hx : fitQi 1048576 l) : Ev (fun k => laws_eqPieceS.f k l l) true := by
  obtain ⟨hl, hx⟩ := hx
  refine Ev.congr (fun k => by unfold laws_eqPieceS.f; rw [if_pos rfl]) (all_loop (g := fun k i => laws_eqPieceS.l0 k l l i) l.length (Ev.one fun k => by simp only [laws_eqPieceS.l0]; rw [if_neg (by omega)]) (fun i hi r hr => ?_))
  have hf := hx _ (getD_mem l z103 hi)
  refine Ev.step (fun k => by simp only [laws_eqPieceS.l0]; rw [if_pos (by omega), if_pos (by omega), if_pos (by omega), wrap_nat (by omega)]; rfl) (Ev.bind (laws_eqPiece.ev (l.getD i z103) hf) ?_)
  exact Ev.congr (fun k => by rw [if_pos rfl]) hr

/-! laws_eqProgram -/
theorem laws_eqProgram.ev (x y z : Int) (l : List S103) (hx : fitQi 1048576 l) : Ev (fun k => laws_eqProgram.f k x y z l x y z l) true := by
  refine Ev.congr (fun k => by unfold laws_eqProgram.f; rw [if_pos rfl, if_pos rfl, if_pos rfl]) (Ev.bindT (laws_eqPieceS.ev l hx))

/-! laws_eqFlow -/
theorem laws_eqFlow.val (x : S42) : laws_eqFlow.f x.f0 x.f1 x.f2 x.f3 x.f0 x.f1 x.f2 x.f3 = some true := by
  unfold laws_eqFlow.f
  simp

/-! laws_eqFlowS -/
theorem laws_eqFlowS.ev_l (l : List S42) (hl : l.length ≤ 1048576) : ∀ (d i : Nat), i + d = l.length → Ev (fun k => laws_eqFlowS.l0 k l l i) true := by
  intro d
  induction d with
  | zero => intro i hi; refine Ev.one fun k => ?_; simp only [laws_eqFlowS.l0]; rw [if_neg (by omega)]
  | succ d ih =>
    intro i hi
    refine Ev.step (fun k => ?_) (ih (i + 1) (by omega))
    simp only [laws_eqFlowS.l0, laws_eqFlow.val, Option.bind_some]
    rw [if_pos (by omega), if_pos (by omega), if_pos (by omega), if_pos trivial, wrap_nat (by omega)]
theorem laws_eqFlowS.ev (l : List S42) (hl : l.length ≤ 1048576) : Ev (fun k => laws_eqFlowS.f k l l) true :=
  Ev.congr (fun k => by unfold laws_eqFlowS.f; rw [if_pos rfl] <;> rfl) (laws_eqFlowS.ev_l l hl l.length 0 (by omega))

/-! spec_l1In -/
theorem spec_l1In.val (a lo hi : Int) : spec_l1In.f a lo hi = some (inR a lo hi) := by
  unfold spec_l1In.f inR
  by_cases h : a ≥ lo
  · rw [if_pos h]; simp [h]
  · rw [if_neg h]; simp; omega

/-! d_flowB -/
def flowB (a b c d n : Int) : Bool := inR a 0 9999 && (decide (0 ≤ b) && decide (b < n)) && (decide (0 ≤ c) && decide (c < n)) && decide (b ≠ c) && inR d 0 1

/-! spec_IsFlow -/
theorem spec_IsFlow.val (a b c d n : Int) : spec_IsFlow.f a b c d n = some (flowB a b c d n) := by
  unfold spec_IsFlow.f flowB
  simp only [spec_l1In.val, Option.bind_some]
  by_cases h1 : inR a 0 9999 = true <;> by_cases h2 : 0 ≤ b <;> by_cases h3 : b < n <;> by_cases h4 : 0 ≤ c <;> by_cases h5 : c < n <;> by_cases h6 : b = c <;> simp [h1, h2, h3, h4, h5, h6]

/-! spec_l15Copy -/
theorem spec_l15Copy.val (x : Int) (l m : List Int) (hl : l.length ≤ 1048576) (hm : m.length ≤ 1048576) : spec_l15Copy.f x l m = some (x, l, m) := by
  unfold spec_l15Copy.f
  rw [Option.bind_some, if_pos (by simp only [List.length_nil]; omega), Option.bind_some, if_pos (by simp only [List.length_nil]; omega), List.nil_append, List.nil_append]

/-! d_tableIn -/
def tableIn (p : List S103) (k d : Int) : Int × List Int × List Int × Bool :=
  if idxB k p.length = true then (if idxB d (rd_T103 p k).f2.length = true then ((rd_T80 (rd_T103 p k).f2 d).f0, (rd_T80 (rd_T103 p k).f2 d).f1, (rd_T80 (rd_T103 p k).f2 d).f2, true) else (0, [], [], false)) else (0, [], [], false)
theorem fit_rd {n : Nat} {p : List S103} (hp : fitQi n p) {k : Int} (hk : idxB k p.length = true) : fitPi n (rd_T103 p k) := by
  obtain ⟨h0, h1⟩ := (idxB_iff _ _).1 hk
  exact hp.2 _ (getD_mem p z103 (by omega))
theorem fit_rdT {n : Nat} {p : List S103} (hp : fitQi n p) {k d : Int} (hk : idxB k p.length = true) (hd : idxB d (rd_T103 p k).f2.length = true) : fitTi n (rd_T80 (rd_T103 p k).f2 d) := by
  obtain ⟨h0, h1⟩ := (idxB_iff _ _).1 hd
  exact (fit_rd hp hk).2.2 _ (getD_mem _ z80 (by omega))
theorem tableIn_len {p : List S103} (hp : fitQi 1048576 p) (k d : Int) : (tableIn p k d).2.1.length ≤ 1048576 ∧ (tableIn p k d).2.2.1.length ≤ 1048576 := by
  unfold tableIn
  split
  · split
    · rename_i h1 h2
      exact fit_rdT hp h1 h2
    · exact ⟨by simp, by simp⟩
  · exact ⟨by simp, by simp⟩

/-! spec_TableIn -/
theorem spec_TableIn.val (a b c : Int) (p : List S103) (k d : Int) (hp : fitQi 1048576 p) : spec_TableIn.f a b c p k d = some (tableIn p k d) := by
  unfold spec_TableIn.f tableIn
  rw [spec_l1In.val, Option.bind_some, inR_idx _ _ hp.1]
  by_cases h : idxB k p.length = true
  · have hf := fit_rd hp h
    obtain ⟨h0, h1⟩ := (idxB_iff _ _).1 h
    rw [if_pos h, if_pos h, if_pos h0, if_pos h1, spec_l1In.val, Option.bind_some, inR_idx _ _ hf.2.1]
    by_cases h2 : idxB d (rd_T103 p k).f2.length = true
    · have hg := fit_rdT hp h h2
      obtain ⟨h3, h4⟩ := (idxB_iff _ _).1 h2
      rw [if_pos h2, if_pos h2, if_pos h3, if_pos h4, spec_l15Copy.val _ _ _ hg.1 hg.2]; rfl
    · rw [if_neg h2, if_neg h2]
  · rw [if_neg h, if_neg h]

/-! d_path -/
def pathO (l : List Int) (b : Int) : Nat → Int → Option (List Int)
  | 0, _ => none
  | d + 1, x => if idxB x l.length = true then (if x = b then some [x] else (pathO l b d (rd l x)).map (x :: ·)) else none
def pathR (o : Option (List Int)) (out : List Int) : List Int := match o with
  | none => []
  | some t => out ++ t
theorem pathR_map (o : Option (List Int)) (x : Int) (out : List Int) : pathR (o.map (x :: ·)) out = pathR o (out ++ [x]) := by
  cases o with
  | none => rfl
  | some t => simp [pathR]
def path (l : List Int) (a b : Int) : List Int := pathR (pathO l b (l.length + 1) a) []
theorem pathO_len (l : List Int) (b : Int) : ∀ (d : Nat) (x : Int) (t : List Int), pathO l b d x = some t → t.length ≤ d
  | 0, x, t, h => by simp [pathO] at h
  | d + 1, x, t, h => by
    rw [pathO] at h
    split at h
    · split at h
      · obtain rfl := Option.some.inj h; simp
      · obtain ⟨u, hu, rfl⟩ := Option.map_eq_some_iff.1 h
        have := pathO_len l b d _ u hu
        simpa using this
    · cases h
theorem path_len (l : List Int) (a b : Int) : (path l a b).length ≤ l.length + 1 := by
  unfold path
  cases h : pathO l b (l.length + 1) a with
  | none => simp [pathR]
  | some t => simpa [pathR] using pathO_len l b _ _ _ h
theorem pathO_det (l : List Int) (b : Int) : ∀ (d d' : Nat) (x : Int) (t t' : List Int), pathO l b d x = some t → pathO l b d' x = some t' → t = t'
  | 0, _, x, t, t', h, _ => by simp [pathO] at h
  | d + 1, 0, x, t, t', _, h => by simp [pathO] at h
  | d + 1, d' + 1, x, t, t', h, h' => by
    rw [pathO] at h h'
    split at h
    · rename_i hx
      rw [if_pos hx] at h'
      split at h
      · rename_i hb
        rw [if_pos hb] at h'
        rw [← Option.some.inj h, ← Option.some.inj h']
      · rename_i hb
        rw [if_neg hb] at h'
        obtain ⟨u, hu, rfl⟩ := Option.map_eq_some_iff.1 h
        obtain ⟨u', hu', rfl⟩ := Option.map_eq_some_iff.1 h'
        rw [pathO_det l b d d' _ u u' hu hu']
    · cases h
theorem pathO_mem (l : List Int) (b : Int) : ∀ (d : Nat) (x : Int) (t : List Int), pathO l b d x = some t → ∀ y ∈ t, ∃ d' t', pathO l b d' y = some t' ∧ t'.length ≤ t.length
  | 0, x, t, h => by simp [pathO] at h
  | d + 1, x, t, h => by
    have h0 := h
    rw [pathO] at h
    intro y hy
    split at h
    · split at h
      · obtain rfl := Option.some.inj h
        obtain rfl := List.mem_singleton.1 hy
        exact ⟨_, _, h0, Nat.le_refl _⟩
      · obtain ⟨u, hu, rfl⟩ := Option.map_eq_some_iff.1 h
        cases hy with
        | head => exact ⟨_, _, h0, Nat.le_refl _⟩
        | tail _ hy =>
          obtain ⟨d', t', h1, h2⟩ := pathO_mem l b d _ u hu y hy
          exact ⟨d', t', h1, by rw [List.length_cons]; omega⟩
    · cases h
theorem pathO_nodup (l : List Int) (b : Int) : ∀ (d : Nat) (x : Int) (t : List Int), pathO l b d x = some t → t.Nodup
  | 0, x, t, h => by simp [pathO] at h
  | d + 1, x, t, h => by
    have h0 := h
    rw [pathO] at h
    split at h
    · split at h
      · obtain rfl := Option.some.inj h; simp
      · obtain ⟨u, hu, rfl⟩ := Option.map_eq_some_iff.1 h
        rw [List.nodup_cons]
        refine ⟨fun hx => ?_, pathO_nodup l b d _ u hu⟩
        obtain ⟨d', t', h1, h2⟩ := pathO_mem l b d _ u hu x hx
        have := pathO_det l b _ _ _ _ _ h0 h1
        rw [← this, List.length_cons] at h2
        omega
    · cases h
theorem path_nodup (l : List Int) (a b : Int) : (path l a b).Nodup := by
  unfold path
  cases h : pathO l b (l.length + 1) a with
  | none => simp [pathR]
  | some t => simpa [pathR] using pathO_nodup l b _ _ _ h

/-! spec_PathTo -/
theorem spec_PathTo.ev_l (l : List Int) (b : Int) (hl : l.length ≤ 1048576) : ∀ (d : Nat) (out : List Int) (x : Int), out.length + d = l.length + 1 → Ev (fun k => spec_PathTo.l0 k l b out x) (pathR (pathO l b d x) out) := by
  intro d
  induction d with
  | zero =>
    intro out x h
    refine Ev.step (fun k => by simp only [spec_PathTo.l0]; rw [if_neg (by omega)]) ?_
    exact Ev.one fun k => by simp only [spec_PathTo.j1]; rw [if_neg (by simp)]; rfl
  | succ d ih =>
    intro out x h
    refine Ev.step (fun k => by simp only [spec_PathTo.l0]; rw [if_pos (by omega), spec_l1In.val, Option.bind_some, inR_idx _ _ hl]) ?_
    rw [pathO]
    by_cases hx : idxB x l.length = true
    · obtain ⟨h0, h1⟩ := (idxB_iff _ _).1 hx
      rw [if_pos hx]
      by_cases hb : x = b
      · rw [if_pos hb]
        exact Ev.one fun k => by simp only [spec_PathTo.j1]; rw [if_pos hx, if_pos (by omega), Option.bind_some, if_pos hb]; rfl
      · rw [if_neg hb, pathR_map]
        exact Ev.step (fun k => by simp only [spec_PathTo.j1]; rw [if_pos hx, if_pos (by omega), Option.bind_some, if_neg hb, if_pos h0, if_pos h1]) (ih (out ++ [x]) (rd l x) (by rw [List.length_append, List.length_singleton]; omega))
    · rw [if_neg hx]
      exact Ev.one fun k => by simp only [spec_PathTo.j1]; rw [if_neg hx]; rfl
theorem spec_PathTo.ev (l : List Int) (a b : Int) (hl : l.length ≤ 1048576) : Ev (fun k => spec_PathTo.f k l a b) (path l a b) :=
  spec_PathTo.ev_l l b hl (l.length + 1) [] a (by simp)

/-! spec_RouteOf -/
theorem spec_RouteOf.ev (x : Int) (l m : List Int) (a : Int) (hm : m.length ≤ 1048576) : Ev (fun k => spec_RouteOf.f k x l m a) (path m a x) := Ev.bind (spec_PathTo.ev m a x hm) (Ev.now _)

/-! d_route -/
def routeP (p : List S103) (k src dst : Int) : List Int := if (tableIn p k dst).2.2.2 = true then path (tableIn p k dst).2.2.1 src (tableIn p k dst).1 else []
theorem routeP_len {p : List S103} (hp : fitQi 1048576 p) (k s d : Int) : (routeP p k s d).length ≤ 1048577 := by
  unfold routeP
  have := (tableIn_len hp k d).2
  split
  · have h2 := path_len (tableIn p k d).2.2.1 s (tableIn p k d).1
    omega
  · simp
theorem routeP_nodup (p : List S103) (k s d : Int) : (routeP p k s d).Nodup := by
  unfold routeP
  split
  · exact path_nodup _ _ _
  · simp

/-! spec_RouteIn -/
theorem spec_RouteIn.ev (a b c : Int) (p : List S103) (k : Int) (x0 x1 x2 x3 : Int) (hp : fitQi 1048576 p) : Ev (fun n => spec_RouteIn.f n a b c p k x0 x1 x2 x3) (routeP p k x1 x2) := by
  refine Ev.congr (fun n => by unfold spec_RouteIn.f; rw [spec_TableIn.val _ _ _ _ _ _ hp, Option.bind_some]) ?_
  have hl := (tableIn_len hp k x2).2
  unfold routeP
  by_cases h : (tableIn p k x2).2.2.2 = true
  · rw [if_pos h]
    exact Ev.congr (fun n => by rw [if_pos h]) (Ev.bind (spec_RouteOf.ev _ _ _ _ hl) (Ev.now _))
  · rw [if_neg h]
    exact Ev.all fun n => by rw [if_neg h]

/-! d_goes -/
def goesQ (r : List Int) (a b : Int) (i : Nat) : Bool := (rd r ((i - 1 : Nat) : Int) == a) && (rd r ((i : Nat) : Int) == b)
def goesB (r : List Int) (a b : Int) : Bool := (List.range' 1 (r.length - 1)).any (goesQ r a b)
theorem goes_once (r : List Int) (a b : Int) (h : r.Nodup) : ((List.range' 1 (r.length - 1)).filter (goesQ r a b)).length = if goesB r a b = true then 1 else 0 := by
  refine count_once _ _ (fun i j h1 h2 h3 h4 hi hj => ?_)
  unfold goesQ at hi hj
  simp only [Bool.and_eq_true, beq_iff_eq] at hi hj
  have := nodup_get r h (i - 1) (j - 1) (by omega) (by omega) (by rw [← rd_nat, ← rd_nat, hi.1, hj.1])
  omega

/-! d_resOn -/
def resQ (p : List S103) (k a b : Int) (x : S42) : Bool := (x.f3 == 1) && goesB (routeP p k x.f1 x.f2) a b
def resOn (p : List S103) (l : List S42) (k a b : Int) : Int := countP (fun i => resQ p k a b (rd_T42 l ((i : Nat) : Int))) l.length

/-! spec_ReservedOn -/
theorem spec_ReservedOn.inner (l : List S42) (kk a b : Int) (j : Nat) (r : List Int) (x y z : Int) (p : List S103) (hj : j < l.length) (hl : l.length ≤ 1048576) (hr : r.length ≤ 1048577) :
    ∀ (d i : Nat) (n : Int), 1 ≤ i → i + d = 1 + (r.length - 1) → 0 ≤ n → n + d ≤ 4000000 → ∀ R, Ev (fun k => spec_ReservedOn.l0 k l kk a b (n + (((List.range' i d).filter (goesQ r a b)).length : Int)) ((j + 1 : Nat) : Int) x y z p) R → Ev (fun k => spec_ReservedOn.l1 k l kk a b n j r i x y z p) R := by
  intro d
  induction d with
  | zero =>
    intro i n h1 hi h0 hn R h
    refine Ev.step (fun k => by simp only [spec_ReservedOn.l1]; rw [if_neg (by omega), wrap_nat (by omega)]) ?_
    simpa using h
  | succ d ih =>
    intro i n h1 hi h0 hn R h
    have hk : ∀ k, spec_ReservedOn.l1 (k + 1) l kk a b n j r i x y z p = if goesQ r a b i = true then spec_ReservedOn.l1 k l kk a b (n + 1) j r ((i + 1 : Nat) : Int) x y z p else spec_ReservedOn.l1 k l kk a b n j r ((i + 1 : Nat) : Int) x y z p := fun k => by
      simp only [spec_ReservedOn.l1]
      rw [if_pos (by omega), wrap_pred h1 (by omega), if_pos (by omega), if_pos (by omega), wrap_nat (by omega), wrap_id (x := n + 1) (by omega) (by omega)]
      unfold goesQ
      by_cases h2 : rd r ((i - 1 : Nat) : Int) = a
      · rw [if_pos h2, if_pos (by omega), beq_iff_eq.mpr h2, Bool.true_and]
        by_cases h3 : rd r ((i : Nat) : Int) = b
        · rw [if_pos h3, if_pos (beq_iff_eq.mpr h3)]
        · rw [if_neg h3, if_neg (by simpa using h3)]
      · rw [if_neg h2, beq_eq_false_iff_ne.mpr h2, Bool.false_and, if_neg (by simp)]
    rw [List.range'_succ, List.filter_cons] at h
    by_cases hq : goesQ r a b i = true
    · rw [if_pos hq, List.length_cons] at h
      refine Ev.step (fun k => by rw [hk, if_pos hq]) (ih (i + 1) (n + 1) (by omega) (by omega) (by omega) (by omega) R ?_)
      rw [show n + 1 + (((List.range' (i + 1) d).filter (goesQ r a b)).length : Int) = n + ((((List.range' (i + 1) d).filter (goesQ r a b)).length + 1 : Nat) : Int) by omega]
      exact h
    · rw [if_neg hq] at h
      exact Ev.step (fun k => by rw [hk, if_neg hq]) (ih (i + 1) n (by omega) (by omega) h0 (by omega) R h)
theorem spec_ReservedOn.ev (x y z : Int) (p : List S103) (l : List S42) (kk a b : Int) (hp : fitQi 1048576 p) (hl : l.length ≤ 1048576) : Ev (fun k => spec_ReservedOn.f k x y z p l kk a b) (resOn p l kk a b) := by
  have h := foldE_index (g := fun k s i => spec_ReservedOn.l0 k l kk a b s i x y z p) (f := fun i s => if resQ p kk a b (rd_T42 l ((i : Nat) : Int)) = true then wrap64 (s + 1) else s) (fin := fun s => s) (fun i s => 0 ≤ s ∧ s ≤ (i : Int)) l.length 0 ⟨by omega, by omega⟩
    (fun s _ => Ev.one fun k => by simp only [spec_ReservedOn.l0]; rw [if_neg (by omega)])
    (fun i s hi hI => ⟨by rw [wrap_id (by omega) (by omega)]; split <;> omega, fun R hR => by
      have hr := routeP_len hp kk (rd_T42 l ((i : Nat) : Int)).f1 (rd_T42 l ((i : Nat) : Int)).f2
      refine Ev.step (fun k => by simp only [spec_ReservedOn.l0]; rw [if_pos (by omega), if_pos (by omega)]) ?_
      unfold resQ at hR
      by_cases h1 : (rd_T42 l ((i : Nat) : Int)).f3 = 1
      · refine Ev.congr (fun k => by rw [if_pos h1]) (Ev.bind (spec_RouteIn.ev x y z p kk _ _ _ _ hp) ?_)
        refine spec_ReservedOn.inner l kk a b i _ x y z p hi hl hr _ 1 s (by omega) rfl hI.1 (by omega) R ?_
        rw [goes_once _ a b (routeP_nodup _ _ _ _)]
        rw [beq_iff_eq.mpr h1, Bool.true_and] at hR
        by_cases h2 : goesB (routeP p kk (rd_T42 l ((i : Nat) : Int)).f1 (rd_T42 l ((i : Nat) : Int)).f2) a b = true
        · rw [if_pos h2] at hR ⊢
          rw [wrap_id (by omega) (by omega)] at hR
          exact hR
        · rw [if_neg h2] at hR ⊢
          rw [show s + ((0 : Nat) : Int) = s by omega]
          exact hR
      · rw [beq_eq_false_iff_ne.mpr h1, Bool.false_and, if_neg (by simp)] at hR
        exact Ev.congr (fun k => by rw [if_neg h1, wrap_nat (by omega)]) hR⟩)
  rw [count_countP _ _ (by omega)] at h
  exact h

/-! d_room -/
def roomQ (p : List S103) (l : List S42) (f1 f2 limit : Int) (k : Nat) : Bool := (List.range' 1 ((routeP p ((k : Nat) : Int) f1 f2).length - 1)).any fun i => decide (resOn p l ((k : Nat) : Int) (rd (routeP p ((k : Nat) : Int) f1 f2) ((i - 1 : Nat) : Int)) (rd (routeP p ((k : Nat) : Int) f1 f2) ((i : Nat) : Int)) ≥ limit)
def roomB (p : List S103) (l : List S42) (f1 f2 limit : Int) : Bool := if (List.range' 0 p.length).any (roomQ p l f1 f2 limit) = true then false else true

/-! spec_HasRoom -/
theorem spec_HasRoom.ev (x y z : Int) (p : List S103) (l : List S42) (f : S42) (limit : Int) (hp : fitQi 1048576 p) (hl : l.length ≤ 1048576) : Ev (fun k => spec_HasRoom.f k x y z p l f.f0 f.f1 f.f2 f.f3 limit) (roomB p l f.f1 f.f2 limit) := by
  have hpl := hp.1
  refine findE (g := fun k i => spec_HasRoom.l0 k l limit i x y z p f.f0 f.f1 f.f2 f.f3) (q := roomQ p l f.f1 f.f2 limit) p.length (Ev.one fun k => by simp only [spec_HasRoom.l0]; rw [if_neg (by omega)]) (fun j hj => ?_)
  have hlen := routeP_len hp ((j : Nat) : Int) f.f1 f.f2
  have key : ∀ e, ((List.range' 1 ((routeP p ((j : Nat) : Int) f.f1 f.f2).length - 1)).any (fun i => decide (resOn p l ((j : Nat) : Int) (rd (routeP p ((j : Nat) : Int) f.f1 f.f2) ((i - 1 : Nat) : Int)) (rd (routeP p ((j : Nat) : Int) f.f1 f.f2) ((i : Nat) : Int)) ≥ limit)) = false → Ev (fun k => spec_HasRoom.l0 k l limit ((j + 1 : Nat) : Int) x y z p f.f0 f.f1 f.f2 f.f3) e) → Ev (fun k => spec_HasRoom.l0 k l limit j x y z p f.f0 f.f1 f.f2 f.f3) (if roomQ p l f.f1 f.f2 limit j = true then false else e) := fun e he => by
    refine Ev.step (fun k => by simp only [spec_HasRoom.l0]; rw [if_pos (by omega)]) (Ev.bind (spec_RouteIn.ev x y z p _ _ _ _ _ hp) ?_)
    unfold roomQ
    generalize routeP p ((j : Nat) : Int) f.f1 f.f2 = r at hlen he ⊢
    refine findE_at (g := fun k i => spec_HasRoom.l1 k l limit j r i x y z p f.f0 f.f1 f.f2 f.f3) (1 + (r.length - 1)) 1 (fun i h1 hi => ?_) (r.length - 1) 1 (by omega) rfl (fun hn => Ev.step (fun k => by simp only [spec_HasRoom.l1]; rw [if_neg (by omega), wrap_nat (by omega)]) (he hn))
    have hs : ∀ R, Ev (fun k => if resOn p l ((j : Nat) : Int) (rd r ((i - 1 : Nat) : Int)) (rd r ((i : Nat) : Int)) ≥ limit then some false else spec_HasRoom.l1 k l limit j r ((i + 1 : Nat) : Int) x y z p f.f0 f.f1 f.f2 f.f3) R → Ev (fun k => spec_HasRoom.l1 k l limit j r i x y z p f.f0 f.f1 f.f2 f.f3) R := fun R h =>
      Ev.step (fun k => by simp only [spec_HasRoom.l1]; rw [if_pos (by omega), wrap_pred h1 (by omega), if_pos (by omega), if_pos (by omega), if_pos (by omega), wrap_nat (by omega)]) (Ev.bind (spec_ReservedOn.ev x y z p l _ _ _ hp hl) h)
    by_cases hq : resOn p l ((j : Nat) : Int) (rd r ((i - 1 : Nat) : Int)) (rd r ((i : Nat) : Int)) ≥ limit
    · rw [if_pos (decide_eq_true hq)]
      exact hs _ (Ev.all fun k => by rw [if_pos hq])
    · rw [if_neg (by simpa using hq)]
      exact fun R hR => hs _ (Ev.congr (fun k => by rw [if_neg hq]) hR)
  by_cases h : roomQ p l f.f1 f.f2 limit j = true
  · rw [if_pos h]
    have := key true (fun hn => by unfold roomQ at h; rw [hn] at h; cases h)
    rw [if_pos h] at this
    exact this
  · rw [if_neg h]
    intro R hR
    have := key R (fun _ => hR)
    rw [if_neg h] at this
    exact this

/-! d_admit -/
def admF (x : Int) (p : List S103) (l : List S42) (f : S42) (limit : Int) : List S42 × Bool :=
  if flowB f.f0 f.f1 f.f2 f.f3 x = true then
    if (l.length : Int) ≥ 8 then (l, false)
    else if (l.any fun y => y.f0 == f.f0) = true then (l, false)
    else if f.f3 = 1 then (if roomB p l f.f1 f.f2 limit = true then (l ++ [f], true) else (l, false))
    else (l ++ [f], true)
  else (l, false)
theorem admit_len (x : Int) (p : List S103) (l : List S42) (f : S42) (limit : Int) : (admF x p l f limit).1.length ≤ l.length + 1 := by
  unfold admF
  repeat' split
  all_goals simp

/-! spec_AdmitFlow -/
theorem spec_AdmitFlow.ev (x y z : Int) (p : List S103) (l : List S42) (f : S42) (limit : Int) (hp : fitQi 1048576 p) (hl : l.length ≤ 1048576) : Ev (fun k => spec_AdmitFlow.f k x y z p l f.f0 f.f1 f.f2 f.f3 limit) (admF x p l f limit) := by
  have no : ∀ b : Bool, b = true → Ev (fun k => spec_AdmitFlow.j2 k l b f.f0 f.f1 f.f2 f.f3) (l, false) := fun b hb => Ev.one fun k => by simp only [spec_AdmitFlow.j2]; rw [if_pos hb]
  have yes : ∀ b : Bool, b = false → Ev (fun k => spec_AdmitFlow.j2 k l b f.f0 f.f1 f.f2 f.f3) (l ++ [f], true) := fun b hb => Ev.one fun k => by simp only [spec_AdmitFlow.j2]; rw [if_neg (by simp [hb]), if_pos (by omega)]
  have bad : ∀ b : Bool, b = true → Ev (fun k => spec_AdmitFlow.j0 k l limit l b x y z p f.f0 f.f1 f.f2 f.f3) (l, false) := fun b hb => Ev.one fun k => by simp only [spec_AdmitFlow.j0]; rw [if_pos hb]
  refine Ev.congr (fun k => by unfold spec_AdmitFlow.f; rw [Option.bind_some, if_pos (by simp only [List.length_nil]; omega), List.nil_append, Option.bind_some, spec_IsFlow.val, Option.bind_some]) ?_
  unfold admF
  by_cases h1 : flowB f.f0 f.f1 f.f2 f.f3 x = true
  · rw [if_pos h1]
    by_cases h2 : (l.length : Int) ≥ 8
    · rw [if_pos h2]
      exact Ev.congr (fun k => by rw [if_pos h1]) (bad _ (decide_eq_true h2))
    · rw [if_neg h2]
      refine Ev.congr (fun k => by rw [if_pos h1]) (Ev.step (fun k => by simp only [spec_AdmitFlow.j0]; rw [if_neg (by simpa using h2)]) ?_)
      have h := find_list (g := fun k i => spec_AdmitFlow.l0 k l limit l i x y z p f.f0 f.f1 f.f2 f.f3) (q := fun y => y.f0 == f.f0) (r := ((l, false) : List S42 × Bool)) (e := if f.f3 = 1 then (if roomB p l f.f1 f.f2 limit = true then (l ++ [f], true) else (l, false)) else (l ++ [f], true)) l z42
        (by
          refine Ev.step (fun k => by simp only [spec_AdmitFlow.l0]; rw [if_neg (by omega)]) ?_
          by_cases h3 : f.f3 = 1
          · rw [if_pos h3]
            refine Ev.congr (fun k => by rw [if_pos h3]) (Ev.bind (spec_HasRoom.ev x y z p l f limit hp hl) ?_)
            by_cases h4 : roomB p l f.f1 f.f2 limit = true
            · rw [if_pos h4]
              exact yes _ (by simp [h4])
            · rw [if_neg h4]
              exact no _ (by simpa using h4)
          · rw [if_neg h3]
            exact Ev.congr (fun k => by rw [if_neg h3]) (yes _ rfl))
        (fun i k hi => by
          simp only [spec_AdmitFlow.l0]
          rw [if_pos (by omega), if_pos (by omega), wrap_nat (by omega)]
          show (if (l.getD i z42).f0 = f.f0 then _ else _) = _
          by_cases h : (l.getD i z42).f0 = f.f0
          · rw [if_pos h, if_pos (by simpa using h)]
          · rw [if_neg h, if_neg (by simpa using h)])
      exact h
  · rw [if_neg h1]
    exact Ev.congr (fun k => by rw [if_neg h1]) (bad true rfl)

/-! impl_isIndex -/
theorem impl_isIndex.val (a n : Int) : impl_isIndex.f a n = some (decide (0 ≤ a) && decide (a < n)) := by
  unfold impl_isIndex.f
  by_cases h : a ≥ 0
  · rw [if_pos h]; simp [h]
  · rw [if_neg h]; simp; omega
theorem impl_isIndex.nat (a : Int) (n : Nat) : impl_isIndex.f a (n : Int) = some (idxB a n) := impl_isIndex.val a n

/-! impl_InRange -/
theorem impl_InRange.val (a lo hi : Int) : impl_InRange.f a lo hi = some (inR a lo hi) := by
  unfold impl_InRange.f inR
  by_cases h : lo ≤ a
  · rw [if_pos h]; simp [h]
  · rw [if_neg h]; simp; omega

/-! impl_IsFlow -/
theorem impl_IsFlow.val (a b c d n : Int) : impl_IsFlow.f a b c d n = some (flowB a b c d n) := by
  unfold impl_IsFlow.f flowB
  simp only [impl_InRange.val, impl_isIndex.val, Option.bind_some]
  by_cases h1 : inR a 0 9999 = true <;> by_cases h2 : 0 ≤ b <;> by_cases h3 : b < n <;> by_cases h4 : 0 ≤ c <;> by_cases h5 : c < n <;> by_cases h6 : b = c <;> simp [h1, h2, h3, h4, h5, h6]

/-! slices_IndexFunc_impl_Flow_impl_Flow -/
theorem slices_IndexFunc_impl_Flow_impl_Flow.idxAt_iff (p : S42 → Bool) : ∀ (l : List S42) (i : Nat), decide (slices_IndexFunc_impl_Flow_impl_Flow.idxAt p l i ≥ 0) = l.any p
  | [], i => rfl
  | x :: l, i => by
    rw [slices_IndexFunc_impl_Flow_impl_Flow.idxAt, List.any_cons]
    by_cases h : p x = true
    · rw [if_pos h, h, Bool.true_or]; simp
    · rw [if_neg h, slices_IndexFunc_impl_Flow_impl_Flow.idxAt_iff p l (i + 1)]
      have : p x = false := by simpa using h
      rw [this, Bool.false_or]

/-! slices_Clone_int_int -/
theorem slices_Clone_int_int.val (l : List Int) (hl : l.length ≤ 1048576) : slices_Clone_int_int.f l = some l := by
  unfold slices_Clone_int_int.f
  rw [if_pos (by omega)]

/-! impl_cloneTable -/
theorem impl_cloneTable.val (x : Int) (l m : List Int) (hl : l.length ≤ 1048576) (hm : m.length ≤ 1048576) : impl_cloneTable.f x l m = some (x, l, m) := by
  unfold impl_cloneTable.f
  rw [slices_Clone_int_int.val l hl, Option.bind_some, slices_Clone_int_int.val m hm, Option.bind_some]

/-! impl_TableIn -/
theorem impl_TableIn.val (a b c : Int) (p : List S103) (k d : Int) (hp : fitQi 1048576 p) : impl_TableIn.f a b c p k d = some (tableIn p k d) := by
  unfold impl_TableIn.f tableIn
  rw [impl_isIndex.nat, Option.bind_some]
  by_cases h : idxB k p.length = true
  · have hf := fit_rd hp h
    obtain ⟨h0, h1⟩ := (idxB_iff _ _).1 h
    rw [if_pos h, if_pos h, if_pos h0, if_pos h1, impl_isIndex.nat, Option.bind_some]
    by_cases h2 : idxB d (rd_T103 p k).f2.length = true
    · have hg := fit_rdT hp h h2
      obtain ⟨h3, h4⟩ := (idxB_iff _ _).1 h2
      rw [if_pos h2, if_pos h2, if_pos h3, if_pos h4, impl_cloneTable.val _ _ _ hg.1 hg.2]; rfl
    · rw [if_neg h2, if_neg h2]
  · rw [if_neg h, if_neg h]

/-! impl_PathTo -/
theorem impl_PathTo.ev_l (l : List Int) (b : Int) (hl : l.length ≤ 1048576) : ∀ (d : Nat) (out : List Int) (x : Int), out.length + d = l.length + 1 → Ev (fun k => impl_PathTo.l0 k l x b out) (pathR (pathO l b d x) out) := by
  intro d
  induction d with
  | zero =>
    intro out x h
    refine Ev.step (fun k => by simp only [impl_PathTo.l0]; rw [if_neg (by omega)]) ?_
    exact Ev.one fun k => by simp only [impl_PathTo.j1]; rw [if_neg (by simp)]; rfl
  | succ d ih =>
    intro out x h
    refine Ev.step (fun k => by simp only [impl_PathTo.l0]; rw [if_pos (by omega), impl_isIndex.nat, Option.bind_some]) ?_
    rw [pathO]
    by_cases hx : idxB x l.length = true
    · obtain ⟨h0, h1⟩ := (idxB_iff _ _).1 hx
      rw [if_pos hx]
      by_cases hb : x = b
      · rw [if_pos hb]
        exact Ev.one fun k => by simp only [impl_PathTo.j1]; rw [if_pos hx, if_pos (by omega), Option.bind_some, if_pos hb]; rfl
      · rw [if_neg hb, pathR_map]
        exact Ev.step (fun k => by simp only [impl_PathTo.j1]; rw [if_pos hx, if_pos (by omega), Option.bind_some, if_neg hb, if_pos h0, if_pos h1]) (ih (out ++ [x]) (rd l x) (by rw [List.length_append, List.length_singleton]; omega))
    · rw [if_neg hx]
      exact Ev.one fun k => by simp only [impl_PathTo.j1]; rw [if_neg hx]; rfl
theorem impl_PathTo.ev (l : List Int) (a b : Int) (hl : l.length ≤ 1048576) : Ev (fun k => impl_PathTo.f k l a b) (path l a b) :=
  impl_PathTo.ev_l l b hl (l.length + 1) [] a (by simp)

/-! impl_RouteOf -/
theorem impl_RouteOf.ev (x : Int) (l m : List Int) (a : Int) (hm : m.length ≤ 1048576) : Ev (fun k => impl_RouteOf.f k x l m a) (path m a x) := Ev.bind (impl_PathTo.ev m a x hm) (Ev.now _)

/-! impl_RouteIn -/
theorem impl_RouteIn.ev (a b c : Int) (p : List S103) (k : Int) (x0 x1 x2 x3 : Int) (hp : fitQi 1048576 p) : Ev (fun n => impl_RouteIn.f n a b c p k x0 x1 x2 x3) (routeP p k x1 x2) := by
  refine Ev.congr (fun n => by unfold impl_RouteIn.f; rw [impl_TableIn.val _ _ _ _ _ _ hp, Option.bind_some]) ?_
  have hl := (tableIn_len hp k x2).2
  unfold routeP
  by_cases h : (tableIn p k x2).2.2.2 = true
  · rw [if_pos h]
    exact Ev.congr (fun n => by rw [if_pos h]) (Ev.bind (impl_RouteOf.ev _ _ _ _ hl) (Ev.now _))
  · rw [if_neg h]
    exact Ev.all fun n => by rw [if_neg h]

/-! impl_goes -/
theorem impl_goes.ev (r : List Int) (a b : Int) (hl : r.length ≤ 1048577) : Ev (fun k => impl_goes.f k r a b) (goesB r a b) := by
  have h := findE_at (g := fun k i => impl_goes.l0 k r a b i) (q := goesQ r a b) (r := true) (e := false) (1 + (r.length - 1)) 1 (fun i h1 hi => by
    have hk : ∀ k, impl_goes.l0 (k + 1) r a b i = if goesQ r a b i = true then some true else impl_goes.l0 k r a b ((i + 1 : Nat) : Int) := fun k => by
      simp only [impl_goes.l0]
      rw [if_pos (by omega), wrap_pred h1 (by omega), if_pos (by omega), if_pos (by omega), wrap_nat (by omega)]
      unfold goesQ
      by_cases h2 : rd r ((i - 1 : Nat) : Int) = a
      · rw [if_pos h2, if_pos (by omega), beq_iff_eq.mpr h2, Bool.true_and]
        by_cases h3 : rd r ((i : Nat) : Int) = b
        · rw [if_pos h3, if_pos (beq_iff_eq.mpr h3)]
        · rw [if_neg h3, if_neg (by simpa using h3)]
      · rw [if_neg h2, beq_eq_false_iff_ne.mpr h2, Bool.false_and, if_neg (by simp)]
    split
    · rename_i hq
      exact Ev.one fun k => by rw [hk, if_pos hq]
    · rename_i hq
      exact fun x hx => Ev.step (fun k => by rw [hk, if_neg hq]) hx) (r.length - 1) 1 (by omega) rfl (fun _ => Ev.one fun k => by simp only [impl_goes.l0]; rw [if_neg (by omega)])
  rw [ite_bool] at h
  exact h

/-! impl_ReservedOn -/
theorem impl_ReservedOn.ev (x y z : Int) (p : List S103) (l : List S42) (kk a b : Int) (hp : fitQi 1048576 p) (hl : l.length ≤ 1048576) : Ev (fun k => impl_ReservedOn.f k x y z p l kk a b) (resOn p l kk a b) := by
  have h := foldE_index (g := fun k s i => impl_ReservedOn.l0 k kk a b s l l.length i x y z p) (f := fun i s => if resQ p kk a b (rd_T42 l ((i : Nat) : Int)) = true then wrap64 (s + 1) else s) (fin := fun s => s) (fun _ _ => True) l.length 0 trivial
    (fun s _ => Ev.one fun k => by simp only [impl_ReservedOn.l0]; rw [if_neg (by omega)])
    (fun i s hi hI => ⟨trivial, fun R hR => by
      have hr := routeP_len hp kk (rd_T42 l ((i : Nat) : Int)).f1 (rd_T42 l ((i : Nat) : Int)).f2
      refine Ev.step (fun k => by simp only [impl_ReservedOn.l0]; rw [if_pos (by omega), if_pos (by omega), if_pos (by omega), wrap_nat (by omega)]) ?_
      unfold resQ at hR
      by_cases h1 : (rd_T42 l ((i : Nat) : Int)).f3 = 1
      · refine Ev.congr (fun k => by rw [if_pos h1]) (Ev.bind (impl_RouteIn.ev x y z p kk _ _ _ _ hp) (Ev.bind (impl_goes.ev _ a b hr) ?_))
        rw [beq_iff_eq.mpr h1, Bool.true_and] at hR
        by_cases h2 : goesB (routeP p kk (rd_T42 l ((i : Nat) : Int)).f1 (rd_T42 l ((i : Nat) : Int)).f2) a b = true
        · rw [if_pos h2] at hR
          exact Ev.congr (fun k => by rw [if_pos h2]) hR
        · rw [if_neg h2] at hR
          exact Ev.congr (fun k => by rw [if_neg h2]) hR
      · rw [beq_eq_false_iff_ne.mpr h1, Bool.false_and, if_neg (by simp)] at hR
        exact Ev.congr (fun k => by rw [if_neg h1]) hR⟩)
  rw [count_countP _ _ (by omega)] at h
  exact h

/-! impl_HasRoom -/
theorem impl_HasRoom.ev (x y z : Int) (p : List S103) (l : List S42) (f : S42) (limit : Int) (hp : fitQi 1048576 p) (hl : l.length ≤ 1048576) : Ev (fun k => impl_HasRoom.f k x y z p l f.f0 f.f1 f.f2 f.f3 limit) (roomB p l f.f1 f.f2 limit) := by
  have hpl := hp.1
  refine findE (g := fun k i => impl_HasRoom.l0 k l limit p.length i x y z p f.f0 f.f1 f.f2 f.f3) (q := roomQ p l f.f1 f.f2 limit) p.length (Ev.one fun k => by simp only [impl_HasRoom.l0]; rw [if_neg (by omega)]) (fun j hj => ?_)
  have hlen := routeP_len hp ((j : Nat) : Int) f.f1 f.f2
  have key : ∀ e, ((List.range' 1 ((routeP p ((j : Nat) : Int) f.f1 f.f2).length - 1)).any (fun i => decide (resOn p l ((j : Nat) : Int) (rd (routeP p ((j : Nat) : Int) f.f1 f.f2) ((i - 1 : Nat) : Int)) (rd (routeP p ((j : Nat) : Int) f.f1 f.f2) ((i : Nat) : Int)) ≥ limit)) = false → Ev (fun k => impl_HasRoom.l0 k l limit p.length ((j + 1 : Nat) : Int) x y z p f.f0 f.f1 f.f2 f.f3) e) → Ev (fun k => impl_HasRoom.l0 k l limit p.length j x y z p f.f0 f.f1 f.f2 f.f3) (if roomQ p l f.f1 f.f2 limit j = true then false else e) := fun e he => by
    refine Ev.step (fun k => by simp only [impl_HasRoom.l0]; rw [if_pos (by omega)]) (Ev.bind (impl_RouteIn.ev x y z p _ _ _ _ _ hp) ?_)
    unfold roomQ
    generalize routeP p ((j : Nat) : Int) f.f1 f.f2 = r at hlen he ⊢
    refine findE_at (g := fun k i => impl_HasRoom.l1 k l limit j r i p.length j x y z p f.f0 f.f1 f.f2 f.f3) (1 + (r.length - 1)) 1 (fun i h1 hi => ?_) (r.length - 1) 1 (by omega) rfl (fun hn => Ev.step (fun k => by simp only [impl_HasRoom.l1]; rw [if_neg (by omega), wrap_nat (by omega)]) (he hn))
    have hs : ∀ R, Ev (fun k => if resOn p l ((j : Nat) : Int) (rd r ((i - 1 : Nat) : Int)) (rd r ((i : Nat) : Int)) ≥ limit then some false else impl_HasRoom.l1 k l limit j r ((i + 1 : Nat) : Int) p.length j x y z p f.f0 f.f1 f.f2 f.f3) R → Ev (fun k => impl_HasRoom.l1 k l limit j r i p.length j x y z p f.f0 f.f1 f.f2 f.f3) R := fun R h =>
      Ev.step (fun k => by simp only [impl_HasRoom.l1]; rw [if_pos (by omega), wrap_pred h1 (by omega), if_pos (by omega), if_pos (by omega), if_pos (by omega), wrap_nat (by omega)]) (Ev.bind (impl_ReservedOn.ev x y z p l _ _ _ hp hl) h)
    by_cases hq : resOn p l ((j : Nat) : Int) (rd r ((i - 1 : Nat) : Int)) (rd r ((i : Nat) : Int)) ≥ limit
    · rw [if_pos (decide_eq_true hq)]
      exact hs _ (Ev.all fun k => by rw [if_pos hq])
    · rw [if_neg (by simpa using hq)]
      exact fun R hR => hs _ (Ev.congr (fun k => by rw [if_neg hq]) hR)
  by_cases h : roomQ p l f.f1 f.f2 limit j = true
  · rw [if_pos h]
    have := key true (fun hn => by unfold roomQ at h; rw [hn] at h; cases h)
    rw [if_pos h] at this
    exact this
  · rw [if_neg h]
    intro R hR
    have := key R (fun _ => hR)
    rw [if_neg h] at this
    exact this

/-! impl_AdmitFlow -/
theorem impl_AdmitFlow.ev (x y z : Int) (p : List S103) (l : List S42) (f : S42) (limit : Int) (hp : fitQi 1048576 p) (hl : l.length ≤ 1048576) : Ev (fun k => impl_AdmitFlow.f k x y z p l f.f0 f.f1 f.f2 f.f3 limit) (admF x p l f limit) := by
  have hc : slices_ContainsFunc_impl_Flow_impl_Flow.f l f.f0 f.f1 f.f2 f.f3 = some (l.any fun y => y.f0 == f.f0) := by
    unfold slices_ContainsFunc_impl_Flow_impl_Flow.f slices_IndexFunc_impl_Flow_impl_Flow.idx
    rw [slices_IndexFunc_impl_Flow_impl_Flow.idxAt_iff]
  refine Ev.congr (fun k => by unfold impl_AdmitFlow.f slices_Clone_impl_Flow_impl_Flow.f; rw [if_pos (by omega), Option.bind_some, impl_IsFlow.val, Option.bind_some, hc]) ?_
  have no : ∀ b : Bool, b = true → Ev (fun k => impl_AdmitFlow.j0 k l b f.f0 f.f1 f.f2 f.f3) (l, false) := fun b hb => Ev.one fun k => by simp only [impl_AdmitFlow.j0]; rw [if_pos hb]
  have yes : ∀ b : Bool, b = false → Ev (fun k => impl_AdmitFlow.j0 k l b f.f0 f.f1 f.f2 f.f3) (l ++ [f], true) := fun b hb => Ev.one fun k => by simp only [impl_AdmitFlow.j0]; rw [if_neg (by simp [hb]), if_pos (by omega)]
  unfold admF
  by_cases h1 : flowB f.f0 f.f1 f.f2 f.f3 x = true
  · rw [if_pos h1]
    by_cases h2 : (l.length : Int) ≥ 8
    · rw [if_pos h2]
      exact Ev.congr (fun k => by rw [if_pos h1, if_pos h2]) (no _ rfl)
    · rw [if_neg h2]
      by_cases h5 : (l.any fun y => y.f0 == f.f0) = true
      · rw [if_pos h5]
        exact Ev.congr (fun k => by rw [if_pos h1, if_neg h2, Option.bind_some, if_pos h5]) (no _ rfl)
      · rw [if_neg h5]
        by_cases h3 : f.f3 = 1
        · rw [if_pos h3]
          refine Ev.congr (fun k => by rw [if_pos h1, if_neg h2, Option.bind_some, if_neg h5, if_pos h3]) (Ev.bind (impl_HasRoom.ev x y z p l f limit hp hl) ?_)
          by_cases h4 : roomB p l f.f1 f.f2 limit = true
          · rw [if_pos h4]
            exact yes _ (by simp [h4])
          · rw [if_neg h4]
            exact no _ (by simpa using h4)
        · rw [if_neg h3]
          exact Ev.congr (fun k => by rw [if_pos h1, if_neg h2, Option.bind_some, if_neg h5, if_neg h3]) (yes _ rfl)
  · rw [if_neg h1]
    exact Ev.congr (fun k => by rw [if_neg h1]) (no _ rfl)

/-! laws_markIntS -/
theorem laws_markIntS.ev_l (a : Int) (n : Nat) (h0 : 0 ≤ a) (h1 : a + n ≤ 4611686018427387904) : ∀ (d i : Nat) (o : List Int), i + d = n → o.length = n → o.take i = (marks a n).take i →
    Ev (fun k => laws_markIntS.l0 k o (a + i) i) (a + n, marks a n) := by
  intro d
  induction d with
  | zero =>
    intro i o hi ho ht
    refine Ev.one fun k => ?_
    simp only [laws_markIntS.l0]
    rw [if_neg (by omega), take_full (by rw [marks_length]; exact ho) (by rw [marks_length]; omega) ht, show i = n by omega]
  | succ d ih =>
    intro i o hi ho ht
    refine Ev.step (fun k => ?_) (ih (i + 1) (o.set i (a + i)) (by omega) (by simp [ho]) (set_take o _ _ (by rw [marks_length]; exact ho) (marks_get a n i (by omega)) ht))
    simp only [laws_markIntS.l0]
    rw [if_pos (by omega), if_pos (by omega), wrap_nat (by omega), wrap_id (by omega) (by omega)]
    rw [show a + (i : Int) + 1 = a + ((i + 1 : Nat) : Int) by omega]
    rfl
theorem laws_markIntS.ev (l : List Int) (a : Int) (h0 : 0 ≤ a) (h1 : a + l.length ≤ 4611686018427387904) : Ev (fun k => laws_markIntS.f k l a) (a + l.length, marks a l.length) := by
  have := laws_markIntS.ev_l a l.length h0 h1 l.length 0 l (by omega) rfl (by simp)
  rw [show a + ((0 : Nat) : Int) = a by omega] at this
  exact this

/-! laws_markLinkS -/
def mkLink (a : Int) (j : Nat) : S123 := ⟨a + 2 * (j : Int), a + 2 * (j : Int) + 1⟩
def marksLink (a : Int) (n : Nat) : List S123 := (List.range n).map (mkLink a)
theorem marksLink_length (a : Int) (n : Nat) : (marksLink a n).length = n := by simp [marksLink]
theorem marksLink_get (a : Int) (n i : Nat) (h : i < n) : (marksLink a n)[i]? = some (mkLink a i) := by simp [marksLink, h]
theorem marksLink_getD (a : Int) (n i : Nat) (h : i < n) : (marksLink a n).getD i z123 = mkLink a i := by rw [List.getD_eq_getElem?_getD, marksLink_get a n i h]; rfl
theorem laws_markLinkS.ev_l (a : Int) (n : Nat) (h0 : 0 ≤ a) (h1 : a + 2 * n ≤ 4611686018427387904) : ∀ (d i : Nat) (o : List S123), i + d = n → o.length = n → o.take i = (marksLink a n).take i →
    Ev (fun k => laws_markLinkS.l0 k o (a + 2 * (i : Int)) i) (a + 2 * (n : Int), marksLink a n) := by
  intro d
  induction d with
  | zero =>
    intro i o hi ho ht
    refine Ev.one fun k => ?_
    simp only [laws_markLinkS.l0]
    rw [if_neg (by omega), take_full (by rw [marksLink_length]; exact ho) (by rw [marksLink_length]; omega) ht, show i = n by omega]
  | succ d ih =>
    intro i o hi ho ht
    refine Ev.step (fun k => ?_) (ih (i + 1) (o.set i (mkLink a i)) (by omega) (by simp [ho]) (set_take o _ _ (by rw [marksLink_length]; exact ho) (marksLink_get a n i (by omega)) ht))
    have e : ∀ v, rd_T123 (o.set i v) (i : Int) = v := fun v => getD_set_self o _ v (by omega)
    simp only [laws_markLinkS.l0, Option.bind_some, Int.toNat_natCast, e, List.set_set]
    rw [if_pos (by omega), if_pos (by omega), wrap_nat (by omega)]
    rw [wrap_id (x := a + 2 * (i : Int) + 1) (by omega) (by omega)]
    rw [wrap_id (x := a + 2 * (i : Int) + 1 + 1) (by omega) (by omega)]
    rw [show a + 2 * (i : Int) + 1 + 1 = a + 2 * ((i + 1 : Nat) : Int) by omega]
    rfl
theorem laws_markLinkS.ev (l : List S123) (a : Int) (h0 : 0 ≤ a) (h1 : a ≤ 4000000000) (hl : l.length ≤ 1048576) : Ev (fun k => laws_markLinkS.f k l a) (a + 2 * (l.length : Int), marksLink a l.length) := by
  have := laws_markLinkS.ev_l a l.length h0 (by omega) l.length 0 l (by omega) rfl (by simp)
  rw [show a + 2 * ((0 : Nat) : Int) = a by omega] at this
  exact this

/-! laws_markProgram -/
theorem laws_markProgram.val (x y z : Int) (p : List S103) (a : Int) (h0 : 0 ≤ a) (h : a + (pieSize_ (pieShape_ p) : Int) ≤ 4000000000) : laws_markProgram.f x y z p a = some (a + (pieSize_ (pieShape_ p) : Int)) := if_pos ⟨h0, h⟩
theorem tab_cost : ∀ l : List S149, tabSize_ (tabShape_ (l.map cTable)) = tabsCost l
  | [] => rfl
  | x :: l => by
    have := tab_cost l
    unfold tabSize_ tabShape_ tabsCost at this ⊢
    simp only [List.map_cons, List.sum_cons, List.length_cons, cTable] at this ⊢
    omega
theorem pie_cost : ∀ l : List S98, pieSize_ (pieShape_ (l.map cPiece)) ≤ 2 * progCost l
  | [] => Nat.le_refl _
  | x :: l => by
    have h := pie_cost l
    have h2 := tab_cost x.f2
    unfold pieSize_ pieShape_ progCost at h ⊢
    simp only [List.map_cons, List.sum_cons, List.length_cons, cPiece, List.length_map] at h ⊢
    rw [h2, show pieCost x = x.f1.length + tabsCost x.f2 from rfl]
    omega

/-! laws_markFlowS -/
def mkFlow (a : Int) (j : Nat) : S42 := ⟨a + 4 * (j : Int), a + 4 * (j : Int) + 1, a + 4 * (j : Int) + 1 + 1, a + 4 * (j : Int) + 1 + 1 + 1⟩
def marksFlow (a : Int) (n : Nat) : List S42 := (List.range n).map (mkFlow a)
theorem marksFlow_length (a : Int) (n : Nat) : (marksFlow a n).length = n := by simp [marksFlow]
theorem marksFlow_get (a : Int) (n i : Nat) (h : i < n) : (marksFlow a n)[i]? = some (mkFlow a i) := by simp [marksFlow, h]
theorem marksFlow_getD (a : Int) (n i : Nat) (h : i < n) : (marksFlow a n).getD i z42 = mkFlow a i := by rw [List.getD_eq_getElem?_getD, marksFlow_get a n i h]; rfl
theorem laws_markFlowS.ev_l (a : Int) (n : Nat) (h0 : 0 ≤ a) (h1 : a + 4 * n ≤ 4611686018427387904) : ∀ (d i : Nat) (o : List S42), i + d = n → o.length = n → o.take i = (marksFlow a n).take i →
    Ev (fun k => laws_markFlowS.l0 k o (a + 4 * (i : Int)) i) (a + 4 * (n : Int), marksFlow a n) := by
  intro d
  induction d with
  | zero =>
    intro i o hi ho ht
    refine Ev.one fun k => ?_
    simp only [laws_markFlowS.l0]
    rw [if_neg (by omega), take_full (by rw [marksFlow_length]; exact ho) (by rw [marksFlow_length]; omega) ht, show i = n by omega]
  | succ d ih =>
    intro i o hi ho ht
    refine Ev.step (fun k => ?_) (ih (i + 1) (o.set i (mkFlow a i)) (by omega) (by simp [ho]) (set_take o _ _ (by rw [marksFlow_length]; exact ho) (marksFlow_get a n i (by omega)) ht))
    have e : ∀ v, rd_T42 (o.set i v) (i : Int) = v := fun v => getD_set_self o _ v (by omega)
    simp only [laws_markFlowS.l0, Option.bind_some, Int.toNat_natCast, e, List.set_set]
    rw [if_pos (by omega), if_pos (by omega), wrap_nat (by omega)]
    rw [wrap_id (x := a + 4 * (i : Int) + 1) (by omega) (by omega)]
    rw [wrap_id (x := a + 4 * (i : Int) + 1 + 1) (by omega) (by omega)]
    rw [wrap_id (x := a + 4 * (i : Int) + 1 + 1 + 1) (by omega) (by omega)]
    rw [wrap_id (x := a + 4 * (i : Int) + 1 + 1 + 1 + 1) (by omega) (by omega)]
    rw [show a + 4 * (i : Int) + 1 + 1 + 1 + 1 = a + 4 * ((i + 1 : Nat) : Int) by omega]
    rfl
theorem laws_markFlowS.ev (l : List S42) (a : Int) (h0 : 0 ≤ a) (h1 : a ≤ 4000000000) (hl : l.length ≤ 1048576) : Ev (fun k => laws_markFlowS.f k l a) (a + 4 * (l.length : Int), marksFlow a l.length) := by
  have := laws_markFlowS.ev_l a l.length h0 (by omega) l.length 0 l (by omega) rfl (by simp)
  rw [show a + 4 * ((0 : Nat) : Int) = a by omega] at this
  exact this

/-! laws_heldFlowS -/
theorem laws_heldFlowS.ev_l (a : Int) (n : Nat) (h0 : 0 ≤ a) (h1 : a + 4 * n ≤ 4611686018427387904) : ∀ (d i : Nat), i + d = n → Ev (fun k => laws_heldFlowS.l0 k (marksFlow a n) (a + 4 * (i : Int)) i) (a + 4 * (n : Int)) := by
  intro d
  induction d with
  | zero =>
    intro i hi
    refine Ev.one fun k => ?_
    simp only [laws_heldFlowS.l0]
    rw [if_neg (by rw [marksFlow_length]; omega), show i = n by omega]
  | succ d ih =>
    intro i hi
    refine Ev.step (fun k => ?_) (ih (i + 1) (by omega))
    have e : rd_T42 (marksFlow a n) (i : Int) = mkFlow a i := marksFlow_getD a n i (by omega)
    simp only [laws_heldFlowS.l0, e]
    rw [if_pos (by rw [marksFlow_length]; omega), if_pos (by omega), wrap_nat (by omega)]
    rw [wrap_id (x := a + 4 * (i : Int) + 1) (by omega) (by omega)]
    rw [wrap_id (x := a + 4 * (i : Int) + 1 + 1) (by omega) (by omega)]
    rw [wrap_id (x := a + 4 * (i : Int) + 1 + 1 + 1) (by omega) (by omega)]
    rw [wrap_id (x := a + 4 * (i : Int) + 1 + 1 + 1 + 1) (by omega) (by omega)]
    simp only [mkFlow, if_true]
    rw [show a + 4 * (i : Int) + 1 + 1 + 1 + 1 = a + 4 * ((i + 1 : Nat) : Int) by omega]
theorem laws_heldFlowS.ev (a : Int) (n : Nat) (h0 : 0 ≤ a) (h1 : a ≤ 4000000000) (hn : n ≤ 1048576) : Ev (fun k => laws_heldFlowS.f k (marksFlow a n) a) (a + 4 * (n : Int)) := by
  have := laws_heldFlowS.ev_l a n h0 (by omega) n 0 (by omega)
  rw [show a + 4 * ((0 : Nat) : Int) = a by omega] at this
  exact this

/-! d_wQ -/
theorem fit_of {l : List S98} (h : l.length ≤ maxLen ∧ ∀ e_ ∈ l, W98 e_) : fitQ maxLen l :=
  ⟨h.1, fun x hx => ⟨(h.2 x hx).2.1.1, (h.2 x hx).2.2.1, fun t ht => ⟨((h.2 x hx).2.2.2 t ht).2.1.1, ((h.2 x hx).2.2.2 t ht).2.2.1⟩⟩⟩

/-! d_fitMap -/
theorem fit_map {n : Nat} {l : List S98} (h : fitQ n l) : fitQi n (l.map cPiece) := by
  refine ⟨by simpa using h.1, fun x hx => ?_⟩
  obtain ⟨y, hy, rfl⟩ := List.mem_map.1 hx
  obtain ⟨h1, h2, h3⟩ := h.2 y hy
  refine ⟨by simpa [cPiece] using h1, by simpa [cPiece] using h2, fun t ht => ?_⟩
  obtain ⟨u, hu, rfl⟩ := List.mem_map.1 ht
  exact h3 u hu

/-! @@ FnExactAdmitFlow -/
theorem proved : Stated := by
  intro a b c m l f0 f1 f2 f3 lim _ _ _ hm hl _ _ _ _ _
  refine Ev.rounds ?_
  obtain ⟨u, hu, hle, hq⟩ := laws_szProgram.sum a b c m 1048576 (by omega) (by omega) (fit_of hm)
  refine Ev.bind hu ?_
  by_cases h' : u < 0
  · exact Ev.all fun k => by rw [if_pos h']
  obtain ⟨hcost, hq⟩ := hq (by omega)
  have hq2 := fit_map hq
  have hpc := pie_cost m
  obtain ⟨t, ht, hle2, hp⟩ := laws_szFlowS.val l u (by omega) (by omega) hl.1
  refine Ev.congr (fun k => by rw [if_neg h', ht, Option.bind_some]) ?_
  by_cases h : t < 0
  · exact Ev.all fun k => by rw [if_pos h]
  obtain ⟨_, hl2⟩ := hp (by omega)
  have hl3 : (l.map cFlow).length ≤ 1048576 := by simpa using hl2
  have hfl : (l.map cFlow).length = l.length := List.length_map _
  have hs : Ev (fun k => spec_AdmitFlow.f k a b c (m.map cPiece) (l.map cFlow) f0 f1 f2 f3 lim) _ := spec_AdmitFlow.ev a b c _ _ ⟨f0, f1, f2, f3⟩ lim hq2 hl3
  have hi : Ev (fun k => impl_AdmitFlow.f k a b c (m.map cPiece) (l.map cFlow) f0 f1 f2 f3 lim) _ := impl_AdmitFlow.ev a b c _ _ ⟨f0, f1, f2, f3⟩ lim hq2 hl3
  have hlen := admit_len a (m.map cPiece) (l.map cFlow) ⟨f0, f1, f2, f3⟩ lim
  have hb : (l.map cFlow).length + 1 ≤ 1048576 ∨ admF a (m.map cPiece) (l.map cFlow) ⟨f0, f1, f2, f3⟩ lim = (l.map cFlow, false) := by
    by_cases h2 : ((l.map cFlow).length : Int) ≥ 8
    · right
      unfold admF
      rw [if_pos h2]
      split <;> rfl
    · left; omega
  have hR0 : (admF a (m.map cPiece) (l.map cFlow) ⟨f0, f1, f2, f3⟩ lim).1.length ≤ 1048576 := by
    rcases hb with hb | hb
    · omega
    · rw [hb]; exact hl3
  generalize admF a (m.map cPiece) (l.map cFlow) ⟨f0, f1, f2, f3⟩ lim = q at hs hi hR0
  obtain ⟨R, ok⟩ := q
  have hR0 : R.length ≤ 1048576 := hR0
  have hR : Ev (fun k => laws_eqFlowS.f k R R) true := laws_eqFlowS.ev R hR0
  refine Ev.congr (fun k => by rw [if_neg h]) (Ev.bind (laws_toProgram.ev a b c m hq) (Ev.bind (laws_toFlowS.ev l hl2) ?_))
  refine Ev.congr (fun k => by rw [laws_toFlow.f, Option.bind_some]) (Ev.bind hs (Ev.bind (laws_toProgram.ev a b c m hq) (Ev.bind (laws_toFlowS.ev l hl2) ?_)))
  refine Ev.congr (fun k => by rw [Option.bind_some]) (Ev.bind hi (Ev.bind hR ?_))
  refine Ev.congr (fun k => by rw [if_pos rfl]) ?_
  refine Ev.step (fun k => by simp only [laws_FnExactAdmitFlow.j0]; rw [if_neg (by simp)]) ?_
  refine Ev.bind (laws_toProgram.ev a b c m hq) (Ev.bind (laws_eqProgram.ev a b c _ hq2) ?_)
  refine Ev.congr (fun k => by rw [if_pos rfl]) (Ev.bind (laws_toFlowS.ev l hl2) (Ev.bind (laws_eqFlowS.ev _ hl3) ?_))
  refine Ev.congr (fun k => by rw [if_pos rfl, laws_markProgram.val _ _ _ _ _ (by omega) (by omega), Option.bind_some]) (Ev.bind (laws_markFlowS.ev _ _ (by omega) (by omega) hl3) ?_)
  refine Ev.congr (fun k => by rw [if_neg (by omega)]) (Ev.bind hR ?_)
  refine Ev.congr (fun k => by rw [if_pos rfl]) ?_
  refine Ev.step (fun k => by simp only [laws_FnExactAdmitFlow.j1]; rw [if_neg (by simp)]) ?_
  refine Ev.bind (laws_markFlowS.ev R 1 (by omega) (by omega) (by omega)) (Ev.bind (laws_heldFlowS.ev 1 _ (by omega) (by omega) (by omega)) ?_)
  refine Ev.congr (fun k => by rw [if_neg (by omega), if_pos rfl]) (Ev.bind (laws_toProgram.ev a b c m hq) (Ev.bind (laws_toFlowS.ev l hl2) ?_))
  refine Ev.congr (fun k => by rw [laws_toFlow.f, Option.bind_some]) (Ev.bind hi (Ev.bind hR ?_))
  refine Ev.congr (fun k => by rw [if_pos rfl]) ?_
  refine Ev.step (fun k => by simp only [laws_FnExactAdmitFlow.j2]; rw [if_neg (by simp)]) ?_
  refine Ev.bind (laws_heldFlowS.ev 1 _ (by omega) (by omega) (by omega)) ?_
  exact Ev.all fun k => by rw [if_neg (by omega), if_pos rfl]

end Go.Proofs.Ytdodogkgmpaioaa.PureFnExactAdmitFlow
