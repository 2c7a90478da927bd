/- FnExactReachFrom, over numbers and lists alone: what the program's function and the reference's answer is one. Conditions: the numbers are of their kinds. -/
import Derived.Test.YtdodogkgmpaioaaKindsFnExactReachFrom
import Derived.Test.YtdodogkgmpaioaaVFnExactReachFromBase
namespace Go.Proofs.Ytdodogkgmpaioaa.PureFnExactReachFrom
open Go.RowKit Go.Proofs.Ytdodogkgmpaioaa.PFnExactReachFrom Go.Proofs.YtdodogkgmpaioaaW.PrintWords Go.Proofs.YtdodogkgmpaioaaW.PrintLast Go.Proofs.YtdodogkgmpaioaaW.PrintMore Go.Proofs.Ytdodogkgmpaioaa.Base
set_option linter.unusedVariables false
set_option linter.unusedSimpArgs false

/-! laws_szLinkS -/
theorem laws_szLinkS.val (l : List S151) (a : Int) (h0 : 0 ≤ a) (h1 : a ≤ 1048576) (hl : l.length ≤ maxLen) :
    ∃ t, laws_szLinkS.f l a = some t ∧ t ≤ a ∧ (0 ≤ t → t = a - l.length ∧ l.length ≤ 1048576) := by
  unfold maxLen at hl
  unfold laws_szLinkS.f
  rw [wrap_id (by omega) (by omega)]
  by_cases h : a - (l.length : Int) < 0
  · rw [if_pos h]; exact ⟨_, rfl, by omega, by omega⟩
  · rw [if_neg h]; exact ⟨_, rfl, by omega, by omega⟩

/-! laws_szIntS -/
theorem laws_szIntS.val (l : List Int) (a : Int) (h0 : 0 ≤ a) (h1 : a ≤ 1048576) (hl : l.length ≤ maxLen) :
    ∃ t, laws_szIntS.f l a = some t ∧ t ≤ a ∧ (0 ≤ t → t = a - l.length ∧ l.length ≤ 1048576) := by
  unfold maxLen at hl
  unfold laws_szIntS.f
  rw [wrap_id (by omega) (by omega)]
  by_cases h : a - (l.length : Int) < 0
  · rw [if_pos h]; exact ⟨_, rfl, by omega, by omega⟩
  · rw [if_neg h]; exact ⟨_, rfl, by omega, by omega⟩

/-! laws_szTable -/
theorem laws_szTable.val (x : Int) (l m : List Int) (a : Int) (h0 : 0 ≤ a) (h1 : a ≤ 1048576) (hl : l.length ≤ maxLen) (hm : m.length ≤ maxLen) :
    ∃ t, laws_szTable.f x l m a = some t ∧ t ≤ a ∧ (0 ≤ t → l.length ≤ 1048576 ∧ m.length ≤ 1048576) := by
  obtain ⟨t, h, h2, h3⟩ := laws_szIntS.val l a h0 h1 hl
  unfold laws_szTable.f
  rw [h, Option.bind_some]
  by_cases ht : t < 0
  · rw [if_pos ht]; exact ⟨_, rfl, by omega, by omega⟩
  · obtain ⟨u, h4, h5, h6⟩ := laws_szIntS.val m t (by omega) (by omega) hm
    rw [if_neg ht, h4, Option.bind_some]
    by_cases hu : u < 0
    · rw [if_pos hu]; exact ⟨_, rfl, by omega, by omega⟩
    · rw [if_neg hu]; exact ⟨_, rfl, by omega, fun _ => ⟨(h3 (by omega)).2, (h6 (by omega)).2⟩⟩
theorem laws_szTable.sum (x : Int) (l m : List Int) (a : Int) (h0 : 0 ≤ a) (h1 : a ≤ 1048576) (hl : l.length ≤ maxLen) (hm : m.length ≤ maxLen) :
    ∃ t, laws_szTable.f x l m a = some t ∧ t ≤ a ∧ (0 ≤ t → t + ((l.length + m.length : Nat) : Int) ≤ a) := by
  obtain ⟨t, h, h2, h3⟩ := laws_szIntS.val l a h0 h1 hl
  unfold laws_szTable.f
  rw [h, Option.bind_some]
  by_cases ht : t < 0
  · rw [if_pos ht]; exact ⟨_, rfl, by omega, by omega⟩
  · obtain ⟨u, h4, h5, h6⟩ := laws_szIntS.val m t (by omega) (by omega) hm
    rw [if_neg ht, h4, Option.bind_some]
    by_cases hu : u < 0
    · rw [if_pos hu]; exact ⟨_, rfl, by omega, by omega⟩
    · rw [if_neg hu]; exact ⟨_, rfl, by omega, fun _ => by have := (h3 (by omega)).1; have := (h6 (by omega)).1; omega⟩

/-! d_fitT -/
def fitT (n : Nat) (x : S149) : Prop := x.f1.length ≤ n ∧ x.f2.length ≤ n
def fitTi (n : Nat) (x : S80) : Prop := x.f1.length ≤ n ∧ x.f2.length ≤ n

/-! d_cost -/
def tabsCost (l : List S149) : Nat := l.length + (l.map fun x => x.f1.length + x.f2.length).sum
def pieCost (x : S98) : Nat := x.f1.length + tabsCost x.f2
def progCost (l : List S98) : Nat := l.length + (l.map pieCost).sum

/-! laws_szTableS -/
theorem laws_szTableS.ev (l : List S149) (a : Int) (h0 : 0 ≤ a) (h1 : a ≤ 1048576) (hl : l.length ≤ maxLen) (hx : ∀ x ∈ l, fitT maxLen x) :
    ∃ t, Ev (fun k => laws_szTableS.f k l a) t ∧ t ≤ a ∧ (0 ≤ t → l.length ≤ 1048576 ∧ ∀ x ∈ l, fitT 1048576 x) := by
  have hl' := hl
  unfold maxLen at hl'
  by_cases h : a - (l.length : Int) < 0
  · exact ⟨-1, Ev.all fun k => by unfold laws_szTableS.f; rw [wrap_id (by omega) (by omega), if_pos h], by omega, by omega⟩
  · obtain ⟨t, ht, hle, hok⟩ := sz_loop (g := fun k a i => laws_szTableS.l0 k l a i) l z149 (fitT 1048576) (fun a => Ev.one fun k => by simp only [laws_szTableS.l0]; rw [if_neg (by omega)])
      (fun i a hi h0 h1 => by
        have hf := hx _ (getD_mem l z149 hi)
        obtain ⟨t, e, hle, hok⟩ := laws_szTable.val (l.getD i z149).f0 (l.getD i z149).f1 (l.getD i z149).f2 a h0 h1 hf.1 hf.2
        have hk : ∀ k, laws_szTableS.l0 (k + 1) l a i = if t < 0 then some (-1) else laws_szTableS.l0 k l t ((i + 1 : Nat) : Int) := fun k => by
          simp only [laws_szTableS.l0]
          rw [if_pos (by omega), if_pos (by omega), wrap_nat (by omega)]
          show (laws_szTable.f (l.getD i z149).f0 (l.getD i z149).f1 (l.getD i z149).f2 a).bind _ = _
          rw [e]; rfl
        exact ⟨t, hle, fun h => Ev.one fun k => by rw [hk, if_pos h], fun h => ⟨hok h, fun r hr => Ev.step (fun k => by rw [hk, if_neg (by omega)]) hr⟩⟩)
      (a - l.length) (by omega) (by omega)
    exact ⟨t, Ev.congr (fun k => by unfold laws_szTableS.f; rw [wrap_id (by omega) (by omega), if_neg h]) ht, by omega, fun h => ⟨by omega, hok h⟩⟩
theorem laws_szTableS.sum (l : List S149) (a : Int) (h0 : 0 ≤ a) (h1 : a ≤ 1048576) (hl : l.length ≤ maxLen) (hx : ∀ x ∈ l, fitT maxLen x) :
    ∃ t, Ev (fun k => laws_szTableS.f k l a) t ∧ t ≤ a ∧ (0 ≤ t → t + (tabsCost l : Int) ≤ a) := by
  have hl' := hl
  unfold maxLen at hl'
  by_cases h : a - (l.length : Int) < 0
  · exact ⟨-1, Ev.all fun k => by unfold laws_szTableS.f; rw [wrap_id (by omega) (by omega), if_pos h], by omega, by omega⟩
  · obtain ⟨t, ht, hle, hok⟩ := sz_sum (g := fun k a i => laws_szTableS.l0 k l a i) l z149 (fun x => x.f1.length + x.f2.length) (fun a => Ev.one fun k => by simp only [laws_szTableS.l0]; rw [if_neg (by omega)])
      (fun i a hi h0 h1 => by
        have hf := hx _ (getD_mem l z149 hi)
        obtain ⟨t, e, hle, hok⟩ := laws_szTable.sum (l.getD i z149).f0 (l.getD i z149).f1 (l.getD i z149).f2 a h0 h1 hf.1 hf.2
        have hk : ∀ k, laws_szTableS.l0 (k + 1) l a i = if t < 0 then some (-1) else laws_szTableS.l0 k l t ((i + 1 : Nat) : Int) := fun k => by
          simp only [laws_szTableS.l0]
          rw [if_pos (by omega), if_pos (by omega), wrap_nat (by omega)]
          show (laws_szTable.f (l.getD i z149).f0 (l.getD i z149).f1 (l.getD i z149).f2 a).bind _ = _
          rw [e]; rfl
        exact ⟨t, hle, fun h => Ev.one fun k => by rw [hk, if_pos h], fun h => ⟨hok h, fun r hr => Ev.step (fun k => by rw [hk, if_neg (by omega)]) hr⟩⟩)
      (a - l.length) (by omega) (by omega)
    exact ⟨t, Ev.congr (fun k => by unfold laws_szTableS.f; rw [wrap_id (by omega) (by omega), if_neg h]) ht, by omega, fun h => by have := hok h; unfold tabsCost; omega⟩

/-! d_fitP -/
def fitP (n : Nat) (x : S98) : Prop := x.f1.length ≤ n ∧ x.f2.length ≤ n ∧ ∀ t ∈ x.f2, fitT n t
def fitPi (n : Nat) (x : S103) : Prop := x.f1.length ≤ n ∧ x.f2.length ≤ n ∧ ∀ t ∈ x.f2, fitTi n t
def fitQ (n : Nat) (l : List S98) : Prop := l.length ≤ n ∧ ∀ x ∈ l, fitP n x
def fitQi (n : Nat) (l : List S103) : Prop := l.length ≤ n ∧ ∀ x ∈ l, fitPi n x

/-! laws_szPiece -/
theorem laws_szPiece.ev (x : S98) (a : Int) (h0 : 0 ≤ a) (h1 : a ≤ 1048576) (hx : fitP maxLen x) :
    ∃ t, Ev (fun k => laws_szPiece.f k x.f0.f0 x.f0.f1 x.f1 x.f2 a) t ∧ t ≤ a ∧ (0 ≤ t → fitP 1048576 x) := by
  obtain ⟨t, h, h2, h3⟩ := laws_szLinkS.val x.f1 a h0 h1 hx.1
  by_cases ht : t < 0
  · exact ⟨-1, Ev.all fun k => by unfold laws_szPiece.f; rw [h, Option.bind_some, if_pos ht], by omega, by omega⟩
  · obtain ⟨u, h4, h5, h6⟩ := laws_szTableS.ev x.f2 t (by omega) (by omega) hx.2.1 hx.2.2
    have hc : ∀ k, laws_szPiece.f k x.f0.f0 x.f0.f1 x.f1 x.f2 a = (laws_szTableS.f k x.f2 t).bind fun u => if u < 0 then some (-1) else some u := fun k => by
      unfold laws_szPiece.f
      rw [h, Option.bind_some, if_neg ht]
    by_cases hu : u < 0
    · exact ⟨-1, Ev.congr hc (Ev.bind h4 (Ev.all fun k => by rw [if_pos hu])), by omega, by omega⟩
    · exact ⟨u, Ev.congr hc (Ev.bind h4 (Ev.all fun k => by rw [if_neg hu])), by omega, fun _ => ⟨(h3 (by omega)).2, h6 (by omega)⟩⟩
theorem laws_szPiece.sum (x : S98) (a : Int) (h0 : 0 ≤ a) (h1 : a ≤ 1048576) (hx : fitP maxLen x) :
    ∃ t, Ev (fun k => laws_szPiece.f k x.f0.f0 x.f0.f1 x.f1 x.f2 a) t ∧ t ≤ a ∧ (0 ≤ t → t + (pieCost x : Int) ≤ a) := by
  obtain ⟨t, h, h2, h3⟩ := laws_szLinkS.val x.f1 a h0 h1 hx.1
  by_cases ht : t < 0
  · exact ⟨-1, Ev.all fun k => by unfold laws_szPiece.f; rw [h, Option.bind_some, if_pos ht], by omega, by omega⟩
  · obtain ⟨u, h4, h5, h6⟩ := laws_szTableS.sum x.f2 t (by omega) (by omega) hx.2.1 hx.2.2
    have hc : ∀ k, laws_szPiece.f k x.f0.f0 x.f0.f1 x.f1 x.f2 a = (laws_szTableS.f k x.f2 t).bind fun u => if u < 0 then some (-1) else some u := fun k => by
      unfold laws_szPiece.f
      rw [h, Option.bind_some, if_neg ht]
    by_cases hu : u < 0
    · exact ⟨-1, Ev.congr hc (Ev.bind h4 (Ev.all fun k => by rw [if_pos hu])), by omega, by omega⟩
    · exact ⟨u, Ev.congr hc (Ev.bind h4 (Ev.all fun k => by rw [if_neg hu])), by omega, fun _ => by have := (h3 (by omega)).1; have := h6 (by omega); unfold pieCost; omega⟩

/-! laws_szPieceS -/
theorem laws_szPieceS.ev (l : List S98) (a : Int) (h0 : 0 ≤ a) (h1 : a ≤ 1048576) (hx : fitQ maxLen l) :
    ∃ t, Ev (fun k => laws_szPieceS.f k l a) t ∧ t ≤ a ∧ (0 ≤ t → fitQ 1048576 l) := by
  obtain ⟨hl, hx⟩ := hx
  have hl' := hl
  unfold maxLen at hl'
  by_cases h : a - (l.length : Int) < 0
  · exact ⟨-1, Ev.all fun k => by unfold laws_szPieceS.f; rw [wrap_id (by omega) (by omega), if_pos h], by omega, by omega⟩
  · obtain ⟨t, ht, hle, hok⟩ := sz_loop (g := fun k a i => laws_szPieceS.l0 k l a i) l z98 (fitP 1048576) (fun a => Ev.one fun k => by simp only [laws_szPieceS.l0]; rw [if_neg (by omega)])
      (fun i a hi h0 h1 => by
        have hf := hx _ (getD_mem l z98 hi)
        obtain ⟨t, e, hle, hok⟩ := laws_szPiece.ev (l.getD i z98) a h0 h1 hf
        have hk : ∀ k, laws_szPieceS.l0 (k + 1) l a i = (laws_szPiece.f k (l.getD i z98).f0.f0 (l.getD i z98).f0.f1 (l.getD i z98).f1 (l.getD i z98).f2 a).bind fun t => if t < 0 then some (-1) else laws_szPieceS.l0 k l t ((i + 1 : Nat) : Int) := fun k => by
          simp only [laws_szPieceS.l0]
          rw [if_pos (by omega), if_pos (by omega), wrap_nat (by omega)]
          rfl
        exact ⟨t, hle, fun h => Ev.step hk (Ev.bind e (Ev.all fun k => by rw [if_pos h])), fun h => ⟨hok h, fun r hr => Ev.step hk (Ev.bind e (Ev.congr (fun k => by rw [if_neg (by omega)]) hr))⟩⟩)
      (a - l.length) (by omega) (by omega)
    exact ⟨t, Ev.congr (fun k => by unfold laws_szPieceS.f; rw [wrap_id (by omega) (by omega), if_neg h]) ht, by omega, fun h => ⟨by omega, hok h⟩⟩
theorem laws_szPieceS.sum (l : List S98) (a : Int) (h0 : 0 ≤ a) (h1 : a ≤ 1048576) (hx : fitQ maxLen l) :
    ∃ t, Ev (fun k => laws_szPieceS.f k l a) t ∧ t ≤ a ∧ (0 ≤ t → t + (progCost l : Int) ≤ a) := by
  obtain ⟨hl, hx⟩ := hx
  have hl' := hl
  unfold maxLen at hl'
  by_cases h : a - (l.length : Int) < 0
  · exact ⟨-1, Ev.all fun k => by unfold laws_szPieceS.f; rw [wrap_id (by omega) (by omega), if_pos h], by omega, by omega⟩
  · obtain ⟨t, ht, hle, hok⟩ := sz_sum (g := fun k a i => laws_szPieceS.l0 k l a i) l z98 pieCost (fun a => Ev.one fun k => by simp only [laws_szPieceS.l0]; rw [if_neg (by omega)])
      (fun i a hi h0 h1 => by
        have hf := hx _ (getD_mem l z98 hi)
        obtain ⟨t, e, hle, hok⟩ := laws_szPiece.sum (l.getD i z98) a h0 h1 hf
        have hk : ∀ k, laws_szPieceS.l0 (k + 1) l a i = (laws_szPiece.f k (l.getD i z98).f0.f0 (l.getD i z98).f0.f1 (l.getD i z98).f1 (l.getD i z98).f2 a).bind fun t => if t < 0 then some (-1) else laws_szPieceS.l0 k l t ((i + 1 : Nat) : Int) := fun k => by
          simp only [laws_szPieceS.l0]
          rw [if_pos (by omega), if_pos (by omega), wrap_nat (by omega)]
          rfl
        exact ⟨t, hle, fun h => Ev.step hk (Ev.bind e (Ev.all fun k => by rw [if_pos h])), fun h => ⟨hok h, fun r hr => Ev.step hk (Ev.bind e (Ev.congr (fun k => by rw [if_neg (by omega)]) hr))⟩⟩)
      (a - l.length) (by omega) (by omega)
    exact ⟨t, Ev.congr (fun k => by unfold laws_szPieceS.f; rw [wrap_id (by omega) (by omega), if_neg h]) ht, by omega, fun h => by have := hok h; unfold progCost; omega⟩

/-! laws_szProgram -/
theorem laws_szProgram.ev (x y z : Int) (l : List S98) (a : Int) (h0 : 0 ≤ a) (h1 : a ≤ 1048576) (hx : fitQ maxLen l) :
    ∃ t, Ev (fun k => laws_szProgram.f k x y z l a) t ∧ t ≤ a ∧ (0 ≤ t → fitQ 1048576 l) := by
  obtain ⟨t, h, h2, h3⟩ := laws_szPieceS.ev l a h0 h1 hx
  by_cases ht : t < 0
  · exact ⟨-1, Ev.bind h (Ev.all fun k => by rw [if_pos ht]), by omega, by omega⟩
  · exact ⟨t, Ev.bind h (Ev.all fun k => by rw [if_neg ht]), h2, h3⟩
theorem laws_szProgram.sum (x y z : Int) (l : List S98) (a : Int) (h0 : 0 ≤ a) (h1 : a ≤ 1048576) (hx : fitQ maxLen l) :
    ∃ t, Ev (fun k => laws_szProgram.f k x y z l a) t ∧ t ≤ a ∧ (0 ≤ t → t + (progCost l : Int) ≤ a ∧ fitQ 1048576 l) := by
  obtain ⟨t, h, h2, h3⟩ := laws_szPieceS.sum l a h0 h1 hx
  obtain ⟨t', h', _, h3'⟩ := laws_szPieceS.ev l a h0 h1 hx
  have := Ev.uniq h h'
  subst this
  by_cases ht : t < 0
  · exact ⟨-1, Ev.bind h (Ev.all fun k => by rw [if_pos ht]), by omega, by omega⟩
  · exact ⟨t, Ev.bind h (Ev.all fun k => by rw [if_neg ht]), h2, fun h => ⟨h3 h, h3' h⟩⟩

/-! laws_toLinkS -/
def cLink (x : S151) : S123 := ⟨x.f0, x.f1⟩
theorem laws_toLinkS.ev_l (l : List S151) (hl : l.length ≤ 1048576) : ∀ (d i : Nat) (o : List S123), i + d = l.length → o.length = l.length → o.take i = (l.map cLink).take i → Ev (fun k => laws_toLinkS.l0 k l o i) (l.map cLink) := by
  intro d
  induction d with
  | zero =>
    intro i o hi ho ht
    refine Ev.one fun k => ?_
    simp only [laws_toLinkS.l0]
    rw [if_neg (by omega), take_full (by simpa using ho) (by simp; omega) ht]
  | succ d ih =>
    intro i o hi ho ht
    refine Ev.step (fun k => ?_) (ih (i + 1) (o.set i (cLink (l.getD i z151))) (by omega) (by simp [ho]) (set_take o _ _ (by simpa using ho) (get_map cLink l z151 (by omega)) ht))
    simp only [laws_toLinkS.l0, laws_toLink.f, Option.bind_some]
    rw [if_pos (by omega), if_pos (by omega), if_pos (by omega), wrap_nat (by omega)]
    rfl
theorem laws_toLinkS.ev (l : List S151) (hl : l.length ≤ 1048576) : Ev (fun k => laws_toLinkS.f k l) (l.map cLink) :=
  Ev.congr (fun k => by unfold laws_toLinkS.f; rw [if_pos (by omega), if_pos (by omega)] <;> rfl) (laws_toLinkS.ev_l l hl l.length 0 _ (by omega) (by simp) (by simp))

/-! laws_toIntS -/
theorem laws_toIntS.ev_l (l : List Int) (hl : l.length ≤ 1048576) : ∀ (d i : Nat) (o : List Int), i + d = l.length → o.length = l.length → o.take i = l.take i → Ev (fun k => laws_toIntS.l0 k l o i) l := by
  intro d
  induction d with
  | zero =>
    intro i o hi ho ht
    refine Ev.one fun k => ?_
    simp only [laws_toIntS.l0]
    rw [if_neg (by omega), take_full ho (by omega) ht]
  | succ d ih =>
    intro i o hi ho ht
    refine Ev.step (fun k => ?_) (ih (i + 1) (o.set i (l.getD i 0)) (by omega) (by simp [ho]) (set_take o l _ ho (get_of l 0 (by omega)) ht))
    simp only [laws_toIntS.l0]
    rw [if_pos (by omega), if_pos (by omega), if_pos (by omega), wrap_nat (by omega)]
    rfl
theorem laws_toIntS.ev (l : List Int) (hl : l.length ≤ 1048576) : Ev (fun k => laws_toIntS.f k l) l :=
  Ev.congr (fun k => by unfold laws_toIntS.f; rw [if_pos (by omega), if_pos (by omega)] <;> rfl) (laws_toIntS.ev_l l hl l.length 0 _ (by omega) (by simp) (by simp))

/-! laws_toTable -/
theorem laws_toTable.ev (x : Int) (l m : List Int) (hl : l.length ≤ 1048576) (hm : m.length ≤ 1048576) : Ev (fun k => laws_toTable.f k x l m) (x, l, m) :=
  Ev.bind (laws_toIntS.ev l hl) (Ev.bind (laws_toIntS.ev m hm) (Ev.now _))

/-! d_cTable -/
def cTable (x : S149) : S80 := ⟨x.f0, x.f1, x.f2⟩

/-! laws_toTableS -/
theorem laws_toTableS.ev (l : List S149) (hl : l.length ≤ 1048576) (hx : ∀ x ∈ l, fitT 1048576 x) : Ev (fun k => laws_toTableS.f k l) (l.map cTable) := by
  refine Ev.congr (fun k => by unfold laws_toTableS.f; rw [if_pos (by omega), if_pos (by omega)] <;> rfl) (to_loop (g := fun k o i => laws_toTableS.l0 k l o i) l z149 cTable (fun o => Ev.one fun k => by simp only [laws_toTableS.l0]; rw [if_neg (by omega)]) (fun i o hi ho r hr => ?_) _ (by simp))
  have hf := hx _ (getD_mem l z149 hi)
  refine Ev.step (fun k => by simp only [laws_toTableS.l0]; rw [if_pos (by omega), if_pos (by omega), wrap_nat (by omega)]; rfl) (Ev.bind (laws_toTable.ev (l.getD i z149).f0 (l.getD i z149).f1 (l.getD i z149).f2 hf.1 hf.2) ?_)
  exact Ev.congr (fun k => by rw [if_pos (by omega)]; rfl) hr

/-! d_cPiece -/
def cPiece (x : S98) : S103 := ⟨⟨x.f0.f0, x.f0.f1⟩, x.f1.map cLink, x.f2.map cTable⟩

/-! laws_toPiece -/
theorem laws_toPiece.ev (x : S98) (hx : fitP 1048576 x) : Ev (fun k => laws_toPiece.f k x.f0.f0 x.f0.f1 x.f1 x.f2) (x.f0.f0, x.f0.f1, x.f1.map cLink, x.f2.map cTable) := by
  refine Ev.congr (fun k => by unfold laws_toPiece.f; rw [laws_toSpan.f, Option.bind_some]) ?_
  exact Ev.bind (laws_toLinkS.ev x.f1 hx.1) (Ev.bind (laws_toTableS.ev x.f2 hx.2.1 hx.2.2) (Ev.now _))

/-! laws_toPieceS -/
theorem laws_toPieceS.ev (l : List S98) (hx : fitQ 1048576 l) : Ev (fun k => laws_toPieceS.f k l) (l.map cPiece) := by
  obtain ⟨hl, hx⟩ := hx
  refine Ev.congr (fun k => by unfold laws_toPieceS.f; rw [if_pos (by omega), if_pos (by omega)] <;> rfl) (to_loop (g := fun k o i => laws_toPieceS.l0 k l o i) l z98 cPiece (fun o => Ev.one fun k => by simp only [laws_toPieceS.l0]; rw [if_neg (by omega)]) (fun i o hi ho r hr => ?_) _ (by simp))
  have hf := hx _ (getD_mem l z98 hi)
  refine Ev.step (fun k => by simp only [laws_toPieceS.l0]; rw [if_pos (by omega), if_pos (by omega), wrap_nat (by omega)]; rfl) (Ev.bind (laws_toPiece.ev (l.getD i z98) hf) ?_)
  exact Ev.congr (fun k => by rw [if_pos (by omega)]; rfl) hr

/-! laws_toProgram -/
theorem laws_toProgram.ev (x y z : Int) (l : List S98) (hx : fitQ 1048576 l) : Ev (fun k => laws_toProgram.f k x y z l) (x, y, z, l.map cPiece) := Ev.bind (laws_toPieceS.ev l hx) (Ev.now _)

/-! laws_eqSpan -/
theorem laws_eqSpan.val (a b : Int) : laws_eqSpan.f a b a b = some true := by
  unfold laws_eqSpan.f
  simp

/-! laws_eqLink -/
theorem laws_eqLink.val (x : S123) : laws_eqLink.f x.f0 x.f1 x.f0 x.f1 = some true := by
  unfold laws_eqLink.f
  simp

/-! laws_eqLinkS -/
theorem laws_eqLinkS.ev_l (l : List S123) (hl : l.length ≤ 1048576) : ∀ (d i : Nat), i + d = l.length → Ev (fun k => laws_eqLinkS.l0 k l l i) true := by
  intro d
  induction d with
  | zero => intro i hi; refine Ev.one fun k => ?_; simp only [laws_eqLinkS.l0]; rw [if_neg (by omega)]
  | succ d ih =>
    intro i hi
    refine Ev.step (fun k => ?_) (ih (i + 1) (by omega))
    simp only [laws_eqLinkS.l0, laws_eqLink.val, Option.bind_some]
    rw [if_pos (by omega), if_pos (by omega), if_pos (by omega), if_pos trivial, wrap_nat (by omega)]
theorem laws_eqLinkS.ev (l : List S123) (hl : l.length ≤ 1048576) : Ev (fun k => laws_eqLinkS.f k l l) true :=
  Ev.congr (fun k => by unfold laws_eqLinkS.f; rw [if_pos rfl] <;> rfl) (laws_eqLinkS.ev_l l hl l.length 0 (by omega))

/-! laws_eqIntS -/
theorem laws_eqIntS.ev_l (l : List Int) (hl : l.length ≤ 1048576) : ∀ (d i : Nat), i + d = l.length → Ev (fun k => laws_eqIntS.l0 k l l i) true := by
  intro d
  induction d with
  | zero => intro i hi; refine Ev.one fun k => ?_; simp only [laws_eqIntS.l0]; rw [if_neg (by omega)]
  | succ d ih =>
    intro i hi
    refine Ev.step (fun k => ?_) (ih (i + 1) (by omega))
    simp only [laws_eqIntS.l0]
    rw [if_pos (by omega), if_pos (by omega), if_pos (by omega), if_pos trivial, wrap_nat (by omega)]
theorem laws_eqIntS.ev (l : List Int) (hl : l.length ≤ 1048576) : Ev (fun k => laws_eqIntS.f k l l) true :=
  Ev.congr (fun k => by unfold laws_eqIntS.f; rw [if_pos rfl] <;> rfl) (laws_eqIntS.ev_l l hl l.length 0 (by omega))
theorem laws_eqIntS.ev' (l : List Int) (hl : l.length ≤ 4000000) : Ev (fun k => laws_eqIntS.f k l l) true := by
  refine Ev.congr (fun k => by unfold laws_eqIntS.f; rw [if_pos rfl]) (all_loop (g := fun k i => laws_eqIntS.l0 k l l i) l.length (Ev.one fun k => by simp only [laws_eqIntS.l0]; rw [if_neg (by omega)]) (fun i hi r hr => Ev.step (fun k => ?_) hr))
  simp only [laws_eqIntS.l0]
  rw [if_pos (by omega), if_pos (by omega), if_pos (by omega), if_pos trivial, wrap_nat (by omega)]

/-! laws_eqTable -/
theorem laws_eqTable.ev (x : Int) (l m : List Int) (hl : l.length ≤ 1048576) (hm : m.length ≤ 1048576) : Ev (fun k => laws_eqTable.f k x l m x l m) true := by
  refine Ev.congr (fun k => by unfold laws_eqTable.f; rw [if_pos rfl]) (Ev.bind (laws_eqIntS.ev l hl) ?_)
  exact Ev.congr (fun k => by rw [if_pos rfl]) (Ev.bindT (laws_eqIntS.ev m hm))

/-! laws_eqTableS -/
theorem laws_eqTableS.ev (l : List S80) (hl : l.length ≤ 1048576) (hx : ∀ x ∈ l, fitTi 1048576 x) : Ev (fun k => laws_eqTableS.f k l l) true := by
  refine Ev.congr (fun k => by unfold laws_eqTableS.f; rw [if_pos rfl]) (all_loop (g := fun k i => laws_eqTableS.l0 k l l i) l.length (Ev.one fun k => by simp only [laws_eqTableS.l0]; rw [if_neg (by omega)]) (fun i hi r hr => ?_))
  have hf := hx _ (getD_mem l z80 hi)
  refine Ev.step (fun k => by simp only [laws_eqTableS.l0]; rw [if_pos (by omega), if_pos (by omega), if_pos (by omega), wrap_nat (by omega)]; rfl) (Ev.bind (laws_eqTable.ev (l.getD i z80).f0 (l.getD i z80).f1 (l.getD i z80).f2 hf.1 hf.2) ?_)
  exact Ev.congr (fun k => by rw [if_pos rfl]) hr

/-! laws_eqPiece -/
theorem laws_eqPiece.ev (x : S103) (hx : fitPi 1048576 x) : Ev (fun k => laws_eqPiece.f k x.f0.f0 x.f0.f1 x.f1 x.f2 x.f0.f0 x.f0.f1 x.f1 x.f2) true := by
  refine Ev.congr (fun k => by unfold laws_eqPiece.f; rw [laws_eqSpan.val, Option.bind_some, if_pos rfl]) (Ev.bind (laws_eqLinkS.ev x.f1 hx.1) ?_)
  exact Ev.congr (fun k => by rw [if_pos rfl]) (Ev.bindT (laws_eqTableS.ev x.f2 hx.2.1 hx.2.2))

/-! laws_eqPieceS -/
theorem laws_eqPieceS.ev (l : List S103) (hx : fitQi 1048576 l) : Ev (fun k => laws_eqPieceS.f k l l) true := by
  obtain ⟨hl, hx⟩ := hx
  refine Ev.congr (fun k => by unfold laws_eqPieceS.f; rw [if_pos rfl]) (all_loop (g := fun k i => laws_eqPieceS.l0 k l l i) l.length (Ev.one fun k => by simp only [laws_eqPieceS.l0]; rw [if_neg (by omega)]) (fun i hi r hr => ?_))
  have hf := hx _ (getD_mem l z103 hi)
  refine Ev.step (fun k => by simp only [laws_eqPieceS.l0]; rw [if_pos (by omega), if_pos (by omega), if_pos (by omega), wrap_nat (by omega)]; rfl) (Ev.bind (laws_eqPiece.ev (l.getD i z103) hf) ?_)
  exact Ev.congr (fun k => by rw [if_pos rfl]) hr

/-! laws_eqProgram -/
theorem laws_eqProgram.ev (x y z : Int) (l : List S103) (hx : fitQi 1048576 l) : Ev (fun k => laws_eqProgram.f k x y z l x y z l) true := by
  refine Ev.congr (fun k => by unfold laws_eqProgram.f; rw [if_pos rfl, if_pos rfl, if_pos rfl]) (Ev.bindT (laws_eqPieceS.ev l hx))

/-! laws_markIntS -/
theorem laws_markIntS.ev_l (a : Int) (n : Nat) (h0 : 0 ≤ a) (h1 : a + n ≤ 4611686018427387904) : ∀ (d i : Nat) (o : List Int), i + d = n → o.length = n → o.take i = (marks a n).take i →
    Ev (fun k => laws_markIntS.l0 k o (a + i) i) (a + n, marks a n) := by
  intro d
  induction d with
  | zero =>
    intro i o hi ho ht
    refine Ev.one fun k => ?_
    simp only [laws_markIntS.l0]
    rw [if_neg (by omega), take_full (by rw [marks_length]; exact ho) (by rw [marks_length]; omega) ht, show i = n by omega]
  | succ d ih =>
    intro i o hi ho ht
    refine Ev.step (fun k => ?_) (ih (i + 1) (o.set i (a + i)) (by omega) (by simp [ho]) (set_take o _ _ (by rw [marks_length]; exact ho) (marks_get a n i (by omega)) ht))
    simp only [laws_markIntS.l0]
    rw [if_pos (by omega), if_pos (by omega), wrap_nat (by omega), wrap_id (by omega) (by omega)]
    rw [show a + (i : Int) + 1 = a + ((i + 1 : Nat) : Int) by omega]
    rfl
theorem laws_markIntS.ev (l : List Int) (a : Int) (h0 : 0 ≤ a) (h1 : a + l.length ≤ 4611686018427387904) : Ev (fun k => laws_markIntS.f k l a) (a + l.length, marks a l.length) := by
  have := laws_markIntS.ev_l a l.length h0 h1 l.length 0 l (by omega) rfl (by simp)
  rw [show a + ((0 : Nat) : Int) = a by omega] at this
  exact this

/-! laws_markLinkS -/
def mkLink (a : Int) (j : Nat) : S123 := ⟨a + 2 * (j : Int), a + 2 * (j : Int) + 1⟩
def marksLink (a : Int) (n : Nat) : List S123 := (List.range n).map (mkLink a)
theorem marksLink_length (a : Int) (n : Nat) : (marksLink a n).length = n := by simp [marksLink]
theorem marksLink_get (a : Int) (n i : Nat) (h : i < n) : (marksLink a n)[i]? = some (mkLink a i) := by simp [marksLink, h]
theorem marksLink_getD (a : Int) (n i : Nat) (h : i < n) : (marksLink a n).getD i z123 = mkLink a i := by rw [List.getD_eq_getElem?_getD, marksLink_get a n i h]; rfl
theorem laws_markLinkS.ev_l (a : Int) (n : Nat) (h0 : 0 ≤ a) (h1 : a + 2 * n ≤ 4611686018427387904) : ∀ (d i : Nat) (o : List S123), i + d = n → o.length = n → o.take i = (marksLink a n).take i →
    Ev (fun k => laws_markLinkS.l0 k o (a + 2 * (i : Int)) i) (a + 2 * (n : Int), marksLink a n) := by
  intro d
  induction d with
  | zero =>
    intro i o hi ho ht
    refine Ev.one fun k => ?_
    simp only [laws_markLinkS.l0]
    rw [if_neg (by omega), take_full (by rw [marksLink_length]; exact ho) (by rw [marksLink_length]; omega) ht, show i = n by omega]
  | succ d ih =>
    intro i o hi ho ht
    refine Ev.step (fun k => ?_) (ih (i + 1) (o.set i (mkLink a i)) (by omega) (by simp [ho]) (set_take o _ _ (by rw [marksLink_length]; exact ho) (marksLink_get a n i (by omega)) ht))
    have e : ∀ v, rd_T123 (o.set i v) (i : Int) = v := fun v => getD_set_self o _ v (by omega)
    simp only [laws_markLinkS.l0, Option.bind_some, Int.toNat_natCast, e, List.set_set]
    rw [if_pos (by omega), if_pos (by omega), wrap_nat (by omega)]
    rw [wrap_id (x := a + 2 * (i : Int) + 1) (by omega) (by omega)]
    rw [wrap_id (x := a + 2 * (i : Int) + 1 + 1) (by omega) (by omega)]
    rw [show a + 2 * (i : Int) + 1 + 1 = a + 2 * ((i + 1 : Nat) : Int) by omega]
    rfl
theorem laws_markLinkS.ev (l : List S123) (a : Int) (h0 : 0 ≤ a) (h1 : a ≤ 4000000000) (hl : l.length ≤ 1048576) : Ev (fun k => laws_markLinkS.f k l a) (a + 2 * (l.length : Int), marksLink a l.length) := by
  have := laws_markLinkS.ev_l a l.length h0 (by omega) l.length 0 l (by omega) rfl (by simp)
  rw [show a + 2 * ((0 : Nat) : Int) = a by omega] at this
  exact this

/-! laws_markProgram -/
theorem laws_markProgram.val (x y z : Int) (p : List S103) (a : Int) (h0 : 0 ≤ a) (h : a + (pieSize_ (pieShape_ p) : Int) ≤ 4000000000) : laws_markProgram.f x y z p a = some (a + (pieSize_ (pieShape_ p) : Int)) := if_pos ⟨h0, h⟩
theorem tab_cost : ∀ l : List S149, tabSize_ (tabShape_ (l.map cTable)) = tabsCost l
  | [] => rfl
  | x :: l => by
    have := tab_cost l
    unfold tabSize_ tabShape_ tabsCost at this ⊢
    simp only [List.map_cons, List.sum_cons, List.length_cons, cTable] at this ⊢
    omega
theorem pie_cost : ∀ l : List S98, pieSize_ (pieShape_ (l.map cPiece)) ≤ 2 * progCost l
  | [] => Nat.le_refl _
  | x :: l => by
    have h := pie_cost l
    have h2 := tab_cost x.f2
    unfold pieSize_ pieShape_ progCost at h ⊢
    simp only [List.map_cons, List.sum_cons, List.length_cons, cPiece, List.length_map] at h ⊢
    rw [h2, show pieCost x = x.f1.length + tabsCost x.f2 from rfl]
    omega

/-! spec_l1In -/
theorem spec_l1In.val (a lo hi : Int) : spec_l1In.f a lo hi = some (inR a lo hi) := by
  unfold spec_l1In.f inR
  by_cases h : a ≥ lo
  · rw [if_pos h]; simp [h]
  · rw [if_neg h]; simp; omega

/-! d_hasLink -/
def linkQ (a b : Int) (x : S123) : Bool := (x.f0 == a) && (x.f1 == b) || (x.f0 == b) && (x.f1 == a)
def hasLink (p : List S103) (k a b : Int) : Bool := idxB k p.length && (rd_T103 p k).f1.any (linkQ a b)
theorem fit_links {n : Nat} {p : List S103} (hp : fitQi n p) {k : Int} (hk : idxB k p.length = true) : (rd_T103 p k).f1.length ≤ n := by
  obtain ⟨h0, h1⟩ := (idxB_iff _ _).1 hk
  exact (hp.2 _ (getD_mem p z103 (show k.toNat < p.length by omega))).1

/-! spec_HasLink -/
theorem spec_HasLink.ev (x y z : Int) (p : List S103) (kk a b : Int) (hp : fitQi 1048576 p) : Ev (fun k => spec_HasLink.f k x y z p kk a b) (hasLink p kk a b) := by
  refine Ev.congr (fun k => by unfold spec_HasLink.f; rw [spec_l1In.val, Option.bind_some, inR_idx _ _ hp.1]) ?_
  unfold hasLink
  by_cases h : idxB kk p.length = true
  · have hl := fit_links hp h
    obtain ⟨h0, h1⟩ := (idxB_iff _ _).1 h
    rw [h, Bool.true_and]
    refine Ev.congr (fun k => by rw [if_pos rfl, if_pos h0, if_pos h1]) ?_
    generalize (rd_T103 p kk).f1 = l at hl
    have h := find_list (g := fun k i => spec_HasLink.l0 k a b l i) (q := linkQ a b) (r := true) (e := false) l z123
      (Ev.one fun k => by simp only [spec_HasLink.l0]; rw [if_neg (by omega)])
      (fun i k hi => by
        simp only [spec_HasLink.l0]
        rw [if_pos (by omega), if_pos (by omega), wrap_nat (by omega)]
        show (if ((l.getD i z123).f0 == a && (l.getD i z123).f1 == b) = true then _ else (if ((l.getD i z123).f0 == b && (l.getD i z123).f1 == a) = true then _ else _)) = _
        generalize l.getD i z123 = u
        unfold linkQ
        by_cases h1 : ((u.f0 == a) && (u.f1 == b)) = true
        · rw [if_pos h1, h1, Bool.true_or, if_pos rfl]
        · have h1' : ((u.f0 == a) && (u.f1 == b)) = false := by simpa using h1
          rw [if_neg h1, h1', Bool.false_or])
    rw [ite_bool] at h
    exact h
  · have : idxB kk p.length = false := by simpa using h
    rw [this, Bool.false_and]
    exact Ev.all fun k => by rw [if_neg (by simp)]

/-! d_isSpan -/
def isSpan (a b : Int) : Bool := decide (0 ≤ a) && decide (b ≤ 1000) && decide (a < b)

/-! spec_IsSpan -/
theorem spec_IsSpan.val (a b : Int) : spec_IsSpan.f a b = some (isSpan a b) := by
  unfold spec_IsSpan.f isSpan
  by_cases h : a ≥ 0
  · rw [if_pos h]
    by_cases h2 : b ≤ 1000
    · rw [if_pos h2]; simp [h, h2]
    · rw [if_neg h2]; simp; omega
  · rw [if_neg h]; simp; omega

/-! d_inSpan -/
def inSpan (a b t : Int) : Bool := isSpan a b && decide (a ≤ t) && decide (t < b)

/-! spec_InSpan -/
theorem spec_InSpan.val (a b t : Int) : spec_InSpan.f a b t = some (inSpan a b t) := by
  unfold spec_InSpan.f inSpan
  rw [spec_IsSpan.val, Option.bind_some]
  by_cases h : isSpan a b = true
  · rw [if_pos h]
    by_cases h2 : a ≤ t
    · rw [if_pos h2]; simp [h, h2]
    · rw [if_neg h2]; simp; omega
  · rw [if_neg h]; simp [h]

/-! d_pieceAt -/
def pieceAt (p : List S103) (t : Int) : Int := firstAt (fun x => inSpan x.f0.f0 x.f0.f1 t) p 0

/-! spec_PieceAt -/
theorem spec_PieceAt.ev (a b c : Int) (p : List S103) (t : Int) (hl : p.length ≤ 1048576) : Ev (fun k => spec_PieceAt.f k a b c p t) (pieceAt p t) := by
  have : ∀ d i : Nat, i + d = p.length → Ev (fun k => spec_PieceAt.l0 k t i a b c p) (firstAt (fun x => inSpan x.f0.f0 x.f0.f1 t) (p.drop i) i) := by
    intro d
    induction d with
    | zero =>
      intro i hi
      rw [List.drop_eq_nil_of_le (by omega)]
      exact Ev.one fun k => by simp only [spec_PieceAt.l0]; rw [if_neg (by omega)]; rfl
    | succ d ih =>
      intro i hi
      rw [drop_cons p z103 (show i < p.length by omega), firstAt]
      have hk : ∀ k, spec_PieceAt.l0 (k + 1) t i a b c p = if inSpan (p.getD i z103).f0.f0 (p.getD i z103).f0.f1 t = true then some (i : Int) else spec_PieceAt.l0 k t ((i + 1 : Nat) : Int) a b c p := fun k => by
        simp only [spec_PieceAt.l0, spec_InSpan.val, Option.bind_some]
        rw [if_pos (by omega), if_pos (by omega), wrap_nat (by omega)]
        rfl
      by_cases h : inSpan (p.getD i z103).f0.f0 (p.getD i z103).f0.f1 t = true
      · rw [if_pos h]
        exact Ev.one fun k => by rw [hk, if_pos h]
      · rw [if_neg h]
        exact Ev.step (fun k => by rw [hk, if_neg h]) (ih (i + 1) (by omega))
  exact this p.length 0 (by omega)

/-! spec_IsLinked -/
theorem spec_IsLinked.ev (x y z : Int) (p : List S103) (a b t : Int) (hp : fitQi 1048576 p) : Ev (fun k => spec_IsLinked.f k x y z p a b t) (hasLink p (pieceAt p t) a b) :=
  Ev.bind (spec_PieceAt.ev x y z p t hp.1) (Ev.bind (spec_HasLink.ev x y z p _ a b hp) (Ev.now _))

/-! d_reach -/
def stepB (p : List S103) (t a : Int) (b : Nat) (M : List Int) : List Int := if rd M ((b : Nat) : Int) < 0 then (if hasLink p (pieceAt p t) a ((b : Nat) : Int) = true then M.set b (t + 1) else M) else M
def rowB (p : List S103) (n : Nat) (t a : Int) (M : List Int) : List Int := (List.range' 0 n).foldl (fun M b => stepB p t a b M) M
def goesOn (first src : Int) (O : List Int) (a : Nat) : Bool := decide (rd O ((a : Nat) : Int) ≥ 0) && (decide (((a : Nat) : Int) < first) || (((a : Nat) : Int) == src))
def stepA (p : List S103) (n : Nat) (first src t : Int) (O : List Int) (a : Nat) (M : List Int) : List Int := if goesOn first src O a = true then rowB p n t ((a : Nat) : Int) M else M
def tick (p : List S103) (n : Nat) (first src t : Int) (O : List Int) : List Int := (List.range' 0 n).foldl (fun M a => stepA p n first src t O a M) O
def reachT (p : List S103) (n : Nat) (first src : Int) : Nat → Int → List Int → List Int
  | 0, _, O => O
  | d + 1, t, O => reachT p n first src d (t + 1) (tick p n first src t O)
def reachFrom (p : List S103) (x first src a b : Int) : List Int :=
  if inR x 1 12 = true ∧ idxB src x.toNat = true ∧ ¬ a < 0 ∧ ¬ b > 1000 then reachT p x.toNat first src (b - a).toNat a ((List.replicate x.toNat (-1)).set src.toNat a) else []
theorem stepB_len (p : List S103) (t a : Int) (b : Nat) (M : List Int) : (stepB p t a b M).length = M.length := by
  unfold stepB
  split
  · split
    · exact List.length_set
    · rfl
  · rfl
theorem rd_set {M : List Int} {i j : Nat} {v : Int} (hj : j < M.length) : rd (M.set j v) ((i : Nat) : Int) = if i = j then v else rd M ((i : Nat) : Int) := by
  rw [rd_nat, rd_nat]
  by_cases h : i = j
  · rw [if_pos h, h]
    exact getD_set_self M 0 v hj
  · rw [if_neg h, List.getD_eq_getElem?_getD, List.getD_eq_getElem?_getD, List.getElem?_set_ne (by omega)]
/-- What stands in a round's list, next to what stood there when the round began. -/
def InT (n : Nat) (t : Int) (O M : List Int) : Prop := M.length = n ∧ O.length = n ∧ ∀ a : Nat, a < n → rd O a ≤ t ∧ (rd O a ≥ 0 → rd M a = rd O a) ∧ (rd O a < 0 → rd O a = -1 ∧ (rd M a = -1 ∨ rd M a = t + 1))
theorem InT.step {n : Nat} {t : Int} {O M : List Int} (h : InT n t O M) (ht : 0 ≤ t) (p : List S103) (a : Int) (b : Nat) (hb : b < n) : InT n t O (stepB p t a b M) := by
  obtain ⟨h1, h2, h3⟩ := h
  refine ⟨by rw [stepB_len]; exact h1, h2, fun i hi => ?_⟩
  have hi3 := h3 i hi
  refine ⟨hi3.1, ?_⟩
  unfold stepB
  split
  · rename_i hM
    split
    · rw [rd_set (by omega)]
      by_cases e : i = b
      · subst e
        rw [if_pos rfl]
        refine ⟨fun h => ?_, fun h => ⟨(hi3.2.2 h).1, Or.inr rfl⟩⟩
        have := hi3.2.1 h
        omega
      · rw [if_neg e]
        exact hi3.2
    · exact hi3.2
  · exact hi3.2
theorem InT.row {n : Nat} {t : Int} {O : List Int} (ht : 0 ≤ t) (p : List S103) (a : Int) : ∀ (d i : Nat) (M : List Int), i + d ≤ n → InT n t O M → InT n t O ((List.range' i d).foldl (fun M b => stepB p t a b M) M) := by
  intro d
  induction d with
  | zero => intro i M _ h; exact h
  | succ d ih =>
    intro i M hi h
    rw [List.range'_succ, List.foldl_cons]
    exact ih (i + 1) _ (by omega) (h.step ht p a i (by omega))
theorem InT.rows {n : Nat} {t : Int} {O : List Int} (ht : 0 ≤ t) (p : List S103) (first src : Int) : ∀ (d i : Nat) (M : List Int), i + d ≤ n → InT n t O M → InT n t O ((List.range' i d).foldl (fun M a => stepA p n first src t O a M) M) := by
  intro d
  induction d with
  | zero => intro i M _ h; exact h
  | succ d ih =>
    intro i M hi h
    rw [List.range'_succ, List.foldl_cons]
    refine ih (i + 1) _ (by omega) ?_
    unfold stepA
    split
    · exact InT.row ht p _ n 0 M (by omega) h
    · exact h
theorem InT.start {n : Nat} {t : Int} {O : List Int} (hl : O.length = n) (h : ∀ a : Nat, a < n → rd O a ≤ t ∧ (rd O a < 0 → rd O a = -1)) : InT n t O O :=
  ⟨hl, hl, fun a ha => ⟨(h a ha).1, fun _ => rfl, fun h0 => ⟨(h a ha).2 h0, Or.inl ((h a ha).2 h0)⟩⟩⟩
/-- A list before a round. -/
def Old (n : Nat) (t : Int) (O : List Int) : Prop := O.length = n ∧ ∀ a : Nat, a < n → rd O a ≤ t ∧ (rd O a < 0 → rd O a = -1)
theorem InT.old {n : Nat} {t : Int} {O M : List Int} (ht : 0 ≤ t) (h : InT n t O M) : Old n (t + 1) M := by
  refine ⟨h.1, fun a ha => ?_⟩
  obtain ⟨h1, h2, h3⟩ := h.2.2 a ha
  by_cases h0 : rd O a ≥ 0
  · rw [h2 h0]
    exact ⟨by omega, by omega⟩
  · rcases (h3 (by omega)).2 with e | e <;> rw [e] <;> exact ⟨by omega, by omega⟩
theorem Old.tick {n : Nat} {t : Int} {O : List Int} (ht : 0 ≤ t) (h : Old n t O) (p : List S103) (first src : Int) : Old n (t + 1) (tick p n first src t O) :=
  (InT.rows ht p first src n 0 O (by omega) (InT.start h.1 h.2)).old ht
theorem Old.reach {n : Nat} (p : List S103) (first src : Int) : ∀ (d : Nat) (t : Int) (O : List Int), 0 ≤ t → Old n t O → Old n (t + d) (reachT p n first src d t O)
  | 0, t, O, _, h => by rw [show t + ((0 : Nat) : Int) = t by omega]; exact h
  | d + 1, t, O, ht, h => by
    rw [show t + ((d + 1 : Nat) : Int) = (t + 1) + (d : Nat) by omega]
    exact Old.reach p first src d (t + 1) _ (by omega) (h.tick ht p first src)
theorem Old.init {n : Nat} {src a : Int} (h : idxB src n = true) (ha : 0 ≤ a) : Old n a ((List.replicate n (-1)).set src.toNat a) := by
  obtain ⟨h0, h1⟩ := (idxB_iff _ _).1 h
  refine ⟨by simp, fun i hi => ?_⟩
  rw [rd_set (by simp; omega)]
  split
  · exact ⟨by omega, by omega⟩
  · have : rd (List.replicate n (-1)) ((i : Nat) : Int) = -1 := by
      rw [rd_nat, List.getD_eq_getElem?_getD, List.getElem?_replicate, if_pos hi]; rfl
    rw [this]
    exact ⟨by omega, fun _ => rfl⟩
theorem reach_len (p : List S103) (x first src a b : Int) : (reachFrom p x first src a b).length ≤ 12 := by
  unfold reachFrom
  split
  · rename_i h
    have hb : 1 ≤ x ∧ x ≤ 12 := by simpa [inR] using h.1
    have := (Old.reach p first src (b - a).toNat a _ (by omega) (Old.init h.2.1 (by omega))).1
    omega
  · simp
theorem fill_ev {g : Nat → List Int → Int → Option (List Int)} (n : Nat) {R : List Int} (hstep : ∀ (i : Nat) o, i < n → o.length = i → ∀ r, Ev (fun k => g k (o ++ [-1]) ((i + 1 : Nat) : Int)) r → Ev (fun k => g k o i) r) (hend : Ev (fun k => g k (List.replicate n (-1)) n) R) : Ev (fun k => g k [] 0) R := by
  have : ∀ d i : Nat, i + d = n → Ev (fun k => g k (List.replicate i (-1)) i) R := by
    intro d
    induction d with
    | zero =>
      intro i hi
      have : i = n := by omega
      rw [this]; exact hend
    | succ d ih =>
      intro i hi
      refine hstep i _ (by omega) (by simp) R ?_
      have := ih (i + 1) (by omega)
      rw [List.replicate_succ'] at this
      exact this
  exact this n 0 (by omega)

/-! spec_ReachFrom -/
theorem spec_ReachFrom.ticks (x first z src b : Int) (p : List S103) (hp : fitQi 1048576 p) (hx : 1 ≤ x ∧ x ≤ 12) (hb : b ≤ 1000) : ∀ (d : Nat) (t : Int) (O : List Int), d = (b - t).toNat → 0 ≤ t → Old x.toNat t O → Ev (fun k => spec_ReachFrom.l1 k src b O t x first z p) (reachT p x.toNat first src d t O) := by
  intro d
  induction d with
  | zero =>
    intro t O hd ht hO
    exact Ev.one fun k => by simp only [spec_ReachFrom.l1]; rw [if_neg (by omega)]; rfl
  | succ d ih =>
    intro t O hd ht hO
    have hlen := hO.1
    have hrec := ih (t + 1) _ (by omega) (by omega) (hO.tick ht p first src)
    refine Ev.step (fun k => by simp only [spec_ReachFrom.l1]; rw [if_pos (by omega), Option.bind_some, if_pos (by simp only [List.length_nil]; omega), List.nil_append]) ?_
    refine (foldE_to (g := fun k M i => spec_ReachFrom.l2 k src b O t M i x first z p) (f := fun a M => stepA p x.toNat first src t O a M) (fun _ M => InT x.toNat t O M) x.toNat 0 (fun a M _ ha hM => ⟨?_, fun R hR => ?_⟩) x.toNat 0 O (by omega) (by omega) (InT.start hO.1 hO.2)).2 _ (Ev.step (fun k => by simp only [spec_ReachFrom.l2]; rw [if_neg (by omega), wrap_id (x := t + 1) (by omega) (by omega)]; rfl) hrec)
    · exact InT.rows ht p first src 1 a M (by omega) hM
    · refine Ev.step (fun k => by simp only [spec_ReachFrom.l2]; rw [if_pos (by omega)]) ?_
      have hout : ∀ (M : List Int) (i : Nat), Ev (fun k => spec_ReachFrom.l2 k src b O t M ((a + 1 : Nat) : Int) x first z p) R → Ev (fun k => spec_ReachFrom.j5 k src b O t M a i false x first z p) R := fun M i h => Ev.step (fun k => by simp only [spec_ReachFrom.j5]; rw [if_neg (by simp), wrap_nat (by omega)]) h
      unfold stepA at hR
      have hg : ∀ (M : List Int) (i : Nat) (k : Nat), (i : Int) < x → spec_ReachFrom.l3 (k + 1) src b O t M a i x first z p = spec_ReachFrom.j5 k src b O t M a i (goesOn first src O a) x first z p := fun M i k hi => by
        simp only [spec_ReachFrom.l3]
        rw [if_pos hi, if_pos (by omega), if_pos (by omega)]
        unfold goesOn
        by_cases h1 : rd O ((a : Nat) : Int) ≥ 0
        · rw [if_pos h1, decide_eq_true h1, Bool.true_and]
          by_cases h2 : ((a : Nat) : Int) < first
          · rw [if_pos h2, decide_eq_true h2, Bool.true_or]
          · rw [if_neg h2, decide_eq_false h2, Bool.false_or]
        · rw [if_neg h1, decide_eq_false h1, Bool.false_and]
      by_cases hq : goesOn first src O a = true
      · rw [if_pos hq] at hR
        refine (foldE_to (g := fun k M i => spec_ReachFrom.l3 k src b O t M a i x first z p) (f := fun j M => stepB p t ((a : Nat) : Int) j M) (fun _ M => M.length = x.toNat) x.toNat 0 (fun j M _ hj hM2 => ⟨by rw [stepB_len]; exact hM2, fun R hR => ?_⟩) x.toNat 0 M (by omega) (by omega) hM.1).2 R (Ev.step (fun k => by simp only [spec_ReachFrom.l3]; rw [if_neg (by omega)]; rfl) (hout _ _ hR))
        refine Ev.step (fun k => by rw [hg M j k (by omega), hq]) ?_
        refine Ev.step (fun k => by simp only [spec_ReachFrom.j5]; rw [if_pos trivial, if_pos (by omega), if_pos (by omega), wrap_nat (by omega), wrap_id (x := t + 1) (by omega) (by omega)]) ?_
        unfold stepB at hR
        by_cases h1 : rd M ((j : Nat) : Int) < 0
        · rw [if_pos h1] at hR
          refine Ev.congr (fun k => by rw [if_pos h1]) (Ev.bind (spec_IsLinked.ev x first z p _ _ t hp) ?_)
          by_cases h2 : hasLink p (pieceAt p t) ((a : Nat) : Int) ((j : Nat) : Int) = true
          · rw [if_pos h2] at hR
            exact Ev.congr (fun k => by rw [if_pos h2]; rfl) hR
          · rw [if_neg h2] at hR
            exact Ev.congr (fun k => by rw [if_neg h2]) hR
        · rw [if_neg h1] at hR
          exact Ev.congr (fun k => by rw [if_neg h1]) hR
      · rw [if_neg hq] at hR
        have hq' : goesOn first src O a = false := by simpa using hq
        exact Ev.step (fun k => by have := hg M 0 k (by omega); rw [hq'] at this; exact this) (hout M 0 hR)
theorem spec_ReachFrom.ev (x first z : Int) (p : List S103) (src a b : Int) (hp : fitQi 1048576 p) : Ev (fun k => spec_ReachFrom.f k x first z p src a b) (reachFrom p x first src a b) := by
  unfold reachFrom
  have hj : ∀ q, q = true → Ev (fun k => spec_ReachFrom.j0 k src a b [] q x first z p) [] := fun q h => Ev.one fun k => by simp only [spec_ReachFrom.j0]; rw [if_pos h]
  refine Ev.congr (fun k => by unfold spec_ReachFrom.f; rw [Option.bind_some, spec_l1In.val, Option.bind_some]) ?_
  by_cases hx : inR x 1 12 = true
  · have hb : 1 ≤ x ∧ x ≤ 12 := by simpa [inR] using hx
    have hidx : inR src 0 (wrap64 (x - 1)) = idxB src x.toNat := by
      have := inR_idx src x.toNat (by omega)
      rw [show ((x.toNat : Nat) : Int) = x by omega] at this
      exact this
    refine Ev.congr (fun k => by rw [if_pos hx, spec_l1In.val, Option.bind_some, hidx]) ?_
    by_cases hs : idxB src x.toNat = true
    · refine Ev.congr (fun k => by rw [if_pos hs]) ?_
      by_cases ha : a < 0
      · rw [if_neg (fun h => h.2.2.1 ha)]
        exact Ev.congr (fun k => by rw [if_pos ha]) (hj _ rfl)
      · refine Ev.congr (fun k => by rw [if_neg ha]) ?_
        by_cases h1000 : b > 1000
        · rw [if_neg (fun h => h.2.2.2 h1000)]
          exact hj _ (decide_eq_true h1000)
        · rw [if_pos ⟨hx, hs, ha, h1000⟩]
          obtain ⟨h0, h1⟩ := (idxB_iff _ _).1 hs
          refine Ev.step (fun k => by simp only [spec_ReachFrom.j0]; rw [if_neg (by simpa using h1000)]) ?_
          refine fill_ev (g := fun k o i => spec_ReachFrom.l0 k src a b o i x first z p) x.toNat (fun i o hi ho r hr => Ev.step (fun k => by simp only [spec_ReachFrom.l0]; rw [if_pos (by omega), if_pos (by omega), wrap_nat (by omega)]) hr) ?_
          refine Ev.step (fun k => by simp only [spec_ReachFrom.l0]; rw [if_neg (by omega), if_pos h0, if_pos (by rw [List.length_replicate]; omega)]) ?_
          exact spec_ReachFrom.ticks x first z src b p hp hb (by omega) _ a _ rfl (by omega) (Old.init hs (by omega))
    · rw [if_neg (fun h => hs h.2.1)]
      exact Ev.congr (fun k => by rw [if_neg hs]) (hj _ rfl)
  · rw [if_neg (fun h => hx h.1)]
    exact Ev.congr (fun k => by rw [if_neg hx]) (hj _ rfl)

/-! slices_IndexFunc_impl_Link_impl_Link -/
theorem slices_IndexFunc_impl_Link_impl_Link.first (q : S123 → Bool) : ∀ (l : List S123) (i : Nat), slices_IndexFunc_impl_Link_impl_Link.idxAt q l i = firstAt q l i
  | [], i => rfl
  | x :: l, i => by rw [slices_IndexFunc_impl_Link_impl_Link.idxAt, firstAt, slices_IndexFunc_impl_Link_impl_Link.first q l (i + 1)]

/-! impl_HasLink -/
theorem impl_HasLink.val (x y z : Int) (p : List S103) (kk a b : Int) : impl_HasLink.f x y z p kk a b = some (hasLink p kk a b) := by
  unfold impl_HasLink.f hasLink slices_IndexFunc_impl_Link_impl_Link.idx idxB
  rw [slices_IndexFunc_impl_Link_impl_Link.first, firstAt_any]
  rfl

/-! slices_IndexFunc_impl_Piece_impl_Piece -/
theorem slices_IndexFunc_impl_Piece_impl_Piece.first (q : S103 → Bool) : ∀ (l : List S103) (i : Nat), slices_IndexFunc_impl_Piece_impl_Piece.idxAt q l i = firstAt q l i
  | [], i => rfl
  | x :: l, i => by rw [slices_IndexFunc_impl_Piece_impl_Piece.idxAt, firstAt, slices_IndexFunc_impl_Piece_impl_Piece.first q l (i + 1)]

/-! impl_PieceAt -/
theorem impl_PieceAt.val (a b c : Int) (p : List S103) (t : Int) : impl_PieceAt.f a b c p t = some (pieceAt p t) := by
  unfold impl_PieceAt.f pieceAt slices_IndexFunc_impl_Piece_impl_Piece.idx
  rw [slices_IndexFunc_impl_Piece_impl_Piece.first]
  have : (fun x : S103 => impl_PieceAt.has x.f0.f0 x.f0.f1 t) = fun x => inSpan x.f0.f0 x.f0.f1 t := by
    funext x
    unfold impl_PieceAt.has inSpan isSpan
    rfl
  rw [this]

/-! impl_IsLinked -/
theorem impl_IsLinked.val (x y z : Int) (p : List S103) (a b t : Int) : impl_IsLinked.f x y z p a b t = some (hasLink p (pieceAt p t) a b) := by
  unfold impl_IsLinked.f
  rw [impl_PieceAt.val, Option.bind_some, impl_HasLink.val, Option.bind_some]

/-! impl_InRange -/
theorem impl_InRange.val (a lo hi : Int) : impl_InRange.f a lo hi = some (inR a lo hi) := by
  unfold impl_InRange.f inR
  by_cases h : lo ≤ a
  · rw [if_pos h]; simp [h]
  · rw [if_neg h]; simp; omega

/-! impl_isNumber -/
theorem impl_isNumber.val (a : Int) : impl_isNumber.f a = some (inR a 1 12) := by
  unfold impl_isNumber.f
  rw [impl_InRange.val]; rfl

/-! impl_isIndex -/
theorem impl_isIndex.val (a n : Int) : impl_isIndex.f a n = some (decide (0 ≤ a) && decide (a < n)) := by
  unfold impl_isIndex.f
  by_cases h : a ≥ 0
  · rw [if_pos h]; simp [h]
  · rw [if_neg h]; simp; omega
theorem impl_isIndex.nat (a : Int) (n : Nat) : impl_isIndex.f a (n : Int) = some (idxB a n) := impl_isIndex.val a n

/-! impl_ReachFrom -/
theorem impl_ReachFrom.ticks (x first z src b : Int) (p : List S103) (hx : 1 ≤ x ∧ x ≤ 12) (hb : b ≤ 1000) : ∀ (d : Nat) (t : Int) (O : List Int), d = (b - t).toNat → 0 ≤ t → Old x.toNat t O → Ev (fun k => impl_ReachFrom.l1 k src b O t x first z p) (reachT p x.toNat first src d t O) := by
  intro d
  induction d with
  | zero =>
    intro t O hd ht hO
    exact Ev.one fun k => by simp only [impl_ReachFrom.l1]; rw [if_neg (by omega)]; rfl
  | succ d ih =>
    intro t O hd ht hO
    have hrec := ih (t + 1) _ (by omega) (by omega) (hO.tick ht p first src)
    refine Ev.step (fun k => by simp only [impl_ReachFrom.l1]; rw [if_pos (by omega)]) ?_
    refine (foldE_to (g := fun k M i => impl_ReachFrom.l2 k src b M t x i x first z p) (f := fun a M => stepA p x.toNat first src t O a M) (fun _ M => InT x.toNat t O M) x.toNat 0 (fun a M _ ha hM => ⟨?_, fun R hR => ?_⟩) x.toNat 0 O (by omega) (by omega) (InT.start hO.1 hO.2)).2 _ (Ev.step (fun k => by simp only [impl_ReachFrom.l2]; rw [if_neg (by omega), wrap_id (x := t + 1) (by omega) (by omega)]; rfl) hrec)
    · exact InT.rows ht p first src 1 a M (by omega) hM
    · have hlen := hM.1
      obtain ⟨h1, h2, h3⟩ := hM.2.2 a ha
      have hg : ∀ k, impl_ReachFrom.l2 (k + 1) src b M t x a x first z p = impl_ReachFrom.j4 k src b M t a x a (!goesOn first src O a) x first z p := fun k => by
        simp only [impl_ReachFrom.l2]
        rw [if_pos (by omega), if_pos (by omega), if_pos (by omega)]
        unfold goesOn
        by_cases h0 : rd O ((a : Nat) : Int) ≥ 0
        · have e := h2 h0
          rw [if_neg (by omega), if_neg (by omega), decide_eq_true h0, Bool.true_and]
          by_cases h5 : ((a : Nat) : Int) ≥ first
          · rw [if_pos h5, decide_eq_false (show ¬ ((a : Nat) : Int) < first by omega), Bool.false_or]; rfl
          · rw [if_neg h5, decide_eq_true (show ((a : Nat) : Int) < first by omega), Bool.true_or]; rfl
        · rw [decide_eq_false h0, Bool.false_and]
          rcases (h3 (by omega)).2 with e | e
          · rw [if_pos (by omega)]; rfl
          · rw [if_neg (by omega), if_pos (by omega)]; rfl
      unfold stepA at hR
      by_cases hq : goesOn first src O a = true
      · rw [if_pos hq] at hR
        refine Ev.step (fun k => by rw [hg, hq]) (Ev.step (fun k => by simp only [impl_ReachFrom.j4]; rw [if_neg (by simp)]) ?_)
        refine (foldE_to (g := fun k M i => impl_ReachFrom.l3 k src b M t a x a x i x first z p) (f := fun j M => stepB p t ((a : Nat) : Int) j M) (fun _ M => M.length = x.toNat) x.toNat 0 (fun j M _ hj hM2 => ⟨by rw [stepB_len]; exact hM2, fun R hR => ?_⟩) x.toNat 0 M (by omega) (by omega) hM.1).2 R (Ev.step (fun k => by simp only [impl_ReachFrom.l3]; rw [if_neg (by omega), wrap_nat (by omega)]; rfl) hR)
        unfold stepB at hR
        by_cases h1 : rd M ((j : Nat) : Int) < 0
        · rw [if_pos h1] at hR
          refine Ev.step (fun k => by simp only [impl_ReachFrom.l3]; rw [if_pos (by omega), if_pos (by omega), if_pos (by omega), wrap_nat (by omega), wrap_id (x := t + 1) (by omega) (by omega), if_pos h1, impl_IsLinked.val, Option.bind_some]) ?_
          by_cases h2 : hasLink p (pieceAt p t) ((a : Nat) : Int) ((j : Nat) : Int) = true
          · rw [if_pos h2] at hR
            exact Ev.congr (fun k => by rw [if_pos h2]; rfl) hR
          · rw [if_neg h2] at hR
            exact Ev.congr (fun k => by rw [if_neg h2]) hR
        · rw [if_neg h1] at hR
          exact Ev.step (fun k => by simp only [impl_ReachFrom.l3]; rw [if_pos (by omega), if_pos (by omega), if_pos (by omega), wrap_nat (by omega), if_neg h1]) hR
      · rw [if_neg hq] at hR
        have hq' : goesOn first src O a = false := by simpa using hq
        exact Ev.step (fun k => by rw [hg, hq']) (Ev.step (fun k => by simp only [impl_ReachFrom.j4]; rw [if_pos (by simp), wrap_nat (by omega)]) hR)
theorem impl_ReachFrom.ev (x first z : Int) (p : List S103) (src a b : Int) : Ev (fun k => impl_ReachFrom.f k x first z p src a b) (reachFrom p x first src a b) := by
  unfold reachFrom
  have hj : ∀ q, q = true → Ev (fun k => impl_ReachFrom.j0 k src a b [] q x first z p) [] := fun q h => Ev.one fun k => by simp only [impl_ReachFrom.j0]; rw [if_pos h]
  refine Ev.congr (fun k => by unfold impl_ReachFrom.f; rw [Option.bind_some, impl_isNumber.val, Option.bind_some]) ?_
  by_cases hx : inR x 1 12 = true
  · have hb : 1 ≤ x ∧ x ≤ 12 := by simpa [inR] using hx
    have hidx : impl_isIndex.f src x = some (idxB src x.toNat) := by
      have := impl_isIndex.nat src x.toNat
      rw [show ((x.toNat : Nat) : Int) = x by omega] at this
      exact this
    refine Ev.congr (fun k => by rw [if_pos hx, hidx, Option.bind_some]) ?_
    by_cases hs : idxB src x.toNat = true
    · refine Ev.congr (fun k => by rw [if_pos hs]) ?_
      by_cases ha : a < 0
      · rw [if_neg (fun h => h.2.2.1 ha)]
        exact Ev.congr (fun k => by rw [if_pos ha]) (hj _ rfl)
      · refine Ev.congr (fun k => by rw [if_neg ha]) ?_
        by_cases h1000 : b > 1000
        · rw [if_neg (fun h => h.2.2.2 h1000)]
          exact hj _ (decide_eq_true h1000)
        · rw [if_pos ⟨hx, hs, ha, h1000⟩]
          obtain ⟨h0, h1⟩ := (idxB_iff _ _).1 hs
          refine Ev.step (fun k => by simp only [impl_ReachFrom.j0]; rw [if_neg (by simpa using h1000)]) ?_
          refine fill_ev (g := fun k o i => impl_ReachFrom.l0 k src a b o x i x first z p) x.toNat (fun i o hi ho r hr => Ev.step (fun k => by simp only [impl_ReachFrom.l0]; rw [if_pos (by omega), if_pos (by omega), wrap_nat (by omega)]) hr) ?_
          refine Ev.step (fun k => by simp only [impl_ReachFrom.l0]; rw [if_neg (by omega), if_pos h0, if_pos (by rw [List.length_replicate]; omega)]) ?_
          exact impl_ReachFrom.ticks x first z src b p hb (by omega) _ a _ rfl (by omega) (Old.init hs (by omega))
    · rw [if_neg (fun h => hs h.2.1)]
      exact Ev.congr (fun k => by rw [if_neg hs]) (hj _ rfl)
  · rw [if_neg (fun h => hx h.1)]
    exact Ev.congr (fun k => by rw [if_neg hx]) (hj _ rfl)

/-! laws_heldIntS -/
theorem laws_heldIntS.ev_l (a : Int) (n : Nat) (h0 : 0 ≤ a) (h1 : a + n ≤ 4611686018427387904) : ∀ (d i : Nat), i + d = n → Ev (fun k => laws_heldIntS.l0 k (marks a n) (a + i) i) (a + n) := by
  intro d
  induction d with
  | zero =>
    intro i hi
    refine Ev.one fun k => ?_
    simp only [laws_heldIntS.l0]
    rw [if_neg (by rw [marks_length]; omega), show i = n by omega]
  | succ d ih =>
    intro i hi
    refine Ev.step (fun k => ?_) (ih (i + 1) (by omega))
    simp only [laws_heldIntS.l0]
    rw [if_pos (by rw [marks_length]; omega), if_pos (by omega), rd_nat, if_pos (marks_getD a n i (by omega)), wrap_nat (by omega), wrap_id (by omega) (by omega)]
    rw [show a + (i : Int) + 1 = a + ((i + 1 : Nat) : Int) by omega]
theorem laws_heldIntS.ev (a : Int) (n : Nat) (h0 : 0 ≤ a) (h1 : a + n ≤ 4611686018427387904) : Ev (fun k => laws_heldIntS.f k (marks a n) a) (a + n) := by
  have := laws_heldIntS.ev_l a n h0 h1 n 0 (by omega)
  rw [show a + ((0 : Nat) : Int) = a by omega] at this
  exact this

/-! d_wQ -/
theorem fit_of {l : List S98} (h : l.length ≤ maxLen ∧ ∀ e_ ∈ l, W98 e_) : fitQ maxLen l :=
  ⟨h.1, fun x hx => ⟨(h.2 x hx).2.1.1, (h.2 x hx).2.2.1, fun t ht => ⟨((h.2 x hx).2.2.2 t ht).2.1.1, ((h.2 x hx).2.2.2 t ht).2.2.1⟩⟩⟩

/-! d_fitMap -/
theorem fit_map {n : Nat} {l : List S98} (h : fitQ n l) : fitQi n (l.map cPiece) := by
  refine ⟨by simpa using h.1, fun x hx => ?_⟩
  obtain ⟨y, hy, rfl⟩ := List.mem_map.1 hx
  obtain ⟨h1, h2, h3⟩ := h.2 y hy
  refine ⟨by simpa [cPiece] using h1, by simpa [cPiece] using h2, fun t ht => ?_⟩
  obtain ⟨u, hu, rfl⟩ := List.mem_map.1 ht
  exact h3 u hu

/-! @@ FnExactReachFrom -/
theorem proved : Stated := by
  intro a b c m i1 i2 i3 _ _ _ hm _ _ _
  refine Ev.rounds ?_
  obtain ⟨u, hu, hle, hq⟩ := laws_szProgram.sum a b c m 1048576 (by omega) (by omega) (fit_of hm)
  refine Ev.bind hu ?_
  by_cases h' : u < 0
  · exact Ev.all fun k => by rw [if_pos h']
  obtain ⟨hcost, hq⟩ := hq (by omega)
  have hq2 := fit_map hq
  have hpc := pie_cost m
  have hs := spec_ReachFrom.ev a b c _ i1 i2 i3 hq2
  have hi := impl_ReachFrom.ev a b c (m.map cPiece) i1 i2 i3
  have hlen := reach_len (m.map cPiece) a b i1 i2 i3
  generalize reachFrom (m.map cPiece) a b i1 i2 i3 = R at hs hi hlen
  have hR : Ev (fun k => laws_eqIntS.f k R R) true := laws_eqIntS.ev R (by omega)
  refine Ev.congr (fun k => by rw [if_neg h']) (Ev.bind (laws_toProgram.ev a b c m hq) (Ev.bind hs (Ev.bind (laws_toProgram.ev a b c m hq) (Ev.bind hi (Ev.bind hR ?_)))))
  refine Ev.congr (fun k => by rw [if_pos rfl]) (Ev.bind (laws_toProgram.ev a b c m hq) (Ev.bind (laws_eqProgram.ev a b c _ hq2) ?_))
  refine Ev.congr (fun k => by rw [if_pos rfl, laws_markProgram.val _ _ _ _ _ (by omega) (by dsimp only; omega), Option.bind_some, if_neg (by dsimp only; omega)]) (Ev.bind hR ?_)
  refine Ev.step (fun k => by simp only [laws_FnExactReachFrom.j0]; rw [if_neg (by simp)]) ?_
  refine Ev.bind (laws_markIntS.ev R 1 (by omega) (by omega)) (Ev.bind (laws_heldIntS.ev 1 _ (by omega) (by omega)) ?_)
  refine Ev.congr (fun k => by rw [if_neg (by omega), if_pos rfl]) (Ev.bind (laws_toProgram.ev a b c m hq) (Ev.bind hi (Ev.bind hR ?_)))
  refine Ev.congr (fun k => by rw [if_pos rfl]) (Ev.bind (laws_heldIntS.ev 1 _ (by omega) (by omega)) ?_)
  exact Ev.all fun k => by rw [if_neg (by omega), if_pos rfl]

end Go.Proofs.Ytdodogkgmpaioaa.PureFnExactReachFrom
