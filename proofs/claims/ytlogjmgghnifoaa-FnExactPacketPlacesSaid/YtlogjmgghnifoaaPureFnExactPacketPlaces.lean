/- FnExactPacketPlaces, over numbers and lists alone: what the program's function and the reference's answer is one. Conditions: the numbers are of their kinds. -/
import Derived.Test.YtlogjmgghnifoaaKindsFnExactPacketPlaces
import Derived.Test.YtlogjmgghnifoaaVFnExactPacketPlacesBase
namespace Go.Proofs.Ytlogjmgghnifoaa.PureFnExactPacketPlaces
open Go.RowKit Go.Proofs.Ytlogjmgghnifoaa.PFnExactPacketPlaces Go.Proofs.YtlogjmgghnifoaaW.PrintWords Go.Proofs.YtlogjmgghnifoaaW.PrintLast Go.Proofs.YtlogjmgghnifoaaW.PrintMore Go.Proofs.Ytlogjmgghnifoaa.Base
set_option linter.unusedVariables false
set_option linter.unusedSimpArgs false

/-! laws_szLinkS -/
theorem laws_szLinkS.val (l : List S168) (a : Int) (h0 : 0 ≤ a) (h1 : a ≤ 1048576) (hl : l.length ≤ maxLen) :
    ∃ t, laws_szLinkS.f l a = some t ∧ t ≤ a ∧ (0 ≤ t → t = a - l.length ∧ l.length ≤ 1048576) := by
  unfold maxLen at hl
  unfold laws_szLinkS.f
  rw [wrap_id (by omega) (by omega)]
  by_cases h : a - (l.length : Int) < 0
  · rw [if_pos h]; exact ⟨_, rfl, by omega, by omega⟩
  · rw [if_neg h]; exact ⟨_, rfl, by omega, by omega⟩

/-! laws_szIntS -/
theorem laws_szIntS.val (l : List Int) (a : Int) (h0 : 0 ≤ a) (h1 : a ≤ 1048576) (hl : l.length ≤ maxLen) :
    ∃ t, laws_szIntS.f l a = some t ∧ t ≤ a ∧ (0 ≤ t → t = a - l.length ∧ l.length ≤ 1048576) := by
  unfold maxLen at hl
  unfold laws_szIntS.f
  rw [wrap_id (by omega) (by omega)]
  by_cases h : a - (l.length : Int) < 0
  · rw [if_pos h]; exact ⟨_, rfl, by omega, by omega⟩
  · rw [if_neg h]; exact ⟨_, rfl, by omega, by omega⟩

/-! laws_szTable -/
theorem laws_szTable.val (x : Int) (l m : List Int) (a : Int) (h0 : 0 ≤ a) (h1 : a ≤ 1048576) (hl : l.length ≤ maxLen) (hm : m.length ≤ maxLen) :
    ∃ t, laws_szTable.f x l m a = some t ∧ t ≤ a ∧ (0 ≤ t → l.length ≤ 1048576 ∧ m.length ≤ 1048576) := by
  obtain ⟨t, h, h2, h3⟩ := laws_szIntS.val l a h0 h1 hl
  unfold laws_szTable.f
  rw [h, Option.bind_some]
  by_cases ht : t < 0
  · rw [if_pos ht]; exact ⟨_, rfl, by omega, by omega⟩
  · obtain ⟨u, h4, h5, h6⟩ := laws_szIntS.val m t (by omega) (by omega) hm
    rw [if_neg ht, h4, Option.bind_some]
    by_cases hu : u < 0
    · rw [if_pos hu]; exact ⟨_, rfl, by omega, by omega⟩
    · rw [if_neg hu]; exact ⟨_, rfl, by omega, fun _ => ⟨(h3 (by omega)).2, (h6 (by omega)).2⟩⟩
theorem laws_szTable.sum (x : Int) (l m : List Int) (a : Int) (h0 : 0 ≤ a) (h1 : a ≤ 1048576) (hl : l.length ≤ maxLen) (hm : m.length ≤ maxLen) :
    ∃ t, laws_szTable.f x l m a = some t ∧ t ≤ a ∧ (0 ≤ t → t + ((l.length + m.length : Nat) : Int) ≤ a) := by
  obtain ⟨t, h, h2, h3⟩ := laws_szIntS.val l a h0 h1 hl
  unfold laws_szTable.f
  rw [h, Option.bind_some]
  by_cases ht : t < 0
  · rw [if_pos ht]; exact ⟨_, rfl, by omega, by omega⟩
  · obtain ⟨u, h4, h5, h6⟩ := laws_szIntS.val m t (by omega) (by omega) hm
    rw [if_neg ht, h4, Option.bind_some]
    by_cases hu : u < 0
    · rw [if_pos hu]; exact ⟨_, rfl, by omega, by omega⟩
    · rw [if_neg hu]; exact ⟨_, rfl, by omega, fun _ => by have := (h3 (by omega)).1; have := (h6 (by omega)).1; omega⟩

/-! d_fitTi -/
def fitTi (n : Nat) (x : S247) : Prop := x.f1.length ≤ n ∧ x.f2.length ≤ n

/-! d_fitT -/
def fitT (n : Nat) (x : S285) : Prop := x.f1.length ≤ n ∧ x.f2.length ≤ n

/-! d_cost -/
def tabsCost (l : List S285) : Nat := l.length + (l.map fun x => x.f1.length + x.f2.length).sum
def pieCost (x : S177) : Nat := x.f1.length + tabsCost x.f2
def progCost (l : List S177) : Nat := l.length + (l.map pieCost).sum

/-! laws_szTableS -/
theorem laws_szTableS.ev (l : List S285) (a : Int) (h0 : 0 ≤ a) (h1 : a ≤ 1048576) (hl : l.length ≤ maxLen) (hx : ∀ x ∈ l, fitT maxLen x) :
    ∃ t, Ev (fun k => laws_szTableS.f k l a) t ∧ t ≤ a ∧ (0 ≤ t → l.length ≤ 1048576 ∧ ∀ x ∈ l, fitT 1048576 x) := by
  have hl' := hl
  unfold maxLen at hl'
  by_cases h : a - (l.length : Int) < 0
  · exact ⟨-1, Ev.all fun k => by unfold laws_szTableS.f; rw [wrap_id (by omega) (by omega), if_pos h], by omega, by omega⟩
  · obtain ⟨t, ht, hle, hok⟩ := sz_loop (g := fun k a i => laws_szTableS.l0 k l a i) l z285 (fitT 1048576) (fun a => Ev.one fun k => by simp only [laws_szTableS.l0]; rw [if_neg (by omega)])
      (fun i a hi h0 h1 => by
        have hf := hx _ (getD_mem l z285 hi)
        obtain ⟨t, e, hle, hok⟩ := laws_szTable.val (l.getD i z285).f0 (l.getD i z285).f1 (l.getD i z285).f2 a h0 h1 hf.1 hf.2
        have hk : ∀ k, laws_szTableS.l0 (k + 1) l a i = if t < 0 then some (-1) else laws_szTableS.l0 k l t ((i + 1 : Nat) : Int) := fun k => by
          simp only [laws_szTableS.l0]
          rw [if_pos (by omega), if_pos (by omega), wrap_nat (by omega)]
          show (laws_szTable.f (l.getD i z285).f0 (l.getD i z285).f1 (l.getD i z285).f2 a).bind _ = _
          rw [e]; rfl
        exact ⟨t, hle, fun h => Ev.one fun k => by rw [hk, if_pos h], fun h => ⟨hok h, fun r hr => Ev.step (fun k => by rw [hk, if_neg (by omega)]) hr⟩⟩)
      (a - l.length) (by omega) (by omega)
    exact ⟨t, Ev.congr (fun k => by unfold laws_szTableS.f; rw [wrap_id (by omega) (by omega), if_neg h]) ht, by omega, fun h => ⟨by omega, hok h⟩⟩
theorem laws_szTableS.sum (l : List S285) (a : Int) (h0 : 0 ≤ a) (h1 : a ≤ 1048576) (hl : l.length ≤ maxLen) (hx : ∀ x ∈ l, fitT maxLen x) :
    ∃ t, Ev (fun k => laws_szTableS.f k l a) t ∧ t ≤ a ∧ (0 ≤ t → t + (tabsCost l : Int) ≤ a) := by
  have hl' := hl
  unfold maxLen at hl'
  by_cases h : a - (l.length : Int) < 0
  · exact ⟨-1, Ev.all fun k => by unfold laws_szTableS.f; rw [wrap_id (by omega) (by omega), if_pos h], by omega, by omega⟩
  · obtain ⟨t, ht, hle, hok⟩ := sz_sum (g := fun k a i => laws_szTableS.l0 k l a i) l z285 (fun x => x.f1.length + x.f2.length) (fun a => Ev.one fun k => by simp only [laws_szTableS.l0]; rw [if_neg (by omega)])
      (fun i a hi h0 h1 => by
        have hf := hx _ (getD_mem l z285 hi)
        obtain ⟨t, e, hle, hok⟩ := laws_szTable.sum (l.getD i z285).f0 (l.getD i z285).f1 (l.getD i z285).f2 a h0 h1 hf.1 hf.2
        have hk : ∀ k, laws_szTableS.l0 (k + 1) l a i = if t < 0 then some (-1) else laws_szTableS.l0 k l t ((i + 1 : Nat) : Int) := fun k => by
          simp only [laws_szTableS.l0]
          rw [if_pos (by omega), if_pos (by omega), wrap_nat (by omega)]
          show (laws_szTable.f (l.getD i z285).f0 (l.getD i z285).f1 (l.getD i z285).f2 a).bind _ = _
          rw [e]; rfl
        exact ⟨t, hle, fun h => Ev.one fun k => by rw [hk, if_pos h], fun h => ⟨hok h, fun r hr => Ev.step (fun k => by rw [hk, if_neg (by omega)]) hr⟩⟩)
      (a - l.length) (by omega) (by omega)
    exact ⟨t, Ev.congr (fun k => by unfold laws_szTableS.f; rw [wrap_id (by omega) (by omega), if_neg h]) ht, by omega, fun h => by have := hok h; unfold tabsCost; omega⟩

/-! d_fitPi -/
def fitPi (n : Nat) (x : S112) : Prop := x.f1.length ≤ n ∧ x.f2.length ≤ n ∧ ∀ t ∈ x.f2, fitTi n t
def fitQi (n : Nat) (l : List S112) : Prop := l.length ≤ n ∧ ∀ x ∈ l, fitPi n x

/-! d_fitP -/
def fitP (n : Nat) (x : S177) : Prop := x.f1.length ≤ n ∧ x.f2.length ≤ n ∧ ∀ t ∈ x.f2, fitT n t
def fitQ (n : Nat) (l : List S177) : Prop := l.length ≤ n ∧ ∀ x ∈ l, fitP n x

/-! laws_szPiece -/
theorem laws_szPiece.ev (x : S177) (a : Int) (h0 : 0 ≤ a) (h1 : a ≤ 1048576) (hx : fitP maxLen x) :
    ∃ t, Ev (fun k => laws_szPiece.f k x.f0.f0 x.f0.f1 x.f1 x.f2 a) t ∧ t ≤ a ∧ (0 ≤ t → fitP 1048576 x) := by
  obtain ⟨t, h, h2, h3⟩ := laws_szLinkS.val x.f1 a h0 h1 hx.1
  by_cases ht : t < 0
  · exact ⟨-1, Ev.all fun k => by unfold laws_szPiece.f; rw [h, Option.bind_some, if_pos ht], by omega, by omega⟩
  · obtain ⟨u, h4, h5, h6⟩ := laws_szTableS.ev x.f2 t (by omega) (by omega) hx.2.1 hx.2.2
    have hc : ∀ k, laws_szPiece.f k x.f0.f0 x.f0.f1 x.f1 x.f2 a = (laws_szTableS.f k x.f2 t).bind fun u => if u < 0 then some (-1) else some u := fun k => by
      unfold laws_szPiece.f
      rw [h, Option.bind_some, if_neg ht]
    by_cases hu : u < 0
    · exact ⟨-1, Ev.congr hc (Ev.bind h4 (Ev.all fun k => by rw [if_pos hu])), by omega, by omega⟩
    · exact ⟨u, Ev.congr hc (Ev.bind h4 (Ev.all fun k => by rw [if_neg hu])), by omega, fun _ => ⟨(h3 (by omega)).2, h6 (by omega)⟩⟩
theorem laws_szPiece.sum (x : S177) (a : Int) (h0 : 0 ≤ a) (h1 : a ≤ 1048576) (hx : fitP maxLen x) :
    ∃ t, Ev (fun k => laws_szPiece.f k x.f0.f0 x.f0.f1 x.f1 x.f2 a) t ∧ t ≤ a ∧ (0 ≤ t → t + (pieCost x : Int) ≤ a) := by
  obtain ⟨t, h, h2, h3⟩ := laws_szLinkS.val x.f1 a h0 h1 hx.1
  by_cases ht : t < 0
  · exact ⟨-1, Ev.all fun k => by unfold laws_szPiece.f; rw [h, Option.bind_some, if_pos ht], by omega, by omega⟩
  · obtain ⟨u, h4, h5, h6⟩ := laws_szTableS.sum x.f2 t (by omega) (by omega) hx.2.1 hx.2.2
    have hc : ∀ k, laws_szPiece.f k x.f0.f0 x.f0.f1 x.f1 x.f2 a = (laws_szTableS.f k x.f2 t).bind fun u => if u < 0 then some (-1) else some u := fun k => by
      unfold laws_szPiece.f
      rw [h, Option.bind_some, if_neg ht]
    by_cases hu : u < 0
    · exact ⟨-1, Ev.congr hc (Ev.bind h4 (Ev.all fun k => by rw [if_pos hu])), by omega, by omega⟩
    · exact ⟨u, Ev.congr hc (Ev.bind h4 (Ev.all fun k => by rw [if_neg hu])), by omega, fun _ => by have := (h3 (by omega)).1; have := h6 (by omega); unfold pieCost; omega⟩

/-! laws_szPieceS -/
theorem laws_szPieceS.ev (l : List S177) (a : Int) (h0 : 0 ≤ a) (h1 : a ≤ 1048576) (hx : fitQ maxLen l) :
    ∃ t, Ev (fun k => laws_szPieceS.f k l a) t ∧ t ≤ a ∧ (0 ≤ t → fitQ 1048576 l) := by
  obtain ⟨hl, hx⟩ := hx
  have hl' := hl
  unfold maxLen at hl'
  by_cases h : a - (l.length : Int) < 0
  · exact ⟨-1, Ev.all fun k => by unfold laws_szPieceS.f; rw [wrap_id (by omega) (by omega), if_pos h], by omega, by omega⟩
  · obtain ⟨t, ht, hle, hok⟩ := sz_loop (g := fun k a i => laws_szPieceS.l0 k l a i) l z177 (fitP 1048576) (fun a => Ev.one fun k => by simp only [laws_szPieceS.l0]; rw [if_neg (by omega)])
      (fun i a hi h0 h1 => by
        have hf := hx _ (getD_mem l z177 hi)
        obtain ⟨t, e, hle, hok⟩ := laws_szPiece.ev (l.getD i z177) a h0 h1 hf
        have hk : ∀ k, laws_szPieceS.l0 (k + 1) l a i = (laws_szPiece.f k (l.getD i z177).f0.f0 (l.getD i z177).f0.f1 (l.getD i z177).f1 (l.getD i z177).f2 a).bind fun t => if t < 0 then some (-1) else laws_szPieceS.l0 k l t ((i + 1 : Nat) : Int) := fun k => by
          simp only [laws_szPieceS.l0]
          rw [if_pos (by omega), if_pos (by omega), wrap_nat (by omega)]
          rfl
        exact ⟨t, hle, fun h => Ev.step hk (Ev.bind e (Ev.all fun k => by rw [if_pos h])), fun h => ⟨hok h, fun r hr => Ev.step hk (Ev.bind e (Ev.congr (fun k => by rw [if_neg (by omega)]) hr))⟩⟩)
      (a - l.length) (by omega) (by omega)
    exact ⟨t, Ev.congr (fun k => by unfold laws_szPieceS.f; rw [wrap_id (by omega) (by omega), if_neg h]) ht, by omega, fun h => ⟨by omega, hok h⟩⟩
theorem laws_szPieceS.sum (l : List S177) (a : Int) (h0 : 0 ≤ a) (h1 : a ≤ 1048576) (hx : fitQ maxLen l) :
    ∃ t, Ev (fun k => laws_szPieceS.f k l a) t ∧ t ≤ a ∧ (0 ≤ t → t + (progCost l : Int) ≤ a) := by
  obtain ⟨hl, hx⟩ := hx
  have hl' := hl
  unfold maxLen at hl'
  by_cases h : a - (l.length : Int) < 0
  · exact ⟨-1, Ev.all fun k => by unfold laws_szPieceS.f; rw [wrap_id (by omega) (by omega), if_pos h], by omega, by omega⟩
  · obtain ⟨t, ht, hle, hok⟩ := sz_sum (g := fun k a i => laws_szPieceS.l0 k l a i) l z177 pieCost (fun a => Ev.one fun k => by simp only [laws_szPieceS.l0]; rw [if_neg (by omega)])
      (fun i a hi h0 h1 => by
        have hf := hx _ (getD_mem l z177 hi)
        obtain ⟨t, e, hle, hok⟩ := laws_szPiece.sum (l.getD i z177) a h0 h1 hf
        have hk : ∀ k, laws_szPieceS.l0 (k + 1) l a i = (laws_szPiece.f k (l.getD i z177).f0.f0 (l.getD i z177).f0.f1 (l.getD i z177).f1 (l.getD i z177).f2 a).bind fun t => if t < 0 then some (-1) else laws_szPieceS.l0 k l t ((i + 1 : Nat) : Int) := fun k => by
          simp only [laws_szPieceS.l0]
          rw [if_pos (by omega), if_pos (by omega), wrap_nat (by omega)]
          rfl
        exact ⟨t, hle, fun h => Ev.step hk (Ev.bind e (Ev.all fun k => by rw [if_pos h])), fun h => ⟨hok h, fun r hr => Ev.step hk (Ev.bind e (Ev.congr (fun k => by rw [if_neg (by omega)]) hr))⟩⟩)
      (a - l.length) (by omega) (by omega)
    exact ⟨t, Ev.congr (fun k => by unfold laws_szPieceS.f; rw [wrap_id (by omega) (by omega), if_neg h]) ht, by omega, fun h => by have := hok h; unfold progCost; omega⟩

/-! laws_szProgram -/
theorem laws_szProgram.ev (x y z : Int) (l : List S177) (a : Int) (h0 : 0 ≤ a) (h1 : a ≤ 1048576) (hx : fitQ maxLen l) :
    ∃ t, Ev (fun k => laws_szProgram.f k x y z l a) t ∧ t ≤ a ∧ (0 ≤ t → fitQ 1048576 l) := by
  obtain ⟨t, h, h2, h3⟩ := laws_szPieceS.ev l a h0 h1 hx
  by_cases ht : t < 0
  · exact ⟨-1, Ev.bind h (Ev.all fun k => by rw [if_pos ht]), by omega, by omega⟩
  · exact ⟨t, Ev.bind h (Ev.all fun k => by rw [if_neg ht]), h2, h3⟩
theorem laws_szProgram.sum (x y z : Int) (l : List S177) (a : Int) (h0 : 0 ≤ a) (h1 : a ≤ 1048576) (hx : fitQ maxLen l) :
    ∃ t, Ev (fun k => laws_szProgram.f k x y z l a) t ∧ t ≤ a ∧ (0 ≤ t → t + (progCost l : Int) ≤ a ∧ fitQ 1048576 l) := by
  obtain ⟨t, h, h2, h3⟩ := laws_szPieceS.sum l a h0 h1 hx
  obtain ⟨t', h', _, h3'⟩ := laws_szPieceS.ev l a h0 h1 hx
  have := Ev.uniq h h'
  subst this
  by_cases ht : t < 0
  · exact ⟨-1, Ev.bind h (Ev.all fun k => by rw [if_pos ht]), by omega, by omega⟩
  · exact ⟨t, Ev.bind h (Ev.all fun k => by rw [if_neg ht]), h2, fun h => ⟨h3 h, h3' h⟩⟩

/-! laws_szSatS -/
theorem laws_szSatS.val (l : List S251) (a : Int) (h0 : 0 ≤ a) (h1 : a ≤ 1048576) (hl : l.length ≤ maxLen) :
    ∃ t, laws_szSatS.f l a = some t ∧ t ≤ a ∧ (0 ≤ t → t = a - l.length ∧ l.length ≤ 1048576) := by
  unfold maxLen at hl
  unfold laws_szSatS.f
  rw [wrap_id (by omega) (by omega)]
  by_cases h : a - (l.length : Int) < 0
  · rw [if_pos h]; exact ⟨_, rfl, by omega, by omega⟩
  · rw [if_neg h]; exact ⟨_, rfl, by omega, by omega⟩

/-! laws_szSiteS -/
theorem laws_szSiteS.val (l : List S255) (a : Int) (h0 : 0 ≤ a) (h1 : a ≤ 1048576) (hl : l.length ≤ maxLen) :
    ∃ t, laws_szSiteS.f l a = some t ∧ t ≤ a ∧ (0 ≤ t → t = a - l.length ∧ l.length ≤ 1048576) := by
  unfold maxLen at hl
  unfold laws_szSiteS.f
  rw [wrap_id (by omega) (by omega)]
  by_cases h : a - (l.length : Int) < 0
  · rw [if_pos h]; exact ⟨_, rfl, by omega, by omega⟩
  · rw [if_neg h]; exact ⟨_, rfl, by omega, by omega⟩

/-! laws_szZoneS -/
theorem laws_szZoneS.val (l : List S263) (a : Int) (h0 : 0 ≤ a) (h1 : a ≤ 1048576) (hl : l.length ≤ maxLen) :
    ∃ t, laws_szZoneS.f l a = some t ∧ t ≤ a ∧ (0 ≤ t → t = a - l.length ∧ l.length ≤ 1048576) := by
  unfold maxLen at hl
  unfold laws_szZoneS.f
  rw [wrap_id (by omega) (by omega)]
  by_cases h : a - (l.length : Int) < 0
  · rw [if_pos h]; exact ⟨_, rfl, by omega, by omega⟩
  · rw [if_neg h]; exact ⟨_, rfl, by omega, by omega⟩

/-! laws_szSky -/
theorem laws_szSky.val (p : Int) (s : List S251) (i : List S255) (r c v u w : Int) (z : List S263) (q : Int) (a : Int) (h0 : 0 ≤ a) (h1 : a ≤ 1048576) (hs : s.length ≤ maxLen) (hi : i.length ≤ maxLen) (hz : z.length ≤ maxLen) :
    ∃ t, laws_szSky.f p s i r c v u w z q a = some t ∧ t ≤ a ∧ (0 ≤ t → s.length ≤ 1048576 ∧ i.length ≤ 1048576 ∧ z.length ≤ 1048576) := by
  unfold laws_szSky.f
  obtain ⟨t, e, hle, hok⟩ := laws_szSatS.val s a h0 h1 hs
  rw [e, Option.bind_some]
  by_cases h : t < 0
  · rw [if_pos h]; exact ⟨_, rfl, by omega, by omega⟩
  rw [if_neg h]
  obtain ⟨t2, e2, hle2, hok2⟩ := laws_szSiteS.val i t (by omega) (by omega) hi
  rw [e2, Option.bind_some]
  by_cases h2 : t2 < 0
  · rw [if_pos h2]; exact ⟨_, rfl, by omega, by omega⟩
  rw [if_neg h2]
  obtain ⟨t3, e3, hle3, hok3⟩ := laws_szZoneS.val z t2 (by omega) (by omega) hz
  rw [e3, Option.bind_some]
  by_cases h3 : t3 < 0
  · rw [if_pos h3]; exact ⟨_, rfl, by omega, by omega⟩
  rw [if_neg h3]
  exact ⟨_, rfl, by omega, fun _ => ⟨(hok (by omega)).2, (hok2 (by omega)).2, (hok3 (by omega)).2⟩⟩

/-! laws_szLaw -/
theorem laws_szLaw.val (l : List Int) (a : Int) (h0 : 0 ≤ a) (h1 : a ≤ 1048576) (hl : l.length ≤ maxLen) :
    ∃ t, laws_szLaw.f l a = some t ∧ t ≤ a ∧ (0 ≤ t → t = a - l.length ∧ l.length ≤ 1048576) := by
  obtain ⟨t, h, h2, h3⟩ := laws_szIntS.val l a h0 h1 hl
  unfold laws_szLaw.f
  rw [h, Option.bind_some]
  by_cases ht : t < 0
  · rw [if_pos ht]; exact ⟨_, rfl, by omega, by omega⟩
  · rw [if_neg ht]; exact ⟨_, rfl, h2, h3⟩

/-! laws_szBatteryS -/
theorem laws_szBatteryS.val (l : List S197) (a : Int) (h0 : 0 ≤ a) (h1 : a ≤ 1048576) (hl : l.length ≤ maxLen) :
    ∃ t, laws_szBatteryS.f l a = some t ∧ t ≤ a ∧ (0 ≤ t → t = a - l.length ∧ l.length ≤ 1048576) := by
  unfold maxLen at hl
  unfold laws_szBatteryS.f
  rw [wrap_id (by omega) (by omega)]
  by_cases h : a - (l.length : Int) < 0
  · rw [if_pos h]; exact ⟨_, rfl, by omega, by omega⟩
  · rw [if_neg h]; exact ⟨_, rfl, by omega, by omega⟩

/-! laws_szPacketS -/
theorem laws_szPacketS.val (l : List S210) (a : Int) (h0 : 0 ≤ a) (h1 : a ≤ 1048576) (hl : l.length ≤ maxLen) :
    ∃ t, laws_szPacketS.f l a = some t ∧ t ≤ a ∧ (0 ≤ t → t = a - l.length ∧ l.length ≤ 1048576) := by
  unfold maxLen at hl
  unfold laws_szPacketS.f
  rw [wrap_id (by omega) (by omega)]
  by_cases h : a - (l.length : Int) < 0
  · rw [if_pos h]; exact ⟨_, rfl, by omega, by omega⟩
  · rw [if_neg h]; exact ⟨_, rfl, by omega, by omega⟩

/-! laws_szQueue -/
theorem laws_szQueue.val (l : List S210) (a : Int) (h0 : 0 ≤ a) (h1 : a ≤ 1048576) (hl : l.length ≤ maxLen) :
    ∃ t, laws_szQueue.f l a = some t ∧ t ≤ a ∧ (0 ≤ t → t = a - l.length ∧ l.length ≤ 1048576) := by
  obtain ⟨t, h, h2, h3⟩ := laws_szPacketS.val l a h0 h1 hl
  unfold laws_szQueue.f
  rw [h, Option.bind_some]
  by_cases ht : t < 0
  · rw [if_pos ht]; exact ⟨_, rfl, by omega, by omega⟩
  · rw [if_neg ht]; exact ⟨_, rfl, h2, h3⟩

/-! laws_szQueueS -/
theorem laws_szQueueS.sum (l : List S187) (a : Int) (h0 : 0 ≤ a) (h1 : a ≤ 1048576) (hl : l.length ≤ maxLen) (hx : ∀ x ∈ l, x.f0.length ≤ maxLen) :
    ∃ t, Ev (fun k => laws_szQueueS.f k l a) t ∧ t ≤ a ∧ (0 ≤ t → t + (l.length : Int) + (((l.map fun x => x.f0.length).sum : Nat) : Int) ≤ a) := by
  have hl' := hl
  unfold maxLen at hl'
  by_cases h : a - (l.length : Int) < 0
  · exact ⟨-1, Ev.all fun k => by unfold laws_szQueueS.f; rw [wrap_id (by omega) (by omega), if_pos h], by omega, by omega⟩
  · obtain ⟨t, ht, hle, hok⟩ := sz_sum (g := fun k a i => laws_szQueueS.l0 k l a i) l z187 (fun x => x.f0.length) (fun a => Ev.one fun k => by simp only [laws_szQueueS.l0]; rw [if_neg (by omega)])
      (fun i a hi h0 h1 => by
        have hf := hx _ (getD_mem l z187 hi)
        obtain ⟨t, e, hle, hok⟩ := laws_szQueue.val (l.getD i z187).f0 a h0 h1 hf
        have hk : ∀ k, laws_szQueueS.l0 (k + 1) l a i = if t < 0 then some (-1) else laws_szQueueS.l0 k l t ((i + 1 : Nat) : Int) := fun k => by
          simp only [laws_szQueueS.l0]
          rw [if_pos (by omega), if_pos (by omega), wrap_nat (by omega)]
          show (laws_szQueue.f (l.getD i z187).f0 a).bind _ = _
          rw [e]; rfl
        exact ⟨t, hle, fun h => Ev.one fun k => by rw [hk, if_pos h], fun h => ⟨by have := (hok h).1; omega, fun r hr => Ev.step (fun k => by rw [hk, if_neg (by omega)]) hr⟩⟩)
      (a - l.length) (by omega) (by omega)
    exact ⟨t, Ev.congr (fun k => by unfold laws_szQueueS.f; rw [wrap_id (by omega) (by omega), if_neg h]) ht, by omega, fun h => by have := hok h; omega⟩

/-! laws_szFlowS -/
theorem laws_szFlowS.val (l : List S202) (a : Int) (h0 : 0 ≤ a) (h1 : a ≤ 1048576) (hl : l.length ≤ maxLen) :
    ∃ t, laws_szFlowS.f l a = some t ∧ t ≤ a ∧ (0 ≤ t → t = a - l.length ∧ l.length ≤ 1048576) := by
  unfold maxLen at hl
  unfold laws_szFlowS.f
  rw [wrap_id (by omega) (by omega)]
  by_cases h : a - (l.length : Int) < 0
  · rw [if_pos h]; exact ⟨_, rfl, by omega, by omega⟩
  · rw [if_neg h]; exact ⟨_, rfl, by omega, by omega⟩

/-! laws_szStream -/
theorem laws_szStream.val (x y : Int) (l : List Int) (a : Int) (h0 : 0 ≤ a) (h1 : a ≤ 1048576) (hl : l.length ≤ maxLen) :
    ∃ t, laws_szStream.f x y l a = some t ∧ t ≤ a ∧ (0 ≤ t → t = a - l.length ∧ l.length ≤ 1048576) := by
  obtain ⟨t, h, h2, h3⟩ := laws_szIntS.val l a h0 h1 hl
  unfold laws_szStream.f
  rw [h, Option.bind_some]
  by_cases ht : t < 0
  · rw [if_pos ht]; exact ⟨_, rfl, by omega, by omega⟩
  · rw [if_neg ht]; exact ⟨_, rfl, h2, h3⟩

/-! laws_szStreamS -/
theorem laws_szStreamS.sum (l : List S190) (a : Int) (h0 : 0 ≤ a) (h1 : a ≤ 1048576) (hl : l.length ≤ maxLen) (hx : ∀ x ∈ l, x.f2.length ≤ maxLen) :
    ∃ t, Ev (fun k => laws_szStreamS.f k l a) t ∧ t ≤ a ∧ (0 ≤ t → t + (l.length : Int) + (((l.map fun x => x.f2.length).sum : Nat) : Int) ≤ a) := by
  have hl' := hl
  unfold maxLen at hl'
  by_cases h : a - (l.length : Int) < 0
  · exact ⟨-1, Ev.all fun k => by unfold laws_szStreamS.f; rw [wrap_id (by omega) (by omega), if_pos h], by omega, by omega⟩
  · obtain ⟨t, ht, hle, hok⟩ := sz_sum (g := fun k a i => laws_szStreamS.l0 k l a i) l z190 (fun x => x.f2.length) (fun a => Ev.one fun k => by simp only [laws_szStreamS.l0]; rw [if_neg (by omega)])
      (fun i a hi h0 h1 => by
        have hf := hx _ (getD_mem l z190 hi)
        obtain ⟨t, e, hle, hok⟩ := laws_szStream.val (l.getD i z190).f0 (l.getD i z190).f1 (l.getD i z190).f2 a h0 h1 hf
        have hk : ∀ k, laws_szStreamS.l0 (k + 1) l a i = if t < 0 then some (-1) else laws_szStreamS.l0 k l t ((i + 1 : Nat) : Int) := fun k => by
          simp only [laws_szStreamS.l0]
          rw [if_pos (by omega), if_pos (by omega), wrap_nat (by omega)]
          show (laws_szStream.f (l.getD i z190).f0 (l.getD i z190).f1 (l.getD i z190).f2 a).bind _ = _
          rw [e]; rfl
        exact ⟨t, hle, fun h => Ev.one fun k => by rw [hk, if_pos h], fun h => ⟨by have := (hok h).1; omega, fun r hr => Ev.step (fun k => by rw [hk, if_neg (by omega)]) hr⟩⟩)
      (a - l.length) (by omega) (by omega)
    exact ⟨t, Ev.congr (fun k => by unfold laws_szStreamS.f; rw [wrap_id (by omega) (by omega), if_neg h]) ht, by omega, fun h => by have := hok h; omega⟩

/-! laws_szFaultS -/
theorem laws_szFaultS.val (l : List S208) (a : Int) (h0 : 0 ≤ a) (h1 : a ≤ 1048576) (hl : l.length ≤ maxLen) :
    ∃ t, laws_szFaultS.f l a = some t ∧ t ≤ a ∧ (0 ≤ t → t = a - l.length ∧ l.length ≤ 1048576) := by
  unfold maxLen at hl
  unfold laws_szFaultS.f
  rw [wrap_id (by omega) (by omega)]
  by_cases h : a - (l.length : Int) < 0
  · rw [if_pos h]; exact ⟨_, rfl, by omega, by omega⟩
  · rw [if_neg h]; exact ⟨_, rfl, by omega, by omega⟩

/-! laws_szSentS -/
theorem laws_szSentS.val (l : List S214) (a : Int) (h0 : 0 ≤ a) (h1 : a ≤ 1048576) (hl : l.length ≤ maxLen) :
    ∃ t, laws_szSentS.f l a = some t ∧ t ≤ a ∧ (0 ≤ t → t = a - l.length ∧ l.length ≤ 1048576) := by
  unfold maxLen at hl
  unfold laws_szSentS.f
  rw [wrap_id (by omega) (by omega)]
  by_cases h : a - (l.length : Int) < 0
  · rw [if_pos h]; exact ⟨_, rfl, by omega, by omega⟩
  · rw [if_neg h]; exact ⟨_, rfl, by omega, by omega⟩

/-! d_world -/
theorem sz_step {g : Nat → Option Int} {rest : Nat → Int → Option Int} {t0 : Int} {Φ : Prop} (h0 : Ev g t0) (h : 0 ≤ t0 → ∃ t, Ev (fun k => rest k t0) t ∧ (0 ≤ t → Φ)) :
    ∃ t, Ev (fun k => (g k).bind fun t => if t < 0 then some (-1) else rest k t) t ∧ (0 ≤ t → Φ) := by
  by_cases hn : t0 < 0
  · exact ⟨-1, Ev.bind h0 (Ev.all fun k => by rw [if_pos hn]), fun h => absurd h (by decide)⟩
  · obtain ⟨t, ht, hp⟩ := h (by omega)
    exact ⟨t, Ev.bind h0 (Ev.congr (fun k => by rw [if_neg hn]) ht), hp⟩
structure FitW (x1 : List S251) (x2 : List S255) (x8 : List S263) (x13 : List S177) (x14 x15 : List Int) (x16 : List S197) (x17 : List S187) (x18 : List S202) (x19 : List Int) (x20 : List S190) (x21 : List S208) (x24 : List S210) (x25 : List S214) : Prop where
  h1 : x1.length ≤ 1048576
  h2 : x2.length ≤ 1048576
  h8 : x8.length ≤ 1048576
  h13 : fitQ 1048576 x13
  h14 : x14.length ≤ 1048576
  h15 : x15.length ≤ 1048576
  h16 : x16.length ≤ 1048576
  h17 : x17.length ≤ 1048576
  s17 : (x17.map fun x => x.f0.length).sum + x24.length ≤ 1048576
  h18 : x18.length ≤ 1048576
  h19 : x19.length ≤ 1048576
  h20 : x20.length ≤ 1048576
  s20 : (x20.map fun x => x.f2.length).sum ≤ 1048576
  h21 : x21.length ≤ 1048576
  h24 : x24.length ≤ 1048576
  h25 : x25.length ≤ 1048576
theorem le_sum {α : Type} (c : α → Nat) : ∀ (l : List α), ∀ x ∈ l, c x ≤ (l.map c).sum
  | [], _, h => by cases h
  | y :: l, x, h => by
    rw [List.map_cons, List.sum_cons]
    rcases List.mem_cons.1 h with rfl | h
    · omega
    · have := le_sum c l x h; omega

/-! d_wQ -/
theorem fit_of {l : List S177} (h : l.length ≤ maxLen ∧ ∀ e_ ∈ l, W177 e_) : fitQ maxLen l :=
  ⟨h.1, fun x hx => ⟨(h.2 x hx).2.1.1, (h.2 x hx).2.2.1, fun t ht => ⟨((h.2 x hx).2.2.2 t ht).2.1.1, ((h.2 x hx).2.2.2 t ht).2.2.1⟩⟩⟩

/-! laws_szWorld -/
theorem laws_szWorld.ev (x0 : Int) (x1 : List S251) (x2 : List S255) (x3 : Int) (x4 : Int) (x5 : Int) (x6 : Int) (x7 : Int) (x8 : List S263) (x9 : Int) (x10 : Int) (x11 : Int) (x12 : Int) (x13 : List S177) (x14 : List Int) (x15 : List Int) (x16 : List S197) (x17 : List S187) (x18 : List S202) (x19 : List Int) (x20 : List S190) (x21 : List S208) (x22 : Int) (x23 : Int) (x24 : List S210) (x25 : List S214) (h1 : x1.length ≤ maxLen) (h2 : x2.length ≤ maxLen) (h8 : x8.length ≤ maxLen) (h13 : fitQ maxLen x13) (h14 : x14.length ≤ maxLen) (h15 : x15.length ≤ maxLen) (h16 : x16.length ≤ maxLen) (h17 : x17.length ≤ maxLen) (q17 : ∀ x ∈ x17, x.f0.length ≤ maxLen) (h18 : x18.length ≤ maxLen) (h19 : x19.length ≤ maxLen) (h20 : x20.length ≤ maxLen) (q20 : ∀ x ∈ x20, x.f2.length ≤ maxLen) (h21 : x21.length ≤ maxLen) (h24 : x24.length ≤ maxLen) (h25 : x25.length ≤ maxLen) :
    ∃ t, Ev (fun k => laws_szWorld.f k x0 x1 x2 x3 x4 x5 x6 x7 x8 x9 x10 x11 x12 x13 x14 x15 x16 x17 x18 x19 x20 x21 x22 x23 x24 x25 1048576) t ∧ (0 ≤ t → FitW x1 x2 x8 x13 x14 x15 x16 x17 x18 x19 x20 x21 x24 x25) := by
  unfold laws_szWorld.f
  obtain ⟨t1, e1, l1, k1⟩ := laws_szSky.val x0 x1 x2 x3 x4 x5 x6 x7 x8 x9 1048576 (by omega) (by omega) h1 h2 h8
  refine sz_step (Ev.all fun _ => e1) fun p1 => ?_
  obtain ⟨t2, e2, l2, k2⟩ := laws_szProgram.ev x10 x11 x12 x13 t1 p1 (by omega) h13
  refine sz_step e2 fun p2 => ?_
  obtain ⟨t3, e3, l3, k3⟩ := laws_szLaw.val x14 t2 p2 (by omega) h14
  refine sz_step (Ev.all fun _ => e3) fun p3 => ?_
  obtain ⟨t4, e4, l4, k4⟩ := laws_szIntS.val x15 t3 p3 (by omega) h15
  refine sz_step (Ev.all fun _ => e4) fun p4 => ?_
  obtain ⟨t5, e5, l5, k5⟩ := laws_szBatteryS.val x16 t4 p4 (by omega) h16
  refine sz_step (Ev.all fun _ => e5) fun p5 => ?_
  obtain ⟨t6, e6, l6, k6⟩ := laws_szQueueS.sum x17 t5 p5 (by omega) h17 q17
  refine sz_step e6 fun p6 => ?_
  obtain ⟨t7, e7, l7, k7⟩ := laws_szFlowS.val x18 t6 p6 (by omega) h18
  refine sz_step (Ev.all fun _ => e7) fun p7 => ?_
  obtain ⟨t8, e8, l8, k8⟩ := laws_szIntS.val x19 t7 p7 (by omega) h19
  refine sz_step (Ev.all fun _ => e8) fun p8 => ?_
  obtain ⟨t9, e9, l9, k9⟩ := laws_szStreamS.sum x20 t8 p8 (by omega) h20 q20
  refine sz_step e9 fun p9 => ?_
  obtain ⟨t10, e10, l10, k10⟩ := laws_szFaultS.val x21 t9 p9 (by omega) h21
  refine sz_step (Ev.all fun _ => e10) fun p10 => ?_
  obtain ⟨t11, e11, l11, k11⟩ := laws_szPacketS.val x24 t10 p10 (by omega) h24
  refine sz_step (Ev.all fun _ => e11) fun p11 => ?_
  obtain ⟨t12, e12, l12, k12⟩ := laws_szSentS.val x25 t11 p11 (by omega) h25
  refine sz_step (Ev.all fun _ => e12) fun p12 => ⟨t12, Ev.now _, fun _ => ?_⟩
  have a6 := k6 p6
  have a9 := k9 p9
  have a11 := k11 p11
  exact ⟨(k1 p1).1, (k1 p1).2.1, (k1 p1).2.2, k2 p2, (k3 p3).2, (k4 p4).2, (k5 p5).2, by omega, by omega, (k7 p7).2, (k8 p8).2, by omega, by omega, (k10 p10).2, a11.2, (k12 p12).2⟩

/-! d_places -/
def stepP (id : Int) (s : Int) (x : S132) : Int := if x.f0 = id then wrap64 (s + 1) else s
def isP (id : Int) (x : S132) : Bool := decide (x.f0 = id)
theorem stepP_count (id : Int) : ∀ (l : List S132) (s : Nat), s + l.length < 4611686018427387904 → l.foldl (stepP id) ((s : Nat) : Int) = ((s + (l.filter (isP id)).length : Nat) : Int)
  | [], s, _ => by simp
  | x :: l, s, h => by
    rw [List.length_cons] at h
    rw [List.foldl_cons, List.filter_cons]
    unfold stepP isP
    by_cases c : x.f0 = id
    · rw [if_pos c, if_pos (decide_eq_true c), wrap_nat (by omega), List.length_cons]
      have := stepP_count id l (s + 1) (by omega)
      unfold stepP isP at this
      rw [this]; congr 1; omega
    · rw [if_neg c, if_neg (by simpa using c)]
      exact stepP_count id l s (by omega)
theorem getD_at {α : Type} (l : List α) (z : α) {i : Nat} (h : i < l.length) : l[i] = l.getD i z := by
  rw [List.getD_eq_getElem?_getD, List.getElem?_eq_getElem h]; rfl
def allP (qs : List S130) : List S132 := (qs.map fun x => x.f0).flatten
theorem allP_len (qs : List S130) : (allP qs).length = (qs.map fun x => x.f0.length).sum := by
  unfold allP
  rw [List.length_flatten, List.map_map]
  rfl
def placesN (id : Int) (qs : List S130) (done : List S132) : Int := (((allP qs).filter (isP id)).length + (done.filter (isP id)).length : Nat)

/-! spec_PacketPlaces -/
theorem spec_PacketPlaces.ev (x0 : Int) (x1 : List S249) (x2 : List S253) (x3 : Int) (x4 : Int) (x5 : Int) (x6 : Int) (x7 : Int) (x8 : List S259) (x9 : Int) (x10 : Int) (x11 : Int) (x12 : Int) (x13 : List S112) (x14 : List Int) (x15 : List Int) (x16 : List S195) (x17 : List S130) (x18 : List S200) (x19 : List Int) (x20 : List S203) (x21 : List S206) (x22 : Int) (x23 : Int) (x24 : List S132) (x25 : List S212) (id : Int) (h17 : x17.length ≤ 1048576) (q17 : ∀ x ∈ x17, x.f0.length ≤ 1048576) (s17 : (x17.map fun x => x.f0.length).sum + x24.length ≤ 1048576) : Ev (fun k => spec_PacketPlaces.f k x0 x1 x2 x3 x4 x5 x6 x7 x8 x9 x10 x11 x12 x13 x14 x15 x16 x17 x18 x19 x20 x21 x22 x23 x24 x25 id) (placesN id x17 x24) := by
  have hl2 : ∀ s, Ev (fun k => spec_PacketPlaces.l2 k id s 0 x0 x1 x2 x3 x4 x5 x6 x7 x8 x9 x10 x11 x12 x13 x14 x15 x16 x17 x18 x19 x20 x21 x22 x23 x24 x25) (x24.foldl (stepP id) s) := fun s =>
    fold_list (g := fun k s i => spec_PacketPlaces.l2 k id s i x0 x1 x2 x3 x4 x5 x6 x7 x8 x9 x10 x11 x12 x13 x14 x15 x16 x17 x18 x19 x20 x21 x22 x23 x24 x25) (f := stepP id) (fin := fun s => s) x24 z132 s
      (fun s => Ev.one fun k => by simp only [spec_PacketPlaces.l2]; rw [if_neg (by omega)])
      (fun i s k hi => by
        simp only [spec_PacketPlaces.l2]
        rw [if_pos (by omega), if_pos (by omega), wrap_nat (by omega)]
        show (if (x24.getD i z132).f0 = id then _ else _) = _
        unfold stepP
        split <;> rfl)
  have hl1 : ∀ (i : Nat) (R : Int), i < x17.length → ∀ (d j : Nat) (s : Int), j + d = (x17.getD i z130).f0.length → Ev (fun k => spec_PacketPlaces.l0 k id (((x17.getD i z130).f0.drop j).foldl (stepP id) s) ((i + 1 : Nat) : Int) x0 x1 x2 x3 x4 x5 x6 x7 x8 x9 x10 x11 x12 x13 x14 x15 x16 x17 x18 x19 x20 x21 x22 x23 x24 x25) R → Ev (fun k => spec_PacketPlaces.l1 k id s (i : Int) (j : Int) x0 x1 x2 x3 x4 x5 x6 x7 x8 x9 x10 x11 x12 x13 x14 x15 x16 x17 x18 x19 x20 x21 x22 x23 x24 x25) R := by
    intro i R hi d
    have hq := q17 _ (getD_mem x17 z130 hi)
    have hr : (rd_T130 x17 ((i : Nat) : Int)) = x17.getD i z130 := rfl
    induction d with
    | zero =>
      intro j s hj hR
      rw [List.drop_of_length_le (by omega), List.foldl_nil] at hR
      exact Ev.step (fun k => by simp only [spec_PacketPlaces.l1]; rw [if_pos (by omega), if_pos (by omega), hr, if_neg (by omega), wrap_nat (by omega)]) hR
    | succ d ih =>
      intro j s hj hR
      have hj2 : j < (x17.getD i z130).f0.length := by omega
      rw [List.drop_eq_getElem_cons hj2, List.foldl_cons, getD_at _ z132 hj2] at hR
      have := ih (j + 1) _ (by omega) hR
      refine Ev.step (fun k => ?_) this
      simp only [spec_PacketPlaces.l1]
      rw [if_pos (by omega), if_pos (by omega), hr, if_pos (by omega), if_pos (by omega), wrap_nat (by omega)]
      show (if ((x17.getD i z130).f0.getD j z132).f0 = id then _ else _) = _
      unfold stepP
      split <;> rfl
  have hl0 : ∀ (d i : Nat) (s : Int), i + d = x17.length → Ev (fun k => spec_PacketPlaces.l0 k id s (i : Int) x0 x1 x2 x3 x4 x5 x6 x7 x8 x9 x10 x11 x12 x13 x14 x15 x16 x17 x18 x19 x20 x21 x22 x23 x24 x25) (x24.foldl (stepP id) ((allP (x17.drop i)).foldl (stepP id) s)) := by
    intro d
    induction d with
    | zero =>
      intro i s hi
      rw [List.drop_of_length_le (by omega)]
      exact Ev.step (fun k => by simp only [spec_PacketPlaces.l0]; rw [if_neg (by omega)]) (hl2 s)
    | succ d ih =>
      intro i s hi
      have hn := ih (i + 1) ((x17.getD i z130).f0.foldl (stepP id) s) (by omega)
      have e : allP (x17.drop i) = (x17.getD i z130).f0 ++ allP (x17.drop (i + 1)) := by
        rw [List.drop_eq_getElem_cons (show i < x17.length by omega), getD_at x17 z130 (show i < x17.length by omega)]
        unfold allP
        rw [List.map_cons, List.flatten_cons]
      rw [e, List.foldl_append]
      exact Ev.step (fun k => by simp only [spec_PacketPlaces.l0]; rw [if_pos (by omega)]; rfl) (hl1 i _ (by omega) _ 0 s (Nat.zero_add _) hn)
  have h := hl0 x17.length 0 0 (by omega)
  rw [List.drop_zero] at h
  have hlen := allP_len x17
  have c1 := stepP_count id (allP x17) 0 (by omega)
  rw [Nat.zero_add] at c1
  have hf := List.length_filter_le (isP id) (allP x17)
  have c2 := stepP_count id x24 ((allP x17).filter (isP id)).length (by omega)
  rw [show (((0 : Nat) : Int)) = 0 from rfl] at c1
  rw [c1, c2] at h
  exact h

/-! laws_toLinkS -/
def cLink (x : S168) : S166 := ⟨x.f0, x.f1⟩
theorem laws_toLinkS.ev_l (l : List S168) (hl : l.length ≤ 1048576) : ∀ (d i : Nat) (o : List S166), i + d = l.length → o.length = l.length → o.take i = (l.map cLink).take i → Ev (fun k => laws_toLinkS.l0 k l o i) (l.map cLink) := by
  intro d
  induction d with
  | zero =>
    intro i o hi ho ht
    refine Ev.one fun k => ?_
    simp only [laws_toLinkS.l0]
    rw [if_neg (by omega), take_full (by simpa using ho) (by simp; omega) ht]
  | succ d ih =>
    intro i o hi ho ht
    refine Ev.step (fun k => ?_) (ih (i + 1) (o.set i (cLink (l.getD i z168))) (by omega) (by simp [ho]) (set_take o _ _ (by simpa using ho) (get_map cLink l z168 (by omega)) ht))
    simp only [laws_toLinkS.l0, laws_toLink.f, Option.bind_some]
    rw [if_pos (by omega), if_pos (by omega), if_pos (by omega), wrap_nat (by omega)]
    rfl
theorem laws_toLinkS.ev (l : List S168) (hl : l.length ≤ 1048576) : Ev (fun k => laws_toLinkS.f k l) (l.map cLink) :=
  Ev.congr (fun k => by unfold laws_toLinkS.f; rw [if_pos (by omega), if_pos (by omega)] <;> rfl) (laws_toLinkS.ev_l l hl l.length 0 _ (by omega) (by simp) (by simp))

/-! laws_toIntS -/
theorem laws_toIntS.ev_l (l : List Int) (hl : l.length ≤ 1048576) : ∀ (d i : Nat) (o : List Int), i + d = l.length → o.length = l.length → o.take i = l.take i → Ev (fun k => laws_toIntS.l0 k l o i) l := by
  intro d
  induction d with
  | zero =>
    intro i o hi ho ht
    refine Ev.one fun k => ?_
    simp only [laws_toIntS.l0]
    rw [if_neg (by omega), take_full ho (by omega) ht]
  | succ d ih =>
    intro i o hi ho ht
    refine Ev.step (fun k => ?_) (ih (i + 1) (o.set i (l.getD i 0)) (by omega) (by simp [ho]) (set_take o l _ ho (get_of l 0 (by omega)) ht))
    simp only [laws_toIntS.l0]
    rw [if_pos (by omega), if_pos (by omega), if_pos (by omega), wrap_nat (by omega)]
    rfl
theorem laws_toIntS.ev (l : List Int) (hl : l.length ≤ 1048576) : Ev (fun k => laws_toIntS.f k l) l :=
  Ev.congr (fun k => by unfold laws_toIntS.f; rw [if_pos (by omega), if_pos (by omega)] <;> rfl) (laws_toIntS.ev_l l hl l.length 0 _ (by omega) (by simp) (by simp))

/-! laws_toTable -/
theorem laws_toTable.ev (x : Int) (l m : List Int) (hl : l.length ≤ 1048576) (hm : m.length ≤ 1048576) : Ev (fun k => laws_toTable.f k x l m) (x, l, m) :=
  Ev.bind (laws_toIntS.ev l hl) (Ev.bind (laws_toIntS.ev m hm) (Ev.now _))

/-! d_cTable -/
def cTable (x : S285) : S247 := ⟨x.f0, x.f1, x.f2⟩

/-! laws_toTableS -/
theorem laws_toTableS.ev (l : List S285) (hl : l.length ≤ 1048576) (hx : ∀ x ∈ l, fitT 1048576 x) : Ev (fun k => laws_toTableS.f k l) (l.map cTable) := by
  refine Ev.congr (fun k => by unfold laws_toTableS.f; rw [if_pos (by omega), if_pos (by omega)] <;> rfl) (to_loop (g := fun k o i => laws_toTableS.l0 k l o i) l z285 cTable (fun o => Ev.one fun k => by simp only [laws_toTableS.l0]; rw [if_neg (by omega)]) (fun i o hi ho r hr => ?_) _ (by simp))
  have hf := hx _ (getD_mem l z285 hi)
  refine Ev.step (fun k => by simp only [laws_toTableS.l0]; rw [if_pos (by omega), if_pos (by omega), wrap_nat (by omega)]; rfl) (Ev.bind (laws_toTable.ev (l.getD i z285).f0 (l.getD i z285).f1 (l.getD i z285).f2 hf.1 hf.2) ?_)
  exact Ev.congr (fun k => by rw [if_pos (by omega)]; rfl) hr

/-! d_cPiece -/
def cPiece (x : S177) : S112 := ⟨⟨x.f0.f0, x.f0.f1⟩, x.f1.map cLink, x.f2.map cTable⟩

/-! laws_toPiece -/
theorem laws_toPiece.ev (x : S177) (hx : fitP 1048576 x) : Ev (fun k => laws_toPiece.f k x.f0.f0 x.f0.f1 x.f1 x.f2) (x.f0.f0, x.f0.f1, x.f1.map cLink, x.f2.map cTable) := by
  refine Ev.congr (fun k => by unfold laws_toPiece.f; rw [laws_toSpan.f, Option.bind_some]) ?_
  exact Ev.bind (laws_toLinkS.ev x.f1 hx.1) (Ev.bind (laws_toTableS.ev x.f2 hx.2.1 hx.2.2) (Ev.now _))

/-! laws_toPieceS -/
theorem laws_toPieceS.ev (l : List S177) (hx : fitQ 1048576 l) : Ev (fun k => laws_toPieceS.f k l) (l.map cPiece) := by
  obtain ⟨hl, hx⟩ := hx
  refine Ev.congr (fun k => by unfold laws_toPieceS.f; rw [if_pos (by omega), if_pos (by omega)] <;> rfl) (to_loop (g := fun k o i => laws_toPieceS.l0 k l o i) l z177 cPiece (fun o => Ev.one fun k => by simp only [laws_toPieceS.l0]; rw [if_neg (by omega)]) (fun i o hi ho r hr => ?_) _ (by simp))
  have hf := hx _ (getD_mem l z177 hi)
  refine Ev.step (fun k => by simp only [laws_toPieceS.l0]; rw [if_pos (by omega), if_pos (by omega), wrap_nat (by omega)]; rfl) (Ev.bind (laws_toPiece.ev (l.getD i z177) hf) ?_)
  exact Ev.congr (fun k => by rw [if_pos (by omega)]; rfl) hr

/-! laws_toProgram -/
theorem laws_toProgram.ev (x y z : Int) (l : List S177) (hx : fitQ 1048576 l) : Ev (fun k => laws_toProgram.f k x y z l) (x, y, z, l.map cPiece) := Ev.bind (laws_toPieceS.ev l hx) (Ev.now _)

/-! laws_toSatS -/
def cSat (x : S251) : S249 := ⟨x.f0, x.f1, x.f2, x.f3⟩
theorem laws_toSatS.ev_l (l : List S251) (hl : l.length ≤ 1048576) : ∀ (d i : Nat) (o : List S249), i + d = l.length → o.length = l.length → o.take i = (l.map cSat).take i → Ev (fun k => laws_toSatS.l0 k l o i) (l.map cSat) := by
  intro d
  induction d with
  | zero =>
    intro i o hi ho ht
    refine Ev.one fun k => ?_
    simp only [laws_toSatS.l0]
    rw [if_neg (by omega), take_full (by simpa using ho) (by simp; omega) ht]
  | succ d ih =>
    intro i o hi ho ht
    refine Ev.step (fun k => ?_) (ih (i + 1) (o.set i (cSat (l.getD i z251))) (by omega) (by simp [ho]) (set_take o _ _ (by simpa using ho) (get_map cSat l z251 (by omega)) ht))
    simp only [laws_toSatS.l0, laws_toSat.f, Option.bind_some]
    rw [if_pos (by omega), if_pos (by omega), if_pos (by omega), wrap_nat (by omega)]
    rfl
theorem laws_toSatS.ev (l : List S251) (hl : l.length ≤ 1048576) : Ev (fun k => laws_toSatS.f k l) (l.map cSat) :=
  Ev.congr (fun k => by unfold laws_toSatS.f; rw [if_pos (by omega), if_pos (by omega)] <;> rfl) (laws_toSatS.ev_l l hl l.length 0 _ (by omega) (by simp) (by simp))

/-! laws_toSiteS -/
def cSite (x : S255) : S253 := ⟨x.f0, x.f1, x.f2⟩
theorem laws_toSiteS.ev_l (l : List S255) (hl : l.length ≤ 1048576) : ∀ (d i : Nat) (o : List S253), i + d = l.length → o.length = l.length → o.take i = (l.map cSite).take i → Ev (fun k => laws_toSiteS.l0 k l o i) (l.map cSite) := by
  intro d
  induction d with
  | zero =>
    intro i o hi ho ht
    refine Ev.one fun k => ?_
    simp only [laws_toSiteS.l0]
    rw [if_neg (by omega), take_full (by simpa using ho) (by simp; omega) ht]
  | succ d ih =>
    intro i o hi ho ht
    refine Ev.step (fun k => ?_) (ih (i + 1) (o.set i (cSite (l.getD i z255))) (by omega) (by simp [ho]) (set_take o _ _ (by simpa using ho) (get_map cSite l z255 (by omega)) ht))
    simp only [laws_toSiteS.l0, laws_toSite.f, Option.bind_some]
    rw [if_pos (by omega), if_pos (by omega), if_pos (by omega), wrap_nat (by omega)]
    rfl
theorem laws_toSiteS.ev (l : List S255) (hl : l.length ≤ 1048576) : Ev (fun k => laws_toSiteS.f k l) (l.map cSite) :=
  Ev.congr (fun k => by unfold laws_toSiteS.f; rw [if_pos (by omega), if_pos (by omega)] <;> rfl) (laws_toSiteS.ev_l l hl l.length 0 _ (by omega) (by simp) (by simp))

/-! laws_toZoneS -/
def cZone (x : S263) : S259 := ⟨x.f0, ⟨x.f1.f0, x.f1.f1⟩⟩
theorem laws_toZoneS.ev_l (l : List S263) (hl : l.length ≤ 1048576) : ∀ (d i : Nat) (o : List S259), i + d = l.length → o.length = l.length → o.take i = (l.map cZone).take i → Ev (fun k => laws_toZoneS.l0 k l o i) (l.map cZone) := by
  intro d
  induction d with
  | zero =>
    intro i o hi ho ht
    refine Ev.one fun k => ?_
    simp only [laws_toZoneS.l0]
    rw [if_neg (by omega), take_full (by simpa using ho) (by simp; omega) ht]
  | succ d ih =>
    intro i o hi ho ht
    refine Ev.step (fun k => ?_) (ih (i + 1) (o.set i (cZone (l.getD i z263))) (by omega) (by simp [ho]) (set_take o _ _ (by simpa using ho) (get_map cZone l z263 (by omega)) ht))
    simp only [laws_toZoneS.l0, laws_toZone.f, laws_toArc.f, Option.bind_some]
    rw [if_pos (by omega), if_pos (by omega), if_pos (by omega), wrap_nat (by omega)]
    rfl
theorem laws_toZoneS.ev (l : List S263) (hl : l.length ≤ 1048576) : Ev (fun k => laws_toZoneS.f k l) (l.map cZone) :=
  Ev.congr (fun k => by unfold laws_toZoneS.f; rw [if_pos (by omega), if_pos (by omega)] <;> rfl) (laws_toZoneS.ev_l l hl l.length 0 _ (by omega) (by simp) (by simp))

/-! laws_toSky -/
theorem laws_toSky.ev (x0 : Int) (x1 : List S251) (x2 : List S255) (x3 : Int) (x4 : Int) (x5 : Int) (x6 : Int) (x7 : Int) (x8 : List S263) (x9 : Int) (h1 : x1.length ≤ 1048576) (h2 : x2.length ≤ 1048576) (h8 : x8.length ≤ 1048576) : Ev (fun k => laws_toSky.f k x0 x1 x2 x3 x4 x5 x6 x7 x8 x9) (x0, x1.map cSat, x2.map cSite, x3, x4, x5, x6, x7, x8.map cZone, x9) :=
  Ev.bind (laws_toSatS.ev x1 h1) (Ev.bind (laws_toSiteS.ev x2 h2) (Ev.bind (laws_toZoneS.ev x8 h8) (Ev.now _)))

/-! laws_toLaw -/
theorem laws_toLaw.ev (l : List Int) (hl : l.length ≤ 1048576) : Ev (fun k => laws_toLaw.f k l) l := Ev.bind (laws_toIntS.ev l hl) (Ev.now _)

/-! laws_toBatteryS -/
def cBattery (x : S197) : S195 := ⟨x.f0, x.f1, x.f2, x.f3, x.f4, x.f5⟩
theorem laws_toBatteryS.ev_l (l : List S197) (hl : l.length ≤ 1048576) : ∀ (d i : Nat) (o : List S195), i + d = l.length → o.length = l.length → o.take i = (l.map cBattery).take i → Ev (fun k => laws_toBatteryS.l0 k l o i) (l.map cBattery) := by
  intro d
  induction d with
  | zero =>
    intro i o hi ho ht
    refine Ev.one fun k => ?_
    simp only [laws_toBatteryS.l0]
    rw [if_neg (by omega), take_full (by simpa using ho) (by simp; omega) ht]
  | succ d ih =>
    intro i o hi ho ht
    refine Ev.step (fun k => ?_) (ih (i + 1) (o.set i (cBattery (l.getD i z197))) (by omega) (by simp [ho]) (set_take o _ _ (by simpa using ho) (get_map cBattery l z197 (by omega)) ht))
    simp only [laws_toBatteryS.l0, laws_toBattery.f, Option.bind_some]
    rw [if_pos (by omega), if_pos (by omega), if_pos (by omega), wrap_nat (by omega)]
    rfl
theorem laws_toBatteryS.ev (l : List S197) (hl : l.length ≤ 1048576) : Ev (fun k => laws_toBatteryS.f k l) (l.map cBattery) :=
  Ev.congr (fun k => by unfold laws_toBatteryS.f; rw [if_pos (by omega), if_pos (by omega)] <;> rfl) (laws_toBatteryS.ev_l l hl l.length 0 _ (by omega) (by simp) (by simp))

/-! laws_toPacketS -/
def cPacket (x : S210) : S132 := ⟨x.f0, x.f1, x.f2, x.f3, x.f4, x.f5⟩
theorem laws_toPacketS.ev_l (l : List S210) (hl : l.length ≤ 1048576) : ∀ (d i : Nat) (o : List S132), i + d = l.length → o.length = l.length → o.take i = (l.map cPacket).take i → Ev (fun k => laws_toPacketS.l0 k l o i) (l.map cPacket) := by
  intro d
  induction d with
  | zero =>
    intro i o hi ho ht
    refine Ev.one fun k => ?_
    simp only [laws_toPacketS.l0]
    rw [if_neg (by omega), take_full (by simpa using ho) (by simp; omega) ht]
  | succ d ih =>
    intro i o hi ho ht
    refine Ev.step (fun k => ?_) (ih (i + 1) (o.set i (cPacket (l.getD i z210))) (by omega) (by simp [ho]) (set_take o _ _ (by simpa using ho) (get_map cPacket l z210 (by omega)) ht))
    simp only [laws_toPacketS.l0, laws_toPacket.f, Option.bind_some]
    rw [if_pos (by omega), if_pos (by omega), if_pos (by omega), wrap_nat (by omega)]
    rfl
theorem laws_toPacketS.ev (l : List S210) (hl : l.length ≤ 1048576) : Ev (fun k => laws_toPacketS.f k l) (l.map cPacket) :=
  Ev.congr (fun k => by unfold laws_toPacketS.f; rw [if_pos (by omega), if_pos (by omega)] <;> rfl) (laws_toPacketS.ev_l l hl l.length 0 _ (by omega) (by simp) (by simp))

/-! laws_toQueue -/
theorem laws_toQueue.ev (l : List S210) (hl : l.length ≤ 1048576) : Ev (fun k => laws_toQueue.f k l) (l.map cPacket) := Ev.bind (laws_toPacketS.ev l hl) (Ev.now _)

/-! laws_toQueueS -/
def cQueue (x : S187) : S130 := ⟨x.f0.map cPacket⟩
theorem laws_toQueueS.ev (l : List S187) (hl : l.length ≤ 1048576) (hx : ∀ x ∈ l, x.f0.length ≤ 1048576) : Ev (fun k => laws_toQueueS.f k l) (l.map cQueue) := by
  refine Ev.congr (fun k => by unfold laws_toQueueS.f; rw [if_pos (by omega), if_pos (by omega)] <;> rfl) (to_loop (g := fun k o i => laws_toQueueS.l0 k l o i) l z187 cQueue (fun o => Ev.one fun k => by simp only [laws_toQueueS.l0]; rw [if_neg (by omega)]) (fun i o hi ho r hr => ?_) _ (by simp))
  have hf := hx _ (getD_mem l z187 hi)
  refine Ev.step (fun k => by simp only [laws_toQueueS.l0]; rw [if_pos (by omega), if_pos (by omega), wrap_nat (by omega)]; rfl) (Ev.bind (laws_toQueue.ev (l.getD i z187).f0 hf) ?_)
  exact Ev.congr (fun k => by rw [if_pos (by omega)]; rfl) hr

/-! laws_toFlowS -/
def cFlow (x : S202) : S200 := ⟨x.f0, x.f1, x.f2, x.f3⟩
theorem laws_toFlowS.ev_l (l : List S202) (hl : l.length ≤ 1048576) : ∀ (d i : Nat) (o : List S200), i + d = l.length → o.length = l.length → o.take i = (l.map cFlow).take i → Ev (fun k => laws_toFlowS.l0 k l o i) (l.map cFlow) := by
  intro d
  induction d with
  | zero =>
    intro i o hi ho ht
    refine Ev.one fun k => ?_
    simp only [laws_toFlowS.l0]
    rw [if_neg (by omega), take_full (by simpa using ho) (by simp; omega) ht]
  | succ d ih =>
    intro i o hi ho ht
    refine Ev.step (fun k => ?_) (ih (i + 1) (o.set i (cFlow (l.getD i z202))) (by omega) (by simp [ho]) (set_take o _ _ (by simpa using ho) (get_map cFlow l z202 (by omega)) ht))
    simp only [laws_toFlowS.l0, laws_toFlow.f, Option.bind_some]
    rw [if_pos (by omega), if_pos (by omega), if_pos (by omega), wrap_nat (by omega)]
    rfl
theorem laws_toFlowS.ev (l : List S202) (hl : l.length ≤ 1048576) : Ev (fun k => laws_toFlowS.f k l) (l.map cFlow) :=
  Ev.congr (fun k => by unfold laws_toFlowS.f; rw [if_pos (by omega), if_pos (by omega)] <;> rfl) (laws_toFlowS.ev_l l hl l.length 0 _ (by omega) (by simp) (by simp))

/-! laws_toStream -/
theorem laws_toStream.ev (x y : Int) (l : List Int) (hl : l.length ≤ 1048576) : Ev (fun k => laws_toStream.f k x y l) (x, y, l) := Ev.bind (laws_toIntS.ev l hl) (Ev.now _)

/-! laws_toStreamS -/
def cStream (x : S190) : S203 := ⟨x.f0, x.f1, x.f2⟩
theorem laws_toStreamS.ev (l : List S190) (hl : l.length ≤ 1048576) (hx : ∀ x ∈ l, x.f2.length ≤ 1048576) : Ev (fun k => laws_toStreamS.f k l) (l.map cStream) := by
  refine Ev.congr (fun k => by unfold laws_toStreamS.f; rw [if_pos (by omega), if_pos (by omega)] <;> rfl) (to_loop (g := fun k o i => laws_toStreamS.l0 k l o i) l z190 cStream (fun o => Ev.one fun k => by simp only [laws_toStreamS.l0]; rw [if_neg (by omega)]) (fun i o hi ho r hr => ?_) _ (by simp))
  have hf := hx _ (getD_mem l z190 hi)
  refine Ev.step (fun k => by simp only [laws_toStreamS.l0]; rw [if_pos (by omega), if_pos (by omega), wrap_nat (by omega)]; rfl) (Ev.bind (laws_toStream.ev (l.getD i z190).f0 (l.getD i z190).f1 (l.getD i z190).f2 hf) ?_)
  exact Ev.congr (fun k => by rw [if_pos (by omega)]; rfl) hr

/-! laws_toFaultS -/
def cFault (x : S208) : S206 := ⟨x.f0, x.f1, x.f2, x.f3⟩
theorem laws_toFaultS.ev_l (l : List S208) (hl : l.length ≤ 1048576) : ∀ (d i : Nat) (o : List S206), i + d = l.length → o.length = l.length → o.take i = (l.map cFault).take i → Ev (fun k => laws_toFaultS.l0 k l o i) (l.map cFault) := by
  intro d
  induction d with
  | zero =>
    intro i o hi ho ht
    refine Ev.one fun k => ?_
    simp only [laws_toFaultS.l0]
    rw [if_neg (by omega), take_full (by simpa using ho) (by simp; omega) ht]
  | succ d ih =>
    intro i o hi ho ht
    refine Ev.step (fun k => ?_) (ih (i + 1) (o.set i (cFault (l.getD i z208))) (by omega) (by simp [ho]) (set_take o _ _ (by simpa using ho) (get_map cFault l z208 (by omega)) ht))
    simp only [laws_toFaultS.l0, laws_toFault.f, Option.bind_some]
    rw [if_pos (by omega), if_pos (by omega), if_pos (by omega), wrap_nat (by omega)]
    rfl
theorem laws_toFaultS.ev (l : List S208) (hl : l.length ≤ 1048576) : Ev (fun k => laws_toFaultS.f k l) (l.map cFault) :=
  Ev.congr (fun k => by unfold laws_toFaultS.f; rw [if_pos (by omega), if_pos (by omega)] <;> rfl) (laws_toFaultS.ev_l l hl l.length 0 _ (by omega) (by simp) (by simp))

/-! laws_toSentS -/
def cSent (x : S214) : S212 := ⟨x.f0, x.f1, x.f2, x.f3⟩
theorem laws_toSentS.ev_l (l : List S214) (hl : l.length ≤ 1048576) : ∀ (d i : Nat) (o : List S212), i + d = l.length → o.length = l.length → o.take i = (l.map cSent).take i → Ev (fun k => laws_toSentS.l0 k l o i) (l.map cSent) := by
  intro d
  induction d with
  | zero =>
    intro i o hi ho ht
    refine Ev.one fun k => ?_
    simp only [laws_toSentS.l0]
    rw [if_neg (by omega), take_full (by simpa using ho) (by simp; omega) ht]
  | succ d ih =>
    intro i o hi ho ht
    refine Ev.step (fun k => ?_) (ih (i + 1) (o.set i (cSent (l.getD i z214))) (by omega) (by simp [ho]) (set_take o _ _ (by simpa using ho) (get_map cSent l z214 (by omega)) ht))
    simp only [laws_toSentS.l0, laws_toSent.f, Option.bind_some]
    rw [if_pos (by omega), if_pos (by omega), if_pos (by omega), wrap_nat (by omega)]
    rfl
theorem laws_toSentS.ev (l : List S214) (hl : l.length ≤ 1048576) : Ev (fun k => laws_toSentS.f k l) (l.map cSent) :=
  Ev.congr (fun k => by unfold laws_toSentS.f; rw [if_pos (by omega), if_pos (by omega)] <;> rfl) (laws_toSentS.ev_l l hl l.length 0 _ (by omega) (by simp) (by simp))

/-! laws_toWorld -/
theorem laws_toWorld.ev (x0 : Int) (x1 : List S251) (x2 : List S255) (x3 : Int) (x4 : Int) (x5 : Int) (x6 : Int) (x7 : Int) (x8 : List S263) (x9 : Int) (x10 : Int) (x11 : Int) (x12 : Int) (x13 : List S177) (x14 : List Int) (x15 : List Int) (x16 : List S197) (x17 : List S187) (x18 : List S202) (x19 : List Int) (x20 : List S190) (x21 : List S208) (x22 : Int) (x23 : Int) (x24 : List S210) (x25 : List S214) (h : FitW x1 x2 x8 x13 x14 x15 x16 x17 x18 x19 x20 x21 x24 x25) : Ev (fun k => laws_toWorld.f k x0 x1 x2 x3 x4 x5 x6 x7 x8 x9 x10 x11 x12 x13 x14 x15 x16 x17 x18 x19 x20 x21 x22 x23 x24 x25) (x0, (x1.map cSat), (x2.map cSite), x3, x4, x5, x6, x7, (x8.map cZone), x9, x10, x11, x12, (x13.map cPiece), x14, x15, (x16.map cBattery), (x17.map cQueue), (x18.map cFlow), x19, (x20.map cStream), (x21.map cFault), x22, x23, (x24.map cPacket), (x25.map cSent)) := by
  have s17 := h.s17
  have s20 := h.s20
  refine Ev.bind (laws_toSky.ev x0 x1 x2 x3 x4 x5 x6 x7 x8 x9 h.h1 h.h2 h.h8) (Ev.bind (laws_toProgram.ev x10 x11 x12 x13 h.h13) (Ev.bind (laws_toLaw.ev x14 h.h14) (Ev.bind (laws_toIntS.ev x15 h.h15) (Ev.bind (laws_toBatteryS.ev x16 h.h16) ?_))))
  refine Ev.bind (laws_toQueueS.ev x17 h.h17 (fun x hx => by have := le_sum (fun x : S187 => x.f0.length) x17 x hx; omega)) (Ev.bind (laws_toFlowS.ev x18 h.h18) (Ev.bind (laws_toIntS.ev x19 h.h19) ?_))
  refine Ev.bind (laws_toStreamS.ev x20 h.h20 (fun x hx => by have := le_sum (fun x : S190 => x.f2.length) x20 x hx; omega)) (Ev.bind (laws_toFaultS.ev x21 h.h21) (Ev.bind (laws_toPacketS.ev x24 h.h24) (Ev.bind (laws_toSentS.ev x25 h.h25) (Ev.now _))))

/-! slices_Clone_impl_Packet_impl_Packet -/
theorem slices_Clone_impl_Packet_impl_Packet.val (l : List S132) (hl : l.length ≤ 1048576) : slices_Clone_impl_Packet_impl_Packet.f l = some l := by
  unfold slices_Clone_impl_Packet_impl_Packet.f
  rw [if_pos (by omega)]

/-! impl_packetsOf -/
theorem impl_packetsOf.ev (x0 : Int) (x1 : List S249) (x2 : List S253) (x3 : Int) (x4 : Int) (x5 : Int) (x6 : Int) (x7 : Int) (x8 : List S259) (x9 : Int) (x10 : Int) (x11 : Int) (x12 : Int) (x13 : List S112) (x14 : List Int) (x15 : List Int) (x16 : List S195) (x17 : List S130) (x18 : List S200) (x19 : List Int) (x20 : List S203) (x21 : List S206) (x22 : Int) (x23 : Int) (x24 : List S132) (x25 : List S212) (h17 : x17.length ≤ 1048576) (q17 : ∀ x ∈ x17, x.f0.length ≤ 1048576) (s17 : (x17.map fun x => x.f0.length).sum + x24.length ≤ 1048576) : Ev (fun k => impl_packetsOf.f k x0 x1 x2 x3 x4 x5 x6 x7 x8 x9 x10 x11 x12 x13 x14 x15 x16 x17 x18 x19 x20 x21 x22 x23 x24 x25) (x24 ++ allP x17) := by
  have hl0 : ∀ (d i : Nat) (o : List S132), i + d = x17.length → o.length + (allP (x17.drop i)).length ≤ 1048576 → Ev (fun k => impl_packetsOf.l0 k o x17 (x17.length : Int) (i : Int)) (o ++ allP (x17.drop i)) := by
    intro d
    induction d with
    | zero =>
      intro i o hi ho
      rw [List.drop_of_length_le (by omega)]
      exact Ev.one fun k => by simp only [impl_packetsOf.l0]; rw [if_neg (by omega)]; simp [allP]
    | succ d ih =>
      intro i o hi ho
      have e : allP (x17.drop i) = (x17.getD i z130).f0 ++ allP (x17.drop (i + 1)) := by
        rw [List.drop_eq_getElem_cons (show i < x17.length by omega), getD_at x17 z130 (show i < x17.length by omega)]
        unfold allP
        rw [List.map_cons, List.flatten_cons]
      rw [e, List.length_append] at ho
      rw [e, ← List.append_assoc]
      refine Ev.step (fun k => ?_) (ih (i + 1) (o ++ (x17.getD i z130).f0) (by omega) (by rw [List.length_append]; omega))
      simp only [impl_packetsOf.l0]
      rw [if_pos (by omega), if_pos (by omega), if_pos (by omega), show rd_T130 x17 ((i : Nat) : Int) = x17.getD i z130 from rfl, if_pos (by omega), wrap_nat (by omega)]
  have hlen := allP_len x17
  have h := hl0 x17.length 0 x24 (by omega) (by rw [List.drop_zero]; omega)
  rw [List.drop_zero] at h
  exact Ev.congr (fun k => by unfold impl_packetsOf.f slices_Clone_impl_Packet_impl_Packet.f; rw [if_pos (by omega), Option.bind_some]; rfl) h

/-! impl_PacketPlaces -/
theorem impl_PacketPlaces.ev (x0 : Int) (x1 : List S249) (x2 : List S253) (x3 : Int) (x4 : Int) (x5 : Int) (x6 : Int) (x7 : Int) (x8 : List S259) (x9 : Int) (x10 : Int) (x11 : Int) (x12 : Int) (x13 : List S112) (x14 : List Int) (x15 : List Int) (x16 : List S195) (x17 : List S130) (x18 : List S200) (x19 : List Int) (x20 : List S203) (x21 : List S206) (x22 : Int) (x23 : Int) (x24 : List S132) (x25 : List S212) (id : Int) (h17 : x17.length ≤ 1048576) (q17 : ∀ x ∈ x17, x.f0.length ≤ 1048576) (s17 : (x17.map fun x => x.f0.length).sum + x24.length ≤ 1048576) : Ev (fun k => impl_PacketPlaces.f k x0 x1 x2 x3 x4 x5 x6 x7 x8 x9 x10 x11 x12 x13 x14 x15 x16 x17 x18 x19 x20 x21 x22 x23 x24 x25 id) (placesN id x17 x24) := by
  refine Ev.bind (impl_packetsOf.ev x0 x1 x2 x3 x4 x5 x6 x7 x8 x9 x10 x11 x12 x13 x14 x15 x16 x17 x18 x19 x20 x21 x22 x23 x24 x25 h17 q17 s17) ?_
  have hlen := allP_len x17
  have hL : (x24 ++ allP x17).length ≤ 1048576 := by rw [List.length_append]; omega
  have h := fold_list (g := fun k s i => impl_PacketPlaces.l0 k id s (x24 ++ allP x17) ((x24 ++ allP x17).length : Int) i) (f := stepP id) (fin := fun s => s) (x24 ++ allP x17) z132 0
    (fun s => Ev.one fun k => by simp only [impl_PacketPlaces.l0]; rw [if_neg (by omega)])
    (fun i s k hi => by
      simp only [impl_PacketPlaces.l0]
      rw [if_pos (by omega), if_pos (by omega), if_pos (by omega), wrap_nat (by omega)]
      show (if ((x24 ++ allP x17).getD i z132).f0 = id then _ else _) = _
      unfold stepP
      split <;> rfl)
  have c1 := stepP_count id (x24 ++ allP x17) 0 (by omega)
  rw [Nat.zero_add, show (((0 : Nat) : Int)) = 0 from rfl] at c1
  have e : (((x24 ++ allP x17).filter (isP id)).length : Int) = placesN id x17 x24 := by
    unfold placesN
    rw [List.filter_append, List.length_append]
    omega
  rw [c1, e] at h
  exact h

/-! laws_eqLink -/
theorem laws_eqLink.val (x : S166) : laws_eqLink.f x.f0 x.f1 x.f0 x.f1 = some true := by
  unfold laws_eqLink.f
  simp

/-! laws_eqLinkS -/
theorem laws_eqLinkS.ev_l (l : List S166) (hl : l.length ≤ 1048576) : ∀ (d i : Nat), i + d = l.length → Ev (fun k => laws_eqLinkS.l0 k l l i) true := by
  intro d
  induction d with
  | zero => intro i hi; refine Ev.one fun k => ?_; simp only [laws_eqLinkS.l0]; rw [if_neg (by omega)]
  | succ d ih =>
    intro i hi
    refine Ev.step (fun k => ?_) (ih (i + 1) (by omega))
    simp only [laws_eqLinkS.l0, laws_eqLink.val, Option.bind_some]
    rw [if_pos (by omega), if_pos (by omega), if_pos (by omega), if_pos trivial, wrap_nat (by omega)]
theorem laws_eqLinkS.ev (l : List S166) (hl : l.length ≤ 1048576) : Ev (fun k => laws_eqLinkS.f k l l) true :=
  Ev.congr (fun k => by unfold laws_eqLinkS.f; rw [if_pos rfl] <;> rfl) (laws_eqLinkS.ev_l l hl l.length 0 (by omega))

/-! laws_eqSpan -/
theorem laws_eqSpan.val (a b : Int) : laws_eqSpan.f a b a b = some true := by
  unfold laws_eqSpan.f
  simp

/-! laws_eqIntS -/
theorem laws_eqIntS.ev_l (l : List Int) (hl : l.length ≤ 1048576) : ∀ (d i : Nat), i + d = l.length → Ev (fun k => laws_eqIntS.l0 k l l i) true := by
  intro d
  induction d with
  | zero => intro i hi; refine Ev.one fun k => ?_; simp only [laws_eqIntS.l0]; rw [if_neg (by omega)]
  | succ d ih =>
    intro i hi
    refine Ev.step (fun k => ?_) (ih (i + 1) (by omega))
    simp only [laws_eqIntS.l0]
    rw [if_pos (by omega), if_pos (by omega), if_pos (by omega), if_pos trivial, wrap_nat (by omega)]
theorem laws_eqIntS.ev (l : List Int) (hl : l.length ≤ 1048576) : Ev (fun k => laws_eqIntS.f k l l) true :=
  Ev.congr (fun k => by unfold laws_eqIntS.f; rw [if_pos rfl] <;> rfl) (laws_eqIntS.ev_l l hl l.length 0 (by omega))
theorem laws_eqIntS.ev' (l : List Int) (hl : l.length ≤ 4000000) : Ev (fun k => laws_eqIntS.f k l l) true := by
  refine Ev.congr (fun k => by unfold laws_eqIntS.f; rw [if_pos rfl]) (all_loop (g := fun k i => laws_eqIntS.l0 k l l i) l.length (Ev.one fun k => by simp only [laws_eqIntS.l0]; rw [if_neg (by omega)]) (fun i hi r hr => Ev.step (fun k => ?_) hr))
  simp only [laws_eqIntS.l0]
  rw [if_pos (by omega), if_pos (by omega), if_pos (by omega), if_pos trivial, wrap_nat (by omega)]

/-! laws_eqTable -/
theorem laws_eqTable.ev (x : Int) (l m : List Int) (hl : l.length ≤ 1048576) (hm : m.length ≤ 1048576) : Ev (fun k => laws_eqTable.f k x l m x l m) true := by
  refine Ev.congr (fun k => by unfold laws_eqTable.f; rw [if_pos rfl]) (Ev.bind (laws_eqIntS.ev l hl) ?_)
  exact Ev.congr (fun k => by rw [if_pos rfl]) (Ev.bindT (laws_eqIntS.ev m hm))

/-! laws_eqTableS -/
theorem laws_eqTableS.ev (l : List S247) (hl : l.length ≤ 1048576) (hx : ∀ x ∈ l, fitTi 1048576 x) : Ev (fun k => laws_eqTableS.f k l l) true := by
  refine Ev.congr (fun k => by unfold laws_eqTableS.f; rw [if_pos rfl]) (all_loop (g := fun k i => laws_eqTableS.l0 k l l i) l.length (Ev.one fun k => by simp only [laws_eqTableS.l0]; rw [if_neg (by omega)]) (fun i hi r hr => ?_))
  have hf := hx _ (getD_mem l z247 hi)
  refine Ev.step (fun k => by simp only [laws_eqTableS.l0]; rw [if_pos (by omega), if_pos (by omega), if_pos (by omega), wrap_nat (by omega)]; rfl) (Ev.bind (laws_eqTable.ev (l.getD i z247).f0 (l.getD i z247).f1 (l.getD i z247).f2 hf.1 hf.2) ?_)
  exact Ev.congr (fun k => by rw [if_pos rfl]) hr

/-! laws_eqPiece -/
theorem laws_eqPiece.ev (x : S112) (hx : fitPi 1048576 x) : Ev (fun k => laws_eqPiece.f k x.f0.f0 x.f0.f1 x.f1 x.f2 x.f0.f0 x.f0.f1 x.f1 x.f2) true := by
  refine Ev.congr (fun k => by unfold laws_eqPiece.f; rw [laws_eqSpan.val, Option.bind_some, if_pos rfl]) (Ev.bind (laws_eqLinkS.ev x.f1 hx.1) ?_)
  exact Ev.congr (fun k => by rw [if_pos rfl]) (Ev.bindT (laws_eqTableS.ev x.f2 hx.2.1 hx.2.2))

/-! laws_eqPieceS -/
theorem laws_eqPieceS.ev (l : List S112) (hx : fitQi 1048576 l) : Ev (fun k => laws_eqPieceS.f k l l) true := by
  obtain ⟨hl, hx⟩ := hx
  refine Ev.congr (fun k => by unfold laws_eqPieceS.f; rw [if_pos rfl]) (all_loop (g := fun k i => laws_eqPieceS.l0 k l l i) l.length (Ev.one fun k => by simp only [laws_eqPieceS.l0]; rw [if_neg (by omega)]) (fun i hi r hr => ?_))
  have hf := hx _ (getD_mem l z112 hi)
  refine Ev.step (fun k => by simp only [laws_eqPieceS.l0]; rw [if_pos (by omega), if_pos (by omega), if_pos (by omega), wrap_nat (by omega)]; rfl) (Ev.bind (laws_eqPiece.ev (l.getD i z112) hf) ?_)
  exact Ev.congr (fun k => by rw [if_pos rfl]) hr

/-! laws_eqProgram -/
theorem laws_eqProgram.ev (x y z : Int) (l : List S112) (hx : fitQi 1048576 l) : Ev (fun k => laws_eqProgram.f k x y z l x y z l) true := by
  refine Ev.congr (fun k => by unfold laws_eqProgram.f; rw [if_pos rfl, if_pos rfl, if_pos rfl]) (Ev.bindT (laws_eqPieceS.ev l hx))

/-! laws_eqSat -/
theorem laws_eqSat.val (x : S249) : laws_eqSat.f x.f0 x.f1 x.f2 x.f3 x.f0 x.f1 x.f2 x.f3 = some true := by
  unfold laws_eqSat.f
  simp

/-! laws_eqSatS -/
theorem laws_eqSatS.ev_l (l : List S249) (hl : l.length ≤ 1048576) : ∀ (d i : Nat), i + d = l.length → Ev (fun k => laws_eqSatS.l0 k l l i) true := by
  intro d
  induction d with
  | zero => intro i hi; refine Ev.one fun k => ?_; simp only [laws_eqSatS.l0]; rw [if_neg (by omega)]
  | succ d ih =>
    intro i hi
    refine Ev.step (fun k => ?_) (ih (i + 1) (by omega))
    simp only [laws_eqSatS.l0, laws_eqSat.val, Option.bind_some]
    rw [if_pos (by omega), if_pos (by omega), if_pos (by omega), if_pos trivial, wrap_nat (by omega)]
theorem laws_eqSatS.ev (l : List S249) (hl : l.length ≤ 1048576) : Ev (fun k => laws_eqSatS.f k l l) true :=
  Ev.congr (fun k => by unfold laws_eqSatS.f; rw [if_pos rfl] <;> rfl) (laws_eqSatS.ev_l l hl l.length 0 (by omega))

/-! laws_eqSite -/
theorem laws_eqSite.val (x : S253) : laws_eqSite.f x.f0 x.f1 x.f2 x.f0 x.f1 x.f2 = some true := by
  unfold laws_eqSite.f
  simp

/-! laws_eqSiteS -/
theorem laws_eqSiteS.ev_l (l : List S253) (hl : l.length ≤ 1048576) : ∀ (d i : Nat), i + d = l.length → Ev (fun k => laws_eqSiteS.l0 k l l i) true := by
  intro d
  induction d with
  | zero => intro i hi; refine Ev.one fun k => ?_; simp only [laws_eqSiteS.l0]; rw [if_neg (by omega)]
  | succ d ih =>
    intro i hi
    refine Ev.step (fun k => ?_) (ih (i + 1) (by omega))
    simp only [laws_eqSiteS.l0, laws_eqSite.val, Option.bind_some]
    rw [if_pos (by omega), if_pos (by omega), if_pos (by omega), if_pos trivial, wrap_nat (by omega)]
theorem laws_eqSiteS.ev (l : List S253) (hl : l.length ≤ 1048576) : Ev (fun k => laws_eqSiteS.f k l l) true :=
  Ev.congr (fun k => by unfold laws_eqSiteS.f; rw [if_pos rfl] <;> rfl) (laws_eqSiteS.ev_l l hl l.length 0 (by omega))

/-! laws_eqZone -/
theorem laws_eqZone.val (x : S259) : laws_eqZone.f x.f0 x.f1.f0 x.f1.f1 x.f0 x.f1.f0 x.f1.f1 = some true := by
  unfold laws_eqZone.f laws_eqArc.f
  simp

/-! laws_eqZoneS -/
theorem laws_eqZoneS.ev_l (l : List S259) (hl : l.length ≤ 1048576) : ∀ (d i : Nat), i + d = l.length → Ev (fun k => laws_eqZoneS.l0 k l l i) true := by
  intro d
  induction d with
  | zero => intro i hi; refine Ev.one fun k => ?_; simp only [laws_eqZoneS.l0]; rw [if_neg (by omega)]
  | succ d ih =>
    intro i hi
    refine Ev.step (fun k => ?_) (ih (i + 1) (by omega))
    simp only [laws_eqZoneS.l0, laws_eqZone.val, Option.bind_some]
    rw [if_pos (by omega), if_pos (by omega), if_pos (by omega), if_pos trivial, wrap_nat (by omega)]
theorem laws_eqZoneS.ev (l : List S259) (hl : l.length ≤ 1048576) : Ev (fun k => laws_eqZoneS.f k l l) true :=
  Ev.congr (fun k => by unfold laws_eqZoneS.f; rw [if_pos rfl] <;> rfl) (laws_eqZoneS.ev_l l hl l.length 0 (by omega))

/-! laws_eqSky -/
theorem laws_eqSky.ev (x0 : Int) (x1 : List S249) (x2 : List S253) (x3 : Int) (x4 : Int) (x5 : Int) (x6 : Int) (x7 : Int) (x8 : List S259) (x9 : Int) (h1 : x1.length ≤ 1048576) (h2 : x2.length ≤ 1048576) (h8 : x8.length ≤ 1048576) : Ev (fun k => laws_eqSky.f k x0 x1 x2 x3 x4 x5 x6 x7 x8 x9 x0 x1 x2 x3 x4 x5 x6 x7 x8 x9) true := by
  refine Ev.congr (fun k => by unfold laws_eqSky.f; rw [if_pos rfl]) (Ev.bind (laws_eqSatS.ev x1 h1) (Ev.congr (fun k => by rw [if_pos rfl]) (Ev.bind (laws_eqSiteS.ev x2 h2) ?_)))
  refine Ev.congr (fun k => by rw [if_pos rfl, if_pos rfl, if_pos rfl, if_pos rfl, if_pos rfl, if_pos rfl]) (Ev.bind (laws_eqZoneS.ev x8 h8) (Ev.all fun k => by rw [if_pos rfl, if_pos rfl]))

/-! laws_eqLaw -/
theorem laws_eqLaw.ev (l : List Int) (hl : l.length ≤ 1048576) : Ev (fun k => laws_eqLaw.f k l l) true := Ev.bind (laws_eqIntS.ev l hl) (Ev.all fun k => rfl)

/-! laws_eqBattery -/
theorem laws_eqBattery.val (x : S195) : laws_eqBattery.f x.f0 x.f1 x.f2 x.f3 x.f4 x.f5 x.f0 x.f1 x.f2 x.f3 x.f4 x.f5 = some true := by
  unfold laws_eqBattery.f
  simp

/-! laws_eqBatteryS -/
theorem laws_eqBatteryS.ev_l (l : List S195) (hl : l.length ≤ 1048576) : ∀ (d i : Nat), i + d = l.length → Ev (fun k => laws_eqBatteryS.l0 k l l i) true := by
  intro d
  induction d with
  | zero => intro i hi; refine Ev.one fun k => ?_; simp only [laws_eqBatteryS.l0]; rw [if_neg (by omega)]
  | succ d ih =>
    intro i hi
    refine Ev.step (fun k => ?_) (ih (i + 1) (by omega))
    simp only [laws_eqBatteryS.l0, laws_eqBattery.val, Option.bind_some]
    rw [if_pos (by omega), if_pos (by omega), if_pos (by omega), if_pos trivial, wrap_nat (by omega)]
theorem laws_eqBatteryS.ev (l : List S195) (hl : l.length ≤ 1048576) : Ev (fun k => laws_eqBatteryS.f k l l) true :=
  Ev.congr (fun k => by unfold laws_eqBatteryS.f; rw [if_pos rfl] <;> rfl) (laws_eqBatteryS.ev_l l hl l.length 0 (by omega))

/-! laws_eqPacket -/
theorem laws_eqPacket.val (x : S132) : laws_eqPacket.f x.f0 x.f1 x.f2 x.f3 x.f4 x.f5 x.f0 x.f1 x.f2 x.f3 x.f4 x.f5 = some true := by
  unfold laws_eqPacket.f
  simp

/-! laws_eqPacketS -/
theorem laws_eqPacketS.ev_l (l : List S132) (hl : l.length ≤ 1048576) : ∀ (d i : Nat), i + d = l.length → Ev (fun k => laws_eqPacketS.l0 k l l i) true := by
  intro d
  induction d with
  | zero => intro i hi; refine Ev.one fun k => ?_; simp only [laws_eqPacketS.l0]; rw [if_neg (by omega)]
  | succ d ih =>
    intro i hi
    refine Ev.step (fun k => ?_) (ih (i + 1) (by omega))
    simp only [laws_eqPacketS.l0, laws_eqPacket.val, Option.bind_some]
    rw [if_pos (by omega), if_pos (by omega), if_pos (by omega), if_pos trivial, wrap_nat (by omega)]
theorem laws_eqPacketS.ev (l : List S132) (hl : l.length ≤ 1048576) : Ev (fun k => laws_eqPacketS.f k l l) true :=
  Ev.congr (fun k => by unfold laws_eqPacketS.f; rw [if_pos rfl] <;> rfl) (laws_eqPacketS.ev_l l hl l.length 0 (by omega))

/-! laws_eqQueue -/
theorem laws_eqQueue.ev (l : List S132) (hl : l.length ≤ 1048576) : Ev (fun k => laws_eqQueue.f k l l) true := Ev.bind (laws_eqPacketS.ev l hl) (Ev.all fun k => rfl)

/-! laws_eqQueueS -/
theorem laws_eqQueueS.ev (l : List S130) (hl : l.length ≤ 1048576) (hx : ∀ x ∈ l, x.f0.length ≤ 1048576) : Ev (fun k => laws_eqQueueS.f k l l) true := by
  refine Ev.congr (fun k => by unfold laws_eqQueueS.f; rw [if_pos rfl]) (all_loop (g := fun k i => laws_eqQueueS.l0 k l l i) l.length (Ev.one fun k => by simp only [laws_eqQueueS.l0]; rw [if_neg (by omega)]) (fun i hi r hr => ?_))
  have hf := hx _ (getD_mem l z130 hi)
  refine Ev.step (fun k => by simp only [laws_eqQueueS.l0]; rw [if_pos (by omega), if_pos (by omega), if_pos (by omega), wrap_nat (by omega)]; rfl) (Ev.bind (laws_eqQueue.ev (l.getD i z130).f0 hf) ?_)
  exact Ev.congr (fun k => by rw [if_pos rfl]) hr

/-! laws_eqFlow -/
theorem laws_eqFlow.val (x : S200) : laws_eqFlow.f x.f0 x.f1 x.f2 x.f3 x.f0 x.f1 x.f2 x.f3 = some true := by
  unfold laws_eqFlow.f
  simp

/-! laws_eqFlowS -/
theorem laws_eqFlowS.ev_l (l : List S200) (hl : l.length ≤ 1048576) : ∀ (d i : Nat), i + d = l.length → Ev (fun k => laws_eqFlowS.l0 k l l i) true := by
  intro d
  induction d with
  | zero => intro i hi; refine Ev.one fun k => ?_; simp only [laws_eqFlowS.l0]; rw [if_neg (by omega)]
  | succ d ih =>
    intro i hi
    refine Ev.step (fun k => ?_) (ih (i + 1) (by omega))
    simp only [laws_eqFlowS.l0, laws_eqFlow.val, Option.bind_some]
    rw [if_pos (by omega), if_pos (by omega), if_pos (by omega), if_pos trivial, wrap_nat (by omega)]
theorem laws_eqFlowS.ev (l : List S200) (hl : l.length ≤ 1048576) : Ev (fun k => laws_eqFlowS.f k l l) true :=
  Ev.congr (fun k => by unfold laws_eqFlowS.f; rw [if_pos rfl] <;> rfl) (laws_eqFlowS.ev_l l hl l.length 0 (by omega))

/-! laws_eqStream -/
theorem laws_eqStream.ev (x y : Int) (l : List Int) (hl : l.length ≤ 1048576) : Ev (fun k => laws_eqStream.f k x y l x y l) true := by
  refine Ev.congr (fun k => by unfold laws_eqStream.f; rw [if_pos rfl, if_pos rfl]) ?_
  exact Ev.bind (laws_eqIntS.ev l hl) (Ev.all fun k => rfl)

/-! laws_eqStreamS -/
theorem laws_eqStreamS.ev (l : List S203) (hl : l.length ≤ 1048576) (hx : ∀ x ∈ l, x.f2.length ≤ 1048576) : Ev (fun k => laws_eqStreamS.f k l l) true := by
  refine Ev.congr (fun k => by unfold laws_eqStreamS.f; rw [if_pos rfl]) (all_loop (g := fun k i => laws_eqStreamS.l0 k l l i) l.length (Ev.one fun k => by simp only [laws_eqStreamS.l0]; rw [if_neg (by omega)]) (fun i hi r hr => ?_))
  have hf := hx _ (getD_mem l z203 hi)
  refine Ev.step (fun k => by simp only [laws_eqStreamS.l0]; rw [if_pos (by omega), if_pos (by omega), if_pos (by omega), wrap_nat (by omega)]; rfl) (Ev.bind (laws_eqStream.ev (l.getD i z203).f0 (l.getD i z203).f1 (l.getD i z203).f2 hf) ?_)
  exact Ev.congr (fun k => by rw [if_pos rfl]) hr

/-! laws_eqFault -/
theorem laws_eqFault.val (x : S206) : laws_eqFault.f x.f0 x.f1 x.f2 x.f3 x.f0 x.f1 x.f2 x.f3 = some true := by
  unfold laws_eqFault.f
  simp

/-! laws_eqFaultS -/
theorem laws_eqFaultS.ev_l (l : List S206) (hl : l.length ≤ 1048576) : ∀ (d i : Nat), i + d = l.length → Ev (fun k => laws_eqFaultS.l0 k l l i) true := by
  intro d
  induction d with
  | zero => intro i hi; refine Ev.one fun k => ?_; simp only [laws_eqFaultS.l0]; rw [if_neg (by omega)]
  | succ d ih =>
    intro i hi
    refine Ev.step (fun k => ?_) (ih (i + 1) (by omega))
    simp only [laws_eqFaultS.l0, laws_eqFault.val, Option.bind_some]
    rw [if_pos (by omega), if_pos (by omega), if_pos (by omega), if_pos trivial, wrap_nat (by omega)]
theorem laws_eqFaultS.ev (l : List S206) (hl : l.length ≤ 1048576) : Ev (fun k => laws_eqFaultS.f k l l) true :=
  Ev.congr (fun k => by unfold laws_eqFaultS.f; rw [if_pos rfl] <;> rfl) (laws_eqFaultS.ev_l l hl l.length 0 (by omega))

/-! laws_eqSent -/
theorem laws_eqSent.val (x : S212) : laws_eqSent.f x.f0 x.f1 x.f2 x.f3 x.f0 x.f1 x.f2 x.f3 = some true := by
  unfold laws_eqSent.f
  simp

/-! laws_eqSentS -/
theorem laws_eqSentS.ev_l (l : List S212) (hl : l.length ≤ 1048576) : ∀ (d i : Nat), i + d = l.length → Ev (fun k => laws_eqSentS.l0 k l l i) true := by
  intro d
  induction d with
  | zero => intro i hi; refine Ev.one fun k => ?_; simp only [laws_eqSentS.l0]; rw [if_neg (by omega)]
  | succ d ih =>
    intro i hi
    refine Ev.step (fun k => ?_) (ih (i + 1) (by omega))
    simp only [laws_eqSentS.l0, laws_eqSent.val, Option.bind_some]
    rw [if_pos (by omega), if_pos (by omega), if_pos (by omega), if_pos trivial, wrap_nat (by omega)]
theorem laws_eqSentS.ev (l : List S212) (hl : l.length ≤ 1048576) : Ev (fun k => laws_eqSentS.f k l l) true :=
  Ev.congr (fun k => by unfold laws_eqSentS.f; rw [if_pos rfl] <;> rfl) (laws_eqSentS.ev_l l hl l.length 0 (by omega))

/-! laws_eqWorld -/
theorem laws_eqWorld.ev (x0 : Int) (x1 : List S249) (x2 : List S253) (x3 : Int) (x4 : Int) (x5 : Int) (x6 : Int) (x7 : Int) (x8 : List S259) (x9 : Int) (x10 : Int) (x11 : Int) (x12 : Int) (x13 : List S112) (x14 : List Int) (x15 : List Int) (x16 : List S195) (x17 : List S130) (x18 : List S200) (x19 : List Int) (x20 : List S203) (x21 : List S206) (x22 : Int) (x23 : Int) (x24 : List S132) (x25 : List S212) (h1 : x1.length ≤ 1048576) (h2 : x2.length ≤ 1048576) (h8 : x8.length ≤ 1048576) (h13 : fitQi 1048576 x13) (h14 : x14.length ≤ 1048576) (h15 : x15.length ≤ 1048576) (h16 : x16.length ≤ 1048576) (h17 : x17.length ≤ 1048576) (q17 : ∀ x ∈ x17, x.f0.length ≤ 1048576) (h18 : x18.length ≤ 1048576) (h19 : x19.length ≤ 1048576) (h20 : x20.length ≤ 1048576) (q20 : ∀ x ∈ x20, x.f2.length ≤ 1048576) (h21 : x21.length ≤ 1048576) (h24 : x24.length ≤ 1048576) (h25 : x25.length ≤ 1048576) :
    Ev (fun k => laws_eqWorld.f k x0 x1 x2 x3 x4 x5 x6 x7 x8 x9 x10 x11 x12 x13 x14 x15 x16 x17 x18 x19 x20 x21 x22 x23 x24 x25 x0 x1 x2 x3 x4 x5 x6 x7 x8 x9 x10 x11 x12 x13 x14 x15 x16 x17 x18 x19 x20 x21 x22 x23 x24 x25) true := by
  refine Ev.bind (laws_eqSky.ev x0 x1 x2 x3 x4 x5 x6 x7 x8 x9 h1 h2 h8) (Ev.congr (fun k => by rw [if_pos rfl]) (Ev.bind (laws_eqProgram.ev x10 x11 x12 x13 h13) (Ev.congr (fun k => by rw [if_pos rfl]) (Ev.bind (laws_eqLaw.ev x14 h14) (Ev.congr (fun k => by rw [if_pos rfl]) (Ev.bind (laws_eqIntS.ev x15 h15) ?_))))))
  refine Ev.congr (fun k => by rw [if_pos rfl]) (Ev.bind (laws_eqBatteryS.ev x16 h16) (Ev.congr (fun k => by rw [if_pos rfl]) (Ev.bind (laws_eqQueueS.ev x17 h17 q17) (Ev.congr (fun k => by rw [if_pos rfl]) (Ev.bind (laws_eqFlowS.ev x18 h18) (Ev.congr (fun k => by rw [if_pos rfl]) (Ev.bind (laws_eqIntS.ev x19 h19) ?_)))))))
  refine Ev.congr (fun k => by rw [if_pos rfl]) (Ev.bind (laws_eqStreamS.ev x20 h20 q20) (Ev.congr (fun k => by rw [if_pos rfl]) (Ev.bind (laws_eqFaultS.ev x21 h21) (Ev.congr (fun k => by rw [if_pos rfl, if_pos rfl, if_pos rfl]) (Ev.bind (laws_eqPacketS.ev x24 h24) (Ev.congr (fun k => by rw [if_pos rfl]) (Ev.bindT (laws_eqSentS.ev x25 h25))))))))

/-! d_fitMap -/
theorem fit_map {n : Nat} {l : List S177} (h : fitQ n l) : fitQi n (l.map cPiece) := by
  refine ⟨by simpa using h.1, fun x hx => ?_⟩
  obtain ⟨y, hy, rfl⟩ := List.mem_map.1 hx
  obtain ⟨h1, h2, h3⟩ := h.2 y hy
  refine ⟨by simpa [cPiece] using h1, by simpa [cPiece] using h2, fun t ht => ?_⟩
  obtain ⟨u, hu, rfl⟩ := List.mem_map.1 ht
  exact h3 u hu

/-! @@ FnExactPacketPlaces -/
theorem proved : Stated := by
  intro x0 x1 x2 x3 x4 x5 x6 x7 x8 x9 x10 x11 x12 x13 x14 x15 x16 x17 x18 x19 x20 x21 x22 x23 x24 x25 id _ w1 w2 _ _ _ _ _ w8 _ _ _ _ w13 w14 w15 w16 w17 w18 w19 w20 w21 _ _ w24 w25 _
  refine Ev.rounds ?_
  obtain ⟨t, ht, hf⟩ := laws_szWorld.ev x0 x1 x2 x3 x4 x5 x6 x7 x8 x9 x10 x11 x12 x13 x14 x15 x16 x17 x18 x19 x20 x21 x22 x23 x24 x25 w1.1 w2.1 w8.1 (fit_of w13) w14.1 w15.1 w16.1 w17.1 (fun x hx => (w17.2 x hx).1) w18.1 w19.1 w20.1 (fun x hx => (w20.2 x hx).2.2.1) w21.1 w24.1 w25.1
  refine Ev.bind ht ?_
  by_cases hn : t < 0
  · exact Ev.all fun k => by rw [if_pos hn]
  have F := hf (by omega)
  have hto := laws_toWorld.ev x0 x1 x2 x3 x4 x5 x6 x7 x8 x9 x10 x11 x12 x13 x14 x15 x16 x17 x18 x19 x20 x21 x22 x23 x24 x25 F
  have s17 := F.s17
  have s20 := F.s20
  have m17 : (x17.map cQueue).length ≤ 1048576 := by rw [List.length_map]; exact F.h17
  have m20 : (x20.map cStream).length ≤ 1048576 := by rw [List.length_map]; exact F.h20
  have e17 : ((x17.map cQueue).map fun x => x.f0.length).sum = (x17.map fun x => x.f0.length).sum := by
    rw [List.map_map]; congr 1; apply List.map_congr_left; intro x _; simp [cQueue]
  have q17 : ∀ x ∈ x17.map cQueue, x.f0.length ≤ 1048576 := fun x hx => by have := le_sum (fun x : S130 => x.f0.length) _ x hx; omega
  have e20 : ((x20.map cStream).map fun x => x.f2.length).sum = (x20.map fun x => x.f2.length).sum := by
    rw [List.map_map]; congr 1
  have q20 : ∀ x ∈ x20.map cStream, x.f2.length ≤ 1048576 := fun x hx => by have := le_sum (fun x : S203 => x.f2.length) _ x hx; omega
  have hs := spec_PacketPlaces.ev x0 (x1.map cSat) (x2.map cSite) x3 x4 x5 x6 x7 (x8.map cZone) x9 x10 x11 x12 (x13.map cPiece) x14 x15 (x16.map cBattery) (x17.map cQueue) (x18.map cFlow) x19 (x20.map cStream) (x21.map cFault) x22 x23 (x24.map cPacket) (x25.map cSent) id m17 q17 (by rw [e17, List.length_map]; exact s17)
  have hi := impl_PacketPlaces.ev x0 (x1.map cSat) (x2.map cSite) x3 x4 x5 x6 x7 (x8.map cZone) x9 x10 x11 x12 (x13.map cPiece) x14 x15 (x16.map cBattery) (x17.map cQueue) (x18.map cFlow) x19 (x20.map cStream) (x21.map cFault) x22 x23 (x24.map cPacket) (x25.map cSent) id m17 q17 (by rw [e17, List.length_map]; exact s17)
  have he := laws_eqWorld.ev x0 (x1.map cSat) (x2.map cSite) x3 x4 x5 x6 x7 (x8.map cZone) x9 x10 x11 x12 (x13.map cPiece) x14 x15 (x16.map cBattery) (x17.map cQueue) (x18.map cFlow) x19 (x20.map cStream) (x21.map cFault) x22 x23 (x24.map cPacket) (x25.map cSent) (by rw [List.length_map]; exact F.h1) (by rw [List.length_map]; exact F.h2) (by rw [List.length_map]; exact F.h8) (fit_map F.h13) F.h14 F.h15 (by rw [List.length_map]; exact F.h16) m17 q17 (by rw [List.length_map]; exact F.h18) F.h19 m20 q20 (by rw [List.length_map]; exact F.h21) (by rw [List.length_map]; exact F.h24) (by rw [List.length_map]; exact F.h25)
  refine Ev.congr (fun k => by rw [if_neg hn]) (Ev.bind hto (Ev.bind hs (Ev.bind hto (Ev.bind hi ?_))))
  exact Ev.congr (fun k => by rw [if_pos rfl]) (Ev.bind hto (Ev.bindT he))

end Go.Proofs.Ytlogjmgghnifoaa.PureFnExactPacketPlaces
