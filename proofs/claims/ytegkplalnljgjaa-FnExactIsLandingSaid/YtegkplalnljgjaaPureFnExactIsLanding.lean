/- FnExactIsLanding, over numbers and lists alone: what the program's function and the reference's answer is one. Conditions: the numbers are of their kinds. -/
import Derived.Test.YtegkplalnljgjaaKindsFnExactIsLanding
import Derived.Test.YtegkplalnljgjaaBase
namespace Go.Proofs.Ytegkplalnljgjaa.PureFnExactIsLanding
open Go.RowKit Go.Proofs.Ytegkplalnljgjaa.PFnExactIsLanding Go.Proofs.YtegkplalnljgjaaW.PrintWords Go.Proofs.YtegkplalnljgjaaW.PrintLast Go.Proofs.YtegkplalnljgjaaW.PrintMore Go.Proofs.Ytegkplalnljgjaa.Base
set_option linter.unusedVariables false
set_option linter.unusedSimpArgs false

/-! laws_szIntS -/
theorem laws_szIntS.val (l : List Int) (a : Int) (h0 : 0 ≤ a) (h1 : a ≤ 1048576) (hl : l.length ≤ maxLen) :
    ∃ t, laws_szIntS.f l a = some t ∧ t ≤ a ∧ (0 ≤ t → t = a - l.length ∧ l.length ≤ 1048576) := by
  unfold maxLen at hl
  unfold laws_szIntS.f
  rw [wrap_id (by omega) (by omega)]
  by_cases h : a - (l.length : Int) < 0
  · rw [if_pos h]; exact ⟨_, rfl, by omega, by omega⟩
  · rw [if_neg h]; exact ⟨_, rfl, by omega, by omega⟩

/-! laws_szLaw -/
theorem laws_szLaw.val (l : List Int) (a : Int) (h0 : 0 ≤ a) (h1 : a ≤ 1048576) (hl : l.length ≤ maxLen) :
    ∃ t, laws_szLaw.f l a = some t ∧ t ≤ a ∧ (0 ≤ t → t = a - l.length ∧ l.length ≤ 1048576) := by
  obtain ⟨t, h, h2, h3⟩ := laws_szIntS.val l a h0 h1 hl
  unfold laws_szLaw.f
  rw [h, Option.bind_some]
  by_cases ht : t < 0
  · rw [if_pos ht]; exact ⟨_, rfl, by omega, by omega⟩
  · rw [if_neg ht]; exact ⟨_, rfl, h2, h3⟩

/-! laws_szLinkS -/
theorem laws_szLinkS.val (l : List S169) (a : Int) (h0 : 0 ≤ a) (h1 : a ≤ 1048576) (hl : l.length ≤ maxLen) :
    ∃ t, laws_szLinkS.f l a = some t ∧ t ≤ a ∧ (0 ≤ t → t = a - l.length ∧ l.length ≤ 1048576) := by
  unfold maxLen at hl
  unfold laws_szLinkS.f
  rw [wrap_id (by omega) (by omega)]
  by_cases h : a - (l.length : Int) < 0
  · rw [if_pos h]; exact ⟨_, rfl, by omega, by omega⟩
  · rw [if_neg h]; exact ⟨_, rfl, by omega, by omega⟩

/-! laws_szTable -/
theorem laws_szTable.val (x : Int) (l m : List Int) (a : Int) (h0 : 0 ≤ a) (h1 : a ≤ 1048576) (hl : l.length ≤ maxLen) (hm : m.length ≤ maxLen) :
    ∃ t, laws_szTable.f x l m a = some t ∧ t ≤ a ∧ (0 ≤ t → l.length ≤ 1048576 ∧ m.length ≤ 1048576) := by
  obtain ⟨t, h, h2, h3⟩ := laws_szIntS.val l a h0 h1 hl
  unfold laws_szTable.f
  rw [h, Option.bind_some]
  by_cases ht : t < 0
  · rw [if_pos ht]; exact ⟨_, rfl, by omega, by omega⟩
  · obtain ⟨u, h4, h5, h6⟩ := laws_szIntS.val m t (by omega) (by omega) hm
    rw [if_neg ht, h4, Option.bind_some]
    by_cases hu : u < 0
    · rw [if_pos hu]; exact ⟨_, rfl, by omega, by omega⟩
    · rw [if_neg hu]; exact ⟨_, rfl, by omega, fun _ => ⟨(h3 (by omega)).2, (h6 (by omega)).2⟩⟩

/-! d_fitT -/
def fitT (n : Nat) (x : S167) : Prop := x.f1.length ≤ n ∧ x.f2.length ≤ n
def fitTi (n : Nat) (x : S80) : Prop := x.f1.length ≤ n ∧ x.f2.length ≤ n

/-! laws_szTableS -/
theorem laws_szTableS.ev (l : List S167) (a : Int) (h0 : 0 ≤ a) (h1 : a ≤ 1048576) (hl : l.length ≤ maxLen) (hx : ∀ x ∈ l, fitT maxLen x) :
    ∃ t, Ev (fun k => laws_szTableS.f k l a) t ∧ t ≤ a ∧ (0 ≤ t → l.length ≤ 1048576 ∧ ∀ x ∈ l, fitT 1048576 x) := by
  have hl' := hl
  unfold maxLen at hl'
  by_cases h : a - (l.length : Int) < 0
  · exact ⟨-1, Ev.all fun k => by unfold laws_szTableS.f; rw [wrap_id (by omega) (by omega), if_pos h], by omega, by omega⟩
  · obtain ⟨t, ht, hle, hok⟩ := sz_loop (g := fun k a i => laws_szTableS.l0 k l a i) l z167 (fitT 1048576) (fun a => Ev.one fun k => by simp only [laws_szTableS.l0]; rw [if_neg (by omega)])
      (fun i a hi h0 h1 => by
        have hf := hx _ (getD_mem l z167 hi)
        obtain ⟨t, e, hle, hok⟩ := laws_szTable.val (l.getD i z167).f0 (l.getD i z167).f1 (l.getD i z167).f2 a h0 h1 hf.1 hf.2
        have hk : ∀ k, laws_szTableS.l0 (k + 1) l a i = if t < 0 then some (-1) else laws_szTableS.l0 k l t ((i + 1 : Nat) : Int) := fun k => by
          simp only [laws_szTableS.l0]
          rw [if_pos (by omega), if_pos (by omega), wrap_nat (by omega)]
          show (laws_szTable.f (l.getD i z167).f0 (l.getD i z167).f1 (l.getD i z167).f2 a).bind _ = _
          rw [e]; rfl
        exact ⟨t, hle, fun h => Ev.one fun k => by rw [hk, if_pos h], fun h => ⟨hok h, fun r hr => Ev.step (fun k => by rw [hk, if_neg (by omega)]) hr⟩⟩)
      (a - l.length) (by omega) (by omega)
    exact ⟨t, Ev.congr (fun k => by unfold laws_szTableS.f; rw [wrap_id (by omega) (by omega), if_neg h]) ht, by omega, fun h => ⟨by omega, hok h⟩⟩

/-! d_fitP -/
def fitP (n : Nat) (x : S133) : Prop := x.f1.length ≤ n ∧ x.f2.length ≤ n ∧ ∀ t ∈ x.f2, fitT n t
def fitPi (n : Nat) (x : S119) : Prop := x.f1.length ≤ n ∧ x.f2.length ≤ n ∧ ∀ t ∈ x.f2, fitTi n t
def fitQ (n : Nat) (l : List S133) : Prop := l.length ≤ n ∧ ∀ x ∈ l, fitP n x
def fitQi (n : Nat) (l : List S119) : Prop := l.length ≤ n ∧ ∀ x ∈ l, fitPi n x

/-! laws_szPiece -/
theorem laws_szPiece.ev (x : S133) (a : Int) (h0 : 0 ≤ a) (h1 : a ≤ 1048576) (hx : fitP maxLen x) :
    ∃ t, Ev (fun k => laws_szPiece.f k x.f0.f0 x.f0.f1 x.f1 x.f2 a) t ∧ t ≤ a ∧ (0 ≤ t → fitP 1048576 x) := by
  obtain ⟨t, h, h2, h3⟩ := laws_szLinkS.val x.f1 a h0 h1 hx.1
  by_cases ht : t < 0
  · exact ⟨-1, Ev.all fun k => by unfold laws_szPiece.f; rw [h, Option.bind_some, if_pos ht], by omega, by omega⟩
  · obtain ⟨u, h4, h5, h6⟩ := laws_szTableS.ev x.f2 t (by omega) (by omega) hx.2.1 hx.2.2
    have hc : ∀ k, laws_szPiece.f k x.f0.f0 x.f0.f1 x.f1 x.f2 a = (laws_szTableS.f k x.f2 t).bind fun u => if u < 0 then some (-1) else some u := fun k => by
      unfold laws_szPiece.f
      rw [h, Option.bind_some, if_neg ht]
    by_cases hu : u < 0
    · exact ⟨-1, Ev.congr hc (Ev.bind h4 (Ev.all fun k => by rw [if_pos hu])), by omega, by omega⟩
    · exact ⟨u, Ev.congr hc (Ev.bind h4 (Ev.all fun k => by rw [if_neg hu])), by omega, fun _ => ⟨(h3 (by omega)).2, h6 (by omega)⟩⟩

/-! laws_szPieceS -/
theorem laws_szPieceS.ev (l : List S133) (a : Int) (h0 : 0 ≤ a) (h1 : a ≤ 1048576) (hx : fitQ maxLen l) :
    ∃ t, Ev (fun k => laws_szPieceS.f k l a) t ∧ t ≤ a ∧ (0 ≤ t → fitQ 1048576 l) := by
  obtain ⟨hl, hx⟩ := hx
  have hl' := hl
  unfold maxLen at hl'
  by_cases h : a - (l.length : Int) < 0
  · exact ⟨-1, Ev.all fun k => by unfold laws_szPieceS.f; rw [wrap_id (by omega) (by omega), if_pos h], by omega, by omega⟩
  · obtain ⟨t, ht, hle, hok⟩ := sz_loop (g := fun k a i => laws_szPieceS.l0 k l a i) l z133 (fitP 1048576) (fun a => Ev.one fun k => by simp only [laws_szPieceS.l0]; rw [if_neg (by omega)])
      (fun i a hi h0 h1 => by
        have hf := hx _ (getD_mem l z133 hi)
        obtain ⟨t, e, hle, hok⟩ := laws_szPiece.ev (l.getD i z133) a h0 h1 hf
        have hk : ∀ k, laws_szPieceS.l0 (k + 1) l a i = (laws_szPiece.f k (l.getD i z133).f0.f0 (l.getD i z133).f0.f1 (l.getD i z133).f1 (l.getD i z133).f2 a).bind fun t => if t < 0 then some (-1) else laws_szPieceS.l0 k l t ((i + 1 : Nat) : Int) := fun k => by
          simp only [laws_szPieceS.l0]
          rw [if_pos (by omega), if_pos (by omega), wrap_nat (by omega)]
          rfl
        exact ⟨t, hle, fun h => Ev.step hk (Ev.bind e (Ev.all fun k => by rw [if_pos h])), fun h => ⟨hok h, fun r hr => Ev.step hk (Ev.bind e (Ev.congr (fun k => by rw [if_neg (by omega)]) hr))⟩⟩)
      (a - l.length) (by omega) (by omega)
    exact ⟨t, Ev.congr (fun k => by unfold laws_szPieceS.f; rw [wrap_id (by omega) (by omega), if_neg h]) ht, by omega, fun h => ⟨by omega, hok h⟩⟩

/-! laws_szProgram -/
theorem laws_szProgram.ev (x y z : Int) (l : List S133) (a : Int) (h0 : 0 ≤ a) (h1 : a ≤ 1048576) (hx : fitQ maxLen l) :
    ∃ t, Ev (fun k => laws_szProgram.f k x y z l a) t ∧ t ≤ a ∧ (0 ≤ t → fitQ 1048576 l) := by
  obtain ⟨t, h, h2, h3⟩ := laws_szPieceS.ev l a h0 h1 hx
  by_cases ht : t < 0
  · exact ⟨-1, Ev.bind h (Ev.all fun k => by rw [if_pos ht]), by omega, by omega⟩
  · exact ⟨t, Ev.bind h (Ev.all fun k => by rw [if_neg ht]), h2, h3⟩

/-! laws_toIntS -/
theorem laws_toIntS.ev_l (l : List Int) (hl : l.length ≤ 1048576) : ∀ (d i : Nat) (o : List Int), i + d = l.length → o.length = l.length → o.take i = l.take i → Ev (fun k => laws_toIntS.l0 k l o i) l := by
  intro d
  induction d with
  | zero =>
    intro i o hi ho ht
    refine Ev.one fun k => ?_
    simp only [laws_toIntS.l0]
    rw [if_neg (by omega), take_full ho (by omega) ht]
  | succ d ih =>
    intro i o hi ho ht
    refine Ev.step (fun k => ?_) (ih (i + 1) (o.set i (l.getD i 0)) (by omega) (by simp [ho]) (set_take o l _ ho (get_of l 0 (by omega)) ht))
    simp only [laws_toIntS.l0]
    rw [if_pos (by omega), if_pos (by omega), if_pos (by omega), wrap_nat (by omega)]
    rfl
theorem laws_toIntS.ev (l : List Int) (hl : l.length ≤ 1048576) : Ev (fun k => laws_toIntS.f k l) l :=
  Ev.congr (fun k => by unfold laws_toIntS.f; rw [if_pos (by omega), if_pos (by omega)] <;> rfl) (laws_toIntS.ev_l l hl l.length 0 _ (by omega) (by simp) (by simp))

/-! laws_toLaw -/
theorem laws_toLaw.ev (l : List Int) (hl : l.length ≤ 1048576) : Ev (fun k => laws_toLaw.f k l) l := Ev.bind (laws_toIntS.ev l hl) (Ev.now _)

/-! laws_toLinkS -/
def cLink (x : S169) : S160 := ⟨x.f0, x.f1⟩
theorem laws_toLinkS.ev_l (l : List S169) (hl : l.length ≤ 1048576) : ∀ (d i : Nat) (o : List S160), i + d = l.length → o.length = l.length → o.take i = (l.map cLink).take i → Ev (fun k => laws_toLinkS.l0 k l o i) (l.map cLink) := by
  intro d
  induction d with
  | zero =>
    intro i o hi ho ht
    refine Ev.one fun k => ?_
    simp only [laws_toLinkS.l0]
    rw [if_neg (by omega), take_full (by simpa using ho) (by simp; omega) ht]
  | succ d ih =>
    intro i o hi ho ht
    refine Ev.step (fun k => ?_) (ih (i + 1) (o.set i (cLink (l.getD i z169))) (by omega) (by simp [ho]) (set_take o _ _ (by simpa using ho) (get_map cLink l z169 (by omega)) ht))
    simp only [laws_toLinkS.l0, laws_toLink.f, Option.bind_some]
    rw [if_pos (by omega), if_pos (by omega), if_pos (by omega), wrap_nat (by omega)]
    rfl
theorem laws_toLinkS.ev (l : List S169) (hl : l.length ≤ 1048576) : Ev (fun k => laws_toLinkS.f k l) (l.map cLink) :=
  Ev.congr (fun k => by unfold laws_toLinkS.f; rw [if_pos (by omega), if_pos (by omega)] <;> rfl) (laws_toLinkS.ev_l l hl l.length 0 _ (by omega) (by simp) (by simp))

/-! laws_toTable -/
theorem laws_toTable.ev (x : Int) (l m : List Int) (hl : l.length ≤ 1048576) (hm : m.length ≤ 1048576) : Ev (fun k => laws_toTable.f k x l m) (x, l, m) :=
  Ev.bind (laws_toIntS.ev l hl) (Ev.bind (laws_toIntS.ev m hm) (Ev.now _))

/-! d_cTable -/
def cTable (x : S167) : S80 := ⟨x.f0, x.f1, x.f2⟩

/-! laws_toTableS -/
theorem laws_toTableS.ev (l : List S167) (hl : l.length ≤ 1048576) (hx : ∀ x ∈ l, fitT 1048576 x) : Ev (fun k => laws_toTableS.f k l) (l.map cTable) := by
  refine Ev.congr (fun k => by unfold laws_toTableS.f; rw [if_pos (by omega), if_pos (by omega)] <;> rfl) (to_loop (g := fun k o i => laws_toTableS.l0 k l o i) l z167 cTable (fun o => Ev.one fun k => by simp only [laws_toTableS.l0]; rw [if_neg (by omega)]) (fun i o hi ho r hr => ?_) _ (by simp))
  have hf := hx _ (getD_mem l z167 hi)
  refine Ev.step (fun k => by simp only [laws_toTableS.l0]; rw [if_pos (by omega), if_pos (by omega), wrap_nat (by omega)]; rfl) (Ev.bind (laws_toTable.ev (l.getD i z167).f0 (l.getD i z167).f1 (l.getD i z167).f2 hf.1 hf.2) ?_)
  exact Ev.congr (fun k => by rw [if_pos (by omega)]; rfl) hr

/-! d_cPiece -/
def cPiece (x : S133) : S119 := ⟨⟨x.f0.f0, x.f0.f1⟩, x.f1.map cLink, x.f2.map cTable⟩

/-! laws_toPiece -/
theorem laws_toPiece.ev (x : S133) (hx : fitP 1048576 x) : Ev (fun k => laws_toPiece.f k x.f0.f0 x.f0.f1 x.f1 x.f2) (x.f0.f0, x.f0.f1, x.f1.map cLink, x.f2.map cTable) := by
  refine Ev.congr (fun k => by unfold laws_toPiece.f; rw [laws_toSpan.f, Option.bind_some]) ?_
  exact Ev.bind (laws_toLinkS.ev x.f1 hx.1) (Ev.bind (laws_toTableS.ev x.f2 hx.2.1 hx.2.2) (Ev.now _))

/-! laws_toPieceS -/
theorem laws_toPieceS.ev (l : List S133) (hx : fitQ 1048576 l) : Ev (fun k => laws_toPieceS.f k l) (l.map cPiece) := by
  obtain ⟨hl, hx⟩ := hx
  refine Ev.congr (fun k => by unfold laws_toPieceS.f; rw [if_pos (by omega), if_pos (by omega)] <;> rfl) (to_loop (g := fun k o i => laws_toPieceS.l0 k l o i) l z133 cPiece (fun o => Ev.one fun k => by simp only [laws_toPieceS.l0]; rw [if_neg (by omega)]) (fun i o hi ho r hr => ?_) _ (by simp))
  have hf := hx _ (getD_mem l z133 hi)
  refine Ev.step (fun k => by simp only [laws_toPieceS.l0]; rw [if_pos (by omega), if_pos (by omega), wrap_nat (by omega)]; rfl) (Ev.bind (laws_toPiece.ev (l.getD i z133) hf) ?_)
  exact Ev.congr (fun k => by rw [if_pos (by omega)]; rfl) hr

/-! laws_toProgram -/
theorem laws_toProgram.ev (x y z : Int) (l : List S133) (hx : fitQ 1048576 l) : Ev (fun k => laws_toProgram.f k x y z l) (x, y, z, l.map cPiece) := Ev.bind (laws_toPieceS.ev l hx) (Ev.now _)

/-! laws_eqIntS -/
theorem laws_eqIntS.ev_l (l : List Int) (hl : l.length ≤ 1048576) : ∀ (d i : Nat), i + d = l.length → Ev (fun k => laws_eqIntS.l0 k l l i) true := by
  intro d
  induction d with
  | zero => intro i hi; refine Ev.one fun k => ?_; simp only [laws_eqIntS.l0]; rw [if_neg (by omega)]
  | succ d ih =>
    intro i hi
    refine Ev.step (fun k => ?_) (ih (i + 1) (by omega))
    simp only [laws_eqIntS.l0]
    rw [if_pos (by omega), if_pos (by omega), if_pos (by omega), if_pos trivial, wrap_nat (by omega)]
theorem laws_eqIntS.ev (l : List Int) (hl : l.length ≤ 1048576) : Ev (fun k => laws_eqIntS.f k l l) true :=
  Ev.congr (fun k => by unfold laws_eqIntS.f; rw [if_pos rfl] <;> rfl) (laws_eqIntS.ev_l l hl l.length 0 (by omega))

/-! laws_eqLaw -/
theorem laws_eqLaw.ev (l : List Int) (hl : l.length ≤ 1048576) : Ev (fun k => laws_eqLaw.f k l l) true := Ev.bind (laws_eqIntS.ev l hl) (Ev.all fun k => rfl)

/-! laws_eqSpan -/
theorem laws_eqSpan.val (a b : Int) : laws_eqSpan.f a b a b = some true := by
  unfold laws_eqSpan.f
  simp

/-! laws_eqLink -/
theorem laws_eqLink.val (x : S160) : laws_eqLink.f x.f0 x.f1 x.f0 x.f1 = some true := by
  unfold laws_eqLink.f
  simp

/-! laws_eqLinkS -/
theorem laws_eqLinkS.ev_l (l : List S160) (hl : l.length ≤ 1048576) : ∀ (d i : Nat), i + d = l.length → Ev (fun k => laws_eqLinkS.l0 k l l i) true := by
  intro d
  induction d with
  | zero => intro i hi; refine Ev.one fun k => ?_; simp only [laws_eqLinkS.l0]; rw [if_neg (by omega)]
  | succ d ih =>
    intro i hi
    refine Ev.step (fun k => ?_) (ih (i + 1) (by omega))
    simp only [laws_eqLinkS.l0, laws_eqLink.val, Option.bind_some]
    rw [if_pos (by omega), if_pos (by omega), if_pos (by omega), if_pos trivial, wrap_nat (by omega)]
theorem laws_eqLinkS.ev (l : List S160) (hl : l.length ≤ 1048576) : Ev (fun k => laws_eqLinkS.f k l l) true :=
  Ev.congr (fun k => by unfold laws_eqLinkS.f; rw [if_pos rfl] <;> rfl) (laws_eqLinkS.ev_l l hl l.length 0 (by omega))

/-! laws_eqTable -/
theorem laws_eqTable.ev (x : Int) (l m : List Int) (hl : l.length ≤ 1048576) (hm : m.length ≤ 1048576) : Ev (fun k => laws_eqTable.f k x l m x l m) true := by
  refine Ev.congr (fun k => by unfold laws_eqTable.f; rw [if_pos rfl]) (Ev.bind (laws_eqIntS.ev l hl) ?_)
  exact Ev.congr (fun k => by rw [if_pos rfl]) (Ev.bindT (laws_eqIntS.ev m hm))

/-! laws_eqTableS -/
theorem laws_eqTableS.ev (l : List S80) (hl : l.length ≤ 1048576) (hx : ∀ x ∈ l, fitTi 1048576 x) : Ev (fun k => laws_eqTableS.f k l l) true := by
  refine Ev.congr (fun k => by unfold laws_eqTableS.f; rw [if_pos rfl]) (all_loop (g := fun k i => laws_eqTableS.l0 k l l i) l.length (Ev.one fun k => by simp only [laws_eqTableS.l0]; rw [if_neg (by omega)]) (fun i hi r hr => ?_))
  have hf := hx _ (getD_mem l z80 hi)
  refine Ev.step (fun k => by simp only [laws_eqTableS.l0]; rw [if_pos (by omega), if_pos (by omega), if_pos (by omega), wrap_nat (by omega)]; rfl) (Ev.bind (laws_eqTable.ev (l.getD i z80).f0 (l.getD i z80).f1 (l.getD i z80).f2 hf.1 hf.2) ?_)
  exact Ev.congr (fun k => by rw [if_pos rfl]) hr

/-! laws_eqPiece -/
theorem laws_eqPiece.ev (x : S119) (hx : fitPi 1048576 x) : Ev (fun k => laws_eqPiece.f k x.f0.f0 x.f0.f1 x.f1 x.f2 x.f0.f0 x.f0.f1 x.f1 x.f2) true := by
  refine Ev.congr (fun k => by unfold laws_eqPiece.f; rw [laws_eqSpan.val, Option.bind_some, if_pos rfl]) (Ev.bind (laws_eqLinkS.ev x.f1 hx.1) ?_)
  exact Ev.congr (fun k => by rw [if_pos rfl]) (Ev.bindT (laws_eqTableS.ev x.f2 hx.2.1 hx.2.2))

/-! laws_eqPieceS -/
theorem laws_eqPieceS.ev (l : List S119) (hx : fitQi 1048576 l) : Ev (fun k => laws_eqPieceS.f k l l) true := by
  obtain ⟨hl, hx⟩ := hx
  refine Ev.congr (fun k => by unfold laws_eqPieceS.f; rw [if_pos rfl]) (all_loop (g := fun k i => laws_eqPieceS.l0 k l l i) l.length (Ev.one fun k => by simp only [laws_eqPieceS.l0]; rw [if_neg (by omega)]) (fun i hi r hr => ?_))
  have hf := hx _ (getD_mem l z119 hi)
  refine Ev.step (fun k => by simp only [laws_eqPieceS.l0]; rw [if_pos (by omega), if_pos (by omega), if_pos (by omega), wrap_nat (by omega)]; rfl) (Ev.bind (laws_eqPiece.ev (l.getD i z119) hf) ?_)
  exact Ev.congr (fun k => by rw [if_pos rfl]) hr

/-! laws_eqProgram -/
theorem laws_eqProgram.ev (x y z : Int) (l : List S119) (hx : fitQi 1048576 l) : Ev (fun k => laws_eqProgram.f k x y z l x y z l) true := by
  refine Ev.congr (fun k => by unfold laws_eqProgram.f; rw [if_pos rfl, if_pos rfl, if_pos rfl]) (Ev.bindT (laws_eqPieceS.ev l hx))

/-! spec_l15Has -/
theorem spec_l15Has.ev (l : List Int) (a : Int) (hl : l.length ≤ 1048576) : Ev (fun k => spec_l15Has.f k l a) (hasB l a) := by
  have h := find_list (g := fun k i => spec_l15Has.l0 k l a i) (q := fun x => x == a) (r := true) (e := false) l 0
    (Ev.one fun k => by simp only [spec_l15Has.l0]; rw [if_neg (by omega)])
    (fun i k hi => by
      simp only [spec_l15Has.l0]
      rw [if_pos (by omega), if_pos (by omega), wrap_nat (by omega), rd_nat]
      by_cases h : l.getD i 0 = a
      · rw [if_pos h, if_pos (by simpa using h)]
      · rw [if_neg h, if_neg (by simpa using h)])
  rw [ite_bool] at h
  exact h

/-! d_landB -/
def landB (l : List Int) (a b i : Int) : Bool := decide (0 ≤ i) && decide (i < a) && (decide (i < b) || hasB l i)

/-! spec_IsLanding -/
theorem spec_IsLanding.ev (l : List Int) (a b c : Int) (m : List S119) (i : Int) (hl : l.length ≤ 1048576) : Ev (fun k => spec_IsLanding.f k l a b c m i) (landB l a b i) := by
  unfold landB
  by_cases h : i ≥ 0
  · rw [decide_eq_true (show 0 ≤ i from h), Bool.true_and]
    refine Ev.congr (fun k => by unfold spec_IsLanding.f; rw [if_pos h]) ?_
    by_cases h2 : i < a
    · rw [decide_eq_true h2, Bool.true_and]
      refine Ev.congr (fun k => by rw [if_pos h2]) ?_
      by_cases h3 : i < b
      · exact Ev.all fun k => by rw [if_pos h3, decide_eq_true h3]; rfl
      · rw [decide_eq_false h3, Bool.false_or]
        exact Ev.congr (fun k => by rw [if_neg h3]) (Ev.bind (spec_l15Has.ev l i hl) (Ev.now _))
    · exact Ev.all fun k => by rw [if_neg h2, decide_eq_false h2]; rfl
  · exact Ev.all fun k => by unfold spec_IsLanding.f; rw [if_neg h, decide_eq_false (show ¬ 0 ≤ i by omega)]; rfl

/-! impl_isIndex -/
theorem impl_isIndex.val (a n : Int) : impl_isIndex.f a n = some (decide (0 ≤ a) && decide (a < n)) := by
  unfold impl_isIndex.f
  by_cases h : a ≥ 0
  · rw [if_pos h]; simp [h]
  · rw [if_neg h]; simp; omega
theorem impl_isIndex.nat (a : Int) (n : Nat) : impl_isIndex.f a (n : Int) = some (idxB a n) := impl_isIndex.val a n

/-! slices_Index_int_int -/
theorem slices_Index_int_int.ev_l (l : List Int) (a : Int) (hl : l.length ≤ 1048576) : ∀ (d i : Nat), i + d = l.length → ∃ r, Ev (fun k => slices_Index_int_int.l0 k l a l.length i) r ∧ decide (r ≥ 0) = (l.drop i).any (fun x => x == a) := by
  intro d
  induction d with
  | zero =>
    intro i hi
    exact ⟨-1, Ev.one fun k => by simp only [slices_Index_int_int.l0]; rw [if_neg (by omega)], by rw [List.drop_eq_nil_of_le (by omega)]; rfl⟩
  | succ d ih =>
    intro i hi
    rw [drop_cons l 0 (show i < l.length by omega), List.any_cons]
    by_cases h : a = l.getD i 0
    · refine ⟨(i : Int), Ev.one fun k => ?_, ?_⟩
      · simp only [slices_Index_int_int.l0]
        rw [if_pos (by omega), if_pos (by omega), if_pos (by omega), rd_nat, if_pos h]
      · rw [← h]; simp
    · obtain ⟨r, hr, hd⟩ := ih (i + 1) (by omega)
      refine ⟨r, Ev.step (fun k => ?_) hr, ?_⟩
      · simp only [slices_Index_int_int.l0]
        rw [if_pos (by omega), if_pos (by omega), if_pos (by omega), rd_nat, if_neg h, wrap_nat (by omega)]
      · have : (l.getD i 0 == a) = false := by rw [beq_eq_false_iff_ne]; exact fun e => h e.symm
        rw [this, Bool.false_or, hd]
theorem slices_Index_int_int.ev (l : List Int) (a : Int) (hl : l.length ≤ 1048576) : ∃ r, Ev (fun k => slices_Index_int_int.f k l a) r ∧ decide (r ≥ 0) = hasB l a := by
  have := slices_Index_int_int.ev_l l a hl l.length 0 (by omega)
  rw [List.drop_zero] at this
  exact this

/-! slices_Contains_int_int -/
theorem slices_Contains_int_int.ev (l : List Int) (a : Int) (hl : l.length ≤ 1048576) : Ev (fun k => slices_Contains_int_int.f k l a) (hasB l a) := by
  obtain ⟨r, hr, e⟩ := slices_Index_int_int.ev l a hl
  rw [← e]
  exact Ev.bind hr (Ev.now _)

/-! impl_IsLanding -/
theorem impl_IsLanding.ev (l : List Int) (a b c : Int) (m : List S119) (i : Int) (hl : l.length ≤ 1048576) : Ev (fun k => impl_IsLanding.f k l a b c m i) (landB l a b i) := by
  unfold landB
  by_cases h : i ≥ 0
  · rw [decide_eq_true (show 0 ≤ i from h), Bool.true_and]
    refine Ev.congr (fun k => by unfold impl_IsLanding.f impl_isIndex.f; rw [if_pos h, Option.bind_some]) ?_
    by_cases h2 : i < a
    · rw [decide_eq_true h2, Bool.true_and]
      refine Ev.congr (fun k => by rw [if_pos rfl]) ?_
      by_cases h3 : i < b
      · exact Ev.all fun k => by rw [if_pos h3, decide_eq_true h3]; rfl
      · rw [decide_eq_false h3, Bool.false_or]
        exact Ev.congr (fun k => by rw [if_neg h3]) (Ev.bind (slices_Contains_int_int.ev l i hl) (Ev.now _))
    · exact Ev.all fun k => by rw [decide_eq_false h2, if_neg (by simp)]; rfl
  · exact Ev.all fun k => by unfold impl_IsLanding.f impl_isIndex.f; rw [if_neg h, Option.bind_some, if_neg (by simp), decide_eq_false (show ¬ 0 ≤ i by omega)]; rfl

/-! d_wQ -/
theorem fit_of {l : List S133} (h : l.length ≤ maxLen ∧ ∀ e_ ∈ l, W133 e_) : fitQ maxLen l :=
  ⟨h.1, fun x hx => ⟨(h.2 x hx).2.1.1, (h.2 x hx).2.2.1, fun t ht => ⟨((h.2 x hx).2.2.2 t ht).2.1.1, ((h.2 x hx).2.2.2 t ht).2.2.1⟩⟩⟩

/-! d_fitMap -/
theorem fit_map {n : Nat} {l : List S133} (h : fitQ n l) : fitQi n (l.map cPiece) := by
  refine ⟨by simpa using h.1, fun x hx => ?_⟩
  obtain ⟨y, hy, rfl⟩ := List.mem_map.1 hx
  obtain ⟨h1, h2, h3⟩ := h.2 y hy
  refine ⟨by simpa [cPiece] using h1, by simpa [cPiece] using h2, fun t ht => ?_⟩
  obtain ⟨u, hu, rfl⟩ := List.mem_map.1 ht
  exact h3 u hu

/-! @@ FnExactIsLanding -/
theorem proved : Stated := by
  intro l a b c m i ⟨hl, hw⟩ _ _ _ hm _
  refine Ev.rounds ?_
  obtain ⟨t, ht, hle, hp⟩ := laws_szLaw.val l 1048576 (by omega) (by omega) hl
  refine Ev.congr (fun k => by unfold laws_FnExactIsLanding.f; rw [ht, Option.bind_some]) ?_
  by_cases h : t < 0
  · exact Ev.all fun k => by rw [if_pos h]
  obtain ⟨_, hl2⟩ := hp (by omega)
  obtain ⟨u, hu, hle2, hq⟩ := laws_szProgram.ev a b c m t (by omega) (by omega) (fit_of hm)
  refine Ev.congr (fun k => by rw [if_neg h]) (Ev.bind hu ?_)
  by_cases h' : u < 0
  · exact Ev.all fun k => by rw [if_pos h']
  have hq := hq (by omega)
  have hq2 := fit_map hq
  refine Ev.congr (fun k => by rw [if_neg h']) (Ev.bind (laws_toLaw.ev l hl2) (Ev.bind (laws_toProgram.ev a b c m hq) (Ev.bind (spec_IsLanding.ev l a b c _ i hl2) (Ev.bind (laws_toLaw.ev l hl2) (Ev.bind (laws_toProgram.ev a b c m hq) (Ev.bind (impl_IsLanding.ev l a b c _ i hl2) ?_))))))
  refine Ev.congr (fun k => by rw [if_neg (by simp)]) (Ev.bind (laws_toLaw.ev l hl2) (Ev.bind (laws_eqLaw.ev l hl2) ?_))
  refine Ev.congr (fun k => by rw [if_pos rfl]) (Ev.bind (laws_toProgram.ev a b c m hq) (Ev.bindT (laws_eqProgram.ev a b c _ hq2)))

end Go.Proofs.Ytegkplalnljgjaa.PureFnExactIsLanding
