/- FnReach, over numbers and lists alone: what the program's function and the reference's answer is one. Conditions: the numbers are of their kinds. -/
import Derived.Test.YtdodogkgmpaioaaKindsFnReach
import Derived.Test.YtdodogkgmpaioaaVFnReachBase
namespace Go.Proofs.Ytdodogkgmpaioaa.PureFnReach
open Go.RowKit Go.Proofs.Ytdodogkgmpaioaa.PFnReach Go.Proofs.YtdodogkgmpaioaaW.PrintWords Go.Proofs.YtdodogkgmpaioaaW.PrintLast Go.Proofs.YtdodogkgmpaioaaW.PrintMore Go.Proofs.Ytdodogkgmpaioaa.Base
set_option linter.unusedVariables false
set_option linter.unusedSimpArgs false

/-! laws_big -/
theorem laws_big.val (l : List Int) : laws_big.f l = some (decide ((l.length : Int) > 1048576)) := rfl

/-! slices_IndexFunc_impl_Link_impl_Link -/
theorem slices_IndexFunc_impl_Link_impl_Link.first (q : S123 → Bool) : ∀ (l : List S123) (i : Nat), slices_IndexFunc_impl_Link_impl_Link.idxAt q l i = firstAt q l i
  | [], i => rfl
  | x :: l, i => by rw [slices_IndexFunc_impl_Link_impl_Link.idxAt, firstAt, slices_IndexFunc_impl_Link_impl_Link.first q l (i + 1)]

/-! d_fitTi -/
def fitTi (n : Nat) (x : S80) : Prop := x.f1.length ≤ n ∧ x.f2.length ≤ n

/-! d_fitPi -/
def fitPi (n : Nat) (x : S103) : Prop := x.f1.length ≤ n ∧ x.f2.length ≤ n ∧ ∀ t ∈ x.f2, fitTi n t
def fitQi (n : Nat) (l : List S103) : Prop := l.length ≤ n ∧ ∀ x ∈ l, fitPi n x

/-! d_hasLink -/
def linkQ (a b : Int) (x : S123) : Bool := (x.f0 == a) && (x.f1 == b) || (x.f0 == b) && (x.f1 == a)
def hasLink (p : List S103) (k a b : Int) : Bool := idxB k p.length && (rd_T103 p k).f1.any (linkQ a b)
theorem fit_links {n : Nat} {p : List S103} (hp : fitQi n p) {k : Int} (hk : idxB k p.length = true) : (rd_T103 p k).f1.length ≤ n := by
  obtain ⟨h0, h1⟩ := (idxB_iff _ _).1 hk
  exact (hp.2 _ (getD_mem p z103 (show k.toNat < p.length by omega))).1

/-! impl_HasLink -/
theorem impl_HasLink.val (x y z : Int) (p : List S103) (kk a b : Int) : impl_HasLink.f x y z p kk a b = some (hasLink p kk a b) := by
  unfold impl_HasLink.f hasLink slices_IndexFunc_impl_Link_impl_Link.idx idxB
  rw [slices_IndexFunc_impl_Link_impl_Link.first, firstAt_any]
  rfl

/-! slices_IndexFunc_impl_Piece_impl_Piece -/
theorem slices_IndexFunc_impl_Piece_impl_Piece.first (q : S103 → Bool) : ∀ (l : List S103) (i : Nat), slices_IndexFunc_impl_Piece_impl_Piece.idxAt q l i = firstAt q l i
  | [], i => rfl
  | x :: l, i => by rw [slices_IndexFunc_impl_Piece_impl_Piece.idxAt, firstAt, slices_IndexFunc_impl_Piece_impl_Piece.first q l (i + 1)]

/-! d_isSpan -/
def isSpan (a b : Int) : Bool := decide (0 ≤ a) && decide (b ≤ 1000) && decide (a < b)

/-! d_inSpan -/
def inSpan (a b t : Int) : Bool := isSpan a b && decide (a ≤ t) && decide (t < b)

/-! d_pieceAt -/
def pieceAt (p : List S103) (t : Int) : Int := firstAt (fun x => inSpan x.f0.f0 x.f0.f1 t) p 0

/-! impl_PieceAt -/
theorem impl_PieceAt.val (a b c : Int) (p : List S103) (t : Int) : impl_PieceAt.f a b c p t = some (pieceAt p t) := by
  unfold impl_PieceAt.f pieceAt slices_IndexFunc_impl_Piece_impl_Piece.idx
  rw [slices_IndexFunc_impl_Piece_impl_Piece.first]
  have : (fun x : S103 => impl_PieceAt.has x.f0.f0 x.f0.f1 t) = fun x => inSpan x.f0.f0 x.f0.f1 t := by
    funext x
    unfold impl_PieceAt.has inSpan isSpan
    rfl
  rw [this]

/-! impl_IsLinked -/
theorem impl_IsLinked.val (x y z : Int) (p : List S103) (a b t : Int) : impl_IsLinked.f x y z p a b t = some (hasLink p (pieceAt p t) a b) := by
  unfold impl_IsLinked.f
  rw [impl_PieceAt.val, Option.bind_some, impl_HasLink.val, Option.bind_some]

/-! impl_InRange -/
theorem impl_InRange.val (a lo hi : Int) : impl_InRange.f a lo hi = some (inR a lo hi) := by
  unfold impl_InRange.f inR
  by_cases h : lo ≤ a
  · rw [if_pos h]; simp [h]
  · rw [if_neg h]; simp; omega

/-! impl_isNumber -/
theorem impl_isNumber.val (a : Int) : impl_isNumber.f a = some (inR a 1 12) := by
  unfold impl_isNumber.f
  rw [impl_InRange.val]; rfl

/-! impl_isIndex -/
theorem impl_isIndex.val (a n : Int) : impl_isIndex.f a n = some (decide (0 ≤ a) && decide (a < n)) := by
  unfold impl_isIndex.f
  by_cases h : a ≥ 0
  · rw [if_pos h]; simp [h]
  · rw [if_neg h]; simp; omega
theorem impl_isIndex.nat (a : Int) (n : Nat) : impl_isIndex.f a (n : Int) = some (idxB a n) := impl_isIndex.val a n

/-! d_reach -/
def stepB (p : List S103) (t a : Int) (b : Nat) (M : List Int) : List Int := if rd M ((b : Nat) : Int) < 0 then (if hasLink p (pieceAt p t) a ((b : Nat) : Int) = true then M.set b (t + 1) else M) else M
def rowB (p : List S103) (n : Nat) (t a : Int) (M : List Int) : List Int := (List.range' 0 n).foldl (fun M b => stepB p t a b M) M
def goesOn (first src : Int) (O : List Int) (a : Nat) : Bool := decide (rd O ((a : Nat) : Int) ≥ 0) && (decide (((a : Nat) : Int) < first) || (((a : Nat) : Int) == src))
def stepA (p : List S103) (n : Nat) (first src t : Int) (O : List Int) (a : Nat) (M : List Int) : List Int := if goesOn first src O a = true then rowB p n t ((a : Nat) : Int) M else M
def tick (p : List S103) (n : Nat) (first src t : Int) (O : List Int) : List Int := (List.range' 0 n).foldl (fun M a => stepA p n first src t O a M) O
def reachT (p : List S103) (n : Nat) (first src : Int) : Nat → Int → List Int → List Int
  | 0, _, O => O
  | d + 1, t, O => reachT p n first src d (t + 1) (tick p n first src t O)
def reachFrom (p : List S103) (x first src a b : Int) : List Int :=
  if inR x 1 12 = true ∧ idxB src x.toNat = true ∧ ¬ a < 0 ∧ ¬ b > 1000 then reachT p x.toNat first src (b - a).toNat a ((List.replicate x.toNat (-1)).set src.toNat a) else []
theorem stepB_len (p : List S103) (t a : Int) (b : Nat) (M : List Int) : (stepB p t a b M).length = M.length := by
  unfold stepB
  split
  · split
    · exact List.length_set
    · rfl
  · rfl
theorem rd_set {M : List Int} {i j : Nat} {v : Int} (hj : j < M.length) : rd (M.set j v) ((i : Nat) : Int) = if i = j then v else rd M ((i : Nat) : Int) := by
  rw [rd_nat, rd_nat]
  by_cases h : i = j
  · rw [if_pos h, h]
    exact getD_set_self M 0 v hj
  · rw [if_neg h, List.getD_eq_getElem?_getD, List.getD_eq_getElem?_getD, List.getElem?_set_ne (by omega)]
/-- What stands in a round's list, next to what stood there when the round began. -/
def InT (n : Nat) (t : Int) (O M : List Int) : Prop := M.length = n ∧ O.length = n ∧ ∀ a : Nat, a < n → rd O a ≤ t ∧ (rd O a ≥ 0 → rd M a = rd O a) ∧ (rd O a < 0 → rd O a = -1 ∧ (rd M a = -1 ∨ rd M a = t + 1))
theorem InT.step {n : Nat} {t : Int} {O M : List Int} (h : InT n t O M) (ht : 0 ≤ t) (p : List S103) (a : Int) (b : Nat) (hb : b < n) : InT n t O (stepB p t a b M) := by
  obtain ⟨h1, h2, h3⟩ := h
  refine ⟨by rw [stepB_len]; exact h1, h2, fun i hi => ?_⟩
  have hi3 := h3 i hi
  refine ⟨hi3.1, ?_⟩
  unfold stepB
  split
  · rename_i hM
    split
    · rw [rd_set (by omega)]
      by_cases e : i = b
      · subst e
        rw [if_pos rfl]
        refine ⟨fun h => ?_, fun h => ⟨(hi3.2.2 h).1, Or.inr rfl⟩⟩
        have := hi3.2.1 h
        omega
      · rw [if_neg e]
        exact hi3.2
    · exact hi3.2
  · exact hi3.2
theorem InT.row {n : Nat} {t : Int} {O : List Int} (ht : 0 ≤ t) (p : List S103) (a : Int) : ∀ (d i : Nat) (M : List Int), i + d ≤ n → InT n t O M → InT n t O ((List.range' i d).foldl (fun M b => stepB p t a b M) M) := by
  intro d
  induction d with
  | zero => intro i M _ h; exact h
  | succ d ih =>
    intro i M hi h
    rw [List.range'_succ, List.foldl_cons]
    exact ih (i + 1) _ (by omega) (h.step ht p a i (by omega))
theorem InT.rows {n : Nat} {t : Int} {O : List Int} (ht : 0 ≤ t) (p : List S103) (first src : Int) : ∀ (d i : Nat) (M : List Int), i + d ≤ n → InT n t O M → InT n t O ((List.range' i d).foldl (fun M a => stepA p n first src t O a M) M) := by
  intro d
  induction d with
  | zero => intro i M _ h; exact h
  | succ d ih =>
    intro i M hi h
    rw [List.range'_succ, List.foldl_cons]
    refine ih (i + 1) _ (by omega) ?_
    unfold stepA
    split
    · exact InT.row ht p _ n 0 M (by omega) h
    · exact h
theorem InT.start {n : Nat} {t : Int} {O : List Int} (hl : O.length = n) (h : ∀ a : Nat, a < n → rd O a ≤ t ∧ (rd O a < 0 → rd O a = -1)) : InT n t O O :=
  ⟨hl, hl, fun a ha => ⟨(h a ha).1, fun _ => rfl, fun h0 => ⟨(h a ha).2 h0, Or.inl ((h a ha).2 h0)⟩⟩⟩
/-- A list before a round. -/
def Old (n : Nat) (t : Int) (O : List Int) : Prop := O.length = n ∧ ∀ a : Nat, a < n → rd O a ≤ t ∧ (rd O a < 0 → rd O a = -1)
theorem InT.old {n : Nat} {t : Int} {O M : List Int} (ht : 0 ≤ t) (h : InT n t O M) : Old n (t + 1) M := by
  refine ⟨h.1, fun a ha => ?_⟩
  obtain ⟨h1, h2, h3⟩ := h.2.2 a ha
  by_cases h0 : rd O a ≥ 0
  · rw [h2 h0]
    exact ⟨by omega, by omega⟩
  · rcases (h3 (by omega)).2 with e | e <;> rw [e] <;> exact ⟨by omega, by omega⟩
theorem Old.tick {n : Nat} {t : Int} {O : List Int} (ht : 0 ≤ t) (h : Old n t O) (p : List S103) (first src : Int) : Old n (t + 1) (tick p n first src t O) :=
  (InT.rows ht p first src n 0 O (by omega) (InT.start h.1 h.2)).old ht
theorem Old.reach {n : Nat} (p : List S103) (first src : Int) : ∀ (d : Nat) (t : Int) (O : List Int), 0 ≤ t → Old n t O → Old n (t + d) (reachT p n first src d t O)
  | 0, t, O, _, h => by rw [show t + ((0 : Nat) : Int) = t by omega]; exact h
  | d + 1, t, O, ht, h => by
    rw [show t + ((d + 1 : Nat) : Int) = (t + 1) + (d : Nat) by omega]
    exact Old.reach p first src d (t + 1) _ (by omega) (h.tick ht p first src)
theorem Old.init {n : Nat} {src a : Int} (h : idxB src n = true) (ha : 0 ≤ a) : Old n a ((List.replicate n (-1)).set src.toNat a) := by
  obtain ⟨h0, h1⟩ := (idxB_iff _ _).1 h
  refine ⟨by simp, fun i hi => ?_⟩
  rw [rd_set (by simp; omega)]
  split
  · exact ⟨by omega, by omega⟩
  · have : rd (List.replicate n (-1)) ((i : Nat) : Int) = -1 := by
      rw [rd_nat, List.getD_eq_getElem?_getD, List.getElem?_replicate, if_pos hi]; rfl
    rw [this]
    exact ⟨by omega, fun _ => rfl⟩
theorem reach_len (p : List S103) (x first src a b : Int) : (reachFrom p x first src a b).length ≤ 12 := by
  unfold reachFrom
  split
  · rename_i h
    have hb : 1 ≤ x ∧ x ≤ 12 := by simpa [inR] using h.1
    have := (Old.reach p first src (b - a).toNat a _ (by omega) (Old.init h.2.1 (by omega))).1
    omega
  · simp
theorem fill_ev {g : Nat → List Int → Int → Option (List Int)} (n : Nat) {R : List Int} (hstep : ∀ (i : Nat) o, i < n → o.length = i → ∀ r, Ev (fun k => g k (o ++ [-1]) ((i + 1 : Nat) : Int)) r → Ev (fun k => g k o i) r) (hend : Ev (fun k => g k (List.replicate n (-1)) n) R) : Ev (fun k => g k [] 0) R := by
  have : ∀ d i : Nat, i + d = n → Ev (fun k => g k (List.replicate i (-1)) i) R := by
    intro d
    induction d with
    | zero =>
      intro i hi
      have : i = n := by omega
      rw [this]; exact hend
    | succ d ih =>
      intro i hi
      refine hstep i _ (by omega) (by simp) R ?_
      have := ih (i + 1) (by omega)
      rw [List.replicate_succ'] at this
      exact this
  exact this n 0 (by omega)

/-! impl_ReachFrom -/
theorem impl_ReachFrom.ticks (x first z src b : Int) (p : List S103) (hx : 1 ≤ x ∧ x ≤ 12) (hb : b ≤ 1000) : ∀ (d : Nat) (t : Int) (O : List Int), d = (b - t).toNat → 0 ≤ t → Old x.toNat t O → Ev (fun k => impl_ReachFrom.l1 k src b O t x first z p) (reachT p x.toNat first src d t O) := by
  intro d
  induction d with
  | zero =>
    intro t O hd ht hO
    exact Ev.one fun k => by simp only [impl_ReachFrom.l1]; rw [if_neg (by omega)]; rfl
  | succ d ih =>
    intro t O hd ht hO
    have hrec := ih (t + 1) _ (by omega) (by omega) (hO.tick ht p first src)
    refine Ev.step (fun k => by simp only [impl_ReachFrom.l1]; rw [if_pos (by omega)]) ?_
    refine (foldE_to (g := fun k M i => impl_ReachFrom.l2 k src b M t x i x first z p) (f := fun a M => stepA p x.toNat first src t O a M) (fun _ M => InT x.toNat t O M) x.toNat 0 (fun a M _ ha hM => ⟨?_, fun R hR => ?_⟩) x.toNat 0 O (by omega) (by omega) (InT.start hO.1 hO.2)).2 _ (Ev.step (fun k => by simp only [impl_ReachFrom.l2]; rw [if_neg (by omega), wrap_id (x := t + 1) (by omega) (by omega)]; rfl) hrec)
    · exact InT.rows ht p first src 1 a M (by omega) hM
    · have hlen := hM.1
      obtain ⟨h1, h2, h3⟩ := hM.2.2 a ha
      have hg : ∀ k, impl_ReachFrom.l2 (k + 1) src b M t x a x first z p = impl_ReachFrom.j4 k src b M t a x a (!goesOn first src O a) x first z p := fun k => by
        simp only [impl_ReachFrom.l2]
        rw [if_pos (by omega), if_pos (by omega), if_pos (by omega)]
        unfold goesOn
        by_cases h0 : rd O ((a : Nat) : Int) ≥ 0
        · have e := h2 h0
          rw [if_neg (by omega), if_neg (by omega), decide_eq_true h0, Bool.true_and]
          by_cases h5 : ((a : Nat) : Int) ≥ first
          · rw [if_pos h5, decide_eq_false (show ¬ ((a : Nat) : Int) < first by omega), Bool.false_or]; rfl
          · rw [if_neg h5, decide_eq_true (show ((a : Nat) : Int) < first by omega), Bool.true_or]; rfl
        · rw [decide_eq_false h0, Bool.false_and]
          rcases (h3 (by omega)).2 with e | e
          · rw [if_pos (by omega)]; rfl
          · rw [if_neg (by omega), if_pos (by omega)]; rfl
      unfold stepA at hR
      by_cases hq : goesOn first src O a = true
      · rw [if_pos hq] at hR
        refine Ev.step (fun k => by rw [hg, hq]) (Ev.step (fun k => by simp only [impl_ReachFrom.j4]; rw [if_neg (by simp)]) ?_)
        refine (foldE_to (g := fun k M i => impl_ReachFrom.l3 k src b M t a x a x i x first z p) (f := fun j M => stepB p t ((a : Nat) : Int) j M) (fun _ M => M.length = x.toNat) x.toNat 0 (fun j M _ hj hM2 => ⟨by rw [stepB_len]; exact hM2, fun R hR => ?_⟩) x.toNat 0 M (by omega) (by omega) hM.1).2 R (Ev.step (fun k => by simp only [impl_ReachFrom.l3]; rw [if_neg (by omega), wrap_nat (by omega)]; rfl) hR)
        unfold stepB at hR
        by_cases h1 : rd M ((j : Nat) : Int) < 0
        · rw [if_pos h1] at hR
          refine Ev.step (fun k => by simp only [impl_ReachFrom.l3]; rw [if_pos (by omega), if_pos (by omega), if_pos (by omega), wrap_nat (by omega), wrap_id (x := t + 1) (by omega) (by omega), if_pos h1, impl_IsLinked.val, Option.bind_some]) ?_
          by_cases h2 : hasLink p (pieceAt p t) ((a : Nat) : Int) ((j : Nat) : Int) = true
          · rw [if_pos h2] at hR
            exact Ev.congr (fun k => by rw [if_pos h2]; rfl) hR
          · rw [if_neg h2] at hR
            exact Ev.congr (fun k => by rw [if_neg h2]) hR
        · rw [if_neg h1] at hR
          exact Ev.step (fun k => by simp only [impl_ReachFrom.l3]; rw [if_pos (by omega), if_pos (by omega), if_pos (by omega), wrap_nat (by omega), if_neg h1]) hR
      · rw [if_neg hq] at hR
        have hq' : goesOn first src O a = false := by simpa using hq
        exact Ev.step (fun k => by rw [hg, hq']) (Ev.step (fun k => by simp only [impl_ReachFrom.j4]; rw [if_pos (by simp), wrap_nat (by omega)]) hR)
theorem impl_ReachFrom.ev (x first z : Int) (p : List S103) (src a b : Int) : Ev (fun k => impl_ReachFrom.f k x first z p src a b) (reachFrom p x first src a b) := by
  unfold reachFrom
  have hj : ∀ q, q = true → Ev (fun k => impl_ReachFrom.j0 k src a b [] q x first z p) [] := fun q h => Ev.one fun k => by simp only [impl_ReachFrom.j0]; rw [if_pos h]
  refine Ev.congr (fun k => by unfold impl_ReachFrom.f; rw [Option.bind_some, impl_isNumber.val, Option.bind_some]) ?_
  by_cases hx : inR x 1 12 = true
  · have hb : 1 ≤ x ∧ x ≤ 12 := by simpa [inR] using hx
    have hidx : impl_isIndex.f src x = some (idxB src x.toNat) := by
      have := impl_isIndex.nat src x.toNat
      rw [show ((x.toNat : Nat) : Int) = x by omega] at this
      exact this
    refine Ev.congr (fun k => by rw [if_pos hx, hidx, Option.bind_some]) ?_
    by_cases hs : idxB src x.toNat = true
    · refine Ev.congr (fun k => by rw [if_pos hs]) ?_
      by_cases ha : a < 0
      · rw [if_neg (fun h => h.2.2.1 ha)]
        exact Ev.congr (fun k => by rw [if_pos ha]) (hj _ rfl)
      · refine Ev.congr (fun k => by rw [if_neg ha]) ?_
        by_cases h1000 : b > 1000
        · rw [if_neg (fun h => h.2.2.2 h1000)]
          exact hj _ (decide_eq_true h1000)
        · rw [if_pos ⟨hx, hs, ha, h1000⟩]
          obtain ⟨h0, h1⟩ := (idxB_iff _ _).1 hs
          refine Ev.step (fun k => by simp only [impl_ReachFrom.j0]; rw [if_neg (by simpa using h1000)]) ?_
          refine fill_ev (g := fun k o i => impl_ReachFrom.l0 k src a b o x i x first z p) x.toNat (fun i o hi ho r hr => Ev.step (fun k => by simp only [impl_ReachFrom.l0]; rw [if_pos (by omega), if_pos (by omega), wrap_nat (by omega)]) hr) ?_
          refine Ev.step (fun k => by simp only [impl_ReachFrom.l0]; rw [if_neg (by omega), if_pos h0, if_pos (by rw [List.length_replicate]; omega)]) ?_
          exact impl_ReachFrom.ticks x first z src b p hb (by omega) _ a _ rfl (by omega) (Old.init hs (by omega))
    · rw [if_neg (fun h => hs h.2.1)]
      exact Ev.congr (fun k => by rw [if_neg hs]) (hj _ rfl)
  · rw [if_neg (fun h => hx h.1)]
    exact Ev.congr (fun k => by rw [if_neg hx]) (hj _ rfl)

/-! d_arrival -/
def arrival (l : List Int) (d : Int) : Int := if idxB d l.length = true then rd l d else -1

/-! impl_ArrivalAt -/
theorem impl_ArrivalAt.ev (x first z : Int) (p : List S103) (src d a b : Int) : Ev (fun k => impl_ArrivalAt.f k x first z p src d a b) (arrival (reachFrom p x first src a b) d) := by
  refine Ev.bind (impl_ReachFrom.ev x first z p src a b) ?_
  have hl := reach_len p x first src a b
  generalize reachFrom p x first src a b = l at hl
  refine Ev.all fun k => ?_
  rw [impl_isIndex.nat, Option.bind_some]
  unfold arrival
  by_cases h : idxB d l.length = true
  · obtain ⟨h0, h1⟩ := (idxB_iff _ _).1 h
    rw [if_pos h, if_pos h, if_pos h0, if_pos h1]
  · rw [if_neg h, if_neg h]

/-! d_count -/
def reaching (l : List Int) : Int := countP (fun i => decide (rd l ((i : Nat) : Int) ≥ 0)) l.length

/-! impl_CountReaching -/
theorem impl_CountReaching.ev (l : List Int) (hl : l.length ≤ 1048576) : Ev (fun k => impl_CountReaching.f k l) (reaching l) := by
  have h := fold_index (g := fun k s i => impl_CountReaching.l0 k s l l.length i) (f := fun i s => if (decide (rd l ((i : Nat) : Int) ≥ 0)) = true then wrap64 (s + 1) else s) (fin := fun s => s) (fun _ _ => True) l.length 0 trivial
    (fun s _ => Ev.one fun k => by simp only [impl_CountReaching.l0]; rw [if_neg (by omega)])
    (fun i s hi _ => ⟨trivial, fun k => by
      simp only [impl_CountReaching.l0]
      rw [if_pos (by omega), if_pos (by omega), if_pos (by omega), wrap_nat (by omega)]
      by_cases h : rd l ((i : Nat) : Int) ≥ 0
      · rw [if_pos h, if_pos (decide_eq_true h)]
      · rw [if_neg h, if_neg (by simpa using h)]⟩)
  rw [count_countP _ _ (by omega)] at h
  exact h

/-! impl_ReachCount -/
theorem impl_ReachCount.ev (x first z : Int) (p : List S103) (src a b : Int) : Ev (fun k => impl_ReachCount.f k x first z p src a b) (reaching (reachFrom p x first src a b)) := by
  have hl := reach_len p x first src a b
  exact Ev.bind (impl_ReachFrom.ev x first z p src a b) (Ev.bind (impl_CountReaching.ev _ (by omega)) (Ev.now _))

/-! spec_l1In -/
theorem spec_l1In.val (a lo hi : Int) : spec_l1In.f a lo hi = some (inR a lo hi) := by
  unfold spec_l1In.f inR
  by_cases h : a ≥ lo
  · rw [if_pos h]; simp [h]
  · rw [if_neg h]; simp; omega

/-! spec_HasLink -/
theorem spec_HasLink.ev (x y z : Int) (p : List S103) (kk a b : Int) (hp : fitQi 1048576 p) : Ev (fun k => spec_HasLink.f k x y z p kk a b) (hasLink p kk a b) := by
  refine Ev.congr (fun k => by unfold spec_HasLink.f; rw [spec_l1In.val, Option.bind_some, inR_idx _ _ hp.1]) ?_
  unfold hasLink
  by_cases h : idxB kk p.length = true
  · have hl := fit_links hp h
    obtain ⟨h0, h1⟩ := (idxB_iff _ _).1 h
    rw [h, Bool.true_and]
    refine Ev.congr (fun k => by rw [if_pos rfl, if_pos h0, if_pos h1]) ?_
    generalize (rd_T103 p kk).f1 = l at hl
    have h := find_list (g := fun k i => spec_HasLink.l0 k a b l i) (q := linkQ a b) (r := true) (e := false) l z123
      (Ev.one fun k => by simp only [spec_HasLink.l0]; rw [if_neg (by omega)])
      (fun i k hi => by
        simp only [spec_HasLink.l0]
        rw [if_pos (by omega), if_pos (by omega), wrap_nat (by omega)]
        show (if ((l.getD i z123).f0 == a && (l.getD i z123).f1 == b) = true then _ else (if ((l.getD i z123).f0 == b && (l.getD i z123).f1 == a) = true then _ else _)) = _
        generalize l.getD i z123 = u
        unfold linkQ
        by_cases h1 : ((u.f0 == a) && (u.f1 == b)) = true
        · rw [if_pos h1, h1, Bool.true_or, if_pos rfl]
        · have h1' : ((u.f0 == a) && (u.f1 == b)) = false := by simpa using h1
          rw [if_neg h1, h1', Bool.false_or])
    rw [ite_bool] at h
    exact h
  · have : idxB kk p.length = false := by simpa using h
    rw [this, Bool.false_and]
    exact Ev.all fun k => by rw [if_neg (by simp)]

/-! spec_IsSpan -/
theorem spec_IsSpan.val (a b : Int) : spec_IsSpan.f a b = some (isSpan a b) := by
  unfold spec_IsSpan.f isSpan
  by_cases h : a ≥ 0
  · rw [if_pos h]
    by_cases h2 : b ≤ 1000
    · rw [if_pos h2]; simp [h, h2]
    · rw [if_neg h2]; simp; omega
  · rw [if_neg h]; simp; omega

/-! spec_InSpan -/
theorem spec_InSpan.val (a b t : Int) : spec_InSpan.f a b t = some (inSpan a b t) := by
  unfold spec_InSpan.f inSpan
  rw [spec_IsSpan.val, Option.bind_some]
  by_cases h : isSpan a b = true
  · rw [if_pos h]
    by_cases h2 : a ≤ t
    · rw [if_pos h2]; simp [h, h2]
    · rw [if_neg h2]; simp; omega
  · rw [if_neg h]; simp [h]

/-! spec_PieceAt -/
theorem spec_PieceAt.ev (a b c : Int) (p : List S103) (t : Int) (hl : p.length ≤ 1048576) : Ev (fun k => spec_PieceAt.f k a b c p t) (pieceAt p t) := by
  have : ∀ d i : Nat, i + d = p.length → Ev (fun k => spec_PieceAt.l0 k t i a b c p) (firstAt (fun x => inSpan x.f0.f0 x.f0.f1 t) (p.drop i) i) := by
    intro d
    induction d with
    | zero =>
      intro i hi
      rw [List.drop_eq_nil_of_le (by omega)]
      exact Ev.one fun k => by simp only [spec_PieceAt.l0]; rw [if_neg (by omega)]; rfl
    | succ d ih =>
      intro i hi
      rw [drop_cons p z103 (show i < p.length by omega), firstAt]
      have hk : ∀ k, spec_PieceAt.l0 (k + 1) t i a b c p = if inSpan (p.getD i z103).f0.f0 (p.getD i z103).f0.f1 t = true then some (i : Int) else spec_PieceAt.l0 k t ((i + 1 : Nat) : Int) a b c p := fun k => by
        simp only [spec_PieceAt.l0, spec_InSpan.val, Option.bind_some]
        rw [if_pos (by omega), if_pos (by omega), wrap_nat (by omega)]
        rfl
      by_cases h : inSpan (p.getD i z103).f0.f0 (p.getD i z103).f0.f1 t = true
      · rw [if_pos h]
        exact Ev.one fun k => by rw [hk, if_pos h]
      · rw [if_neg h]
        exact Ev.step (fun k => by rw [hk, if_neg h]) (ih (i + 1) (by omega))
  exact this p.length 0 (by omega)

/-! spec_IsLinked -/
theorem spec_IsLinked.ev (x y z : Int) (p : List S103) (a b t : Int) (hp : fitQi 1048576 p) : Ev (fun k => spec_IsLinked.f k x y z p a b t) (hasLink p (pieceAt p t) a b) :=
  Ev.bind (spec_PieceAt.ev x y z p t hp.1) (Ev.bind (spec_HasLink.ev x y z p _ a b hp) (Ev.now _))

/-! spec_ReachFrom -/
theorem spec_ReachFrom.ticks (x first z src b : Int) (p : List S103) (hp : fitQi 1048576 p) (hx : 1 ≤ x ∧ x ≤ 12) (hb : b ≤ 1000) : ∀ (d : Nat) (t : Int) (O : List Int), d = (b - t).toNat → 0 ≤ t → Old x.toNat t O → Ev (fun k => spec_ReachFrom.l1 k src b O t x first z p) (reachT p x.toNat first src d t O) := by
  intro d
  induction d with
  | zero =>
    intro t O hd ht hO
    exact Ev.one fun k => by simp only [spec_ReachFrom.l1]; rw [if_neg (by omega)]; rfl
  | succ d ih =>
    intro t O hd ht hO
    have hlen := hO.1
    have hrec := ih (t + 1) _ (by omega) (by omega) (hO.tick ht p first src)
    refine Ev.step (fun k => by simp only [spec_ReachFrom.l1]; rw [if_pos (by omega), Option.bind_some, if_pos (by simp only [List.length_nil]; omega), List.nil_append]) ?_
    refine (foldE_to (g := fun k M i => spec_ReachFrom.l2 k src b O t M i x first z p) (f := fun a M => stepA p x.toNat first src t O a M) (fun _ M => InT x.toNat t O M) x.toNat 0 (fun a M _ ha hM => ⟨?_, fun R hR => ?_⟩) x.toNat 0 O (by omega) (by omega) (InT.start hO.1 hO.2)).2 _ (Ev.step (fun k => by simp only [spec_ReachFrom.l2]; rw [if_neg (by omega), wrap_id (x := t + 1) (by omega) (by omega)]; rfl) hrec)
    · exact InT.rows ht p first src 1 a M (by omega) hM
    · refine Ev.step (fun k => by simp only [spec_ReachFrom.l2]; rw [if_pos (by omega)]) ?_
      have hout : ∀ (M : List Int) (i : Nat), Ev (fun k => spec_ReachFrom.l2 k src b O t M ((a + 1 : Nat) : Int) x first z p) R → Ev (fun k => spec_ReachFrom.j5 k src b O t M a i false x first z p) R := fun M i h => Ev.step (fun k => by simp only [spec_ReachFrom.j5]; rw [if_neg (by simp), wrap_nat (by omega)]) h
      unfold stepA at hR
      have hg : ∀ (M : List Int) (i : Nat) (k : Nat), (i : Int) < x → spec_ReachFrom.l3 (k + 1) src b O t M a i x first z p = spec_ReachFrom.j5 k src b O t M a i (goesOn first src O a) x first z p := fun M i k hi => by
        simp only [spec_ReachFrom.l3]
        rw [if_pos hi, if_pos (by omega), if_pos (by omega)]
        unfold goesOn
        by_cases h1 : rd O ((a : Nat) : Int) ≥ 0
        · rw [if_pos h1, decide_eq_true h1, Bool.true_and]
          by_cases h2 : ((a : Nat) : Int) < first
          · rw [if_pos h2, decide_eq_true h2, Bool.true_or]
          · rw [if_neg h2, decide_eq_false h2, Bool.false_or]
        · rw [if_neg h1, decide_eq_false h1, Bool.false_and]
      by_cases hq : goesOn first src O a = true
      · rw [if_pos hq] at hR
        refine (foldE_to (g := fun k M i => spec_ReachFrom.l3 k src b O t M a i x first z p) (f := fun j M => stepB p t ((a : Nat) : Int) j M) (fun _ M => M.length = x.toNat) x.toNat 0 (fun j M _ hj hM2 => ⟨by rw [stepB_len]; exact hM2, fun R hR => ?_⟩) x.toNat 0 M (by omega) (by omega) hM.1).2 R (Ev.step (fun k => by simp only [spec_ReachFrom.l3]; rw [if_neg (by omega)]; rfl) (hout _ _ hR))
        refine Ev.step (fun k => by rw [hg M j k (by omega), hq]) ?_
        refine Ev.step (fun k => by simp only [spec_ReachFrom.j5]; rw [if_pos trivial, if_pos (by omega), if_pos (by omega), wrap_nat (by omega), wrap_id (x := t + 1) (by omega) (by omega)]) ?_
        unfold stepB at hR
        by_cases h1 : rd M ((j : Nat) : Int) < 0
        · rw [if_pos h1] at hR
          refine Ev.congr (fun k => by rw [if_pos h1]) (Ev.bind (spec_IsLinked.ev x first z p _ _ t hp) ?_)
          by_cases h2 : hasLink p (pieceAt p t) ((a : Nat) : Int) ((j : Nat) : Int) = true
          · rw [if_pos h2] at hR
            exact Ev.congr (fun k => by rw [if_pos h2]; rfl) hR
          · rw [if_neg h2] at hR
            exact Ev.congr (fun k => by rw [if_neg h2]) hR
        · rw [if_neg h1] at hR
          exact Ev.congr (fun k => by rw [if_neg h1]) hR
      · rw [if_neg hq] at hR
        have hq' : goesOn first src O a = false := by simpa using hq
        exact Ev.step (fun k => by have := hg M 0 k (by omega); rw [hq'] at this; exact this) (hout M 0 hR)
theorem spec_ReachFrom.ev (x first z : Int) (p : List S103) (src a b : Int) (hp : fitQi 1048576 p) : Ev (fun k => spec_ReachFrom.f k x first z p src a b) (reachFrom p x first src a b) := by
  unfold reachFrom
  have hj : ∀ q, q = true → Ev (fun k => spec_ReachFrom.j0 k src a b [] q x first z p) [] := fun q h => Ev.one fun k => by simp only [spec_ReachFrom.j0]; rw [if_pos h]
  refine Ev.congr (fun k => by unfold spec_ReachFrom.f; rw [Option.bind_some, spec_l1In.val, Option.bind_some]) ?_
  by_cases hx : inR x 1 12 = true
  · have hb : 1 ≤ x ∧ x ≤ 12 := by simpa [inR] using hx
    have hidx : inR src 0 (wrap64 (x - 1)) = idxB src x.toNat := by
      have := inR_idx src x.toNat (by omega)
      rw [show ((x.toNat : Nat) : Int) = x by omega] at this
      exact this
    refine Ev.congr (fun k => by rw [if_pos hx, spec_l1In.val, Option.bind_some, hidx]) ?_
    by_cases hs : idxB src x.toNat = true
    · refine Ev.congr (fun k => by rw [if_pos hs]) ?_
      by_cases ha : a < 0
      · rw [if_neg (fun h => h.2.2.1 ha)]
        exact Ev.congr (fun k => by rw [if_pos ha]) (hj _ rfl)
      · refine Ev.congr (fun k => by rw [if_neg ha]) ?_
        by_cases h1000 : b > 1000
        · rw [if_neg (fun h => h.2.2.2 h1000)]
          exact hj _ (decide_eq_true h1000)
        · rw [if_pos ⟨hx, hs, ha, h1000⟩]
          obtain ⟨h0, h1⟩ := (idxB_iff _ _).1 hs
          refine Ev.step (fun k => by simp only [spec_ReachFrom.j0]; rw [if_neg (by simpa using h1000)]) ?_
          refine fill_ev (g := fun k o i => spec_ReachFrom.l0 k src a b o i x first z p) x.toNat (fun i o hi ho r hr => Ev.step (fun k => by simp only [spec_ReachFrom.l0]; rw [if_pos (by omega), if_pos (by omega), wrap_nat (by omega)]) hr) ?_
          refine Ev.step (fun k => by simp only [spec_ReachFrom.l0]; rw [if_neg (by omega), if_pos h0, if_pos (by rw [List.length_replicate]; omega)]) ?_
          exact spec_ReachFrom.ticks x first z src b p hp hb (by omega) _ a _ rfl (by omega) (Old.init hs (by omega))
    · rw [if_neg (fun h => hs h.2.1)]
      exact Ev.congr (fun k => by rw [if_neg hs]) (hj _ rfl)
  · rw [if_neg (fun h => hx h.1)]
    exact Ev.congr (fun k => by rw [if_neg hx]) (hj _ rfl)

/-! slices_Index_int_int -/
theorem slices_Index_int_int.ev_l (l : List Int) (a : Int) (hl : l.length ≤ 1048576) : ∀ (d i : Nat), i + d = l.length → ∃ r, Ev (fun k => slices_Index_int_int.l0 k l a l.length i) r ∧ decide (r ≥ 0) = (l.drop i).any (fun x => x == a) := by
  intro d
  induction d with
  | zero =>
    intro i hi
    exact ⟨-1, Ev.one fun k => by simp only [slices_Index_int_int.l0]; rw [if_neg (by omega)], by rw [List.drop_eq_nil_of_le (by omega)]; rfl⟩
  | succ d ih =>
    intro i hi
    rw [drop_cons l 0 (show i < l.length by omega), List.any_cons]
    by_cases h : a = l.getD i 0
    · refine ⟨(i : Int), Ev.one fun k => ?_, ?_⟩
      · simp only [slices_Index_int_int.l0]
        rw [if_pos (by omega), if_pos (by omega), if_pos (by omega), rd_nat, if_pos h]
      · rw [← h]; simp
    · obtain ⟨r, hr, hd⟩ := ih (i + 1) (by omega)
      refine ⟨r, Ev.step (fun k => ?_) hr, ?_⟩
      · simp only [slices_Index_int_int.l0]
        rw [if_pos (by omega), if_pos (by omega), if_pos (by omega), rd_nat, if_neg h, wrap_nat (by omega)]
      · have : (l.getD i 0 == a) = false := by rw [beq_eq_false_iff_ne]; exact fun e => h e.symm
        rw [this, Bool.false_or, hd]
theorem slices_Index_int_int.ev (l : List Int) (a : Int) (hl : l.length ≤ 1048576) : ∃ r, Ev (fun k => slices_Index_int_int.f k l a) r ∧ decide (r ≥ 0) = hasB l a := by
  have := slices_Index_int_int.ev_l l a hl l.length 0 (by omega)
  rw [List.drop_zero] at this
  exact this

/-! slices_Contains_int_int -/
theorem slices_Contains_int_int.ev (l : List Int) (a : Int) (hl : l.length ≤ 1048576) : Ev (fun k => slices_Contains_int_int.f k l a) (hasB l a) := by
  obtain ⟨r, hr, e⟩ := slices_Index_int_int.ev l a hl
  rw [← e]
  exact Ev.bind hr (Ev.now _)

/-! d_whole -/
def wholeQ (p : List S103) (x first a b : Int) (s : Nat) : Bool := !((reaching (reachFrom p x first ((s : Nat) : Int) a b)) == x)
def whole (p : List S103) (x first a b : Int) : Bool := if inR x 1 12 = true then (if (List.range' 0 x.toNat).any (wholeQ p x first a b) = true then false else true) else false
theorem filter_all {p : Nat → Bool} : ∀ (l : List Nat), (l.filter p).length = l.length ↔ ∀ x ∈ l, p x = true
  | [] => by simp
  | x :: l => by
    have ih := filter_all (p := p) l
    have hle := List.length_filter_le p l
    rw [List.filter_cons]
    by_cases h : p x = true
    · rw [if_pos h, List.length_cons, List.length_cons]
      constructor
      · intro e y hy
        cases hy with
        | head => exact h
        | tail _ hy => exact ih.1 (by omega) y hy
      · intro e
        rw [ih.2 fun y hy => e y (List.mem_cons_of_mem _ hy)]
    · rw [if_neg h, List.length_cons]
      constructor
      · intro e; omega
      · intro e; exact absurd (e x List.mem_cons_self) h
theorem whole_has (p : List S103) (x first a b : Int) (s : Nat) (hx : inR x 1 12 = true) (hs : s < x.toNat) : wholeQ p x first a b s = (decide (((reachFrom p x first ((s : Nat) : Int) a b).length : Int) = 0) || hasB (reachFrom p x first ((s : Nat) : Int) a b) (-1)) := by
  have hb : 1 ≤ x ∧ x ≤ 12 := by simpa [inR] using hx
  unfold wholeQ
  by_cases hc : inR x 1 12 = true ∧ idxB ((s : Nat) : Int) x.toNat = true ∧ ¬ a < 0 ∧ ¬ b > 1000
  · have hO : Old x.toNat (a + ((b - a).toNat : Nat)) (reachFrom p x first ((s : Nat) : Int) a b) := by
      unfold reachFrom
      rw [if_pos hc]
      exact Old.reach p first _ (b - a).toNat a _ (by omega) (Old.init hc.2.1 (by omega))
    generalize reachFrom p x first ((s : Nat) : Int) a b = l at hO
    obtain ⟨hl, hv⟩ := hO
    rw [decide_eq_false (show ¬ ((l.length : Nat) : Int) = 0 by omega), Bool.false_or]
    have hcount : (reaching l == x) = true ↔ ∀ i ∈ List.range' 0 l.length, decide (rd l ((i : Nat) : Int) ≥ 0) = true := by
      rw [beq_iff_eq]
      unfold reaching countP
      rw [← filter_all, List.length_range']
      omega
    by_cases hm : hasB l (-1) = true
    · rw [hm]
      have hmem := (hasB_iff l (-1)).1 hm
      obtain ⟨i, hi, e⟩ := mem_getD l 0 (-1) hmem
      have : (reaching l == x) = false := by
        rw [Bool.eq_false_iff]
        intro h
        have := hcount.1 h i (by rw [List.mem_range'_1]; omega)
        rw [rd_nat, e] at this
        exact absurd this (by decide)
      rw [this]; rfl
    · have hm' : hasB l (-1) = false := by simpa using hm
      rw [hm']
      have : (reaching l == x) = true := hcount.2 fun i hi => by
        rw [List.mem_range'_1] at hi
        have h2 := (hv i (by omega)).2
        refine decide_eq_true ?_
        by_cases h0 : rd l ((i : Nat) : Int) < 0
        · exact absurd ((hasB_iff l (-1)).2 (by rw [← h2 h0, rd_nat]; exact getD_mem l 0 (by omega))) hm
        · omega
      rw [this]; rfl
  · have : reachFrom p x first ((s : Nat) : Int) a b = [] := by unfold reachFrom; rw [if_neg hc]
    rw [this]
    have h0 : (reaching [] == x) = false := by rw [beq_eq_false_iff_ne]; unfold reaching countP; simp; omega
    rw [h0]; rfl

/-! impl_IsWhole -/
theorem impl_IsWhole.ev (x first z : Int) (p : List S103) (a b : Int) : Ev (fun k => impl_IsWhole.f k x first z p a b) (whole p x first a b) := by
  refine Ev.congr (fun k => by unfold impl_IsWhole.f; rw [impl_isNumber.val, Option.bind_some]) ?_
  unfold whole
  by_cases hx : inR x 1 12 = true
  · have hb : 1 ≤ x ∧ x ≤ 12 := by simpa [inR] using hx
    rw [if_pos hx]
    refine Ev.congr (fun k => by rw [if_pos hx]) (findE (g := fun k i => impl_IsWhole.l0 k a b x i x first z p) x.toNat (Ev.one fun k => by simp only [impl_IsWhole.l0]; rw [if_neg (by omega)]) (fun i hi => ?_))
    have hl := reach_len p x first ((i : Nat) : Int) a b
    rw [whole_has p x first a b i hx hi]
    have hs : ∀ R, Ev (fun k => if ((reachFrom p x first ((i : Nat) : Int) a b).length : Int) = 0 then some false else (slices_Contains_int_int.f k (reachFrom p x first ((i : Nat) : Int) a b) (-1)).bind fun t => if t = true then some false else impl_IsWhole.l0 k a b x ((i + 1 : Nat) : Int) x first z p) R → Ev (fun k => impl_IsWhole.l0 k a b x i x first z p) R := fun R h =>
      Ev.step (fun k => by simp only [impl_IsWhole.l0]; rw [if_pos (by omega), wrap_nat (by omega)]) (Ev.bind (impl_ReachFrom.ev x first z p _ a b) h)
    generalize reachFrom p x first ((i : Nat) : Int) a b = l at hl hs ⊢
    by_cases h0 : ((l.length : Nat) : Int) = 0
    · rw [if_pos (by simp [h0])]
      exact hs _ (Ev.all fun k => by rw [if_pos h0])
    · rw [decide_eq_false h0, Bool.false_or]
      by_cases h1 : hasB l (-1) = true
      · rw [if_pos h1]
        exact hs _ (Ev.congr (fun k => by rw [if_neg h0]) (Ev.bind (slices_Contains_int_int.ev l (-1) (by omega)) (Ev.all fun k => by rw [if_pos h1])))
      · rw [if_neg h1]
        exact fun R hR => hs R (Ev.congr (fun k => by rw [if_neg h0]) (Ev.bind (slices_Contains_int_int.ev l (-1) (by omega)) (Ev.congr (fun k => by rw [if_neg h1]) hR)))
  · rw [if_neg hx]
    exact Ev.all fun k => by rw [if_neg hx]

/-! d_cur -/
def Cur (p : Int) : Prop := 0 ≤ p ∧ p ≤ 1048576
theorem tmod_in {v n : Int} (hv : 0 ≤ v) (hn : 0 < n) : 0 ≤ Int.tmod v n ∧ Int.tmod v n < n := ⟨Int.tmod_nonneg n hv, Int.tmod_lt_of_pos v hn⟩

/-! spec_l1New -/
theorem spec_l1New.ev_l (l : List Int) (hl : l.length ≤ 1048576) : ∀ (d i : Nat), i + d = l.length → ∀ q, ∃ q', Ev (fun k => spec_l1New.l0 k l q i) (l, 0, q') := by
  intro d
  induction d with
  | zero =>
    intro i hi q
    exact ⟨q, Ev.one fun k => by simp only [spec_l1New.l0]; rw [if_neg (by omega)]⟩
  | succ d ih =>
    intro i hi q
    by_cases h : (i : Int) < 4000
    · obtain ⟨q', h'⟩ := ih (i + 1) (by omega) _
      exact ⟨q', Ev.step (fun k => by simp only [spec_l1New.l0]; rw [if_pos (by omega), if_pos h, if_pos (by omega), wrap_nat (by omega)]) h'⟩
    · exact ⟨q, Ev.one fun k => by simp only [spec_l1New.l0]; rw [if_pos (by omega), if_neg h]⟩
theorem spec_l1New.ev (l : List Int) (hl : l.length ≤ 1048576) : ∃ q', Ev (fun k => spec_l1New.f k l) (l, 0, q') :=
  spec_l1New.ev_l l hl l.length 0 (by omega) _

/-! spec_l1Byte -/
theorem spec_l1Byte.ok (l : List Int) (hl : l.length ≤ 1048576) (p q : Int) (hp : Cur p) : ∃ v p' q', spec_l1Byte.f l p q = some (v, p', q') ∧ 0 ≤ v ∧ v ≤ 255 ∧ Cur p' := by
  obtain ⟨h0, h1⟩ := hp
  unfold spec_l1Byte.f
  by_cases h : p < (l.length : Int)
  · rw [if_pos h, if_pos h0]
    refine ⟨_, _, _, rfl, (and255 _).1, (and255 _).2, ?_⟩
    rw [wrap_id (by omega) (by omega)]
    exact ⟨by omega, by omega⟩
  · rw [if_neg h]
    exact ⟨_, _, _, rfl, (and255 _).1, (and255 _).2, h0, h1⟩

/-! spec_l1Below -/
theorem spec_l1Below.ok (l : List Int) (hl : l.length ≤ 1048576) (p q n : Int) (hp : Cur p) : ∃ v p' q', spec_l1Below.f l p q n = some (v, p', q') ∧ 0 ≤ v ∧ (0 < n → v < n) ∧ Cur p' := by
  unfold spec_l1Below.f
  by_cases h : n ≤ 0
  · rw [if_pos h]
    exact ⟨_, _, _, rfl, by omega, by omega, hp⟩
  · rw [if_neg h]
    obtain ⟨v, p1, q1, e, h0, h1, hp1⟩ := spec_l1Byte.ok l hl p q hp
    by_cases h2 : n ≤ 256
    · rw [if_pos h2, e, Option.bind_some, if_neg (by omega)]
      have := tmod_in h0 (show 0 < n by omega)
      exact ⟨_, _, _, rfl, this.1, fun _ => this.2, hp1⟩
    · obtain ⟨v2, p2, q2, e2, h02, h12, hp2⟩ := spec_l1Byte.ok l hl p1 q1 hp1
      obtain ⟨v3, p3, q3, e3, h03, h13, hp3⟩ := spec_l1Byte.ok l hl p2 q2 hp2
      rw [if_neg h2, e, Option.bind_some, e2, Option.bind_some, e3, Option.bind_some, if_neg (by omega)]
      have hw : 0 ≤ wrap64 (wrap64 (wrap64 (v * 65536) + wrap64 (v2 * 256)) + v3) := by unfold wrap64; omega
      have := tmod_in hw (show 0 < n by omega)
      exact ⟨_, _, _, rfl, this.1, fun _ => this.2, hp3⟩

/-! spec_l17Frame -/
theorem spec_l17Frame.ok (a b c : Int) : ∃ r, spec_l17Frame.f a b c = some r := by
  unfold spec_l17Frame.f
  simp only [spec_l1In.val, Option.bind_some]
  split
  · split
    · exact ⟨_, rfl⟩
    · exact ⟨_, rfl⟩
  · exact ⟨_, rfl⟩

/-! spec_IsContact -/
theorem spec_IsContact.ok (a b c d n : Int) : ∃ r, spec_IsContact.f a b c d n = some r := by
  unfold spec_IsContact.f
  simp only [spec_IsSpan.val, Option.bind_some]
  split
  · split
    · split
      · exact ⟨_, rfl⟩
      · exact ⟨_, rfl⟩
    · exact ⟨_, rfl⟩
  · exact ⟨_, rfl⟩

/-! spec_l11Before -/
theorem spec_l11Before.ok (a b c d e f g h : Int) : ∃ r, spec_l11Before.f a b c d e f g h = some r := by
  unfold spec_l11Before.f
  split
  · split
    · exact ⟨_, rfl⟩
    · exact ⟨_, rfl⟩
  · exact ⟨_, rfl⟩

/-! spec_IsPlan -/
theorem spec_IsPlan.ok (p : List S144) (hp : p.length ≤ 1048576) (n : Int) : ∃ r, Ev (fun k => spec_IsPlan.f k p n) r := by
  have : ∀ e j : Nat, j + e = p.length → ∃ r, Ev (fun k => spec_IsPlan.l0 k p n (j : Int)) r := by
    intro e
    induction e with
    | zero =>
      intro j hj
      exact ⟨true, Ev.one fun k => by simp only [spec_IsPlan.l0]; rw [if_neg (by omega)]⟩
    | succ e ih =>
      intro j hj
      obtain ⟨r, hr⟩ := ih (j + 1) (by omega)
      obtain ⟨b, hb⟩ := spec_IsContact.ok ((rd_T144 p (j : Int)).f0) ((rd_T144 p (j : Int)).f1) ((rd_T144 p (j : Int)).f2) ((rd_T144 p (j : Int)).f3) n
      cases b with
      | false => exact ⟨false, Ev.one fun k => by simp only [spec_IsPlan.l0]; rw [if_pos (by omega), if_pos (by omega), hb, Option.bind_some, if_neg (by simp)]⟩
      | true =>
        by_cases c : (j : Int) > 0
        · obtain ⟨b2, hb2⟩ := spec_l11Before.ok ((rd_T144 p ((j - 1 : Nat) : Int)).f0) ((rd_T144 p ((j - 1 : Nat) : Int)).f1) ((rd_T144 p ((j - 1 : Nat) : Int)).f2) ((rd_T144 p ((j - 1 : Nat) : Int)).f3) ((rd_T144 p (j : Int)).f0) ((rd_T144 p (j : Int)).f1) ((rd_T144 p (j : Int)).f2) ((rd_T144 p (j : Int)).f3)
          cases b2 with
          | false => exact ⟨false, Ev.one fun k => by simp only [spec_IsPlan.l0]; rw [if_pos (by omega), if_pos (by omega), hb, Option.bind_some, if_pos rfl, if_pos c, wrap_pred (by omega) (by omega), if_pos (by omega), if_pos (by omega), hb2, Option.bind_some, if_neg (by simp)]⟩
          | true => exact ⟨r, Ev.step (fun k => by simp only [spec_IsPlan.l0]; rw [if_pos (by omega), if_pos (by omega), hb, Option.bind_some, if_pos rfl, if_pos c, wrap_pred (by omega) (by omega), if_pos (by omega), if_pos (by omega), hb2, Option.bind_some, if_pos rfl, wrap_nat (by omega)]) hr⟩
        · exact ⟨r, Ev.step (fun k => by simp only [spec_IsPlan.l0]; rw [if_pos (by omega), if_pos (by omega), hb, Option.bind_some, if_pos rfl, if_neg c, wrap_nat (by omega)]) hr⟩
  exact this p.length 0 (by omega)

/-! spec_Max -/
theorem spec_Max.val (a b : Int) : spec_Max.f a b = some (mx a b) := by
  unfold spec_Max.f mx
  by_cases h : b > a
  · rw [if_pos h, if_pos (by omega)]
  · rw [if_neg h, if_neg (by omega)]

/-! spec_LinksAt -/
theorem spec_LinksAt.ok (p : List S144) (hp : p.length ≤ 1048576) (t : Int) : ∃ r, Ev (fun k => spec_LinksAt.f k p t) r ∧ r.length ≤ p.length := by
  have inner : ∀ (o : List S123) (j : Nat) (a b : Int), j < p.length → o.length ≤ j →
      (∀ o' : List S123, o'.length ≤ j + 1 → ∃ r, Ev (fun k => spec_LinksAt.l0 k p t o' (wrap64 ((j : Int) + 1))) r ∧ r.length ≤ p.length) →
      ∀ (e i : Nat) (f : Bool), i + e = o.length → ∃ r, Ev (fun k => spec_LinksAt.l1 k p t o (j : Int) f (i : Int) a b) r ∧ r.length ≤ p.length := by
    intro o j a b hj ho hnext e
    induction e with
    | zero =>
      intro i f hi
      cases f with
      | true =>
        obtain ⟨r, hr, hl⟩ := hnext o (by omega)
        exact ⟨r, Ev.step (fun k => by simp only [spec_LinksAt.l1]; rw [if_neg (by omega), if_pos trivial]) hr, hl⟩
      | false =>
        by_cases c : inSpan ((rd_T144 p (j : Int)).f2) ((rd_T144 p (j : Int)).f3) t = true
        · obtain ⟨r, hr, hl⟩ := hnext (o ++ [⟨a, b⟩]) (by rw [List.length_append, List.length_singleton]; omega)
          exact ⟨r, Ev.step (fun k => by simp only [spec_LinksAt.l1]; rw [if_neg (by omega), if_neg (by simp), if_pos (by omega), if_pos (by omega), spec_InSpan.val, Option.bind_some, if_pos c, if_pos (by omega)]) hr, hl⟩
        · obtain ⟨r, hr, hl⟩ := hnext o (by omega)
          exact ⟨r, Ev.step (fun k => by simp only [spec_LinksAt.l1]; rw [if_neg (by omega), if_neg (by simp), if_pos (by omega), if_pos (by omega), spec_InSpan.val, Option.bind_some, if_neg c]) hr, hl⟩
    | succ e ih =>
      intro i f hi
      cases f with
      | true =>
        obtain ⟨r, hr, hl⟩ := ih (i + 1) true (by omega)
        exact ⟨r, Ev.step (fun k => by simp only [spec_LinksAt.l1]; rw [if_pos (by omega), if_pos trivial, wrap_nat (by omega)]) hr, hl⟩
      | false =>
        obtain ⟨r, hr, hl⟩ := ih (i + 1) (((rd_T123 o (i : Int)).f0) == a && (((rd_T123 o (i : Int)).f1) == b)) (by omega)
        exact ⟨r, Ev.step (fun k => by simp only [spec_LinksAt.l1]; rw [if_pos (by omega), if_neg (by simp), if_pos (by omega), wrap_nat (by omega)]) hr, hl⟩
  have : ∀ e j : Nat, j + e = p.length → ∀ o : List S123, o.length ≤ j → ∃ r, Ev (fun k => spec_LinksAt.l0 k p t o (j : Int)) r ∧ r.length ≤ p.length := by
    intro e
    induction e with
    | zero =>
      intro j hj o ho
      exact ⟨o, Ev.one fun k => by simp only [spec_LinksAt.l0]; rw [if_neg (by omega)], by omega⟩
    | succ e ih =>
      intro j hj o ho
      obtain ⟨r, hr, hl⟩ := inner o j ((rd_T144 p (j : Int)).f0) ((rd_T144 p (j : Int)).f1) (by omega) ho (fun o' ho' => by rw [wrap_nat (by omega)]; exact ih (j + 1) (by omega) o' ho') o.length 0 false (by omega)
      exact ⟨r, Ev.step (fun k => by simp only [spec_LinksAt.l0]; rw [if_pos (by omega), if_pos (by omega)]; rfl) hr, hl⟩
  exact this p.length 0 (by omega) [] (by simp)

/-! spec_Min -/
theorem spec_Min.val (a b : Int) : spec_Min.f a b = some (mn a b) := by
  unfold spec_Min.f mn
  split <;> rfl

/-! spec_SameLinks -/
theorem spec_SameLinks.ok (a b : List S123) (ha : a.length ≤ 1048576) : ∃ r, Ev (fun k => spec_SameLinks.f k a b) r := by
  by_cases c : (a.length : Int) = (b.length : Int)
  · have h := find_index (g := fun k i => spec_SameLinks.l0 k a b i) (q := fun i => (!(((rd_T123 a (i : Int)).f0) == ((rd_T123 b (i : Int)).f0)) || (!(((rd_T123 a (i : Int)).f1) == ((rd_T123 b (i : Int)).f1))))) (r := false) (e := true) a.length
      (Ev.one fun k => by simp only [spec_SameLinks.l0]; rw [if_neg (by omega)])
      (fun i k hi => by simp only [spec_SameLinks.l0]; rw [if_pos (by omega), if_pos (by omega), if_pos (by omega), wrap_nat (by omega)])
    exact ⟨_, Ev.congr (fun k => by unfold spec_SameLinks.f; rw [if_pos c]) h⟩
  · exact ⟨false, Ev.all fun k => by unfold spec_SameLinks.f; rw [if_neg c]⟩

/-! spec_ChangesOf -/
theorem spec_ChangesOf.ok (p : List S144) (hp : p.length ≤ 1048576) (T : Nat) (hT1 : 1 ≤ T) (hT2 : T ≤ 1000) : ∃ r, Ev (fun k => spec_ChangesOf.f k p 0 (T : Int)) r ∧ r.length ≤ T ∧ (∀ x ∈ r, 1 ≤ x ∧ x < (T : Int)) ∧ r.Pairwise (fun a b => a < b) := by
  have : ∀ e j : Nat, j + e = T → 1 ≤ j → ∀ o : List Int, o.length ≤ j → (∀ x ∈ o, 1 ≤ x ∧ x < (j : Int)) → o.Pairwise (fun a b => a < b) → ∃ r, Ev (fun k => spec_ChangesOf.l0 k p o (T : Int) (j : Int)) r ∧ r.length ≤ T ∧ (∀ x ∈ r, 1 ≤ x ∧ x < (T : Int)) ∧ r.Pairwise (fun a b => a < b) := by
    intro e
    induction e with
    | zero =>
      intro j hj _ o ho ho1 ho2
      exact ⟨o, Ev.one fun k => by simp only [spec_ChangesOf.l0]; rw [if_neg (by omega)], by omega, fun x hx => by have := ho1 x hx; omega, ho2⟩
    | succ e ih =>
      intro j hj h1 o ho ho1 ho2
      obtain ⟨a, ha, hal⟩ := spec_LinksAt.ok p hp ((j - 1 : Nat) : Int)
      obtain ⟨b, hb, hbl⟩ := spec_LinksAt.ok p hp (j : Int)
      obtain ⟨s, hs⟩ := spec_SameLinks.ok a b (by omega)
      have hst : ∀ R, Ev (fun k => if s = true then spec_ChangesOf.l0 k p o (T : Int) (wrap64 ((j : Int) + 1)) else if o.length < 17592186044416 then spec_ChangesOf.l0 k p (o ++ [(j : Int)]) (T : Int) (wrap64 ((j : Int) + 1)) else none) R → Ev (fun k => spec_ChangesOf.l0 k p o (T : Int) (j : Int)) R := fun R h =>
        Ev.step (fun k => by simp only [spec_ChangesOf.l0]; rw [if_pos (by omega), wrap_pred (by omega) (by omega)]) (Ev.bind ha (Ev.bind hb (Ev.bind hs h)))
      cases s with
      | true =>
        obtain ⟨r, hr, hl⟩ := ih (j + 1) (by omega) (by omega) o (by omega) (fun x hx => by have := ho1 x hx; omega) ho2
        exact ⟨r, hst _ (Ev.congr (fun k => by rw [if_pos rfl, wrap_nat (by omega)]) hr), hl⟩
      | false =>
        obtain ⟨r, hr, hl⟩ := ih (j + 1) (by omega) (by omega) (o ++ [(j : Int)]) (by rw [List.length_append, List.length_singleton]; omega) (fun x hx => by
          rcases List.mem_append.1 hx with hx | hx
          · have := ho1 x hx; omega
          · rw [List.mem_singleton] at hx; omega) (List.pairwise_append.2 ⟨ho2, List.pairwise_singleton _ _, fun x hx y hy => by rw [List.mem_singleton] at hy; have := ho1 x hx; omega⟩)
        exact ⟨r, hst _ (Ev.congr (fun k => by rw [if_neg (by simp), if_pos (by omega), wrap_nat (by omega)]) hr), hl⟩
  obtain ⟨r, hr, hl⟩ := this (T - 1) 1 (by omega) (by omega) [] (by simp) (fun x hx => by cases hx) List.Pairwise.nil
  exact ⟨r, Ev.congr (fun k => by unfold spec_ChangesOf.f; rw [spec_Max.val, Option.bind_some, spec_Min.val, Option.bind_some, spec_Min.val, Option.bind_some, show mn 1000 (T : Int) = (T : Int) by unfold mn; split <;> omega, show wrap64 (mn 1000 (mx 0 0) + 1) = ((1 : Nat) : Int) by rw [show mn 1000 (mx 0 0) = 0 by decide]; unfold wrap64; omega]) hr, hl⟩

/-! spec_PiecesOf -/
theorem take_snocS {α : Type} (l : List α) (z : α) {i : Nat} (h : i < l.length) : l.take (i + 1) = l.take i ++ [l.getD i z] := by
  rw [List.take_add_one, List.getD_eq_getElem?_getD, List.getElem?_eq_getElem h]; rfl
def okS (l : List S99) : Prop := (∀ x ∈ l, isSpan x.f0 x.f1 = true) ∧ l.Pairwise fun a b => a.f1 ≤ b.f0
theorem spec_PiecesOf.ok (p : List S144) (hp : p.length ≤ 1048576) (T : Nat) (hT1 : 1 ≤ T) (hT2 : T ≤ 1000) : ∃ r, Ev (fun k => spec_PiecesOf.f k p 0 (T : Int)) r ∧ r.length ≤ T + 1 ∧ okS r := by
  obtain ⟨c, hc, hcl, hc1, hc2⟩ := spec_ChangesOf.ok p hp T hT1 hT2
  have hL : (c ++ [(T : Int)]).length ≤ T + 1 := by rw [List.length_append, List.length_singleton]; omega
  have hd1 : ∀ x ∈ c ++ [(T : Int)], 1 ≤ x ∧ x ≤ (T : Int) := fun x hx => by
    rcases List.mem_append.1 hx with hx | hx
    · have := hc1 x hx; omega
    · rw [List.mem_singleton] at hx; omega
  have hd2 : (c ++ [(T : Int)]).Pairwise fun a b => a < b := List.pairwise_append.2 ⟨hc2, List.pairwise_singleton _ _, fun x hx y hy => by rw [List.mem_singleton] at hy; have := hc1 x hx; omega⟩
  generalize hD : c ++ [(T : Int)] = D at hL hd1 hd2
  have hget : ∀ j : Nat, j < D.length → rd D ((j : Nat) : Int) ∈ D := fun j hj => by rw [rd_nat]; exact getD_mem D 0 hj
  have hmono : ∀ i j : Nat, i < j → j < D.length → rd D ((i : Nat) : Int) < rd D ((j : Nat) : Int) := fun i j hij hj => by
    have h := List.pairwise_iff_getElem.1 hd2 i j (by omega) hj hij
    rw [rd_nat, rd_nat, List.getD_eq_getElem?_getD, List.getD_eq_getElem?_getD, List.getElem?_eq_getElem (show i < D.length by omega), List.getElem?_eq_getElem hj]
    exact h
  have : ∀ e j : Nat, j + e = D.length → ∀ (o : List S99) (x : Int), o.length ≤ j → 0 ≤ x → (∀ i : Nat, j ≤ i → i < D.length → x < rd D ((i : Nat) : Int)) → okS o → (∀ y ∈ o, y.f1 ≤ x) → ∃ r, Ev (fun k => spec_PiecesOf.l0 k o x D (j : Int)) r ∧ r.length ≤ D.length ∧ okS r := by
    intro e
    induction e with
    | zero =>
      intro j hj o x ho _ _ hS _
      exact ⟨o, Ev.one fun k => by simp only [spec_PiecesOf.l0]; rw [if_neg (by omega)], by omega, hS⟩
    | succ e ih =>
      intro j hj o x ho hx0 hx hS hlast
      have h1 := hx j (by omega) (by omega)
      have h2 := hd1 _ (hget j (by omega))
      obtain ⟨r, hr, hl, hS2⟩ := ih (j + 1) (by omega) (o ++ [⟨x, rd D (j : Int)⟩]) (rd D (j : Int)) (by rw [List.length_append, List.length_singleton]; omega) (by omega) (fun i hi hi2 => hmono j i (by omega) hi2)
        ⟨fun y hy => by
          rcases List.mem_append.1 hy with hy | hy
          · exact hS.1 y hy
          · rw [List.mem_singleton] at hy
            subst hy
            unfold isSpan
            simp only [Bool.and_eq_true, decide_eq_true_eq]
            omega, List.pairwise_append.2 ⟨hS.2, List.pairwise_singleton _ _, fun y hy z hz => by
          rw [List.mem_singleton] at hz
          subst hz
          exact hlast y hy⟩⟩
        (fun y hy => by
          rcases List.mem_append.1 hy with hy | hy
          · have := hlast y hy; omega
          · rw [List.mem_singleton] at hy
            subst hy
            exact Int.le_refl _)
      exact ⟨r, Ev.step (fun k => by simp only [spec_PiecesOf.l0]; rw [if_pos (by omega), if_pos (by omega), if_pos (by omega), wrap_nat (by omega)]) hr, hl, hS2⟩
  obtain ⟨r, hr, hl, hS⟩ := this D.length 0 (by omega) [] 0 (by simp) (by omega) (fun i _ hi => by have := hd1 _ (hget i hi); omega) ⟨(fun x hx => by cases hx), List.Pairwise.nil⟩ (fun x hx => by cases hx)
  refine ⟨r, Ev.congr (fun k => by unfold spec_PiecesOf.f; rw [Option.bind_some, spec_IsSpan.val, Option.bind_some, if_pos (by unfold isSpan; simp only [Bool.and_eq_true, decide_eq_true_eq]; omega)]) (Ev.bind hc (Ev.congr (fun k => by rw [if_pos (by omega), hD]; rfl) hr)), by omega, hS⟩

/-! spec_l14Ok -/
theorem spec_l14Ok.ok (n d : Int) : ∃ b, spec_l14Ok.f n d = some b ∧ (b = true → 1 ≤ n ∧ n ≤ 12 ∧ 0 ≤ d ∧ d < n) := by
  unfold spec_l14Ok.f
  rw [spec_l1In.val, Option.bind_some]
  by_cases h : inR n 1 12 = true
  · rw [if_pos h, spec_l1In.val, Option.bind_some]
    refine ⟨_, rfl, fun hb => ?_⟩
    unfold inR at h hb
    simp only [Bool.and_eq_true, decide_eq_true_eq] at h hb
    have hw : wrap64 (n - 1) = n - 1 := by unfold wrap64; omega
    rw [hw] at hb
    omega
  · rw [if_neg h]
    exact ⟨false, rfl, fun hb => by cases hb⟩

/-! d_neigh -/
theorem strict_ext : ∀ (l1 l2 : List Int), l1.Pairwise (· < ·) → l2.Pairwise (· < ·) → (∀ x, x ∈ l1 ↔ x ∈ l2) → l1 = l2
  | [], [], _, _, _ => rfl
  | [], y :: l2, _, _, h => absurd ((h y).2 List.mem_cons_self) (by simp)
  | x :: l1, [], _, _, h => absurd ((h x).1 List.mem_cons_self) (by simp)
  | x :: l1, y :: l2, h1, h2, h => by
    rw [List.pairwise_cons] at h1 h2
    have hx : x = y := by
      rcases List.mem_cons.1 ((h x).1 List.mem_cons_self) with e | e
      · exact e
      · have a := h2.1 x e
        rcases List.mem_cons.1 ((h y).2 List.mem_cons_self) with e' | e'
        · omega
        · have b := h1.1 y e'
          omega
    subst hx
    rw [strict_ext l1 l2 h1.2 h2.2 fun z => ?_]
    constructor
    · intro hz
      have a := h1.1 z hz
      rcases List.mem_cons.1 ((h z).1 (List.mem_cons_of_mem _ hz)) with e | e
      · omega
      · exact e
    · intro hz
      have a := h2.1 z hz
      rcases List.mem_cons.1 ((h z).2 (List.mem_cons_of_mem _ hz)) with e | e
      · omega
      · exact e
def posU (n : Int) : List Int → Nat
  | [] => 0
  | x :: l => if x < n then posU n l + 1 else 0
def insU (n : Int) (out : List Int) : List Int := if posU n out = out.length ∨ ¬ out.getD (posU n out) 0 = n then out.take (posU n out) ++ [n] ++ out.drop (posU n out) else out
theorem insU_lt {x n : Int} (h : x < n) (l : List Int) : insU n (x :: l) = x :: insU n l := by
  unfold insU
  simp only [posU, if_pos h, List.length_cons, List.getD_cons_succ, List.take_succ_cons, List.drop_succ_cons, Nat.add_right_cancel_iff]
  split <;> simp
theorem insU_ge {x n : Int} (h : ¬ x < n) (l : List Int) : insU n (x :: l) = if x = n then x :: l else n :: x :: l := by
  unfold insU
  simp only [posU, if_neg h, List.length_cons, List.getD_cons_zero, List.take_zero, List.drop_zero, List.nil_append]
  by_cases e : x = n
  · rw [if_neg (by simp [e]), if_pos e]
  · rw [if_pos (Or.inr e), if_neg e]; rfl
theorem insU_mem (n : Int) : ∀ (l : List Int) (z : Int), z ∈ insU n l ↔ z = n ∨ z ∈ l
  | [], z => by simp [insU, posU]
  | x :: l, z => by
    by_cases h : x < n
    · rw [insU_lt h, List.mem_cons, insU_mem n l z, List.mem_cons]
      constructor
      · rintro (e | e | e)
        · exact .inr (.inl e)
        · exact .inl e
        · exact .inr (.inr e)
      · rintro (e | e | e)
        · exact .inr (.inl e)
        · exact .inl e
        · exact .inr (.inr e)
    · rw [insU_ge h]
      split
      · rename_i e
        simp only [List.mem_cons]
        constructor
        · exact .inr
        · rintro (e' | e')
          · exact .inl (by omega)
          · exact e'
      · simp only [List.mem_cons]
theorem insU_strict (n : Int) : ∀ (l : List Int), l.Pairwise (· < ·) → (insU n l).Pairwise (· < ·)
  | [], _ => by simp [insU, posU]
  | x :: l, h => by
    have h' := List.pairwise_cons.1 h
    by_cases hx : x < n
    · rw [insU_lt hx, List.pairwise_cons]
      refine ⟨fun z hz => ?_, insU_strict n l h'.2⟩
      rcases (insU_mem n l z).1 hz with e | e
      · omega
      · exact h'.1 z e
    · rw [insU_ge hx]
      split
      · exact h
      · rw [List.pairwise_cons]
        refine ⟨fun z hz => ?_, h⟩
        rcases List.mem_cons.1 hz with e | e
        · omega
        · have := h'.1 z e
          omega
theorem fold_insU : ∀ (l o : List Int), o.Pairwise (· < ·) → (l.foldl (fun o n => insU n o) o).Pairwise (· < ·) ∧ ∀ z, z ∈ l.foldl (fun o n => insU n o) o ↔ z ∈ o ∨ z ∈ l
  | [], o, h => ⟨h, fun z => by simp⟩
  | n :: l, o, h => by
    obtain ⟨h1, h2⟩ := fold_insU l (insU n o) (insU_strict n o h)
    refine ⟨h1, fun z => ?_⟩
    rw [List.foldl_cons, h2 z, insU_mem, List.mem_cons]
    constructor
    · rintro ((e | e) | e)
      · exact .inr (.inl e)
      · exact .inl e
      · exact .inr (.inr e)
    · rintro (e | e | e)
      · exact .inl (.inr e)
      · exact .inl (.inl e)
      · exact .inr e

/-! d_nbs -/
theorem insU_len (n : Int) (o : List Int) : (insU n o).length ≤ o.length + 1 := by
  unfold insU
  split
  · simp; omega
  · omega
theorem posU_le (n : Int) : ∀ l : List Int, posU n l ≤ l.length
  | [] => Nat.le_refl _
  | x :: l => by
    rw [posU]
    have := posU_le n l
    split
    · simp only [List.length_cons]; omega
    · simp
theorem insU_idem (n : Int) (o : List Int) (h : o.Pairwise (· < ·)) : insU n (insU n o) = insU n o :=
  strict_ext _ _ (insU_strict n _ (insU_strict n o h)) (insU_strict n o h) fun z => by
    rw [insU_mem, insU_mem]
    constructor
    · rintro (e | e)
      · exact .inl e
      · exact e
    · exact .inr
def nbStep (node : Int) (o : List Int) (x : S123) : List Int := if x.f0 = node then insU x.f1 o else if x.f1 = node then insU x.f0 o else o
def nbs (l : List S123) (node : Int) : List Int := l.foldl (nbStep node) []
theorem nbStep_len (node : Int) (o : List Int) (x : S123) : (nbStep node o x).length ≤ o.length + 1 := by
  unfold nbStep
  split
  · exact insU_len _ _
  · split
    · exact insU_len _ _
    · omega
theorem nbs_len (l : List S123) (node : Int) : (nbs l node).length ≤ l.length := by
  have : ∀ (l : List S123) (o : List Int), (l.foldl (nbStep node) o).length ≤ o.length + l.length := by
    intro l
    induction l with
    | nil => intro o; simp
    | cons x l ih =>
      intro o
      have h1 := ih (nbStep node o x)
      have h2 := nbStep_len node o x
      simp only [List.foldl_cons, List.length_cons]
      omega
  simpa [nbs] using this l []
def rawStep (node : Int) (r : List Int) (x : S123) : List Int := if x.f1 = node then (if x.f0 = node then r ++ [x.f1] else r) ++ [x.f0] else if x.f0 = node then r ++ [x.f1] else r
theorem raw_nbs (node : Int) : ∀ (l : List S123) (r : List Int), (l.foldl (rawStep node) r).foldl (fun o n => insU n o) [] = l.foldl (nbStep node) (r.foldl (fun o n => insU n o) [])
  | [], r => rfl
  | x :: l, r => by
    have hs := (fold_insU r [] List.Pairwise.nil).1
    rw [List.foldl_cons, List.foldl_cons, raw_nbs node l]
    congr 1
    unfold rawStep nbStep
    by_cases h0 : x.f0 = node
    · by_cases h1 : x.f1 = node
      · rw [if_pos h1, if_pos h0, if_pos h0, List.foldl_append, List.foldl_append]
        simp only [List.foldl_cons, List.foldl_nil]
        rw [h0, h1]
        exact insU_idem _ _ hs
      · rw [if_neg h1, if_pos h0, if_pos h0, List.foldl_append]
        rfl
    · by_cases h1 : x.f1 = node
      · rw [if_pos h1, if_neg h0, if_neg h0, if_pos h1, List.foldl_append]
        rfl
      · rw [if_neg h1, if_neg h0, if_neg h0, if_neg h1]
theorem raw_len (node : Int) : ∀ (l : List S123) (r : List Int), (l.foldl (rawStep node) r).length ≤ r.length + 2 * l.length
  | [], r => by simp
  | x :: l, r => by
    have h1 := raw_len node l (rawStep node r x)
    have h2 : (rawStep node r x).length ≤ r.length + 2 := by
      unfold rawStep
      repeat' split
      all_goals simp
    simp only [List.foldl_cons, List.length_cons]
    omega

/-! spec_NeighborsIn -/
theorem spec_NeighborsIn.ev_l1 (l : List S123) (node : Int) (o : List Int) (x6 : Int) (n : Int) (ho : o.length ≤ 4000000) (R : List Int) (h6 : Ev (fun k => spec_NeighborsIn.l0 k l node (insU n o) (wrap64 (x6 + 1))) R) :
    ∀ (d i : Nat), i + d = o.length → posU n o = i + posU n (o.drop i) → Ev (fun k => spec_NeighborsIn.l1 k l node o x6 n i) R := by
  have put : ∀ i : Nat, i ≤ o.length → posU n o = i → (i = o.length ∨ ¬ o.getD i 0 = n) → ∀ b : Bool, b = true → Ev (fun k => spec_NeighborsIn.j4 k l node o x6 n i b) R := fun i hi hp hc b hb => by
    have e : insU n o = o.take i ++ [n] ++ o.drop i := by
      unfold insU
      rw [hp, if_pos hc]
    rw [e] at h6
    refine Ev.step (fun k => ?_) h6
    simp only [spec_NeighborsIn.j4]
    rw [if_pos hb, Option.bind_some, if_pos (by omega), if_pos (by omega), Option.bind_some, Int.toNat_natCast, if_pos (by simp; omega), Option.bind_some, Option.bind_some, if_pos (by simp; omega), Option.bind_some, Option.bind_some, if_pos (by simp; omega), List.nil_append]
  intro d
  induction d with
  | zero =>
    intro i hi hp
    rw [List.drop_eq_nil_of_le (by omega)] at hp
    have hp' : posU n o = i := by simpa [posU] using hp
    refine Ev.step (fun k => by simp only [spec_NeighborsIn.l1]; rw [if_neg (by omega)]) ?_
    refine Ev.step (fun k => by simp only [spec_NeighborsIn.j3]; rw [if_neg (by simp), if_pos (by omega)]) (put i (by omega) hp' (.inl (by omega)) true rfl)
  | succ d ih =>
    intro i hi hp
    rw [drop_cons o 0 (by omega), posU] at hp
    refine Ev.step (fun k => by simp only [spec_NeighborsIn.l1]; rw [if_pos (by omega), if_pos (by omega), rd_nat]) ?_
    by_cases hx : o.getD i 0 < n
    · rw [if_pos hx] at hp
      exact Ev.step (fun k => by simp only [spec_NeighborsIn.j3]; rw [if_pos (decide_eq_true hx), wrap_nat (by omega)]) (ih (i + 1) (by omega) (by omega))
    · rw [if_neg hx] at hp
      have hp' : posU n o = i := by omega
      refine Ev.step (fun k => by simp only [spec_NeighborsIn.j3]; rw [if_neg (by simpa using hx), if_neg (by omega), if_pos (by omega), if_pos (by omega), rd_nat]) ?_
      by_cases he : o.getD i 0 = n
      · have e : insU n o = o := by
          unfold insU
          rw [hp', if_neg (by rintro (h | h); omega; exact h he)]
        rw [e] at h6
        exact Ev.step (fun k => by simp only [spec_NeighborsIn.j4]; rw [if_neg (by simpa using he)]) h6
      · exact put i (by omega) hp' (.inr he) _ (by simpa using he)
theorem spec_NeighborsIn.ev (l : List S123) (node : Int) (hl : l.length ≤ 1048576) : Ev (fun k => spec_NeighborsIn.f k l node) (nbs l node) := by
  have h := foldE_index (g := fun k o i => spec_NeighborsIn.l0 k l node o i) (f := fun j o => nbStep node o (l.getD j z123)) (fin := fun o => o) (fun i o => o.length ≤ i) l.length [] (by simp)
    (fun o ho => Ev.one fun k => by simp only [spec_NeighborsIn.l0]; rw [if_neg (by omega)])
    (fun i o hi ho => by
      refine ⟨Nat.le_trans (nbStep_len _ _ _) (by omega), fun r hr => ?_⟩
      rw [show (((i + 1 : Nat) : Int)) = wrap64 ((i : Int) + 1) from (wrap_nat (by omega)).symm] at hr
      have one : ∀ n, nbStep node o (l.getD i z123) = insU n o → Ev (fun k => spec_NeighborsIn.j1 k l node o i n) r := fun n e => by
        rw [e] at hr
        exact Ev.step (fun k => by simp only [spec_NeighborsIn.j1]; rfl) (spec_NeighborsIn.ev_l1 l node o i n (by omega) r hr o.length 0 (by omega) (by simp))
      have rdE : rd_T123 l (i : Int) = l.getD i z123 := rfl
      by_cases h0 : (l.getD i z123).f0 = node
      · exact Ev.step (fun k => by simp only [spec_NeighborsIn.l0]; rw [if_pos (by omega), if_pos (by omega), rdE, if_pos h0]) (one _ (by unfold nbStep; rw [if_pos h0]))
      · by_cases h1 : (l.getD i z123).f1 = node
        · exact Ev.step (fun k => by simp only [spec_NeighborsIn.l0]; rw [if_pos (by omega), if_pos (by omega), rdE, if_neg h0, if_pos h1]) (one _ (by unfold nbStep; rw [if_neg h0, if_pos h1]))
        · have e : nbStep node o (l.getD i z123) = o := by unfold nbStep; rw [if_neg h0, if_neg h1]
          rw [e] at hr
          exact Ev.step (fun k => by simp only [spec_NeighborsIn.l0]; rw [if_pos (by omega), if_pos (by omega), rdE, if_neg h0, if_neg h1]) hr)
  rw [foldl_index l z123 (fun o x => nbStep node o x) []] at h
  exact h

/-! d_negs -/
def negs : List Int → Nat
  | [] => 0
  | x :: l => (if x < 0 then 1 else 0) + negs l
theorem negs_set : ∀ (l : List Int) (j : Nat) (v : Int), j < l.length → l.getD j 0 < 0 → 0 ≤ v → negs (l.set j v) + 1 = negs l
  | [], j, _, h, _, _ => absurd h (Nat.not_lt_zero j)
  | x :: l, 0, v, _, h, hv => by
    rw [List.getD_cons_zero] at h
    rw [List.set_cons_zero, negs, negs, if_neg (by omega), if_pos h]
    omega
  | x :: l, j + 1, v, hj, h, hv => by
    rw [List.getD_cons_succ] at h
    rw [List.set_cons_succ, negs, negs]
    have := negs_set l j v (by simpa using hj) h hv
    omega
theorem negs_rep (n : Nat) : negs (List.replicate n (-1)) = n := by
  induction n with
  | zero => rfl
  | succ n ih => rw [List.replicate_succ, negs, ih, if_pos (by omega)]; omega
theorem rep_get (n j : Nat) (h : j < n) : (List.replicate n (-1 : Int)).getD j 0 = -1 := by
  rw [List.getD_eq_getElem?_getD, List.getElem?_replicate, if_pos h]
  rfl
structure DInv (n : Nat) (d todo : List Int) : Prop where
  len : d.length = n
  neg : todo.length + negs d ≤ n
  mem : ∀ x ∈ todo, 0 ≤ x ∧ x < (n : Int) ∧ 0 ≤ d.getD x.toNat 0
  le : ∀ x ∈ d, x ≤ (todo.length : Int)
theorem DInv.step {n : Nat} {d todo : List Int} (h : DInv n d todo) (at_ x : Int) (ha : 0 ≤ at_ ∧ at_ < (n : Int) ∧ 0 ≤ d.getD at_.toNat 0) (hx0 : 0 ≤ x) (hx1 : x < (n : Int)) (hd : d.getD x.toNat 0 < 0) : DInv n (d.set x.toNat (d.getD at_.toNat 0 + 1)) (todo ++ [x]) := by
  have hle := h.le _ (getD_mem d 0 (show at_.toNat < d.length by rw [h.len]; omega))
  have hs := negs_set d x.toNat (d.getD at_.toNat 0 + 1) (by rw [h.len]; omega) hd (by omega)
  have hn := h.neg
  have hg : ∀ y : Int, 0 ≤ y → y < (n : Int) → 0 ≤ d.getD y.toNat 0 → 0 ≤ (d.set x.toNat (d.getD at_.toNat 0 + 1)).getD y.toNat 0 := fun y h0 h1 h2 => by
    by_cases e : x.toNat = y.toNat
    · rw [e, getD_set_self _ 0 _ (by rw [h.len]; omega)]; omega
    · rw [List.getD_eq_getElem?_getD, List.getElem?_set_ne e, ← List.getD_eq_getElem?_getD]; exact h2
  refine ⟨by rw [List.length_set]; exact h.len, by rw [List.length_append, List.length_singleton]; omega, fun y hy => ?_, fun y hy => ?_⟩
  · rcases List.mem_append.1 hy with hy | hy
    · obtain ⟨a, b, c⟩ := h.mem y hy
      exact ⟨a, b, hg y a b c⟩
    · rw [List.mem_singleton] at hy
      subst hy
      exact ⟨hx0, hx1, by rw [getD_set_self _ 0 _ (by rw [h.len]; omega)]; omega⟩
  · rw [List.length_append, List.length_singleton]
    rcases List.mem_or_eq_of_mem_set hy with hy | hy
    · have := h.le y hy; omega
    · omega

/-! spec_DistancesTo -/
theorem spec_DistancesTo.l2_ok (l : List S123) (nn : Nat) (first dst : Int) (hn : nn ≤ 12) (at_ x12 : Int) (near : List Int) (hN : near.length ≤ 1048576)
    (hnext : ∀ d todo, DInv nn d todo → ∃ r, Ev (fun k => spec_DistancesTo.l1 k l nn first dst d todo (wrap64 (x12 + 1))) r ∧ r.length = nn) :
    ∀ (e i : Nat) (d todo : List Int), i + e = near.length → DInv nn d todo → 0 ≤ at_ ∧ at_ < (nn : Int) ∧ 0 ≤ d.getD at_.toNat 0 → ∃ r, Ev (fun k => spec_DistancesTo.l2 k l nn first dst d todo x12 at_ near (i : Int)) r ∧ r.length = nn := by
  intro e
  induction e with
  | zero =>
    intro i d todo hi h ha
    obtain ⟨r, hr, hl⟩ := hnext d todo h
    exact ⟨r, Ev.step (fun k => by simp only [spec_DistancesTo.l2]; rw [if_neg (by omega)]) hr, hl⟩
  | succ e ih =>
    intro i d todo hi h ha
    have hlen := h.len
    have hneg := h.neg
    have hw : wrap64 ((nn : Int) - 1) = (nn : Int) - 1 := by unfold wrap64; omega
    by_cases c : inR (rd near (i : Int)) 0 ((nn : Int) - 1) = true
    · have c' := c
      unfold inR at c'
      simp only [Bool.and_eq_true, decide_eq_true_eq] at c'
      by_cases c2 : rd d (rd near (i : Int)) < 0
      · have hle := h.le _ (getD_mem d 0 (show at_.toNat < d.length by omega))
        have h2 := h.step at_ (rd near (i : Int)) ha c'.1 (by omega) c2
        obtain ⟨r, hr, hl⟩ := ih (i + 1) _ _ (by omega) h2 ⟨ha.1, ha.2.1, by
          by_cases e2 : (rd near (i : Int)).toNat = at_.toNat
          · rw [e2, getD_set_self _ 0 _ (by omega)]; omega
          · rw [List.getD_eq_getElem?_getD, List.getElem?_set_ne e2, ← List.getD_eq_getElem?_getD]; exact ha.2.2⟩
        refine ⟨r, Ev.step (fun k => ?_) hr, hl⟩
        simp only [spec_DistancesTo.l2]
        rw [if_pos (by omega), if_pos (by omega), spec_l1In.val, Option.bind_some, hw, if_pos c, if_pos c'.1, if_pos (by omega), if_pos c2, if_pos ha.1, if_pos (by omega), if_pos (by omega), wrap_nat (by omega), show wrap64 (rd d at_ + 1) = d.getD at_.toNat 0 + 1 by show wrap64 (d.getD at_.toNat 0 + 1) = _; have := ha.2.2; unfold wrap64; omega]
      · obtain ⟨r, hr, hl⟩ := ih (i + 1) _ _ (by omega) h ha
        refine ⟨r, Ev.step (fun k => ?_) hr, hl⟩
        simp only [spec_DistancesTo.l2]
        rw [if_pos (by omega), if_pos (by omega), spec_l1In.val, Option.bind_some, hw, if_pos c, if_pos c'.1, if_pos (by omega), if_neg c2, wrap_nat (by omega)]
    · obtain ⟨r, hr, hl⟩ := ih (i + 1) _ _ (by omega) h ha
      refine ⟨r, Ev.step (fun k => ?_) hr, hl⟩
      simp only [spec_DistancesTo.l2]
      rw [if_pos (by omega), if_pos (by omega), spec_l1In.val, Option.bind_some, hw, if_neg c, wrap_nat (by omega)]
theorem spec_DistancesTo.l1_ok (l : List S123) (hl : l.length ≤ 1048576) (nn : Nat) (first dst : Int) (hn : nn ≤ 12) :
    ∀ (m i : Nat) (d todo : List Int), nn ≤ i + m → DInv nn d todo → ∃ r, Ev (fun k => spec_DistancesTo.l1 k l nn first dst d todo (i : Int)) r ∧ r.length = nn := by
  intro m
  induction m with
  | zero =>
    intro i d todo hi h
    have hneg := h.neg
    exact ⟨d, Ev.one fun k => by simp only [spec_DistancesTo.l1]; rw [if_neg (by omega)], h.len⟩
  | succ m ih =>
    intro i d todo hi h
    have hneg := h.neg
    by_cases c : (i : Int) < (todo.length : Int)
    · have hmem := h.mem _ (getD_mem todo 0 (show i < todo.length by omega))
      have key : ∀ b : Bool, ∃ r, Ev (fun k => spec_DistancesTo.j2 k l nn first dst d todo (i : Int) (rd todo (i : Int)) b) r ∧ r.length = nn := fun b => by
        have hw : wrap64 ((i : Int) + 1) = ((i + 1 : Nat) : Int) := wrap_nat (by omega)
        cases b with
        | true =>
          obtain ⟨r, hr, hl2⟩ := ih (i + 1) d todo (by omega) h
          exact ⟨r, Ev.step (fun k => by simp only [spec_DistancesTo.j2]; rw [if_pos trivial, hw]) hr, hl2⟩
        | false =>
          have hnl := nbs_len l (rd todo (i : Int))
          obtain ⟨r, hr, hl2⟩ := spec_DistancesTo.l2_ok l nn first dst hn (rd todo (i : Int)) (i : Int) (nbs l (rd todo (i : Int))) (by omega) (fun d' t' h' => by rw [hw]; exact ih (i + 1) d' t' (by omega) h') (nbs l (rd todo (i : Int))).length 0 d todo (by omega) h hmem
          exact ⟨r, Ev.step (fun k => by simp only [spec_DistancesTo.j2]; rw [if_neg (by simp)]) (Ev.bind (spec_NeighborsIn.ev l _ hl) hr), hl2⟩
      by_cases c2 : rd todo (i : Int) = dst
      · obtain ⟨r, hr, hl2⟩ := key false
        exact ⟨r, Ev.step (fun k => by simp only [spec_DistancesTo.l1]; rw [if_pos c, if_pos (by omega), if_pos c2]) hr, hl2⟩
      · obtain ⟨r, hr, hl2⟩ := key (decide (rd todo (i : Int) ≥ first))
        exact ⟨r, Ev.step (fun k => by simp only [spec_DistancesTo.l1]; rw [if_pos c, if_pos (by omega), if_neg c2]) hr, hl2⟩
    · exact ⟨d, Ev.one fun k => by simp only [spec_DistancesTo.l1]; rw [if_neg c], h.len⟩
theorem spec_DistancesTo.ok (l : List S123) (hl : l.length ≤ 1048576) (n first dst : Int) : ∃ r, Ev (fun k => spec_DistancesTo.f k l n first dst) r ∧ r.length ≤ 12 ∧ (r ≠ [] → (r.length : Int) = n) := by
  obtain ⟨b, hb, h⟩ := spec_l14Ok.ok n dst
  cases b with
  | false => exact ⟨[], Ev.all fun k => by unfold spec_DistancesTo.f; rw [hb, Option.bind_some, if_neg (by simp)], by simp, fun h => absurd rfl h⟩
  | true =>
    obtain ⟨h1, h2, h3, h4⟩ := h rfl
    obtain ⟨nn, rfl⟩ : ∃ nn : Nat, n = (nn : Int) := ⟨n.toNat, by omega⟩
    have hI : DInv nn ((List.replicate nn (-1 : Int)).set dst.toNat 0) [dst] := by
      have hs := negs_set (List.replicate nn (-1 : Int)) dst.toNat 0 (by rw [List.length_replicate]; omega) (by rw [rep_get _ _ (by omega)]; omega) (by omega)
      rw [negs_rep] at hs
      refine ⟨by rw [List.length_set, List.length_replicate], by rw [List.length_singleton]; omega, fun x hx => ?_, fun x hx => ?_⟩
      · rw [List.mem_singleton] at hx
        subst hx
        exact ⟨h3, h4, by rw [getD_set_self _ 0 _ (by rw [List.length_replicate]; omega)]; omega⟩
      · rw [List.length_singleton]
        rcases List.mem_or_eq_of_mem_set hx with hx | hx
        · have := (List.mem_replicate.1 hx).2; omega
        · omega
    obtain ⟨r, hr, hl2⟩ := spec_DistancesTo.l1_ok l hl nn first dst (by omega) nn 0 _ _ (by omega) hI
    refine ⟨r, ?_, by omega, fun _ => by rw [hl2]⟩
    refine Ev.congr (fun k => by unfold spec_DistancesTo.f; rw [hb, Option.bind_some, if_pos rfl]) ?_
    have : ∀ e i : Nat, i + e = nn → Ev (fun k => spec_DistancesTo.l0 k l (nn : Int) first dst (List.replicate i (-1)) (i : Int)) r := by
      intro e
      induction e with
      | zero =>
        intro i hi
        have : i = nn := by omega
        subst this
        exact Ev.step (fun k => by simp only [spec_DistancesTo.l0]; rw [if_neg (by omega), if_pos h3, if_pos (by rw [List.length_replicate]; omega)]; rfl) hr
      | succ e ih =>
        intro i hi
        refine Ev.step (fun k => ?_) (ih (i + 1) (by omega))
        simp only [spec_DistancesTo.l0]
        rw [if_pos (by omega), if_pos (by rw [List.length_replicate]; omega), wrap_nat (by omega), List.replicate_succ']
    exact this nn 0 (by omega)

/-! spec_NextTo -/
theorem spec_NextTo.l1_ok (l : List S123) (n first dst : Int) (o d : List Int) (j : Nat) (hj : j < d.length) (hd : d.length ≤ 12) (hn : (d.length : Int) = n) (ho : o.length = j) (near : List Int) (hN : near.length ≤ 1048576)
    (hnext : ∀ x : Int, ∃ r, Ev (fun k => spec_NextTo.l0 k l n first dst (o ++ [x]) d (wrap64 ((j : Int) + 1))) r ∧ r.length = d.length) :
    ∀ (e i : Nat) (x12 : Int), i + e = near.length → ∃ r, Ev (fun k => spec_NextTo.l1 k l n first dst o d (j : Int) x12 near (i : Int)) r ∧ r.length = d.length := by
  have fin : ∀ (x12 x14 : Int), ∃ r, Ev (fun k => spec_NextTo.j2 k l n first dst o d (j : Int) x12 near x14 false) r ∧ r.length = d.length := fun x12 x14 => by
    obtain ⟨r, hr, hl⟩ := hnext x12
    exact ⟨r, Ev.step (fun k => by simp only [spec_NextTo.j2]; rw [if_neg (by simp), if_pos (by omega)]) hr, hl⟩
  intro e
  induction e with
  | zero =>
    intro i x12 hi
    obtain ⟨r, hr, hl⟩ := fin x12 (i : Int)
    exact ⟨r, Ev.step (fun k => by simp only [spec_NextTo.l1]; rw [if_neg (by omega)]) hr, hl⟩
  | succ e ih =>
    intro i x12 hi
    have hw : wrap64 (n - 1) = n - 1 := by unfold wrap64; omega
    have key : ∀ b : Bool, ∃ r, Ev (fun k => spec_NextTo.j2 k l n first dst o d (j : Int) x12 near (i : Int) b) r ∧ r.length = d.length := fun b => by
      cases b with
      | false => exact fin x12 (i : Int)
      | true =>
        obtain ⟨r0, hr0, hl0⟩ := ih (i + 1) x12 (by omega)
        obtain ⟨r1, hr1, hl1⟩ := ih (i + 1) (rd near (i : Int)) (by omega)
        by_cases c : inR (rd near (i : Int)) 0 (n - 1) = true
        · have c' := c
          unfold inR at c'
          simp only [Bool.and_eq_true, decide_eq_true_eq] at c'
          by_cases c2 : rd near (i : Int) < first
          · by_cases c3 : rd d (rd near (i : Int)) = wrap64 (rd d (j : Int) - 1)
            · exact ⟨r1, Ev.step (fun k => by simp only [spec_NextTo.j2]; rw [if_pos trivial, if_pos (by omega), if_pos (by omega), spec_l1In.val, Option.bind_some, hw, if_pos c, if_pos c2, if_pos c'.1, if_pos (by omega), if_pos (by omega), if_pos (by omega), if_pos c3, wrap_nat (by omega)]) hr1, hl1⟩
            · exact ⟨r0, Ev.step (fun k => by simp only [spec_NextTo.j2]; rw [if_pos trivial, if_pos (by omega), if_pos (by omega), spec_l1In.val, Option.bind_some, hw, if_pos c, if_pos c2, if_pos c'.1, if_pos (by omega), if_pos (by omega), if_pos (by omega), if_neg c3, wrap_nat (by omega)]) hr0, hl0⟩
          · by_cases c4 : rd near (i : Int) = dst
            · by_cases c3 : rd d (rd near (i : Int)) = wrap64 (rd d (j : Int) - 1)
              · exact ⟨r1, Ev.step (fun k => by simp only [spec_NextTo.j2]; rw [if_pos trivial, if_pos (by omega), if_pos (by omega), spec_l1In.val, Option.bind_some, hw, if_pos c, if_neg c2, if_pos c4, if_pos c'.1, if_pos (by omega), if_pos (by omega), if_pos (by omega), if_pos c3, wrap_nat (by omega)]) hr1, hl1⟩
              · exact ⟨r0, Ev.step (fun k => by simp only [spec_NextTo.j2]; rw [if_pos trivial, if_pos (by omega), if_pos (by omega), spec_l1In.val, Option.bind_some, hw, if_pos c, if_neg c2, if_pos c4, if_pos c'.1, if_pos (by omega), if_pos (by omega), if_pos (by omega), if_neg c3, wrap_nat (by omega)]) hr0, hl0⟩
            · exact ⟨r0, Ev.step (fun k => by simp only [spec_NextTo.j2]; rw [if_pos trivial, if_pos (by omega), if_pos (by omega), spec_l1In.val, Option.bind_some, hw, if_pos c, if_neg c2, if_neg c4, wrap_nat (by omega)]) hr0, hl0⟩
        · exact ⟨r0, Ev.step (fun k => by simp only [spec_NextTo.j2]; rw [if_pos trivial, if_pos (by omega), if_pos (by omega), spec_l1In.val, Option.bind_some, hw, if_neg c, wrap_nat (by omega)]) hr0, hl0⟩
    by_cases c : rd d (j : Int) > 0
    · obtain ⟨r, hr, hl⟩ := key (decide (x12 < 0))
      exact ⟨r, Ev.step (fun k => by simp only [spec_NextTo.l1]; rw [if_pos (by omega), if_pos (by omega), if_pos (by omega), if_pos c]) hr, hl⟩
    · obtain ⟨r, hr, hl⟩ := key false
      exact ⟨r, Ev.step (fun k => by simp only [spec_NextTo.l1]; rw [if_pos (by omega), if_pos (by omega), if_pos (by omega), if_neg c]) hr, hl⟩
theorem spec_NextTo.ok (l : List S123) (hl : l.length ≤ 1048576) (n first dst : Int) : ∃ r, Ev (fun k => spec_NextTo.f k l n first dst) r ∧ r.length ≤ 12 := by
  obtain ⟨d, hd, hd12, hdn⟩ := spec_DistancesTo.ok l hl n first dst
  have : ∀ e j : Nat, j + e = d.length → ∀ o : List Int, o.length = j → ∃ r, Ev (fun k => spec_NextTo.l0 k l n first dst o d (j : Int)) r ∧ r.length = d.length := by
    intro e
    induction e with
    | zero =>
      intro j hj o ho
      exact ⟨o, Ev.one fun k => by simp only [spec_NextTo.l0]; rw [if_neg (by omega)], by omega⟩
    | succ e ih =>
      intro j hj o ho
      have hnl := nbs_len l (j : Int)
      have hne : d ≠ [] := fun h => by rw [h] at hj; simp at hj
      obtain ⟨r, hr, hl2⟩ := spec_NextTo.l1_ok l n first dst o d j (by omega) hd12 (hdn hne) ho (nbs l (j : Int)) (by omega) (fun x => by rw [wrap_nat (by omega)]; exact ih (j + 1) (by omega) _ (by rw [List.length_append, List.length_singleton]; omega)) (nbs l (j : Int)).length 0 (-1) (by omega)
      exact ⟨r, Ev.step (fun k => by simp only [spec_NextTo.l0]; rw [if_pos (by omega)]) (Ev.bind (spec_NeighborsIn.ev l _ hl) hr), hl2⟩
  obtain ⟨r, hr, hl2⟩ := this d.length 0 (by omega) [] rfl
  exact ⟨r, Ev.bind hd hr, by omega⟩

/-! spec_TableOf -/
theorem spec_TableOf.ok (l : List S123) (hl : l.length ≤ 1048576) (n first dst : Int) : ∃ D N, Ev (fun k => spec_TableOf.f k l n first dst) (dst, D, N) ∧ D.length ≤ 12 ∧ N.length ≤ 12 := by
  obtain ⟨D, hD, h1, _⟩ := spec_DistancesTo.ok l hl n first dst
  obtain ⟨N, hN, h2⟩ := spec_NextTo.ok l hl n first dst
  exact ⟨D, N, Ev.bind hD (Ev.bind hN (Ev.now _)), h1, h2⟩

/-! spec_l17Tables -/
theorem spec_l17Tables.ok (l : List S123) (hl : l.length ≤ 1048576) (n : Nat) (first : Int) (hn : n ≤ 12) : ∃ r, Ev (fun k => spec_l17Tables.f k l (n : Int) first) r ∧ r.length ≤ 12 ∧ (∀ t ∈ r, fitTi 12 t) ∧ ∀ q, q < r.length → (r.getD q z80).f0 = ((q : Nat) : Int) := by
  have : ∀ e j : Nat, j + e = n → ∀ o : List S80, o.length = j → (∀ t ∈ o, fitTi 12 t) → (∀ q, q < o.length → (o.getD q z80).f0 = ((q : Nat) : Int)) → ∃ r, Ev (fun k => spec_l17Tables.l0 k l (n : Int) first o (j : Int)) r ∧ r.length ≤ n ∧ (∀ t ∈ r, fitTi 12 t) ∧ ∀ q, q < r.length → (r.getD q z80).f0 = ((q : Nat) : Int) := by
    intro e
    induction e with
    | zero =>
      intro j hj o ho hf hd
      exact ⟨o, Ev.one fun k => by simp only [spec_l17Tables.l0]; rw [if_neg (by omega)], by omega, hf, hd⟩
    | succ e ih =>
      intro j hj o ho hf hd
      obtain ⟨D, N, ht, h1, h2⟩ := spec_TableOf.ok l hl (n : Int) first (j : Int)
      obtain ⟨r, hr, hl2, hf2, hd2⟩ := ih (j + 1) (by omega) (o ++ [⟨(j : Int), D, N⟩]) (by rw [List.length_append, List.length_singleton]; omega) (fun t ht => by
        rcases List.mem_append.1 ht with ht | ht
        · exact hf t ht
        · rw [List.mem_singleton] at ht; subst ht; exact ⟨h1, h2⟩) (fun q hq => by
        rw [List.length_append, List.length_singleton] at hq
        by_cases c : q < o.length
        · rw [List.getD_eq_getElem?_getD, List.getElem?_append_left c, ← List.getD_eq_getElem?_getD]; exact hd q c
        · have e : q = o.length := by omega
          subst e
          rw [List.getD_eq_getElem?_getD, List.getElem?_append_right (Nat.le_refl _), Nat.sub_self]
          show ((j : Nat) : Int) = _
          rw [ho])
      exact ⟨r, Ev.step (fun k => by simp only [spec_l17Tables.l0]; rw [if_pos (by omega)]) (Ev.bind ht (Ev.congr (fun k => by rw [if_pos (by omega), wrap_nat (by omega)]) hr)), hl2, hf2, hd2⟩
  obtain ⟨r, hr, hl2, hf, hd⟩ := this n 0 (by omega) [] (by simp) (fun t ht => by cases ht) (fun q hq => by simp at hq)
  exact ⟨r, hr, by omega, hf, hd⟩

/-! spec_BuildProgram -/
theorem fitQ_nil : fitQi 1048576 [] := ⟨by simp, fun x hx => by cases hx⟩
def okDst (p : List S103) : Prop := ∀ x ∈ p, ∀ q, q < x.f2.length → (x.f2.getD q z80).f0 = ((q : Nat) : Int)
theorem okDst_nil : okDst [] := fun x hx => by cases hx
def okP (p : List S103) : Prop := okS (p.map (·.f0))
theorem okP_nil : okP [] := ⟨(fun x hx => by cases hx), List.Pairwise.nil⟩
theorem spec_BuildProgram.okS (pl : List S144) (hp : pl.length ≤ 1048576) (nn T : Nat) (fi sk : Int) (hn : nn ≤ 12) (hT1 : 1 ≤ T) (hT2 : T ≤ 1000) : ∃ x y z p b, Ev (fun k => spec_BuildProgram.f k pl (nn : Int) fi 0 (T : Int) sk) (x, y, z, p, b) ∧ fitQi 1048576 p ∧ okDst p ∧ okP p ∧ 0 ≤ x := by
  have bad : Ev (fun k => spec_BuildProgram.j0 k pl (nn : Int) fi 0 (T : Int) sk true) (0, 0, 0, [], false) := Ev.one fun k => by simp only [spec_BuildProgram.j0]; simp
  obtain ⟨fr, hfr⟩ := spec_l17Frame.ok (nn : Int) fi sk
  cases fr with
  | false => exact ⟨_, _, _, _, _, Ev.congr (fun k => by unfold spec_BuildProgram.f; rw [hfr, Option.bind_some, if_neg (by simp)]) bad, fitQ_nil, okDst_nil, okP_nil, Int.le_refl 0⟩
  | true =>
    obtain ⟨ip, hip⟩ := spec_IsPlan.ok pl hp (nn : Int)
    cases ip with
    | false => exact ⟨_, _, _, _, _, Ev.congr (fun k => by unfold spec_BuildProgram.f; rw [hfr, Option.bind_some, if_pos rfl]) (Ev.bind hip bad), fitQ_nil, okDst_nil, okP_nil, Int.le_refl 0⟩
    | true =>
      obtain ⟨sp, hsp, hsl, hspS⟩ := spec_PiecesOf.ok pl hp T hT1 hT2
      have hgo : ∀ R, Ev (fun k => (spec_PiecesOf.f k pl 0 (T : Int)).bind fun t => (spec_l1In.f (t.length : Int) 1 40).bind fun u => if u = true then spec_BuildProgram.l0 k pl (nn : Int) fi t 0 (nn : Int) fi sk [] else some (0, 0, 0, [], false)) R → Ev (fun k => spec_BuildProgram.f k pl (nn : Int) fi 0 (T : Int) sk) R := fun R h =>
        Ev.congr (fun k => by unfold spec_BuildProgram.f; rw [hfr, Option.bind_some, if_pos rfl]) (Ev.bind hip (Ev.step (fun k => by simp only [spec_BuildProgram.j0]; rw [if_neg (by simp)]) h))
      by_cases c : inR (sp.length : Int) 1 40 = true
      · have : ∀ e j : Nat, j + e = sp.length → ∀ o : List S103, o.length ≤ j → (∀ x ∈ o, fitPi 1048576 x) → okDst o → o.map (·.f0) = sp.take j → ∃ r, Ev (fun k => spec_BuildProgram.l0 k pl (nn : Int) fi sp (j : Int) (nn : Int) fi sk o) ((nn : Int), fi, sk, r, true) ∧ r.length ≤ sp.length ∧ (∀ x ∈ r, fitPi 1048576 x) ∧ okDst r ∧ r.map (·.f0) = sp := by
          intro e
          induction e with
          | zero =>
            intro j hj o ho hf hdd hm
            exact ⟨o, Ev.one fun k => by simp only [spec_BuildProgram.l0]; rw [if_neg (by omega)], by omega, hf, hdd, by rw [hm]; exact List.take_of_length_le (by omega)⟩
          | succ e ih =>
            intro j hj o ho hf hdd hm
            obtain ⟨lk, hlk, hll⟩ := spec_LinksAt.ok pl hp ((rd_T99 sp (j : Int)).f0)
            obtain ⟨tb, htb, htl, htf, htd⟩ := spec_l17Tables.ok lk (by omega) nn fi hn
            obtain ⟨r, hr, hl, hf2, hd2, hm2⟩ := ih (j + 1) (by omega) (o ++ [⟨⟨(rd_T99 sp (j : Int)).f0, (rd_T99 sp (j : Int)).f1⟩, lk, tb⟩]) (by rw [List.length_append, List.length_singleton]; omega) (fun x hx => by
              rcases List.mem_append.1 hx with hx | hx
              · exact hf x hx
              · rw [List.mem_singleton] at hx
                subst hx
                exact ⟨by show lk.length ≤ _; omega, by show tb.length ≤ _; omega, fun t ht => by have := htf t ht; unfold fitTi at this ⊢; omega⟩) (fun x hx => by
              rcases List.mem_append.1 hx with hx | hx
              · exact hdd x hx
              · rw [List.mem_singleton] at hx
                subst hx
                exact htd) (by
              rw [List.map_append, hm, List.map_singleton, take_snocS sp z99 (show j < sp.length by omega)]
              rfl)
            refine ⟨r, Ev.step (fun k => by simp only [spec_BuildProgram.l0]; rw [if_pos (by omega), if_pos (by omega)]) ?_, hl, hf2, hd2, hm2⟩
            refine Ev.bind hlk (Ev.bind htb ?_)
            exact Ev.congr (fun k => by rw [if_pos (by omega), wrap_nat (by omega)]) hr
        obtain ⟨r, hr, hl, hf, hd3, hm3⟩ := this sp.length 0 (by omega) [] (by simp) (fun x hx => by cases hx) okDst_nil rfl
        exact ⟨_, _, _, _, _, hgo _ (Ev.bind hsp (Ev.congr (fun k => by rw [spec_l1In.val, Option.bind_some, if_pos c]; rfl) hr)), ⟨by omega, hf⟩, hd3, by unfold okP; rw [hm3]; exact hspS, by omega⟩
      · exact ⟨_, _, _, _, _, hgo _ (Ev.bind hsp (Ev.all fun k => by rw [spec_l1In.val, Option.bind_some, if_neg c])), fitQ_nil, okDst_nil, okP_nil, Int.le_refl 0⟩
theorem spec_BuildProgram.ok (pl : List S144) (hp : pl.length ≤ 1048576) (nn T : Nat) (fi sk : Int) (hn : nn ≤ 12) (hT1 : 1 ≤ T) (hT2 : T ≤ 1000) : ∃ x y z p b, Ev (fun k => spec_BuildProgram.f k pl (nn : Int) fi 0 (T : Int) sk) (x, y, z, p, b) ∧ fitQi 1048576 p ∧ okDst p := by
  obtain ⟨x, y, z, p, b, h, h1, h2, _⟩ := spec_BuildProgram.okS pl hp nn T fi sk hn hT1 hT2
  exact ⟨x, y, z, p, b, h, h1, h2⟩

/-! spec_l11Plan -/
theorem spec_l11Plan.l2_ok (l : List Int) (hl : l.length ≤ 1048576) (nn : Nat) (T : Int) (i j : Int) (B : Nat)
    (hnext : ∀ o p q, o.length ≤ B → Cur p → ∃ r p' q', Ev (fun k => spec_l11Plan.l1 k (nn : Int) T o i (wrap64 (j + 1)) l p q) (r, p', q') ∧ r.length ≤ 288 ∧ Cur p') :
    ∀ (m : Nat) (o : List S144) (x10 p q : Int), o.length + m ≤ B → B ≤ 288 → Cur p → ∃ r p' q', Ev (fun k => spec_l11Plan.l2 k (nn : Int) T o i j x10 (m : Int) l p q) (r, p', q') ∧ r.length ≤ 288 ∧ Cur p' := by
  have fin : ∀ (o : List S144) (x10 x11 p q : Int), o.length ≤ B → Cur p → ∃ r p' q', Ev (fun k => spec_l11Plan.j3 k (nn : Int) T o i j x10 x11 false l p q) (r, p', q') ∧ r.length ≤ 288 ∧ Cur p' := fun o x10 x11 p q ho hp => by
    obtain ⟨r, p', q', hr, h1, h2⟩ := hnext o p q ho hp
    exact ⟨r, p', q', Ev.step (fun k => by simp only [spec_l11Plan.j3]; rw [if_neg (by simp)]) hr, h1, h2⟩
  intro m
  induction m with
  | zero =>
    intro o x10 p q ho hB hp
    obtain ⟨r, p', q', hr, h1, h2⟩ := fin o x10 0 p q (by omega) hp
    exact ⟨r, p', q', Ev.step (fun k => by simp only [spec_l11Plan.l2]; rw [if_neg (by omega)]; rfl) hr, h1, h2⟩
  | succ m ih =>
    intro o x10 p q ho hB hp
    by_cases c : x10 < T
    · obtain ⟨v, p1, q1, e1, _, _, hp1⟩ := spec_l1Below.ok l hl p q 9 hp
      obtain ⟨u, p2, q2, e2, _, _, hp2⟩ := spec_l1Below.ok l hl p1 q1 6 hp1
      obtain ⟨r, p', q', hr, h1, h2⟩ := ih (o ++ [⟨i, j, x10, mn T (wrap64 (wrap64 (x10 + 2) + v))⟩]) (wrap64 (wrap64 (mn T (wrap64 (wrap64 (x10 + 2) + v)) + 1) + u)) p2 q2 (by rw [List.length_append, List.length_singleton]; omega) hB hp2
      refine ⟨r, p', q', Ev.step (fun k => ?_) (Ev.step (f := fun k => spec_l11Plan.l2 k (nn : Int) T (o ++ [⟨i, j, x10, mn T (wrap64 (wrap64 (x10 + 2) + v))⟩]) i j (wrap64 (wrap64 (mn T (wrap64 (wrap64 (x10 + 2) + v)) + 1) + u)) (m : Int) l p2 q2) (g := fun k => spec_l11Plan.j3 k (nn : Int) T o i j x10 ((m + 1 : Nat) : Int) true l p q) (fun k => ?_) hr), h1, h2⟩
      · simp only [spec_l11Plan.l2]
        rw [if_pos (by omega), decide_eq_true c]
      · simp only [spec_l11Plan.j3]
        rw [if_pos trivial, e1, Option.bind_some, spec_Min.val, Option.bind_some, if_pos (by omega), e2, Option.bind_some, show wrap64 (((m + 1 : Nat) : Int) - 1) = (m : Int) by unfold wrap64; omega]
    · obtain ⟨r, p', q', hr, h1, h2⟩ := fin o x10 ((m + 1 : Nat) : Int) p q (by omega) hp
      exact ⟨r, p', q', Ev.step (fun k => by simp only [spec_l11Plan.l2]; rw [if_pos (by omega), decide_eq_false c]) hr, h1, h2⟩
theorem spec_l11Plan.l1_ok (l : List Int) (hl : l.length ≤ 1048576) (nn : Nat) (hn : nn ≤ 12) (T : Int) (i : Nat) (hi : i < nn)
    (hnext : ∀ o p q, o.length ≤ 24 * (i + 1) → Cur p → ∃ r p' q', Ev (fun k => spec_l11Plan.l0 k (nn : Int) T o (wrap64 ((i : Int) + 1)) l p q) (r, p', q') ∧ r.length ≤ 288 ∧ Cur p') :
    ∀ (e j : Nat) (o : List S144) (p q : Int), j + e = nn → o.length ≤ 24 * i + 2 * j → Cur p → ∃ r p' q', Ev (fun k => spec_l11Plan.l1 k (nn : Int) T o (i : Int) (j : Int) l p q) (r, p', q') ∧ r.length ≤ 288 ∧ Cur p' := by
  intro e
  induction e with
  | zero =>
    intro j o p q hj ho hp
    obtain ⟨r, p', q', hr, h1, h2⟩ := hnext o p q (by omega) hp
    exact ⟨r, p', q', Ev.step (fun k => by simp only [spec_l11Plan.l1]; rw [if_neg (by omega)]) hr, h1, h2⟩
  | succ e ih =>
    intro j o p q hj ho hp
    obtain ⟨v, p1, q1, e1, _, _, hp1⟩ := spec_l1Below.ok l hl p q 5 hp
    obtain ⟨u, p2, q2, e2, hu0, hu3, hp2⟩ := spec_l1Below.ok l hl p1 q1 3 hp1
    have hu3' := hu3 (by omega)
    obtain ⟨r, p', q', hr, h1, h2⟩ := spec_l11Plan.l2_ok l hl nn T (i : Int) (j : Int) (24 * i + 2 * (j + 1)) (fun o' p' q' ho' hp' => by rw [wrap_nat (by omega)]; exact ih (j + 1) o' p' q' (by omega) ho' hp') u.toNat o v p2 q2 (by omega) (by omega) hp2
    rw [Int.toNat_of_nonneg hu0] at hr
    exact ⟨r, p', q', Ev.step (fun k => by simp only [spec_l11Plan.l1]; rw [if_pos (by omega), e1, Option.bind_some, e2, Option.bind_some]) hr, h1, h2⟩
theorem spec_l11Plan.ok (l : List Int) (hl : l.length ≤ 1048576) (nn : Nat) (hn : nn ≤ 12) (T : Int) (p q : Int) (hp : Cur p) : ∃ r p' q', Ev (fun k => spec_l11Plan.f k l p q (nn : Int) T) (r, p', q') ∧ r.length ≤ 288 ∧ Cur p' := by
  have : ∀ (e i : Nat) (o : List S144) (p q : Int), i + e = nn → o.length ≤ 24 * i → Cur p → ∃ r p' q', Ev (fun k => spec_l11Plan.l0 k (nn : Int) T o (i : Int) l p q) (r, p', q') ∧ r.length ≤ 288 ∧ Cur p' := by
    intro e
    induction e with
    | zero =>
      intro i o p q hi ho hp
      exact ⟨o, p, q, Ev.one fun k => by simp only [spec_l11Plan.l0]; rw [if_neg (by omega)], by omega, hp⟩
    | succ e ih =>
      intro i o p q hi ho hp
      obtain ⟨r, p', q', hr, h1, h2⟩ := spec_l11Plan.l1_ok l hl nn hn T i (by omega) (fun o' p' q' ho' hp' => by rw [wrap_nat (by omega)]; exact ih (i + 1) o' p' q' (by omega) ho' hp') (nn - (i + 1)) (i + 1) o p q (by omega) (by omega) hp
      exact ⟨r, p', q', Ev.step (fun k => by simp only [spec_l11Plan.l0]; rw [if_pos (by omega), wrap_nat (by omega)]) hr, h1, h2⟩
  exact this nn 0 [] p q (by omega) (by simp) hp

/-! spec_l27Draw -/
theorem spec_l27Draw.okN (l : List Int) (hl : l.length ≤ 1048576) (p q : Int) (hp : Cur p) : ∃ x y z pp p' q', Ev (fun k => spec_l27Draw.f k l p q) (x, y, z, pp, p', q') ∧ fitQi 1048576 pp ∧ okDst pp ∧ okP pp ∧ Cur p' ∧ 0 ≤ x := by
  obtain ⟨pl, p1, q1, h1, hpl, hp1⟩ := spec_l11Plan.ok l hl 6 (by omega) 20 p q hp
  have h1' : Ev (fun k => spec_l11Plan.f k l p q 6 20) (pl, p1, q1) := h1
  obtain ⟨v, p2, q2, e2, _, _, hp2⟩ := spec_l1Below.ok l hl p1 q1 2 hp1
  obtain ⟨x, y, z, pp, b, h3, hf, hd, hS, hx⟩ := spec_BuildProgram.okS pl (by omega) 6 20 4 v (by omega) (by omega) (by omega)
  have h3' : Ev (fun k => spec_BuildProgram.f k pl 6 4 0 20 v) (x, y, z, pp, b) := h3
  exact ⟨x, y, z, pp, p2, q2, Ev.bind h1' (Ev.congr (fun k => by rw [e2, Option.bind_some]) (Ev.bind h3' (Ev.now _))), hf, hd, hS, hp2, hx⟩
theorem spec_l27Draw.okS (l : List Int) (hl : l.length ≤ 1048576) (p q : Int) (hp : Cur p) : ∃ x y z pp p' q', Ev (fun k => spec_l27Draw.f k l p q) (x, y, z, pp, p', q') ∧ fitQi 1048576 pp ∧ okDst pp ∧ okP pp ∧ Cur p' := by
  obtain ⟨x, y, z, pp, p', q', h, h1, h2, h3, h4, _⟩ := spec_l27Draw.okN l hl p q hp
  exact ⟨x, y, z, pp, p', q', h, h1, h2, h3, h4⟩
theorem spec_l27Draw.ok (l : List Int) (hl : l.length ≤ 1048576) (p q : Int) (hp : Cur p) : ∃ x y z pp p' q', Ev (fun k => spec_l27Draw.f k l p q) (x, y, z, pp, p', q') ∧ fitQi 1048576 pp ∧ okDst pp ∧ Cur p' := by
  obtain ⟨x, y, z, pp, p', q', h, h1, h2, _, h4⟩ := spec_l27Draw.okS l hl p q hp
  exact ⟨x, y, z, pp, p', q', h, h1, h2, h4⟩

/-! spec_l1Int -/
theorem spec_l1Int.ok (l : List Int) (hl : l.length ≤ 1048576) (p q : Int) (xs : List Int) (hx : 0 < xs.length) (hp : Cur p) : ∃ (i : Nat) (p' q' : Int), spec_l1Int.f l p q xs = some (xs.getD i 0, p', q') ∧ i < xs.length ∧ Cur p' := by
  unfold spec_l1Int.f
  obtain ⟨v, p1, q1, e, h0, h1, hp1⟩ := spec_l1Below.ok l hl p q xs.length hp
  have hv := h1 (by omega)
  rw [e, Option.bind_some, if_pos h0, if_pos hv]
  exact ⟨v.toNat, _, _, rfl, by omega, hp1⟩

/-! spec_DrawReachFrom -/
theorem spec_DrawReachFrom.ok (l : List Int) (hl : l.length ≤ 1048576) : ∃ x y z pp s a b, Ev (fun k => spec_DrawReachFrom.f k l) (x, y, z, pp, s, a, b) ∧ fitQi 1048576 pp ∧ a ≤ 12 ∧ 0 ≤ b ∧ b ≤ 25 := by
  obtain ⟨q0, h0⟩ := spec_l1New.ev l hl
  obtain ⟨x, y, z, pp, p1, q1, h1, hf, hd, hp1⟩ := spec_l27Draw.ok l hl 0 q0 ⟨by omega, by omega⟩
  obtain ⟨v2, p2, q2, e2, _, _, hp2⟩ := spec_l1Below.ok l hl p1 q1 8 hp1
  obtain ⟨v3, p3, q3, e3, h30, h31, hp3⟩ := spec_l1Below.ok l hl p2 q2 12 hp2
  obtain ⟨i, p4, q4, e4, hi, hp4⟩ := spec_l1Int.ok l hl p3 q3 ([20, 10, 25, 5] : List Int) (by simp) hp3
  have h31 := h31 (by omega)
  refine ⟨x, y, z, pp, wrap64 (v2 - 1), wrap64 (v3 - 1), ([20, 10, 25, 5] : List Int).getD i 0, Ev.bind h0 (Ev.bind h1 (Ev.all fun k => by rw [e2, Option.bind_some, e3, Option.bind_some, e4, Option.bind_some])), hf, by unfold wrap64; omega, ?_⟩
  have hi' : i < 4 := hi
  match i, hi' with
  | 0, _ => exact ⟨by decide, by decide⟩
  | 1, _ => exact ⟨by decide, by decide⟩
  | 2, _ => exact ⟨by decide, by decide⟩
  | 3, _ => exact ⟨by decide, by decide⟩

/-! d_reachL -/
theorem fold_inv {α : Type} (I : α → Prop) (f : α → Nat → α) : ∀ (d i : Nat) (s : α), (∀ j s, i ≤ j → j < i + d → I s → I (f s j)) → I s → I ((List.range' i d).foldl f s)
  | 0, _, _, _, h => h
  | d + 1, i, s, hs, h => by
    rw [List.range'_succ, List.foldl_cons]
    exact fold_inv I f d (i + 1) _ (fun j s h1 h2 => hs j s (by omega) (by omega)) (hs i s (by omega) (by omega) h)
theorem reachT_snoc (p : List S103) (n : Nat) (first src : Int) : ∀ (d : Nat) (t : Int) (O : List Int), reachT p n first src (d + 1) t O = tick p n first src (t + (d : Nat)) (reachT p n first src d t O)
  | 0, t, O => by
    rw [show t + ((0 : Nat) : Int) = t by omega]; rfl
  | d + 1, t, O => by
    rw [reachT, reachT_snoc p n first src d (t + 1) _, show t + 1 + ((d : Nat) : Int) = t + ((d + 1 : Nat) : Int) by omega]; rfl
/-- What a round reaches, it reaches over a link. -/
def FromO (p : List S103) (n : Nat) (first src t : Int) (O M : List Int) : Prop :=
  ∀ i : Nat, i < n → rd O ((i : Nat) : Int) < 0 → rd M ((i : Nat) : Int) ≠ -1 → ∃ k : Nat, k < n ∧ goesOn first src O k = true ∧ hasLink p (pieceAt p t) ((k : Nat) : Int) ((i : Nat) : Int) = true
theorem tick_from (p : List S103) (n : Nat) (first src t : Int) (O : List Int) (ht : 0 ≤ t) (hO : Old n t O) : InT n t O (tick p n first src t O) ∧ FromO p n first src t O (tick p n first src t O) := by
  unfold tick
  refine fold_inv (fun M => InT n t O M ∧ FromO p n first src t O M) _ n 0 O (fun a M _ ha hM => ?_) ⟨InT.start hO.1 hO.2, fun i hi h1 h2 => absurd ((hO.2 i hi).2 h1) h2⟩
  unfold stepA
  by_cases hg : goesOn first src O a = true
  · rw [if_pos hg]
    unfold rowB
    refine fold_inv (fun M => InT n t O M ∧ FromO p n first src t O M) _ n 0 M (fun b M _ hb hM => ⟨hM.1.step ht p _ b (by omega), fun i hi h1 h2 => ?_⟩) hM
    unfold stepB at h2
    by_cases c1 : rd M ((b : Nat) : Int) < 0
    · rw [if_pos c1] at h2
      by_cases c2 : hasLink p (pieceAt p t) ((a : Nat) : Int) ((b : Nat) : Int) = true
      · rw [if_pos c2, rd_set (by have := hM.1.1; omega)] at h2
        by_cases e : i = b
        · subst e
          exact ⟨a, by omega, hg, c2⟩
        · rw [if_neg e] at h2
          exact hM.2 i hi h1 h2
      · rw [if_neg c2] at h2
        exact hM.2 i hi h1 h2
    · rw [if_neg c1] at h2
      exact hM.2 i hi h1 h2
  · rw [if_neg hg]; exact hM
/-- Why node i stands in the list as it does. -/
def Why (p : List S103) (first src a : Int) (l : List Int) (i : Nat) : Prop :=
  rd l ((i : Nat) : Int) < 0 ∨ (((i : Nat) : Int) = src ∧ rd l ((i : Nat) : Int) = a) ∨ ∃ k : Nat, k < l.length ∧ rd l ((k : Nat) : Int) ≥ 0 ∧ rd l ((k : Nat) : Int) < rd l ((i : Nat) : Int) ∧ (((k : Nat) : Int) < first ∨ ((k : Nat) : Int) = src) ∧ hasLink p (pieceAt p (rd l ((i : Nat) : Int) - 1)) ((k : Nat) : Int) ((i : Nat) : Int) = true
theorem why_tick (p : List S103) (n : Nat) (first src a t : Int) (O : List Int) (ht : 0 ≤ t) (hO : Old n t O) (h : ∀ i, i < n → Why p first src a O i) : ∀ i, i < n → Why p first src a (tick p n first src t O) i := by
  obtain ⟨hI, hF⟩ := tick_from p n first src t O ht hO
  generalize tick p n first src t O = M at hI hF
  intro i hi
  have h3 := hI.2.2 i hi
  by_cases c : rd O ((i : Nat) : Int) ≥ 0
  · have e := h3.2.1 c
    rcases h i hi with h1 | h1 | ⟨k, hk, h4, h5, h6, h7⟩
    · omega
    · exact .inr (.inl ⟨h1.1, by rw [e]; exact h1.2⟩)
    · have ek := (hI.2.2 k (by have := hI.2.1; omega)).2.1 h4
      exact .inr (.inr ⟨k, by have := hI.2.1; have := hI.1; omega, by rw [ek]; exact h4, by rw [ek, e]; exact h5, h6, by rw [e]; exact h7⟩)
  · rcases (h3.2.2 (by omega)).2 with e | e
    · exact .inl (by omega)
    · obtain ⟨k, hk, h4, h5⟩ := hF i hi (by omega) (by omega)
      unfold goesOn at h4
      rw [Bool.and_eq_true, Bool.or_eq_true, beq_iff_eq] at h4
      have h40 := of_decide_eq_true h4.1
      have hk3 := hI.2.2 k hk
      have ek := hk3.2.1 h40
      refine .inr (.inr ⟨k, by have := hI.1; omega, by rw [ek]; exact h40, by rw [ek, e]; have := hk3.1; omega, ?_, by rw [e, show t + 1 - 1 = t by omega]; exact h5⟩)
      rcases h4.2 with h6 | h6
      · exact .inl (of_decide_eq_true h6)
      · exact .inr h6
theorem why_reach (p : List S103) (n : Nat) (first src a : Int) : ∀ (d : Nat) (t : Int) (O : List Int), 0 ≤ t → Old n t O → (∀ i, i < n → Why p first src a O i) → ∀ i, i < n → Why p first src a (reachT p n first src d t O) i
  | 0, _, _, _, _, h => h
  | d + 1, t, O, ht, hO, h => why_reach p n first src a d (t + 1) _ (by omega) (hO.tick ht p first src) (why_tick p n first src a t O ht hO h)
theorem why_init (p : List S103) (n : Nat) (first src a : Int) (h : idxB src n = true) : ∀ i, i < n → Why p first src a ((List.replicate n (-1)).set src.toNat a) i := by
  obtain ⟨h0, h1⟩ := (idxB_iff _ _).1 h
  intro i hi
  unfold Why
  rw [rd_set (by simp; omega)]
  by_cases e : i = src.toNat
  · rw [if_pos e]
    exact .inr (.inl ⟨by omega, rfl⟩)
  · rw [if_neg e]
    refine .inl ?_
    have : rd (List.replicate n (-1)) ((i : Nat) : Int) = -1 := by
      rw [rd_nat, List.getD_eq_getElem?_getD, List.getElem?_replicate, if_pos hi]; rfl
    rw [this]; decide
/-- All of it: what a list that is not empty says of its entries, and of the list of one tick more. -/
theorem reach_facts (p : List S103) (x first src a b : Int) (ha : a ≤ 12) (hb0 : 0 ≤ b) (hb : b ≤ 25) (i : Nat) (hi : i < (reachFrom p x first src a b).length) :
    Why p first src a (reachFrom p x first src a b) i ∧ -1 ≤ rd (reachFrom p x first src a b) ((i : Nat) : Int) ∧ rd (reachFrom p x first src a b) ((i : Nat) : Int) ≤ 100 ∧ (rd (reachFrom p x first src a b) ((i : Nat) : Int) ≥ 0 → rd (reachFrom p x first src a (b + 1)) ((i : Nat) : Int) = rd (reachFrom p x first src a b) ((i : Nat) : Int)) := by
  by_cases hc : inR x 1 12 = true ∧ idxB src x.toNat = true ∧ ¬ a < 0 ∧ ¬ b > 1000
  · have hc2 : inR x 1 12 = true ∧ idxB src x.toNat = true ∧ ¬ a < 0 ∧ ¬ b + 1 > 1000 := ⟨hc.1, hc.2.1, hc.2.2.1, by omega⟩
    have h0 := Old.init hc.2.1 (show 0 ≤ a by omega)
    have hO := Old.reach p first src (b - a).toNat a _ (by omega) h0
    have hW := why_reach p x.toNat first src a (b - a).toNat a _ (by omega) h0 (why_init p x.toNat first src a hc.2.1)
    have e1 : reachFrom p x first src a b = reachT p x.toNat first src (b - a).toNat a ((List.replicate x.toNat (-1)).set src.toNat a) := by unfold reachFrom; rw [if_pos hc]
    have e2 : reachFrom p x first src a (b + 1) = reachT p x.toNat first src (b + 1 - a).toNat a ((List.replicate x.toNat (-1)).set src.toNat a) := by unfold reachFrom; rw [if_pos hc2]
    have e3 : reachFrom p x first src a (b + 1) = reachFrom p x first src a b ∨ reachFrom p x first src a (b + 1) = tick p x.toNat first src (a + ((b - a).toNat : Nat)) (reachFrom p x first src a b) := by
      by_cases hab : a ≤ b
      · right
        rw [e1, e2, show (b + 1 - a).toNat = (b - a).toNat + 1 by omega]
        exact reachT_snoc p x.toNat first src (b - a).toNat a _
      · left
        rw [e1, e2, show (b + 1 - a).toNat = (b - a).toNat by omega]
    rw [← e1] at hO hW
    have hl := hO.1
    have hi2 := hO.2 i (by omega)
    refine ⟨hW i (by omega), by omega, by omega, fun h => ?_⟩
    rcases e3 with e | e
    · rw [e]
    · rw [e]
      exact ((tick_from p x.toNat first src _ _ (by omega) hO).1.2.2 i (by omega)).2.1 h
  · have : reachFrom p x first src a b = [] := by unfold reachFrom; rw [if_neg hc]
    rw [this] at hi
    simp at hi
theorem reaching_le (l : List Int) : reaching l ≤ (l.length : Int) := by
  unfold reaching countP
  have := List.length_filter_le (fun i => decide (rd l ((i : Nat) : Int) ≥ 0)) (List.range' 0 l.length)
  rw [List.length_range'] at this
  omega
theorem whole_all (p : List S103) (x first src a b : Int) (h : whole p x first a b = true) : reaching (reachFrom p x first src a b) = ((reachFrom p x first src a b).length : Int) := by
  unfold whole at h
  by_cases hx : inR x 1 12 = true
  · rw [if_pos hx] at h
    have hb : 1 ≤ x ∧ x ≤ 12 := by simpa [inR] using hx
    by_cases hs : idxB src x.toNat = true
    · obtain ⟨h0, h1⟩ := (idxB_iff _ _).1 hs
      have hany : (List.range' 0 x.toNat).any (wholeQ p x first a b) = false := by
        cases hq : (List.range' 0 x.toNat).any (wholeQ p x first a b) with
        | true => rw [hq] at h; simp at h
        | false => rfl
      rw [List.any_eq_false] at hany
      have := hany src.toNat (by rw [List.mem_range'_1]; omega)
      unfold wholeQ at this
      rw [show ((src.toNat : Nat) : Int) = src by omega] at this
      have e : reaching (reachFrom p x first src a b) = x := by simpa using this
      have hle := reaching_le (reachFrom p x first src a b)
      by_cases hc : inR x 1 12 = true ∧ idxB src x.toNat = true ∧ ¬ a < 0 ∧ ¬ b > 1000
      · have hl : (reachFrom p x first src a b).length = x.toNat := by
          have := (Old.reach p first src (b - a).toNat a _ (by omega) (Old.init hs (show 0 ≤ a by omega))).1
          unfold reachFrom
          rw [if_pos hc]
          exact this
        omega
      · have e0 : reachFrom p x first src a b = [] := by unfold reachFrom; rw [if_neg hc]
        rw [e0] at hle e
        simp at hle
        omega
    · have e0 : reachFrom p x first src a b = [] := by unfold reachFrom; rw [if_neg (fun hc => hs hc.2.1)]
      rw [e0]; rfl
  · rw [if_neg hx] at h; cases h

/-! @@ FnReach -/
theorem loop1 (x first z src a b : Int) (p : List S103) (L M : List Int) (i : Nat) (hi : i < L.length) (hl : L.length ≤ 12) (hlo : -1 ≤ rd L ((i : Nat) : Int)) (hhi : rd L ((i : Nat) : Int) ≤ 100) (R : Bool) (hR : Ev (fun k => laws_FnReach.l0 k src a b L M ((i + 1 : Nat) : Int) x first z p) R) :
    ∀ (e j : Nat) (s : Bool), j + e = L.length → (s = true ∨ ∃ k : Nat, j ≤ k ∧ k < L.length ∧ rd L ((k : Nat) : Int) ≥ 0 ∧ rd L ((k : Nat) : Int) < rd L ((i : Nat) : Int) ∧ (((k : Nat) : Int) < first ∨ ((k : Nat) : Int) = src) ∧ hasLink p (pieceAt p (rd L ((i : Nat) : Int) - 1)) ((k : Nat) : Int) ((i : Nat) : Int) = true) → Ev (fun k => laws_FnReach.l1 k src a b L M ((i : Nat) : Int) s ((j : Nat) : Int) x first z p) R := by
  intro e
  induction e with
  | zero =>
    intro j s hj hs
    have hs : s = true := by
      rcases hs with h | ⟨k, h1, h2, _⟩
      · exact h
      · omega
    exact Ev.step (fun k => by simp only [laws_FnReach.l1]; rw [if_neg (by omega), if_pos hs, wrap_nat (by omega)]) hR
  | succ e ih =>
    intro j s hj hs
    by_cases c : s = true
    · exact Ev.step (fun k => by simp only [laws_FnReach.l1]; rw [if_pos (by omega), if_pos c, wrap_nat (by omega)]) hR
    · have hs : ∃ k : Nat, j ≤ k ∧ k < L.length ∧ rd L ((k : Nat) : Int) ≥ 0 ∧ rd L ((k : Nat) : Int) < rd L ((i : Nat) : Int) ∧ (((k : Nat) : Int) < first ∨ ((k : Nat) : Int) = src) ∧ hasLink p (pieceAt p (rd L ((i : Nat) : Int) - 1)) ((k : Nat) : Int) ((i : Nat) : Int) = true := by
        rcases hs with h | h
        · exact absurd h c
        · exact h
      have ih0 : (∃ k : Nat, j + 1 ≤ k ∧ k < L.length ∧ rd L ((k : Nat) : Int) ≥ 0 ∧ rd L ((k : Nat) : Int) < rd L ((i : Nat) : Int) ∧ (((k : Nat) : Int) < first ∨ ((k : Nat) : Int) = src) ∧ hasLink p (pieceAt p (rd L ((i : Nat) : Int) - 1)) ((k : Nat) : Int) ((i : Nat) : Int) = true) → Ev (fun k => laws_FnReach.l1 k src a b L M ((i : Nat) : Int) false ((j + 1 : Nat) : Int) x first z p) R := fun h => ih (j + 1) false (by omega) (.inr h)
      obtain ⟨k0, k1, k2, k3, k4, k5, k6⟩ := hs
      have next : ¬ (rd L ((j : Nat) : Int) ≥ 0 ∧ rd L ((j : Nat) : Int) < rd L ((i : Nat) : Int) ∧ (((j : Nat) : Int) < first ∨ ((j : Nat) : Int) = src) ∧ hasLink p (pieceAt p (rd L ((i : Nat) : Int) - 1)) ((j : Nat) : Int) ((i : Nat) : Int) = true) → Ev (fun k => laws_FnReach.l1 k src a b L M ((i : Nat) : Int) false ((j + 1 : Nat) : Int) x first z p) R := fun hn => by
        refine ih0 ⟨k0, ?_, k2, k3, k4, k5, k6⟩
        by_cases e : k0 = j
        · subst e; exact absurd ⟨k3, k4, k5, k6⟩ hn
        · omega
      have hlink : ∀ n, impl_IsLinked.f x first z p ((j : Nat) : Int) ((i : Nat) : Int) (wrap64 (rd L ((i : Nat) : Int) - 1)) = some n → n = hasLink p (pieceAt p (rd L ((i : Nat) : Int) - 1)) ((j : Nat) : Int) ((i : Nat) : Int) := fun n h => by
        rw [impl_IsLinked.val, wrap_id (by omega) (by omega)] at h
        exact (Option.some.inj h).symm
      have go : (((j : Nat) : Int) < first ∨ ((j : Nat) : Int) = src) → rd L ((j : Nat) : Int) ≥ 0 → rd L ((j : Nat) : Int) < rd L ((i : Nat) : Int) → Ev (fun k => laws_FnReach.l1 k src a b L M ((i : Nat) : Int) (hasLink p (pieceAt p (rd L ((i : Nat) : Int) - 1)) ((j : Nat) : Int) ((i : Nat) : Int)) ((j + 1 : Nat) : Int) x first z p) R := fun h1 h2 h3 => by
        by_cases c5 : hasLink p (pieceAt p (rd L ((i : Nat) : Int) - 1)) ((j : Nat) : Int) ((i : Nat) : Int) = true
        · rw [c5]
          exact ih (j + 1) true (by omega) (.inl rfl)
        · rw [show hasLink p (pieceAt p (rd L ((i : Nat) : Int) - 1)) ((j : Nat) : Int) ((i : Nat) : Int) = false by simpa using c5]
          exact next fun h => c5 h.2.2.2
      have hw : impl_IsLinked.f x first z p ((j : Nat) : Int) ((i : Nat) : Int) (wrap64 (rd L ((i : Nat) : Int) - 1)) = some (hasLink p (pieceAt p (rd L ((i : Nat) : Int) - 1)) ((j : Nat) : Int) ((i : Nat) : Int)) := by
        rw [impl_IsLinked.val, wrap_id (by omega) (by omega)]
      have start : ∀ (g : Nat → Option Bool), (∀ k, (if rd L ((j : Nat) : Int) ≥ 0 then (if rd L ((j : Nat) : Int) < rd L ((i : Nat) : Int) then (if ((j : Nat) : Int) < first then laws_FnReach.l1 k src a b L M ((i : Nat) : Int) (hasLink p (pieceAt p (rd L ((i : Nat) : Int) - 1)) ((j : Nat) : Int) ((i : Nat) : Int)) ((j + 1 : Nat) : Int) x first z p else if ((j : Nat) : Int) = src then laws_FnReach.l1 k src a b L M ((i : Nat) : Int) (hasLink p (pieceAt p (rd L ((i : Nat) : Int) - 1)) ((j : Nat) : Int) ((i : Nat) : Int)) ((j + 1 : Nat) : Int) x first z p else laws_FnReach.l1 k src a b L M ((i : Nat) : Int) false ((j + 1 : Nat) : Int) x first z p) else laws_FnReach.l1 k src a b L M ((i : Nat) : Int) false ((j + 1 : Nat) : Int) x first z p) else laws_FnReach.l1 k src a b L M ((i : Nat) : Int) false ((j + 1 : Nat) : Int) x first z p) = g k) → Ev g R → Ev (fun k => laws_FnReach.l1 k src a b L M ((i : Nat) : Int) s ((j : Nat) : Int) x first z p) R := fun g hg h =>
        Ev.step (fun k => by
          rw [← hg k]
          simp only [laws_FnReach.l1]
          rw [if_pos (by omega), if_neg c, if_pos (by omega), if_pos (show 0 ≤ ((i : Nat) : Int) by omega), if_pos (show ((i : Nat) : Int) < (L.length : Int) by omega), wrap_nat (by omega), hw, Option.bind_some]) h
      by_cases c2 : rd L ((j : Nat) : Int) ≥ 0
      · by_cases c3 : rd L ((j : Nat) : Int) < rd L ((i : Nat) : Int)
        · by_cases c4 : ((j : Nat) : Int) < first
          · exact start _ (fun k => by rw [if_pos c2, if_pos c3, if_pos c4]) (go (.inl c4) c2 c3)
          · by_cases c5 : ((j : Nat) : Int) = src
            · exact start _ (fun k => by rw [if_pos c2, if_pos c3, if_neg c4, if_pos c5]) (go (.inr c5) c2 c3)
            · exact start _ (fun k => by rw [if_pos c2, if_pos c3, if_neg c4, if_neg c5]) (next fun h => by rcases h.2.2.1 with h | h; exact c4 h; exact c5 h)
        · exact start _ (fun k => by rw [if_pos c2, if_neg c3]) (next fun h => c3 h.2.1)
      · exact start _ (fun k => by rw [if_neg c2]) (next fun h => c2 h.1)
theorem proved : Stated := by
  intro l0 ⟨hl, hw⟩
  refine Ev.rounds ?_
  refine Ev.congr (fun k => by unfold laws_FnReach.f; rw [laws_big.val, Option.bind_some]) ?_
  by_cases hb : decide ((l0.length : Int) > 1048576) = true
  · exact Ev.all fun k => by rw [if_pos hb]
  have hb' : ¬ ((l0.length : Int) > 1048576) := fun h => hb (decide_eq_true h)
  obtain ⟨x, first, z, p, src, a, b, hdraw, hp, ha, hb0, hb1⟩ := spec_DrawReachFrom.ok l0 (by omega)
  have hlen := reach_len p x first src a b
  have hM := impl_ReachFrom.ev x first z p src a (b + 1)
  refine Ev.congr (fun k => by rw [if_neg hb]) (Ev.bind hdraw (Ev.bind (impl_ReachFrom.ev x first z p src a b) (Ev.bind (spec_ReachFrom.ev x first z p src a b hp) ?_)))
  have hA := fun (i : Int) => impl_ArrivalAt.ev x first z p src i a b
  have hC := impl_ReachCount.ev x first z p src a b
  have hW := impl_IsWhole.ev x first z p a b
  have hWh := whole_all p x first src a b
  have hfacts := reach_facts p x first src a b ha hb0 hb1
  have hle := reaching_le (reachFrom p x first src a b)
  refine Ev.congr (fun k => by rw [if_pos rfl]; show _ = (impl_ReachFrom.f k x first z p src a (b + 1)).bind fun t451 => laws_FnReach.l0 k src a b (reachFrom p x first src a b) t451 0 x first z p; rw [show wrap64 (b + 1) = b + 1 from wrap_id (by omega) (by omega)]) (Ev.bind hM ?_)
  generalize reachFrom p x first src a b = L at hlen hA hC hWh hfacts hle
  generalize reachFrom p x first src a (b + 1) = M at hfacts
  have hend : Ev (fun k => laws_FnReach.l0 k src a b L M ((L.length : Nat) : Int) x first z p) true := by
    refine Ev.step (fun k => by simp only [laws_FnReach.l0]; rw [if_neg (by omega)]) (Ev.bind hC (Ev.congr (fun k => by rw [if_pos hle]) (Ev.bind hW ?_)))
    by_cases c : whole p x first a b = true
    · refine Ev.congr (fun k => by rw [if_pos c]) (Ev.bind hC (Ev.all fun k => ?_))
      rw [hWh c]
      simp
    · exact Ev.all fun k => by rw [if_neg c]
  have : ∀ e i : Nat, i + e = L.length → Ev (fun k => laws_FnReach.l0 k src a b L M ((i : Nat) : Int) x first z p) true := by
    intro e
    induction e with
    | zero =>
      intro i hi
      have : i = L.length := by omega
      subst this
      exact hend
    | succ e ih =>
      intro i hi
      obtain ⟨hwhy, hlo, hhi, hmore⟩ := hfacts i (by omega)
      have harr : arrival L ((i : Nat) : Int) = rd L ((i : Nat) : Int) := by
        unfold arrival
        rw [if_pos ((idxB_iff _ _).2 ⟨by omega, by omega⟩)]
      have hj2 : ∀ s : Bool, (s = true ∨ ∃ k : Nat, 0 ≤ k ∧ k < L.length ∧ rd L ((k : Nat) : Int) ≥ 0 ∧ rd L ((k : Nat) : Int) < rd L ((i : Nat) : Int) ∧ (((k : Nat) : Int) < first ∨ ((k : Nat) : Int) = src) ∧ hasLink p (pieceAt p (rd L ((i : Nat) : Int) - 1)) ((k : Nat) : Int) ((i : Nat) : Int) = true) → Ev (fun k => laws_FnReach.j2 k src a b L M ((i : Nat) : Int) s x first z p) true := fun s hs =>
        Ev.step (fun k => by simp only [laws_FnReach.j2]; rfl) (loop1 x first z src a b p L M i (by omega) hlen hlo hhi true (ih (i + 1) (by omega)) L.length 0 s (by omega) hs)
      have hj1 : Ev (fun k => laws_FnReach.j1 k src a b L M ((i : Nat) : Int) false x first z p) true := by
        have hrest : (rd L ((i : Nat) : Int) = a → ((i : Nat) : Int) ≠ src) → (decide (rd L ((i : Nat) : Int) < 0) = true ∨ ∃ k : Nat, 0 ≤ k ∧ k < L.length ∧ rd L ((k : Nat) : Int) ≥ 0 ∧ rd L ((k : Nat) : Int) < rd L ((i : Nat) : Int) ∧ (((k : Nat) : Int) < first ∨ ((k : Nat) : Int) = src) ∧ hasLink p (pieceAt p (rd L ((i : Nat) : Int) - 1)) ((k : Nat) : Int) ((i : Nat) : Int) = true) := fun hn => by
          rcases hwhy with h | h | ⟨k, h⟩
          · exact .inl (decide_eq_true h)
          · exact absurd h.1 (hn h.2)
          · exact .inr ⟨k, Nat.zero_le k, h⟩
        by_cases c1 : ((i : Nat) : Int) = src
        · by_cases c2 : rd L ((i : Nat) : Int) = a
          · exact Ev.step (fun k => by simp only [laws_FnReach.j1]; rw [if_neg (by simp), if_pos c1, if_pos (by omega), if_pos (by omega), if_pos c2]) (hj2 true (.inl rfl))
          · exact Ev.step (fun k => by simp only [laws_FnReach.j1]; rw [if_neg (by simp), if_pos c1, if_pos (by omega), if_pos (by omega), if_neg c2]) (hj2 _ (hrest fun h => absurd h c2))
        · exact Ev.step (fun k => by simp only [laws_FnReach.j1]; rw [if_neg (by simp), if_neg c1, if_pos (by omega), if_pos (by omega)]) (hj2 _ (hrest fun _ => c1))
      refine Ev.step (fun k => by simp only [laws_FnReach.l0]; rw [if_pos (by omega)]) (Ev.bind (hA ((i : Nat) : Int)) ?_)
      refine Ev.congr (fun k => by rw [if_pos (by omega), if_pos harr]) ?_
      by_cases c1 : (M.length : Int) = (L.length : Int)
      · by_cases c2 : rd L ((i : Nat) : Int) ≥ 0
        · have : (rd M ((i : Nat) : Int) != rd L ((i : Nat) : Int)) = false := by rw [hmore c2]; simp
          exact Ev.congr (fun k => by rw [if_pos c1, if_pos c2, if_pos (by omega), this]) hj1
        · exact Ev.congr (fun k => by rw [if_pos c1, if_neg c2]) hj1
      · exact Ev.congr (fun k => by rw [if_neg c1]) hj1
  exact this L.length 0 (by omega)

end Go.Proofs.Ytdodogkgmpaioaa.PureFnReach
