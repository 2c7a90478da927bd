/- FnReserved, over numbers and lists alone: what the program's function and the reference's answer is one. Conditions: the numbers are of their kinds. -/
import Derived.Test.YtdodogkgmpaioaaKindsFnReserved
import Derived.Test.YtdodogkgmpaioaaVFnReservedBase
namespace Go.Proofs.Ytdodogkgmpaioaa.PureFnReserved
open Go.RowKit Go.Proofs.Ytdodogkgmpaioaa.PFnReserved Go.Proofs.YtdodogkgmpaioaaW.PrintWords Go.Proofs.YtdodogkgmpaioaaW.PrintLast Go.Proofs.YtdodogkgmpaioaaW.PrintMore Go.Proofs.Ytdodogkgmpaioaa.Base
set_option linter.unusedVariables false
set_option linter.unusedSimpArgs false

/-! impl_InRange -/
theorem impl_InRange.val (a lo hi : Int) : impl_InRange.f a lo hi = some (inR a lo hi) := by
  unfold impl_InRange.f inR
  by_cases h : lo ≤ a
  · rw [if_pos h]; simp [h]
  · rw [if_neg h]; simp; omega

/-! impl_isNumber -/
theorem impl_isNumber.val (a : Int) : impl_isNumber.f a = some (inR a 1 12) := by
  unfold impl_isNumber.f
  rw [impl_InRange.val]; rfl

/-! impl_isIndex -/
theorem impl_isIndex.val (a n : Int) : impl_isIndex.f a n = some (decide (0 ≤ a) && decide (a < n)) := by
  unfold impl_isIndex.f
  by_cases h : a ≥ 0
  · rw [if_pos h]; simp [h]
  · rw [if_neg h]; simp; omega
theorem impl_isIndex.nat (a : Int) (n : Nat) : impl_isIndex.f a (n : Int) = some (idxB a n) := impl_isIndex.val a n

/-! slices_Clone_int_int -/
theorem slices_Clone_int_int.val (l : List Int) (hl : l.length ≤ 1048576) : slices_Clone_int_int.f l = some l := by
  unfold slices_Clone_int_int.f
  rw [if_pos (by omega)]

/-! impl_cloneTable -/
theorem impl_cloneTable.val (x : Int) (l m : List Int) (hl : l.length ≤ 1048576) (hm : m.length ≤ 1048576) : impl_cloneTable.f x l m = some (x, l, m) := by
  unfold impl_cloneTable.f
  rw [slices_Clone_int_int.val l hl, Option.bind_some, slices_Clone_int_int.val m hm, Option.bind_some]

/-! d_fitTi -/
def fitTi (n : Nat) (x : S80) : Prop := x.f1.length ≤ n ∧ x.f2.length ≤ n

/-! d_fitPi -/
def fitPi (n : Nat) (x : S103) : Prop := x.f1.length ≤ n ∧ x.f2.length ≤ n ∧ ∀ t ∈ x.f2, fitTi n t
def fitQi (n : Nat) (l : List S103) : Prop := l.length ≤ n ∧ ∀ x ∈ l, fitPi n x

/-! d_tableIn -/
def tableIn (p : List S103) (k d : Int) : Int × List Int × List Int × Bool :=
  if idxB k p.length = true then (if idxB d (rd_T103 p k).f2.length = true then ((rd_T80 (rd_T103 p k).f2 d).f0, (rd_T80 (rd_T103 p k).f2 d).f1, (rd_T80 (rd_T103 p k).f2 d).f2, true) else (0, [], [], false)) else (0, [], [], false)
theorem fit_rd {n : Nat} {p : List S103} (hp : fitQi n p) {k : Int} (hk : idxB k p.length = true) : fitPi n (rd_T103 p k) := by
  obtain ⟨h0, h1⟩ := (idxB_iff _ _).1 hk
  exact hp.2 _ (getD_mem p z103 (by omega))
theorem fit_rdT {n : Nat} {p : List S103} (hp : fitQi n p) {k d : Int} (hk : idxB k p.length = true) (hd : idxB d (rd_T103 p k).f2.length = true) : fitTi n (rd_T80 (rd_T103 p k).f2 d) := by
  obtain ⟨h0, h1⟩ := (idxB_iff _ _).1 hd
  exact (fit_rd hp hk).2.2 _ (getD_mem _ z80 (by omega))
theorem tableIn_len {p : List S103} (hp : fitQi 1048576 p) (k d : Int) : (tableIn p k d).2.1.length ≤ 1048576 ∧ (tableIn p k d).2.2.1.length ≤ 1048576 := by
  unfold tableIn
  split
  · split
    · rename_i h1 h2
      exact fit_rdT hp h1 h2
    · exact ⟨by simp, by simp⟩
  · exact ⟨by simp, by simp⟩

/-! impl_TableIn -/
theorem impl_TableIn.val (a b c : Int) (p : List S103) (k d : Int) (hp : fitQi 1048576 p) : impl_TableIn.f a b c p k d = some (tableIn p k d) := by
  unfold impl_TableIn.f tableIn
  rw [impl_isIndex.nat, Option.bind_some]
  by_cases h : idxB k p.length = true
  · have hf := fit_rd hp h
    obtain ⟨h0, h1⟩ := (idxB_iff _ _).1 h
    rw [if_pos h, if_pos h, if_pos h0, if_pos h1, impl_isIndex.nat, Option.bind_some]
    by_cases h2 : idxB d (rd_T103 p k).f2.length = true
    · have hg := fit_rdT hp h h2
      obtain ⟨h3, h4⟩ := (idxB_iff _ _).1 h2
      rw [if_pos h2, if_pos h2, if_pos h3, if_pos h4, impl_cloneTable.val _ _ _ hg.1 hg.2]; rfl
    · rw [if_neg h2, if_neg h2]
  · rw [if_neg h, if_neg h]

/-! d_path -/
def pathO (l : List Int) (b : Int) : Nat → Int → Option (List Int)
  | 0, _ => none
  | d + 1, x => if idxB x l.length = true then (if x = b then some [x] else (pathO l b d (rd l x)).map (x :: ·)) else none
def pathR (o : Option (List Int)) (out : List Int) : List Int := match o with
  | none => []
  | some t => out ++ t
theorem pathR_map (o : Option (List Int)) (x : Int) (out : List Int) : pathR (o.map (x :: ·)) out = pathR o (out ++ [x]) := by
  cases o with
  | none => rfl
  | some t => simp [pathR]
def path (l : List Int) (a b : Int) : List Int := pathR (pathO l b (l.length + 1) a) []
theorem pathO_len (l : List Int) (b : Int) : ∀ (d : Nat) (x : Int) (t : List Int), pathO l b d x = some t → t.length ≤ d
  | 0, x, t, h => by simp [pathO] at h
  | d + 1, x, t, h => by
    rw [pathO] at h
    split at h
    · split at h
      · obtain rfl := Option.some.inj h; simp
      · obtain ⟨u, hu, rfl⟩ := Option.map_eq_some_iff.1 h
        have := pathO_len l b d _ u hu
        simpa using this
    · cases h
theorem path_len (l : List Int) (a b : Int) : (path l a b).length ≤ l.length + 1 := by
  unfold path
  cases h : pathO l b (l.length + 1) a with
  | none => simp [pathR]
  | some t => simpa [pathR] using pathO_len l b _ _ _ h
theorem pathO_det (l : List Int) (b : Int) : ∀ (d d' : Nat) (x : Int) (t t' : List Int), pathO l b d x = some t → pathO l b d' x = some t' → t = t'
  | 0, _, x, t, t', h, _ => by simp [pathO] at h
  | d + 1, 0, x, t, t', _, h => by simp [pathO] at h
  | d + 1, d' + 1, x, t, t', h, h' => by
    rw [pathO] at h h'
    split at h
    · rename_i hx
      rw [if_pos hx] at h'
      split at h
      · rename_i hb
        rw [if_pos hb] at h'
        rw [← Option.some.inj h, ← Option.some.inj h']
      · rename_i hb
        rw [if_neg hb] at h'
        obtain ⟨u, hu, rfl⟩ := Option.map_eq_some_iff.1 h
        obtain ⟨u', hu', rfl⟩ := Option.map_eq_some_iff.1 h'
        rw [pathO_det l b d d' _ u u' hu hu']
    · cases h
theorem pathO_mem (l : List Int) (b : Int) : ∀ (d : Nat) (x : Int) (t : List Int), pathO l b d x = some t → ∀ y ∈ t, ∃ d' t', pathO l b d' y = some t' ∧ t'.length ≤ t.length
  | 0, x, t, h => by simp [pathO] at h
  | d + 1, x, t, h => by
    have h0 := h
    rw [pathO] at h
    intro y hy
    split at h
    · split at h
      · obtain rfl := Option.some.inj h
        obtain rfl := List.mem_singleton.1 hy
        exact ⟨_, _, h0, Nat.le_refl _⟩
      · obtain ⟨u, hu, rfl⟩ := Option.map_eq_some_iff.1 h
        cases hy with
        | head => exact ⟨_, _, h0, Nat.le_refl _⟩
        | tail _ hy =>
          obtain ⟨d', t', h1, h2⟩ := pathO_mem l b d _ u hu y hy
          exact ⟨d', t', h1, by rw [List.length_cons]; omega⟩
    · cases h
theorem pathO_nodup (l : List Int) (b : Int) : ∀ (d : Nat) (x : Int) (t : List Int), pathO l b d x = some t → t.Nodup
  | 0, x, t, h => by simp [pathO] at h
  | d + 1, x, t, h => by
    have h0 := h
    rw [pathO] at h
    split at h
    · split at h
      · obtain rfl := Option.some.inj h; simp
      · obtain ⟨u, hu, rfl⟩ := Option.map_eq_some_iff.1 h
        rw [List.nodup_cons]
        refine ⟨fun hx => ?_, pathO_nodup l b d _ u hu⟩
        obtain ⟨d', t', h1, h2⟩ := pathO_mem l b d _ u hu x hx
        have := pathO_det l b _ _ _ _ _ h0 h1
        rw [← this, List.length_cons] at h2
        omega
    · cases h
theorem path_nodup (l : List Int) (a b : Int) : (path l a b).Nodup := by
  unfold path
  cases h : pathO l b (l.length + 1) a with
  | none => simp [pathR]
  | some t => simpa [pathR] using pathO_nodup l b _ _ _ h

/-! impl_PathTo -/
theorem impl_PathTo.ev_l (l : List Int) (b : Int) (hl : l.length ≤ 1048576) : ∀ (d : Nat) (out : List Int) (x : Int), out.length + d = l.length + 1 → Ev (fun k => impl_PathTo.l0 k l x b out) (pathR (pathO l b d x) out) := by
  intro d
  induction d with
  | zero =>
    intro out x h
    refine Ev.step (fun k => by simp only [impl_PathTo.l0]; rw [if_neg (by omega)]) ?_
    exact Ev.one fun k => by simp only [impl_PathTo.j1]; rw [if_neg (by simp)]; rfl
  | succ d ih =>
    intro out x h
    refine Ev.step (fun k => by simp only [impl_PathTo.l0]; rw [if_pos (by omega), impl_isIndex.nat, Option.bind_some]) ?_
    rw [pathO]
    by_cases hx : idxB x l.length = true
    · obtain ⟨h0, h1⟩ := (idxB_iff _ _).1 hx
      rw [if_pos hx]
      by_cases hb : x = b
      · rw [if_pos hb]
        exact Ev.one fun k => by simp only [impl_PathTo.j1]; rw [if_pos hx, if_pos (by omega), Option.bind_some, if_pos hb]; rfl
      · rw [if_neg hb, pathR_map]
        exact Ev.step (fun k => by simp only [impl_PathTo.j1]; rw [if_pos hx, if_pos (by omega), Option.bind_some, if_neg hb, if_pos h0, if_pos h1]) (ih (out ++ [x]) (rd l x) (by rw [List.length_append, List.length_singleton]; omega))
    · rw [if_neg hx]
      exact Ev.one fun k => by simp only [impl_PathTo.j1]; rw [if_neg hx]; rfl
theorem impl_PathTo.ev (l : List Int) (a b : Int) (hl : l.length ≤ 1048576) : Ev (fun k => impl_PathTo.f k l a b) (path l a b) :=
  impl_PathTo.ev_l l b hl (l.length + 1) [] a (by simp)

/-! impl_RouteOf -/
theorem impl_RouteOf.ev (x : Int) (l m : List Int) (a : Int) (hm : m.length ≤ 1048576) : Ev (fun k => impl_RouteOf.f k x l m a) (path m a x) := Ev.bind (impl_PathTo.ev m a x hm) (Ev.now _)

/-! d_route -/
def routeP (p : List S103) (k src dst : Int) : List Int := if (tableIn p k dst).2.2.2 = true then path (tableIn p k dst).2.2.1 src (tableIn p k dst).1 else []
theorem routeP_len {p : List S103} (hp : fitQi 1048576 p) (k s d : Int) : (routeP p k s d).length ≤ 1048577 := by
  unfold routeP
  have := (tableIn_len hp k d).2
  split
  · have h2 := path_len (tableIn p k d).2.2.1 s (tableIn p k d).1
    omega
  · simp
theorem routeP_nodup (p : List S103) (k s d : Int) : (routeP p k s d).Nodup := by
  unfold routeP
  split
  · exact path_nodup _ _ _
  · simp

/-! impl_RouteIn -/
theorem impl_RouteIn.ev (a b c : Int) (p : List S103) (k : Int) (x0 x1 x2 x3 : Int) (hp : fitQi 1048576 p) : Ev (fun n => impl_RouteIn.f n a b c p k x0 x1 x2 x3) (routeP p k x1 x2) := by
  refine Ev.congr (fun n => by unfold impl_RouteIn.f; rw [impl_TableIn.val _ _ _ _ _ _ hp, Option.bind_some]) ?_
  have hl := (tableIn_len hp k x2).2
  unfold routeP
  by_cases h : (tableIn p k x2).2.2.2 = true
  · rw [if_pos h]
    exact Ev.congr (fun n => by rw [if_pos h]) (Ev.bind (impl_RouteOf.ev _ _ _ _ hl) (Ev.now _))
  · rw [if_neg h]
    exact Ev.all fun n => by rw [if_neg h]

/-! d_goes -/
def goesQ (r : List Int) (a b : Int) (i : Nat) : Bool := (rd r ((i - 1 : Nat) : Int) == a) && (rd r ((i : Nat) : Int) == b)
def goesB (r : List Int) (a b : Int) : Bool := (List.range' 1 (r.length - 1)).any (goesQ r a b)
theorem goes_once (r : List Int) (a b : Int) (h : r.Nodup) : ((List.range' 1 (r.length - 1)).filter (goesQ r a b)).length = if goesB r a b = true then 1 else 0 := by
  refine count_once _ _ (fun i j h1 h2 h3 h4 hi hj => ?_)
  unfold goesQ at hi hj
  simp only [Bool.and_eq_true, beq_iff_eq] at hi hj
  have := nodup_get r h (i - 1) (j - 1) (by omega) (by omega) (by rw [← rd_nat, ← rd_nat, hi.1, hj.1])
  omega

/-! impl_goes -/
theorem impl_goes.ev (r : List Int) (a b : Int) (hl : r.length ≤ 1048577) : Ev (fun k => impl_goes.f k r a b) (goesB r a b) := by
  have h := findE_at (g := fun k i => impl_goes.l0 k r a b i) (q := goesQ r a b) (r := true) (e := false) (1 + (r.length - 1)) 1 (fun i h1 hi => by
    have hk : ∀ k, impl_goes.l0 (k + 1) r a b i = if goesQ r a b i = true then some true else impl_goes.l0 k r a b ((i + 1 : Nat) : Int) := fun k => by
      simp only [impl_goes.l0]
      rw [if_pos (by omega), wrap_pred h1 (by omega), if_pos (by omega), if_pos (by omega), wrap_nat (by omega)]
      unfold goesQ
      by_cases h2 : rd r ((i - 1 : Nat) : Int) = a
      · rw [if_pos h2, if_pos (by omega), beq_iff_eq.mpr h2, Bool.true_and]
        by_cases h3 : rd r ((i : Nat) : Int) = b
        · rw [if_pos h3, if_pos (beq_iff_eq.mpr h3)]
        · rw [if_neg h3, if_neg (by simpa using h3)]
      · rw [if_neg h2, beq_eq_false_iff_ne.mpr h2, Bool.false_and, if_neg (by simp)]
    split
    · rename_i hq
      exact Ev.one fun k => by rw [hk, if_pos hq]
    · rename_i hq
      exact fun x hx => Ev.step (fun k => by rw [hk, if_neg hq]) hx) (r.length - 1) 1 (by omega) rfl (fun _ => Ev.one fun k => by simp only [impl_goes.l0]; rw [if_neg (by omega)])
  rw [ite_bool] at h
  exact h

/-! d_resOn -/
def resQ (p : List S103) (k a b : Int) (x : S42) : Bool := (x.f3 == 1) && goesB (routeP p k x.f1 x.f2) a b
def resOn (p : List S103) (l : List S42) (k a b : Int) : Int := countP (fun i => resQ p k a b (rd_T42 l ((i : Nat) : Int))) l.length

/-! impl_ReservedOn -/
theorem impl_ReservedOn.ev (x y z : Int) (p : List S103) (l : List S42) (kk a b : Int) (hp : fitQi 1048576 p) (hl : l.length ≤ 1048576) : Ev (fun k => impl_ReservedOn.f k x y z p l kk a b) (resOn p l kk a b) := by
  have h := foldE_index (g := fun k s i => impl_ReservedOn.l0 k kk a b s l l.length i x y z p) (f := fun i s => if resQ p kk a b (rd_T42 l ((i : Nat) : Int)) = true then wrap64 (s + 1) else s) (fin := fun s => s) (fun _ _ => True) l.length 0 trivial
    (fun s _ => Ev.one fun k => by simp only [impl_ReservedOn.l0]; rw [if_neg (by omega)])
    (fun i s hi hI => ⟨trivial, fun R hR => by
      have hr := routeP_len hp kk (rd_T42 l ((i : Nat) : Int)).f1 (rd_T42 l ((i : Nat) : Int)).f2
      refine Ev.step (fun k => by simp only [impl_ReservedOn.l0]; rw [if_pos (by omega), if_pos (by omega), if_pos (by omega), wrap_nat (by omega)]) ?_
      unfold resQ at hR
      by_cases h1 : (rd_T42 l ((i : Nat) : Int)).f3 = 1
      · refine Ev.congr (fun k => by rw [if_pos h1]) (Ev.bind (impl_RouteIn.ev x y z p kk _ _ _ _ hp) (Ev.bind (impl_goes.ev _ a b hr) ?_))
        rw [beq_iff_eq.mpr h1, Bool.true_and] at hR
        by_cases h2 : goesB (routeP p kk (rd_T42 l ((i : Nat) : Int)).f1 (rd_T42 l ((i : Nat) : Int)).f2) a b = true
        · rw [if_pos h2] at hR
          exact Ev.congr (fun k => by rw [if_pos h2]) hR
        · rw [if_neg h2] at hR
          exact Ev.congr (fun k => by rw [if_neg h2]) hR
      · rw [beq_eq_false_iff_ne.mpr h1, Bool.false_and, if_neg (by simp)] at hR
        exact Ev.congr (fun k => by rw [if_neg h1]) hR⟩)
  rw [count_countP _ _ (by omega)] at h
  exact h

/-! d_great -/
def greatB (p : List S103) (l : List S42) (n : Nat) (k a : Int) (s : Int) : Int := (List.range' 0 n).foldl (fun s b => mx s (resOn p l k a ((b : Nat) : Int))) s
def greatA (p : List S103) (l : List S42) (n : Nat) (k : Int) (s : Int) : Int := (List.range' 0 n).foldl (fun s a => greatB p l n k ((a : Nat) : Int) s) s
def great (p : List S103) (l : List S42) (a : Int) : Int := if inR a 1 12 = true then (List.range' 0 p.length).foldl (fun s k => greatA p l a.toNat ((k : Nat) : Int) s) 0 else 0

/-! impl_GreatestLoad -/
theorem impl_GreatestLoad.ev (x y z : Int) (p : List S103) (l : List S42) (hp : fitQi 1048576 p) (hl : l.length ≤ 1048576) : Ev (fun k => impl_GreatestLoad.f k x y z p l) (great p l x) := by
  have hpl := hp.1
  refine Ev.congr (fun k => by unfold impl_GreatestLoad.f; rw [impl_isNumber.val, Option.bind_some]) ?_
  unfold great
  by_cases hx : inR x 1 12 = true
  · rw [if_pos hx]
    refine Ev.congr (fun k => by rw [if_pos hx]) ?_
    have hb : 1 ≤ x ∧ x ≤ 12 := by simpa [inR] using hx
    refine foldE_index (g := fun k s i => impl_GreatestLoad.l0 k l s p.length i x y z p) (f := fun k s => greatA p l x.toNat ((k : Nat) : Int) s) (fin := fun s => s) (fun _ _ => True) p.length 0 trivial (fun s _ => Ev.one fun k => by simp only [impl_GreatestLoad.l0]; rw [if_neg (by omega)]) (fun j s hj _ => ⟨trivial, fun R hR => ?_⟩)
    refine Ev.step (fun k => by simp only [impl_GreatestLoad.l0]; rw [if_pos (by omega)]) ?_
    refine (foldE_to (g := fun k s i => impl_GreatestLoad.l1 k l s j p.length j x i x y z p) (f := fun a s => greatB p l x.toNat ((j : Nat) : Int) ((a : Nat) : Int) s) (fun _ _ => True) x.toNat 0 (fun a s _ ha _ => ⟨trivial, fun R hR => ?_⟩) x.toNat 0 s (by omega) (by omega) trivial).2 R (Ev.step (fun k => by simp only [impl_GreatestLoad.l1]; rw [if_neg (by omega), wrap_nat (by omega)]; rfl) hR)
    refine Ev.step (fun k => by simp only [impl_GreatestLoad.l1]; rw [if_pos (by omega)]) ?_
    refine (foldE_to (g := fun k s i => impl_GreatestLoad.l2 k l s j a p.length j x a x i x y z p) (f := fun b s => mx s (resOn p l ((j : Nat) : Int) ((a : Nat) : Int) ((b : Nat) : Int))) (fun _ _ => True) x.toNat 0 (fun b s _ hb _ => ⟨trivial, fun R hR => ?_⟩) x.toNat 0 s (by omega) (by omega) trivial).2 R (Ev.step (fun k => by simp only [impl_GreatestLoad.l2]; rw [if_neg (by omega), wrap_nat (by omega)]; rfl) hR)
    refine Ev.step (fun k => by simp only [impl_GreatestLoad.l2]; rw [if_pos (by omega), wrap_nat (by omega)]) (Ev.bind (impl_ReservedOn.ev x y z p l _ _ _ hp hl) ?_)
    exact hR
  · rw [if_neg hx]
    exact Ev.all fun k => by rw [if_neg hx]

/-! d_flowB -/
def flowB (a b c d n : Int) : Bool := inR a 0 9999 && (decide (0 ≤ b) && decide (b < n)) && (decide (0 ≤ c) && decide (c < n)) && decide (b ≠ c) && inR d 0 1

/-! impl_IsFlow -/
theorem impl_IsFlow.val (a b c d n : Int) : impl_IsFlow.f a b c d n = some (flowB a b c d n) := by
  unfold impl_IsFlow.f flowB
  simp only [impl_InRange.val, impl_isIndex.val, Option.bind_some]
  by_cases h1 : inR a 0 9999 = true <;> by_cases h2 : 0 ≤ b <;> by_cases h3 : b < n <;> by_cases h4 : 0 ≤ c <;> by_cases h5 : c < n <;> by_cases h6 : b = c <;> simp [h1, h2, h3, h4, h5, h6]

/-! slices_IndexFunc_impl_Flow_impl_Flow -/
theorem slices_IndexFunc_impl_Flow_impl_Flow.idxAt_iff (p : S42 → Bool) : ∀ (l : List S42) (i : Nat), decide (slices_IndexFunc_impl_Flow_impl_Flow.idxAt p l i ≥ 0) = l.any p
  | [], i => rfl
  | x :: l, i => by
    rw [slices_IndexFunc_impl_Flow_impl_Flow.idxAt, List.any_cons]
    by_cases h : p x = true
    · rw [if_pos h, h, Bool.true_or]; simp
    · rw [if_neg h, slices_IndexFunc_impl_Flow_impl_Flow.idxAt_iff p l (i + 1)]
      have : p x = false := by simpa using h
      rw [this, Bool.false_or]

/-! d_room -/
def roomQ (p : List S103) (l : List S42) (f1 f2 limit : Int) (k : Nat) : Bool := (List.range' 1 ((routeP p ((k : Nat) : Int) f1 f2).length - 1)).any fun i => decide (resOn p l ((k : Nat) : Int) (rd (routeP p ((k : Nat) : Int) f1 f2) ((i - 1 : Nat) : Int)) (rd (routeP p ((k : Nat) : Int) f1 f2) ((i : Nat) : Int)) ≥ limit)
def roomB (p : List S103) (l : List S42) (f1 f2 limit : Int) : Bool := if (List.range' 0 p.length).any (roomQ p l f1 f2 limit) = true then false else true

/-! impl_HasRoom -/
theorem impl_HasRoom.ev (x y z : Int) (p : List S103) (l : List S42) (f : S42) (limit : Int) (hp : fitQi 1048576 p) (hl : l.length ≤ 1048576) : Ev (fun k => impl_HasRoom.f k x y z p l f.f0 f.f1 f.f2 f.f3 limit) (roomB p l f.f1 f.f2 limit) := by
  have hpl := hp.1
  refine findE (g := fun k i => impl_HasRoom.l0 k l limit p.length i x y z p f.f0 f.f1 f.f2 f.f3) (q := roomQ p l f.f1 f.f2 limit) p.length (Ev.one fun k => by simp only [impl_HasRoom.l0]; rw [if_neg (by omega)]) (fun j hj => ?_)
  have hlen := routeP_len hp ((j : Nat) : Int) f.f1 f.f2
  have key : ∀ e, ((List.range' 1 ((routeP p ((j : Nat) : Int) f.f1 f.f2).length - 1)).any (fun i => decide (resOn p l ((j : Nat) : Int) (rd (routeP p ((j : Nat) : Int) f.f1 f.f2) ((i - 1 : Nat) : Int)) (rd (routeP p ((j : Nat) : Int) f.f1 f.f2) ((i : Nat) : Int)) ≥ limit)) = false → Ev (fun k => impl_HasRoom.l0 k l limit p.length ((j + 1 : Nat) : Int) x y z p f.f0 f.f1 f.f2 f.f3) e) → Ev (fun k => impl_HasRoom.l0 k l limit p.length j x y z p f.f0 f.f1 f.f2 f.f3) (if roomQ p l f.f1 f.f2 limit j = true then false else e) := fun e he => by
    refine Ev.step (fun k => by simp only [impl_HasRoom.l0]; rw [if_pos (by omega)]) (Ev.bind (impl_RouteIn.ev x y z p _ _ _ _ _ hp) ?_)
    unfold roomQ
    generalize routeP p ((j : Nat) : Int) f.f1 f.f2 = r at hlen he ⊢
    refine findE_at (g := fun k i => impl_HasRoom.l1 k l limit j r i p.length j x y z p f.f0 f.f1 f.f2 f.f3) (1 + (r.length - 1)) 1 (fun i h1 hi => ?_) (r.length - 1) 1 (by omega) rfl (fun hn => Ev.step (fun k => by simp only [impl_HasRoom.l1]; rw [if_neg (by omega), wrap_nat (by omega)]) (he hn))
    have hs : ∀ R, Ev (fun k => if resOn p l ((j : Nat) : Int) (rd r ((i - 1 : Nat) : Int)) (rd r ((i : Nat) : Int)) ≥ limit then some false else impl_HasRoom.l1 k l limit j r ((i + 1 : Nat) : Int) p.length j x y z p f.f0 f.f1 f.f2 f.f3) R → Ev (fun k => impl_HasRoom.l1 k l limit j r i p.length j x y z p f.f0 f.f1 f.f2 f.f3) R := fun R h =>
      Ev.step (fun k => by simp only [impl_HasRoom.l1]; rw [if_pos (by omega), wrap_pred h1 (by omega), if_pos (by omega), if_pos (by omega), if_pos (by omega), wrap_nat (by omega)]) (Ev.bind (impl_ReservedOn.ev x y z p l _ _ _ hp hl) h)
    by_cases hq : resOn p l ((j : Nat) : Int) (rd r ((i - 1 : Nat) : Int)) (rd r ((i : Nat) : Int)) ≥ limit
    · rw [if_pos (decide_eq_true hq)]
      exact hs _ (Ev.all fun k => by rw [if_pos hq])
    · rw [if_neg (by simpa using hq)]
      exact fun R hR => hs _ (Ev.congr (fun k => by rw [if_neg hq]) hR)
  by_cases h : roomQ p l f.f1 f.f2 limit j = true
  · rw [if_pos h]
    have := key true (fun hn => by unfold roomQ at h; rw [hn] at h; cases h)
    rw [if_pos h] at this
    exact this
  · rw [if_neg h]
    intro R hR
    have := key R (fun _ => hR)
    rw [if_neg h] at this
    exact this

/-! d_admit -/
def admF (x : Int) (p : List S103) (l : List S42) (f : S42) (limit : Int) : List S42 × Bool :=
  if flowB f.f0 f.f1 f.f2 f.f3 x = true then
    if (l.length : Int) ≥ 8 then (l, false)
    else if (l.any fun y => y.f0 == f.f0) = true then (l, false)
    else if f.f3 = 1 then (if roomB p l f.f1 f.f2 limit = true then (l ++ [f], true) else (l, false))
    else (l ++ [f], true)
  else (l, false)
theorem admit_len (x : Int) (p : List S103) (l : List S42) (f : S42) (limit : Int) : (admF x p l f limit).1.length ≤ l.length + 1 := by
  unfold admF
  repeat' split
  all_goals simp

/-! impl_AdmitFlow -/
theorem impl_AdmitFlow.ev (x y z : Int) (p : List S103) (l : List S42) (f : S42) (limit : Int) (hp : fitQi 1048576 p) (hl : l.length ≤ 1048576) : Ev (fun k => impl_AdmitFlow.f k x y z p l f.f0 f.f1 f.f2 f.f3 limit) (admF x p l f limit) := by
  have hc : slices_ContainsFunc_impl_Flow_impl_Flow.f l f.f0 f.f1 f.f2 f.f3 = some (l.any fun y => y.f0 == f.f0) := by
    unfold slices_ContainsFunc_impl_Flow_impl_Flow.f slices_IndexFunc_impl_Flow_impl_Flow.idx
    rw [slices_IndexFunc_impl_Flow_impl_Flow.idxAt_iff]
  refine Ev.congr (fun k => by unfold impl_AdmitFlow.f slices_Clone_impl_Flow_impl_Flow.f; rw [if_pos (by omega), Option.bind_some, impl_IsFlow.val, Option.bind_some, hc]) ?_
  have no : ∀ b : Bool, b = true → Ev (fun k => impl_AdmitFlow.j0 k l b f.f0 f.f1 f.f2 f.f3) (l, false) := fun b hb => Ev.one fun k => by simp only [impl_AdmitFlow.j0]; rw [if_pos hb]
  have yes : ∀ b : Bool, b = false → Ev (fun k => impl_AdmitFlow.j0 k l b f.f0 f.f1 f.f2 f.f3) (l ++ [f], true) := fun b hb => Ev.one fun k => by simp only [impl_AdmitFlow.j0]; rw [if_neg (by simp [hb]), if_pos (by omega)]
  unfold admF
  by_cases h1 : flowB f.f0 f.f1 f.f2 f.f3 x = true
  · rw [if_pos h1]
    by_cases h2 : (l.length : Int) ≥ 8
    · rw [if_pos h2]
      exact Ev.congr (fun k => by rw [if_pos h1, if_pos h2]) (no _ rfl)
    · rw [if_neg h2]
      by_cases h5 : (l.any fun y => y.f0 == f.f0) = true
      · rw [if_pos h5]
        exact Ev.congr (fun k => by rw [if_pos h1, if_neg h2, Option.bind_some, if_pos h5]) (no _ rfl)
      · rw [if_neg h5]
        by_cases h3 : f.f3 = 1
        · rw [if_pos h3]
          refine Ev.congr (fun k => by rw [if_pos h1, if_neg h2, Option.bind_some, if_neg h5, if_pos h3]) (Ev.bind (impl_HasRoom.ev x y z p l f limit hp hl) ?_)
          by_cases h4 : roomB p l f.f1 f.f2 limit = true
          · rw [if_pos h4]
            exact yes _ (by simp [h4])
          · rw [if_neg h4]
            exact no _ (by simpa using h4)
        · rw [if_neg h3]
          exact Ev.congr (fun k => by rw [if_pos h1, if_neg h2, Option.bind_some, if_neg h5, if_neg h3]) (yes _ rfl)
  · rw [if_neg h1]
    exact Ev.congr (fun k => by rw [if_neg h1]) (no _ rfl)

/-! laws_big -/
theorem laws_big.val (l : List Int) : laws_big.f l = some (decide ((l.length : Int) > 1048576)) := rfl

/-! d_cur -/
def Cur (p : Int) : Prop := 0 ≤ p ∧ p ≤ 1048576
theorem tmod_in {v n : Int} (hv : 0 ≤ v) (hn : 0 < n) : 0 ≤ Int.tmod v n ∧ Int.tmod v n < n := ⟨Int.tmod_nonneg n hv, Int.tmod_lt_of_pos v hn⟩

/-! spec_l1New -/
theorem spec_l1New.ev_l (l : List Int) (hl : l.length ≤ 1048576) : ∀ (d i : Nat), i + d = l.length → ∀ q, ∃ q', Ev (fun k => spec_l1New.l0 k l q i) (l, 0, q') := by
  intro d
  induction d with
  | zero =>
    intro i hi q
    exact ⟨q, Ev.one fun k => by simp only [spec_l1New.l0]; rw [if_neg (by omega)]⟩
  | succ d ih =>
    intro i hi q
    by_cases h : (i : Int) < 4000
    · obtain ⟨q', h'⟩ := ih (i + 1) (by omega) _
      exact ⟨q', Ev.step (fun k => by simp only [spec_l1New.l0]; rw [if_pos (by omega), if_pos h, if_pos (by omega), wrap_nat (by omega)]) h'⟩
    · exact ⟨q, Ev.one fun k => by simp only [spec_l1New.l0]; rw [if_pos (by omega), if_neg h]⟩
theorem spec_l1New.ev (l : List Int) (hl : l.length ≤ 1048576) : ∃ q', Ev (fun k => spec_l1New.f k l) (l, 0, q') :=
  spec_l1New.ev_l l hl l.length 0 (by omega) _

/-! spec_l1Byte -/
theorem spec_l1Byte.ok (l : List Int) (hl : l.length ≤ 1048576) (p q : Int) (hp : Cur p) : ∃ v p' q', spec_l1Byte.f l p q = some (v, p', q') ∧ 0 ≤ v ∧ v ≤ 255 ∧ Cur p' := by
  obtain ⟨h0, h1⟩ := hp
  unfold spec_l1Byte.f
  by_cases h : p < (l.length : Int)
  · rw [if_pos h, if_pos h0]
    refine ⟨_, _, _, rfl, (and255 _).1, (and255 _).2, ?_⟩
    rw [wrap_id (by omega) (by omega)]
    exact ⟨by omega, by omega⟩
  · rw [if_neg h]
    exact ⟨_, _, _, rfl, (and255 _).1, (and255 _).2, h0, h1⟩

/-! spec_l1Below -/
theorem spec_l1Below.ok (l : List Int) (hl : l.length ≤ 1048576) (p q n : Int) (hp : Cur p) : ∃ v p' q', spec_l1Below.f l p q n = some (v, p', q') ∧ 0 ≤ v ∧ (0 < n → v < n) ∧ Cur p' := by
  unfold spec_l1Below.f
  by_cases h : n ≤ 0
  · rw [if_pos h]
    exact ⟨_, _, _, rfl, by omega, by omega, hp⟩
  · rw [if_neg h]
    obtain ⟨v, p1, q1, e, h0, h1, hp1⟩ := spec_l1Byte.ok l hl p q hp
    by_cases h2 : n ≤ 256
    · rw [if_pos h2, e, Option.bind_some, if_neg (by omega)]
      have := tmod_in h0 (show 0 < n by omega)
      exact ⟨_, _, _, rfl, this.1, fun _ => this.2, hp1⟩
    · obtain ⟨v2, p2, q2, e2, h02, h12, hp2⟩ := spec_l1Byte.ok l hl p1 q1 hp1
      obtain ⟨v3, p3, q3, e3, h03, h13, hp3⟩ := spec_l1Byte.ok l hl p2 q2 hp2
      rw [if_neg h2, e, Option.bind_some, e2, Option.bind_some, e3, Option.bind_some, if_neg (by omega)]
      have hw : 0 ≤ wrap64 (wrap64 (wrap64 (v * 65536) + wrap64 (v2 * 256)) + v3) := by unfold wrap64; omega
      have := tmod_in hw (show 0 < n by omega)
      exact ⟨_, _, _, rfl, this.1, fun _ => this.2, hp3⟩

/-! spec_l1In -/
theorem spec_l1In.val (a lo hi : Int) : spec_l1In.f a lo hi = some (inR a lo hi) := by
  unfold spec_l1In.f inR
  by_cases h : a ≥ lo
  · rw [if_pos h]; simp [h]
  · rw [if_neg h]; simp; omega

/-! spec_l17Frame -/
theorem spec_l17Frame.ok (a b c : Int) : ∃ r, spec_l17Frame.f a b c = some r := by
  unfold spec_l17Frame.f
  simp only [spec_l1In.val, Option.bind_some]
  split
  · split
    · exact ⟨_, rfl⟩
    · exact ⟨_, rfl⟩
  · exact ⟨_, rfl⟩

/-! d_isSpan -/
def isSpan (a b : Int) : Bool := decide (0 ≤ a) && decide (b ≤ 1000) && decide (a < b)

/-! spec_IsSpan -/
theorem spec_IsSpan.val (a b : Int) : spec_IsSpan.f a b = some (isSpan a b) := by
  unfold spec_IsSpan.f isSpan
  by_cases h : a ≥ 0
  · rw [if_pos h]
    by_cases h2 : b ≤ 1000
    · rw [if_pos h2]; simp [h, h2]
    · rw [if_neg h2]; simp; omega
  · rw [if_neg h]; simp; omega

/-! spec_IsContact -/
theorem spec_IsContact.ok (a b c d n : Int) : ∃ r, spec_IsContact.f a b c d n = some r := by
  unfold spec_IsContact.f
  simp only [spec_IsSpan.val, Option.bind_some]
  split
  · split
    · split
      · exact ⟨_, rfl⟩
      · exact ⟨_, rfl⟩
    · exact ⟨_, rfl⟩
  · exact ⟨_, rfl⟩

/-! spec_l11Before -/
theorem spec_l11Before.ok (a b c d e f g h : Int) : ∃ r, spec_l11Before.f a b c d e f g h = some r := by
  unfold spec_l11Before.f
  split
  · split
    · exact ⟨_, rfl⟩
    · exact ⟨_, rfl⟩
  · exact ⟨_, rfl⟩

/-! spec_IsPlan -/
theorem spec_IsPlan.ok (p : List S144) (hp : p.length ≤ 1048576) (n : Int) : ∃ r, Ev (fun k => spec_IsPlan.f k p n) r := by
  have : ∀ e j : Nat, j + e = p.length → ∃ r, Ev (fun k => spec_IsPlan.l0 k p n (j : Int)) r := by
    intro e
    induction e with
    | zero =>
      intro j hj
      exact ⟨true, Ev.one fun k => by simp only [spec_IsPlan.l0]; rw [if_neg (by omega)]⟩
    | succ e ih =>
      intro j hj
      obtain ⟨r, hr⟩ := ih (j + 1) (by omega)
      obtain ⟨b, hb⟩ := spec_IsContact.ok ((rd_T144 p (j : Int)).f0) ((rd_T144 p (j : Int)).f1) ((rd_T144 p (j : Int)).f2) ((rd_T144 p (j : Int)).f3) n
      cases b with
      | false => exact ⟨false, Ev.one fun k => by simp only [spec_IsPlan.l0]; rw [if_pos (by omega), if_pos (by omega), hb, Option.bind_some, if_neg (by simp)]⟩
      | true =>
        by_cases c : (j : Int) > 0
        · obtain ⟨b2, hb2⟩ := spec_l11Before.ok ((rd_T144 p ((j - 1 : Nat) : Int)).f0) ((rd_T144 p ((j - 1 : Nat) : Int)).f1) ((rd_T144 p ((j - 1 : Nat) : Int)).f2) ((rd_T144 p ((j - 1 : Nat) : Int)).f3) ((rd_T144 p (j : Int)).f0) ((rd_T144 p (j : Int)).f1) ((rd_T144 p (j : Int)).f2) ((rd_T144 p (j : Int)).f3)
          cases b2 with
          | false => exact ⟨false, Ev.one fun k => by simp only [spec_IsPlan.l0]; rw [if_pos (by omega), if_pos (by omega), hb, Option.bind_some, if_pos rfl, if_pos c, wrap_pred (by omega) (by omega), if_pos (by omega), if_pos (by omega), hb2, Option.bind_some, if_neg (by simp)]⟩
          | true => exact ⟨r, Ev.step (fun k => by simp only [spec_IsPlan.l0]; rw [if_pos (by omega), if_pos (by omega), hb, Option.bind_some, if_pos rfl, if_pos c, wrap_pred (by omega) (by omega), if_pos (by omega), if_pos (by omega), hb2, Option.bind_some, if_pos rfl, wrap_nat (by omega)]) hr⟩
        · exact ⟨r, Ev.step (fun k => by simp only [spec_IsPlan.l0]; rw [if_pos (by omega), if_pos (by omega), hb, Option.bind_some, if_pos rfl, if_neg c, wrap_nat (by omega)]) hr⟩
  exact this p.length 0 (by omega)

/-! spec_Max -/
theorem spec_Max.val (a b : Int) : spec_Max.f a b = some (mx a b) := by
  unfold spec_Max.f mx
  by_cases h : b > a
  · rw [if_pos h, if_pos (by omega)]
  · rw [if_neg h, if_neg (by omega)]

/-! d_inSpan -/
def inSpan (a b t : Int) : Bool := isSpan a b && decide (a ≤ t) && decide (t < b)

/-! spec_InSpan -/
theorem spec_InSpan.val (a b t : Int) : spec_InSpan.f a b t = some (inSpan a b t) := by
  unfold spec_InSpan.f inSpan
  rw [spec_IsSpan.val, Option.bind_some]
  by_cases h : isSpan a b = true
  · rw [if_pos h]
    by_cases h2 : a ≤ t
    · rw [if_pos h2]; simp [h, h2]
    · rw [if_neg h2]; simp; omega
  · rw [if_neg h]; simp [h]

/-! spec_LinksAt -/
theorem spec_LinksAt.ok (p : List S144) (hp : p.length ≤ 1048576) (t : Int) : ∃ r, Ev (fun k => spec_LinksAt.f k p t) r ∧ r.length ≤ p.length := by
  have inner : ∀ (o : List S123) (j : Nat) (a b : Int), j < p.length → o.length ≤ j →
      (∀ o' : List S123, o'.length ≤ j + 1 → ∃ r, Ev (fun k => spec_LinksAt.l0 k p t o' (wrap64 ((j : Int) + 1))) r ∧ r.length ≤ p.length) →
      ∀ (e i : Nat) (f : Bool), i + e = o.length → ∃ r, Ev (fun k => spec_LinksAt.l1 k p t o (j : Int) f (i : Int) a b) r ∧ r.length ≤ p.length := by
    intro o j a b hj ho hnext e
    induction e with
    | zero =>
      intro i f hi
      cases f with
      | true =>
        obtain ⟨r, hr, hl⟩ := hnext o (by omega)
        exact ⟨r, Ev.step (fun k => by simp only [spec_LinksAt.l1]; rw [if_neg (by omega), if_pos trivial]) hr, hl⟩
      | false =>
        by_cases c : inSpan ((rd_T144 p (j : Int)).f2) ((rd_T144 p (j : Int)).f3) t = true
        · obtain ⟨r, hr, hl⟩ := hnext (o ++ [⟨a, b⟩]) (by rw [List.length_append, List.length_singleton]; omega)
          exact ⟨r, Ev.step (fun k => by simp only [spec_LinksAt.l1]; rw [if_neg (by omega), if_neg (by simp), if_pos (by omega), if_pos (by omega), spec_InSpan.val, Option.bind_some, if_pos c, if_pos (by omega)]) hr, hl⟩
        · obtain ⟨r, hr, hl⟩ := hnext o (by omega)
          exact ⟨r, Ev.step (fun k => by simp only [spec_LinksAt.l1]; rw [if_neg (by omega), if_neg (by simp), if_pos (by omega), if_pos (by omega), spec_InSpan.val, Option.bind_some, if_neg c]) hr, hl⟩
    | succ e ih =>
      intro i f hi
      cases f with
      | true =>
        obtain ⟨r, hr, hl⟩ := ih (i + 1) true (by omega)
        exact ⟨r, Ev.step (fun k => by simp only [spec_LinksAt.l1]; rw [if_pos (by omega), if_pos trivial, wrap_nat (by omega)]) hr, hl⟩
      | false =>
        obtain ⟨r, hr, hl⟩ := ih (i + 1) (((rd_T123 o (i : Int)).f0) == a && (((rd_T123 o (i : Int)).f1) == b)) (by omega)
        exact ⟨r, Ev.step (fun k => by simp only [spec_LinksAt.l1]; rw [if_pos (by omega), if_neg (by simp), if_pos (by omega), wrap_nat (by omega)]) hr, hl⟩
  have : ∀ e j : Nat, j + e = p.length → ∀ o : List S123, o.length ≤ j → ∃ r, Ev (fun k => spec_LinksAt.l0 k p t o (j : Int)) r ∧ r.length ≤ p.length := by
    intro e
    induction e with
    | zero =>
      intro j hj o ho
      exact ⟨o, Ev.one fun k => by simp only [spec_LinksAt.l0]; rw [if_neg (by omega)], by omega⟩
    | succ e ih =>
      intro j hj o ho
      obtain ⟨r, hr, hl⟩ := inner o j ((rd_T144 p (j : Int)).f0) ((rd_T144 p (j : Int)).f1) (by omega) ho (fun o' ho' => by rw [wrap_nat (by omega)]; exact ih (j + 1) (by omega) o' ho') o.length 0 false (by omega)
      exact ⟨r, Ev.step (fun k => by simp only [spec_LinksAt.l0]; rw [if_pos (by omega), if_pos (by omega)]; rfl) hr, hl⟩
  exact this p.length 0 (by omega) [] (by simp)

/-! spec_Min -/
theorem spec_Min.val (a b : Int) : spec_Min.f a b = some (mn a b) := by
  unfold spec_Min.f mn
  split <;> rfl

/-! spec_SameLinks -/
theorem spec_SameLinks.ok (a b : List S123) (ha : a.length ≤ 1048576) : ∃ r, Ev (fun k => spec_SameLinks.f k a b) r := by
  by_cases c : (a.length : Int) = (b.length : Int)
  · have h := find_index (g := fun k i => spec_SameLinks.l0 k a b i) (q := fun i => (!(((rd_T123 a (i : Int)).f0) == ((rd_T123 b (i : Int)).f0)) || (!(((rd_T123 a (i : Int)).f1) == ((rd_T123 b (i : Int)).f1))))) (r := false) (e := true) a.length
      (Ev.one fun k => by simp only [spec_SameLinks.l0]; rw [if_neg (by omega)])
      (fun i k hi => by simp only [spec_SameLinks.l0]; rw [if_pos (by omega), if_pos (by omega), if_pos (by omega), wrap_nat (by omega)])
    exact ⟨_, Ev.congr (fun k => by unfold spec_SameLinks.f; rw [if_pos c]) h⟩
  · exact ⟨false, Ev.all fun k => by unfold spec_SameLinks.f; rw [if_neg c]⟩

/-! spec_ChangesOf -/
theorem spec_ChangesOf.ok (p : List S144) (hp : p.length ≤ 1048576) (T : Nat) (hT1 : 1 ≤ T) (hT2 : T ≤ 1000) : ∃ r, Ev (fun k => spec_ChangesOf.f k p 0 (T : Int)) r ∧ r.length ≤ T ∧ (∀ x ∈ r, 1 ≤ x ∧ x < (T : Int)) ∧ r.Pairwise (fun a b => a < b) := by
  have : ∀ e j : Nat, j + e = T → 1 ≤ j → ∀ o : List Int, o.length ≤ j → (∀ x ∈ o, 1 ≤ x ∧ x < (j : Int)) → o.Pairwise (fun a b => a < b) → ∃ r, Ev (fun k => spec_ChangesOf.l0 k p o (T : Int) (j : Int)) r ∧ r.length ≤ T ∧ (∀ x ∈ r, 1 ≤ x ∧ x < (T : Int)) ∧ r.Pairwise (fun a b => a < b) := by
    intro e
    induction e with
    | zero =>
      intro j hj _ o ho ho1 ho2
      exact ⟨o, Ev.one fun k => by simp only [spec_ChangesOf.l0]; rw [if_neg (by omega)], by omega, fun x hx => by have := ho1 x hx; omega, ho2⟩
    | succ e ih =>
      intro j hj h1 o ho ho1 ho2
      obtain ⟨a, ha, hal⟩ := spec_LinksAt.ok p hp ((j - 1 : Nat) : Int)
      obtain ⟨b, hb, hbl⟩ := spec_LinksAt.ok p hp (j : Int)
      obtain ⟨s, hs⟩ := spec_SameLinks.ok a b (by omega)
      have hst : ∀ R, Ev (fun k => if s = true then spec_ChangesOf.l0 k p o (T : Int) (wrap64 ((j : Int) + 1)) else if o.length < 17592186044416 then spec_ChangesOf.l0 k p (o ++ [(j : Int)]) (T : Int) (wrap64 ((j : Int) + 1)) else none) R → Ev (fun k => spec_ChangesOf.l0 k p o (T : Int) (j : Int)) R := fun R h =>
        Ev.step (fun k => by simp only [spec_ChangesOf.l0]; rw [if_pos (by omega), wrap_pred (by omega) (by omega)]) (Ev.bind ha (Ev.bind hb (Ev.bind hs h)))
      cases s with
      | true =>
        obtain ⟨r, hr, hl⟩ := ih (j + 1) (by omega) (by omega) o (by omega) (fun x hx => by have := ho1 x hx; omega) ho2
        exact ⟨r, hst _ (Ev.congr (fun k => by rw [if_pos rfl, wrap_nat (by omega)]) hr), hl⟩
      | false =>
        obtain ⟨r, hr, hl⟩ := ih (j + 1) (by omega) (by omega) (o ++ [(j : Int)]) (by rw [List.length_append, List.length_singleton]; omega) (fun x hx => by
          rcases List.mem_append.1 hx with hx | hx
          · have := ho1 x hx; omega
          · rw [List.mem_singleton] at hx; omega) (List.pairwise_append.2 ⟨ho2, List.pairwise_singleton _ _, fun x hx y hy => by rw [List.mem_singleton] at hy; have := ho1 x hx; omega⟩)
        exact ⟨r, hst _ (Ev.congr (fun k => by rw [if_neg (by simp), if_pos (by omega), wrap_nat (by omega)]) hr), hl⟩
  obtain ⟨r, hr, hl⟩ := this (T - 1) 1 (by omega) (by omega) [] (by simp) (fun x hx => by cases hx) List.Pairwise.nil
  exact ⟨r, Ev.congr (fun k => by unfold spec_ChangesOf.f; rw [spec_Max.val, Option.bind_some, spec_Min.val, Option.bind_some, spec_Min.val, Option.bind_some, show mn 1000 (T : Int) = (T : Int) by unfold mn; split <;> omega, show wrap64 (mn 1000 (mx 0 0) + 1) = ((1 : Nat) : Int) by rw [show mn 1000 (mx 0 0) = 0 by decide]; unfold wrap64; omega]) hr, hl⟩

/-! spec_PiecesOf -/
theorem take_snocS {α : Type} (l : List α) (z : α) {i : Nat} (h : i < l.length) : l.take (i + 1) = l.take i ++ [l.getD i z] := by
  rw [List.take_add_one, List.getD_eq_getElem?_getD, List.getElem?_eq_getElem h]; rfl
def okS (l : List S99) : Prop := (∀ x ∈ l, isSpan x.f0 x.f1 = true) ∧ l.Pairwise fun a b => a.f1 ≤ b.f0
theorem spec_PiecesOf.ok (p : List S144) (hp : p.length ≤ 1048576) (T : Nat) (hT1 : 1 ≤ T) (hT2 : T ≤ 1000) : ∃ r, Ev (fun k => spec_PiecesOf.f k p 0 (T : Int)) r ∧ r.length ≤ T + 1 ∧ okS r := by
  obtain ⟨c, hc, hcl, hc1, hc2⟩ := spec_ChangesOf.ok p hp T hT1 hT2
  have hL : (c ++ [(T : Int)]).length ≤ T + 1 := by rw [List.length_append, List.length_singleton]; omega
  have hd1 : ∀ x ∈ c ++ [(T : Int)], 1 ≤ x ∧ x ≤ (T : Int) := fun x hx => by
    rcases List.mem_append.1 hx with hx | hx
    · have := hc1 x hx; omega
    · rw [List.mem_singleton] at hx; omega
  have hd2 : (c ++ [(T : Int)]).Pairwise fun a b => a < b := List.pairwise_append.2 ⟨hc2, List.pairwise_singleton _ _, fun x hx y hy => by rw [List.mem_singleton] at hy; have := hc1 x hx; omega⟩
  generalize hD : c ++ [(T : Int)] = D at hL hd1 hd2
  have hget : ∀ j : Nat, j < D.length → rd D ((j : Nat) : Int) ∈ D := fun j hj => by rw [rd_nat]; exact getD_mem D 0 hj
  have hmono : ∀ i j : Nat, i < j → j < D.length → rd D ((i : Nat) : Int) < rd D ((j : Nat) : Int) := fun i j hij hj => by
    have h := List.pairwise_iff_getElem.1 hd2 i j (by omega) hj hij
    rw [rd_nat, rd_nat, List.getD_eq_getElem?_getD, List.getD_eq_getElem?_getD, List.getElem?_eq_getElem (show i < D.length by omega), List.getElem?_eq_getElem hj]
    exact h
  have : ∀ e j : Nat, j + e = D.length → ∀ (o : List S99) (x : Int), o.length ≤ j → 0 ≤ x → (∀ i : Nat, j ≤ i → i < D.length → x < rd D ((i : Nat) : Int)) → okS o → (∀ y ∈ o, y.f1 ≤ x) → ∃ r, Ev (fun k => spec_PiecesOf.l0 k o x D (j : Int)) r ∧ r.length ≤ D.length ∧ okS r := by
    intro e
    induction e with
    | zero =>
      intro j hj o x ho _ _ hS _
      exact ⟨o, Ev.one fun k => by simp only [spec_PiecesOf.l0]; rw [if_neg (by omega)], by omega, hS⟩
    | succ e ih =>
      intro j hj o x ho hx0 hx hS hlast
      have h1 := hx j (by omega) (by omega)
      have h2 := hd1 _ (hget j (by omega))
      obtain ⟨r, hr, hl, hS2⟩ := ih (j + 1) (by omega) (o ++ [⟨x, rd D (j : Int)⟩]) (rd D (j : Int)) (by rw [List.length_append, List.length_singleton]; omega) (by omega) (fun i hi hi2 => hmono j i (by omega) hi2)
        ⟨fun y hy => by
          rcases List.mem_append.1 hy with hy | hy
          · exact hS.1 y hy
          · rw [List.mem_singleton] at hy
            subst hy
            unfold isSpan
            simp only [Bool.and_eq_true, decide_eq_true_eq]
            omega, List.pairwise_append.2 ⟨hS.2, List.pairwise_singleton _ _, fun y hy z hz => by
          rw [List.mem_singleton] at hz
          subst hz
          exact hlast y hy⟩⟩
        (fun y hy => by
          rcases List.mem_append.1 hy with hy | hy
          · have := hlast y hy; omega
          · rw [List.mem_singleton] at hy
            subst hy
            exact Int.le_refl _)
      exact ⟨r, Ev.step (fun k => by simp only [spec_PiecesOf.l0]; rw [if_pos (by omega), if_pos (by omega), if_pos (by omega), wrap_nat (by omega)]) hr, hl, hS2⟩
  obtain ⟨r, hr, hl, hS⟩ := this D.length 0 (by omega) [] 0 (by simp) (by omega) (fun i _ hi => by have := hd1 _ (hget i hi); omega) ⟨(fun x hx => by cases hx), List.Pairwise.nil⟩ (fun x hx => by cases hx)
  refine ⟨r, Ev.congr (fun k => by unfold spec_PiecesOf.f; rw [Option.bind_some, spec_IsSpan.val, Option.bind_some, if_pos (by unfold isSpan; simp only [Bool.and_eq_true, decide_eq_true_eq]; omega)]) (Ev.bind hc (Ev.congr (fun k => by rw [if_pos (by omega), hD]; rfl) hr)), by omega, hS⟩

/-! spec_l14Ok -/
theorem spec_l14Ok.ok (n d : Int) : ∃ b, spec_l14Ok.f n d = some b ∧ (b = true → 1 ≤ n ∧ n ≤ 12 ∧ 0 ≤ d ∧ d < n) := by
  unfold spec_l14Ok.f
  rw [spec_l1In.val, Option.bind_some]
  by_cases h : inR n 1 12 = true
  · rw [if_pos h, spec_l1In.val, Option.bind_some]
    refine ⟨_, rfl, fun hb => ?_⟩
    unfold inR at h hb
    simp only [Bool.and_eq_true, decide_eq_true_eq] at h hb
    have hw : wrap64 (n - 1) = n - 1 := by unfold wrap64; omega
    rw [hw] at hb
    omega
  · rw [if_neg h]
    exact ⟨false, rfl, fun hb => by cases hb⟩

/-! d_neigh -/
theorem strict_ext : ∀ (l1 l2 : List Int), l1.Pairwise (· < ·) → l2.Pairwise (· < ·) → (∀ x, x ∈ l1 ↔ x ∈ l2) → l1 = l2
  | [], [], _, _, _ => rfl
  | [], y :: l2, _, _, h => absurd ((h y).2 List.mem_cons_self) (by simp)
  | x :: l1, [], _, _, h => absurd ((h x).1 List.mem_cons_self) (by simp)
  | x :: l1, y :: l2, h1, h2, h => by
    rw [List.pairwise_cons] at h1 h2
    have hx : x = y := by
      rcases List.mem_cons.1 ((h x).1 List.mem_cons_self) with e | e
      · exact e
      · have a := h2.1 x e
        rcases List.mem_cons.1 ((h y).2 List.mem_cons_self) with e' | e'
        · omega
        · have b := h1.1 y e'
          omega
    subst hx
    rw [strict_ext l1 l2 h1.2 h2.2 fun z => ?_]
    constructor
    · intro hz
      have a := h1.1 z hz
      rcases List.mem_cons.1 ((h z).1 (List.mem_cons_of_mem _ hz)) with e | e
      · omega
      · exact e
    · intro hz
      have a := h2.1 z hz
      rcases List.mem_cons.1 ((h z).2 (List.mem_cons_of_mem _ hz)) with e | e
      · omega
      · exact e
def posU (n : Int) : List Int → Nat
  | [] => 0
  | x :: l => if x < n then posU n l + 1 else 0
def insU (n : Int) (out : List Int) : List Int := if posU n out = out.length ∨ ¬ out.getD (posU n out) 0 = n then out.take (posU n out) ++ [n] ++ out.drop (posU n out) else out
theorem insU_lt {x n : Int} (h : x < n) (l : List Int) : insU n (x :: l) = x :: insU n l := by
  unfold insU
  simp only [posU, if_pos h, List.length_cons, List.getD_cons_succ, List.take_succ_cons, List.drop_succ_cons, Nat.add_right_cancel_iff]
  split <;> simp
theorem insU_ge {x n : Int} (h : ¬ x < n) (l : List Int) : insU n (x :: l) = if x = n then x :: l else n :: x :: l := by
  unfold insU
  simp only [posU, if_neg h, List.length_cons, List.getD_cons_zero, List.take_zero, List.drop_zero, List.nil_append]
  by_cases e : x = n
  · rw [if_neg (by simp [e]), if_pos e]
  · rw [if_pos (Or.inr e), if_neg e]; rfl
theorem insU_mem (n : Int) : ∀ (l : List Int) (z : Int), z ∈ insU n l ↔ z = n ∨ z ∈ l
  | [], z => by simp [insU, posU]
  | x :: l, z => by
    by_cases h : x < n
    · rw [insU_lt h, List.mem_cons, insU_mem n l z, List.mem_cons]
      constructor
      · rintro (e | e | e)
        · exact .inr (.inl e)
        · exact .inl e
        · exact .inr (.inr e)
      · rintro (e | e | e)
        · exact .inr (.inl e)
        · exact .inl e
        · exact .inr (.inr e)
    · rw [insU_ge h]
      split
      · rename_i e
        simp only [List.mem_cons]
        constructor
        · exact .inr
        · rintro (e' | e')
          · exact .inl (by omega)
          · exact e'
      · simp only [List.mem_cons]
theorem insU_strict (n : Int) : ∀ (l : List Int), l.Pairwise (· < ·) → (insU n l).Pairwise (· < ·)
  | [], _ => by simp [insU, posU]
  | x :: l, h => by
    have h' := List.pairwise_cons.1 h
    by_cases hx : x < n
    · rw [insU_lt hx, List.pairwise_cons]
      refine ⟨fun z hz => ?_, insU_strict n l h'.2⟩
      rcases (insU_mem n l z).1 hz with e | e
      · omega
      · exact h'.1 z e
    · rw [insU_ge hx]
      split
      · exact h
      · rw [List.pairwise_cons]
        refine ⟨fun z hz => ?_, h⟩
        rcases List.mem_cons.1 hz with e | e
        · omega
        · have := h'.1 z e
          omega
theorem fold_insU : ∀ (l o : List Int), o.Pairwise (· < ·) → (l.foldl (fun o n => insU n o) o).Pairwise (· < ·) ∧ ∀ z, z ∈ l.foldl (fun o n => insU n o) o ↔ z ∈ o ∨ z ∈ l
  | [], o, h => ⟨h, fun z => by simp⟩
  | n :: l, o, h => by
    obtain ⟨h1, h2⟩ := fold_insU l (insU n o) (insU_strict n o h)
    refine ⟨h1, fun z => ?_⟩
    rw [List.foldl_cons, h2 z, insU_mem, List.mem_cons]
    constructor
    · rintro ((e | e) | e)
      · exact .inr (.inl e)
      · exact .inl e
      · exact .inr (.inr e)
    · rintro (e | e | e)
      · exact .inl (.inr e)
      · exact .inl (.inl e)
      · exact .inr e

/-! d_nbs -/
theorem insU_len (n : Int) (o : List Int) : (insU n o).length ≤ o.length + 1 := by
  unfold insU
  split
  · simp; omega
  · omega
theorem posU_le (n : Int) : ∀ l : List Int, posU n l ≤ l.length
  | [] => Nat.le_refl _
  | x :: l => by
    rw [posU]
    have := posU_le n l
    split
    · simp only [List.length_cons]; omega
    · simp
theorem insU_idem (n : Int) (o : List Int) (h : o.Pairwise (· < ·)) : insU n (insU n o) = insU n o :=
  strict_ext _ _ (insU_strict n _ (insU_strict n o h)) (insU_strict n o h) fun z => by
    rw [insU_mem, insU_mem]
    constructor
    · rintro (e | e)
      · exact .inl e
      · exact e
    · exact .inr
def nbStep (node : Int) (o : List Int) (x : S123) : List Int := if x.f0 = node then insU x.f1 o else if x.f1 = node then insU x.f0 o else o
def nbs (l : List S123) (node : Int) : List Int := l.foldl (nbStep node) []
theorem nbStep_len (node : Int) (o : List Int) (x : S123) : (nbStep node o x).length ≤ o.length + 1 := by
  unfold nbStep
  split
  · exact insU_len _ _
  · split
    · exact insU_len _ _
    · omega
theorem nbs_len (l : List S123) (node : Int) : (nbs l node).length ≤ l.length := by
  have : ∀ (l : List S123) (o : List Int), (l.foldl (nbStep node) o).length ≤ o.length + l.length := by
    intro l
    induction l with
    | nil => intro o; simp
    | cons x l ih =>
      intro o
      have h1 := ih (nbStep node o x)
      have h2 := nbStep_len node o x
      simp only [List.foldl_cons, List.length_cons]
      omega
  simpa [nbs] using this l []
def rawStep (node : Int) (r : List Int) (x : S123) : List Int := if x.f1 = node then (if x.f0 = node then r ++ [x.f1] else r) ++ [x.f0] else if x.f0 = node then r ++ [x.f1] else r
theorem raw_nbs (node : Int) : ∀ (l : List S123) (r : List Int), (l.foldl (rawStep node) r).foldl (fun o n => insU n o) [] = l.foldl (nbStep node) (r.foldl (fun o n => insU n o) [])
  | [], r => rfl
  | x :: l, r => by
    have hs := (fold_insU r [] List.Pairwise.nil).1
    rw [List.foldl_cons, List.foldl_cons, raw_nbs node l]
    congr 1
    unfold rawStep nbStep
    by_cases h0 : x.f0 = node
    · by_cases h1 : x.f1 = node
      · rw [if_pos h1, if_pos h0, if_pos h0, List.foldl_append, List.foldl_append]
        simp only [List.foldl_cons, List.foldl_nil]
        rw [h0, h1]
        exact insU_idem _ _ hs
      · rw [if_neg h1, if_pos h0, if_pos h0, List.foldl_append]
        rfl
    · by_cases h1 : x.f1 = node
      · rw [if_pos h1, if_neg h0, if_neg h0, if_pos h1, List.foldl_append]
        rfl
      · rw [if_neg h1, if_neg h0, if_neg h0, if_neg h1]
theorem raw_len (node : Int) : ∀ (l : List S123) (r : List Int), (l.foldl (rawStep node) r).length ≤ r.length + 2 * l.length
  | [], r => by simp
  | x :: l, r => by
    have h1 := raw_len node l (rawStep node r x)
    have h2 : (rawStep node r x).length ≤ r.length + 2 := by
      unfold rawStep
      repeat' split
      all_goals simp
    simp only [List.foldl_cons, List.length_cons]
    omega

/-! spec_NeighborsIn -/
theorem spec_NeighborsIn.ev_l1 (l : List S123) (node : Int) (o : List Int) (x6 : Int) (n : Int) (ho : o.length ≤ 4000000) (R : List Int) (h6 : Ev (fun k => spec_NeighborsIn.l0 k l node (insU n o) (wrap64 (x6 + 1))) R) :
    ∀ (d i : Nat), i + d = o.length → posU n o = i + posU n (o.drop i) → Ev (fun k => spec_NeighborsIn.l1 k l node o x6 n i) R := by
  have put : ∀ i : Nat, i ≤ o.length → posU n o = i → (i = o.length ∨ ¬ o.getD i 0 = n) → ∀ b : Bool, b = true → Ev (fun k => spec_NeighborsIn.j4 k l node o x6 n i b) R := fun i hi hp hc b hb => by
    have e : insU n o = o.take i ++ [n] ++ o.drop i := by
      unfold insU
      rw [hp, if_pos hc]
    rw [e] at h6
    refine Ev.step (fun k => ?_) h6
    simp only [spec_NeighborsIn.j4]
    rw [if_pos hb, Option.bind_some, if_pos (by omega), if_pos (by omega), Option.bind_some, Int.toNat_natCast, if_pos (by simp; omega), Option.bind_some, Option.bind_some, if_pos (by simp; omega), Option.bind_some, Option.bind_some, if_pos (by simp; omega), List.nil_append]
  intro d
  induction d with
  | zero =>
    intro i hi hp
    rw [List.drop_eq_nil_of_le (by omega)] at hp
    have hp' : posU n o = i := by simpa [posU] using hp
    refine Ev.step (fun k => by simp only [spec_NeighborsIn.l1]; rw [if_neg (by omega)]) ?_
    refine Ev.step (fun k => by simp only [spec_NeighborsIn.j3]; rw [if_neg (by simp), if_pos (by omega)]) (put i (by omega) hp' (.inl (by omega)) true rfl)
  | succ d ih =>
    intro i hi hp
    rw [drop_cons o 0 (by omega), posU] at hp
    refine Ev.step (fun k => by simp only [spec_NeighborsIn.l1]; rw [if_pos (by omega), if_pos (by omega), rd_nat]) ?_
    by_cases hx : o.getD i 0 < n
    · rw [if_pos hx] at hp
      exact Ev.step (fun k => by simp only [spec_NeighborsIn.j3]; rw [if_pos (decide_eq_true hx), wrap_nat (by omega)]) (ih (i + 1) (by omega) (by omega))
    · rw [if_neg hx] at hp
      have hp' : posU n o = i := by omega
      refine Ev.step (fun k => by simp only [spec_NeighborsIn.j3]; rw [if_neg (by simpa using hx), if_neg (by omega), if_pos (by omega), if_pos (by omega), rd_nat]) ?_
      by_cases he : o.getD i 0 = n
      · have e : insU n o = o := by
          unfold insU
          rw [hp', if_neg (by rintro (h | h); omega; exact h he)]
        rw [e] at h6
        exact Ev.step (fun k => by simp only [spec_NeighborsIn.j4]; rw [if_neg (by simpa using he)]) h6
      · exact put i (by omega) hp' (.inr he) _ (by simpa using he)
theorem spec_NeighborsIn.ev (l : List S123) (node : Int) (hl : l.length ≤ 1048576) : Ev (fun k => spec_NeighborsIn.f k l node) (nbs l node) := by
  have h := foldE_index (g := fun k o i => spec_NeighborsIn.l0 k l node o i) (f := fun j o => nbStep node o (l.getD j z123)) (fin := fun o => o) (fun i o => o.length ≤ i) l.length [] (by simp)
    (fun o ho => Ev.one fun k => by simp only [spec_NeighborsIn.l0]; rw [if_neg (by omega)])
    (fun i o hi ho => by
      refine ⟨Nat.le_trans (nbStep_len _ _ _) (by omega), fun r hr => ?_⟩
      rw [show (((i + 1 : Nat) : Int)) = wrap64 ((i : Int) + 1) from (wrap_nat (by omega)).symm] at hr
      have one : ∀ n, nbStep node o (l.getD i z123) = insU n o → Ev (fun k => spec_NeighborsIn.j1 k l node o i n) r := fun n e => by
        rw [e] at hr
        exact Ev.step (fun k => by simp only [spec_NeighborsIn.j1]; rfl) (spec_NeighborsIn.ev_l1 l node o i n (by omega) r hr o.length 0 (by omega) (by simp))
      have rdE : rd_T123 l (i : Int) = l.getD i z123 := rfl
      by_cases h0 : (l.getD i z123).f0 = node
      · exact Ev.step (fun k => by simp only [spec_NeighborsIn.l0]; rw [if_pos (by omega), if_pos (by omega), rdE, if_pos h0]) (one _ (by unfold nbStep; rw [if_pos h0]))
      · by_cases h1 : (l.getD i z123).f1 = node
        · exact Ev.step (fun k => by simp only [spec_NeighborsIn.l0]; rw [if_pos (by omega), if_pos (by omega), rdE, if_neg h0, if_pos h1]) (one _ (by unfold nbStep; rw [if_neg h0, if_pos h1]))
        · have e : nbStep node o (l.getD i z123) = o := by unfold nbStep; rw [if_neg h0, if_neg h1]
          rw [e] at hr
          exact Ev.step (fun k => by simp only [spec_NeighborsIn.l0]; rw [if_pos (by omega), if_pos (by omega), rdE, if_neg h0, if_neg h1]) hr)
  rw [foldl_index l z123 (fun o x => nbStep node o x) []] at h
  exact h

/-! d_negs -/
def negs : List Int → Nat
  | [] => 0
  | x :: l => (if x < 0 then 1 else 0) + negs l
theorem negs_set : ∀ (l : List Int) (j : Nat) (v : Int), j < l.length → l.getD j 0 < 0 → 0 ≤ v → negs (l.set j v) + 1 = negs l
  | [], j, _, h, _, _ => absurd h (Nat.not_lt_zero j)
  | x :: l, 0, v, _, h, hv => by
    rw [List.getD_cons_zero] at h
    rw [List.set_cons_zero, negs, negs, if_neg (by omega), if_pos h]
    omega
  | x :: l, j + 1, v, hj, h, hv => by
    rw [List.getD_cons_succ] at h
    rw [List.set_cons_succ, negs, negs]
    have := negs_set l j v (by simpa using hj) h hv
    omega
theorem negs_rep (n : Nat) : negs (List.replicate n (-1)) = n := by
  induction n with
  | zero => rfl
  | succ n ih => rw [List.replicate_succ, negs, ih, if_pos (by omega)]; omega
theorem rep_get (n j : Nat) (h : j < n) : (List.replicate n (-1 : Int)).getD j 0 = -1 := by
  rw [List.getD_eq_getElem?_getD, List.getElem?_replicate, if_pos h]
  rfl
structure DInv (n : Nat) (d todo : List Int) : Prop where
  len : d.length = n
  neg : todo.length + negs d ≤ n
  mem : ∀ x ∈ todo, 0 ≤ x ∧ x < (n : Int) ∧ 0 ≤ d.getD x.toNat 0
  le : ∀ x ∈ d, x ≤ (todo.length : Int)
theorem DInv.step {n : Nat} {d todo : List Int} (h : DInv n d todo) (at_ x : Int) (ha : 0 ≤ at_ ∧ at_ < (n : Int) ∧ 0 ≤ d.getD at_.toNat 0) (hx0 : 0 ≤ x) (hx1 : x < (n : Int)) (hd : d.getD x.toNat 0 < 0) : DInv n (d.set x.toNat (d.getD at_.toNat 0 + 1)) (todo ++ [x]) := by
  have hle := h.le _ (getD_mem d 0 (show at_.toNat < d.length by rw [h.len]; omega))
  have hs := negs_set d x.toNat (d.getD at_.toNat 0 + 1) (by rw [h.len]; omega) hd (by omega)
  have hn := h.neg
  have hg : ∀ y : Int, 0 ≤ y → y < (n : Int) → 0 ≤ d.getD y.toNat 0 → 0 ≤ (d.set x.toNat (d.getD at_.toNat 0 + 1)).getD y.toNat 0 := fun y h0 h1 h2 => by
    by_cases e : x.toNat = y.toNat
    · rw [e, getD_set_self _ 0 _ (by rw [h.len]; omega)]; omega
    · rw [List.getD_eq_getElem?_getD, List.getElem?_set_ne e, ← List.getD_eq_getElem?_getD]; exact h2
  refine ⟨by rw [List.length_set]; exact h.len, by rw [List.length_append, List.length_singleton]; omega, fun y hy => ?_, fun y hy => ?_⟩
  · rcases List.mem_append.1 hy with hy | hy
    · obtain ⟨a, b, c⟩ := h.mem y hy
      exact ⟨a, b, hg y a b c⟩
    · rw [List.mem_singleton] at hy
      subst hy
      exact ⟨hx0, hx1, by rw [getD_set_self _ 0 _ (by rw [h.len]; omega)]; omega⟩
  · rw [List.length_append, List.length_singleton]
    rcases List.mem_or_eq_of_mem_set hy with hy | hy
    · have := h.le y hy; omega
    · omega

/-! spec_DistancesTo -/
theorem spec_DistancesTo.l2_ok (l : List S123) (nn : Nat) (first dst : Int) (hn : nn ≤ 12) (at_ x12 : Int) (near : List Int) (hN : near.length ≤ 1048576)
    (hnext : ∀ d todo, DInv nn d todo → ∃ r, Ev (fun k => spec_DistancesTo.l1 k l nn first dst d todo (wrap64 (x12 + 1))) r ∧ r.length = nn) :
    ∀ (e i : Nat) (d todo : List Int), i + e = near.length → DInv nn d todo → 0 ≤ at_ ∧ at_ < (nn : Int) ∧ 0 ≤ d.getD at_.toNat 0 → ∃ r, Ev (fun k => spec_DistancesTo.l2 k l nn first dst d todo x12 at_ near (i : Int)) r ∧ r.length = nn := by
  intro e
  induction e with
  | zero =>
    intro i d todo hi h ha
    obtain ⟨r, hr, hl⟩ := hnext d todo h
    exact ⟨r, Ev.step (fun k => by simp only [spec_DistancesTo.l2]; rw [if_neg (by omega)]) hr, hl⟩
  | succ e ih =>
    intro i d todo hi h ha
    have hlen := h.len
    have hneg := h.neg
    have hw : wrap64 ((nn : Int) - 1) = (nn : Int) - 1 := by unfold wrap64; omega
    by_cases c : inR (rd near (i : Int)) 0 ((nn : Int) - 1) = true
    · have c' := c
      unfold inR at c'
      simp only [Bool.and_eq_true, decide_eq_true_eq] at c'
      by_cases c2 : rd d (rd near (i : Int)) < 0
      · have hle := h.le _ (getD_mem d 0 (show at_.toNat < d.length by omega))
        have h2 := h.step at_ (rd near (i : Int)) ha c'.1 (by omega) c2
        obtain ⟨r, hr, hl⟩ := ih (i + 1) _ _ (by omega) h2 ⟨ha.1, ha.2.1, by
          by_cases e2 : (rd near (i : Int)).toNat = at_.toNat
          · rw [e2, getD_set_self _ 0 _ (by omega)]; omega
          · rw [List.getD_eq_getElem?_getD, List.getElem?_set_ne e2, ← List.getD_eq_getElem?_getD]; exact ha.2.2⟩
        refine ⟨r, Ev.step (fun k => ?_) hr, hl⟩
        simp only [spec_DistancesTo.l2]
        rw [if_pos (by omega), if_pos (by omega), spec_l1In.val, Option.bind_some, hw, if_pos c, if_pos c'.1, if_pos (by omega), if_pos c2, if_pos ha.1, if_pos (by omega), if_pos (by omega), wrap_nat (by omega), show wrap64 (rd d at_ + 1) = d.getD at_.toNat 0 + 1 by show wrap64 (d.getD at_.toNat 0 + 1) = _; have := ha.2.2; unfold wrap64; omega]
      · obtain ⟨r, hr, hl⟩ := ih (i + 1) _ _ (by omega) h ha
        refine ⟨r, Ev.step (fun k => ?_) hr, hl⟩
        simp only [spec_DistancesTo.l2]
        rw [if_pos (by omega), if_pos (by omega), spec_l1In.val, Option.bind_some, hw, if_pos c, if_pos c'.1, if_pos (by omega), if_neg c2, wrap_nat (by omega)]
    · obtain ⟨r, hr, hl⟩ := ih (i + 1) _ _ (by omega) h ha
      refine ⟨r, Ev.step (fun k => ?_) hr, hl⟩
      simp only [spec_DistancesTo.l2]
      rw [if_pos (by omega), if_pos (by omega), spec_l1In.val, Option.bind_some, hw, if_neg c, wrap_nat (by omega)]
theorem spec_DistancesTo.l1_ok (l : List S123) (hl : l.length ≤ 1048576) (nn : Nat) (first dst : Int) (hn : nn ≤ 12) :
    ∀ (m i : Nat) (d todo : List Int), nn ≤ i + m → DInv nn d todo → ∃ r, Ev (fun k => spec_DistancesTo.l1 k l nn first dst d todo (i : Int)) r ∧ r.length = nn := by
  intro m
  induction m with
  | zero =>
    intro i d todo hi h
    have hneg := h.neg
    exact ⟨d, Ev.one fun k => by simp only [spec_DistancesTo.l1]; rw [if_neg (by omega)], h.len⟩
  | succ m ih =>
    intro i d todo hi h
    have hneg := h.neg
    by_cases c : (i : Int) < (todo.length : Int)
    · have hmem := h.mem _ (getD_mem todo 0 (show i < todo.length by omega))
      have key : ∀ b : Bool, ∃ r, Ev (fun k => spec_DistancesTo.j2 k l nn first dst d todo (i : Int) (rd todo (i : Int)) b) r ∧ r.length = nn := fun b => by
        have hw : wrap64 ((i : Int) + 1) = ((i + 1 : Nat) : Int) := wrap_nat (by omega)
        cases b with
        | true =>
          obtain ⟨r, hr, hl2⟩ := ih (i + 1) d todo (by omega) h
          exact ⟨r, Ev.step (fun k => by simp only [spec_DistancesTo.j2]; rw [if_pos trivial, hw]) hr, hl2⟩
        | false =>
          have hnl := nbs_len l (rd todo (i : Int))
          obtain ⟨r, hr, hl2⟩ := spec_DistancesTo.l2_ok l nn first dst hn (rd todo (i : Int)) (i : Int) (nbs l (rd todo (i : Int))) (by omega) (fun d' t' h' => by rw [hw]; exact ih (i + 1) d' t' (by omega) h') (nbs l (rd todo (i : Int))).length 0 d todo (by omega) h hmem
          exact ⟨r, Ev.step (fun k => by simp only [spec_DistancesTo.j2]; rw [if_neg (by simp)]) (Ev.bind (spec_NeighborsIn.ev l _ hl) hr), hl2⟩
      by_cases c2 : rd todo (i : Int) = dst
      · obtain ⟨r, hr, hl2⟩ := key false
        exact ⟨r, Ev.step (fun k => by simp only [spec_DistancesTo.l1]; rw [if_pos c, if_pos (by omega), if_pos c2]) hr, hl2⟩
      · obtain ⟨r, hr, hl2⟩ := key (decide (rd todo (i : Int) ≥ first))
        exact ⟨r, Ev.step (fun k => by simp only [spec_DistancesTo.l1]; rw [if_pos c, if_pos (by omega), if_neg c2]) hr, hl2⟩
    · exact ⟨d, Ev.one fun k => by simp only [spec_DistancesTo.l1]; rw [if_neg c], h.len⟩
theorem spec_DistancesTo.ok (l : List S123) (hl : l.length ≤ 1048576) (n first dst : Int) : ∃ r, Ev (fun k => spec_DistancesTo.f k l n first dst) r ∧ r.length ≤ 12 ∧ (r ≠ [] → (r.length : Int) = n) := by
  obtain ⟨b, hb, h⟩ := spec_l14Ok.ok n dst
  cases b with
  | false => exact ⟨[], Ev.all fun k => by unfold spec_DistancesTo.f; rw [hb, Option.bind_some, if_neg (by simp)], by simp, fun h => absurd rfl h⟩
  | true =>
    obtain ⟨h1, h2, h3, h4⟩ := h rfl
    obtain ⟨nn, rfl⟩ : ∃ nn : Nat, n = (nn : Int) := ⟨n.toNat, by omega⟩
    have hI : DInv nn ((List.replicate nn (-1 : Int)).set dst.toNat 0) [dst] := by
      have hs := negs_set (List.replicate nn (-1 : Int)) dst.toNat 0 (by rw [List.length_replicate]; omega) (by rw [rep_get _ _ (by omega)]; omega) (by omega)
      rw [negs_rep] at hs
      refine ⟨by rw [List.length_set, List.length_replicate], by rw [List.length_singleton]; omega, fun x hx => ?_, fun x hx => ?_⟩
      · rw [List.mem_singleton] at hx
        subst hx
        exact ⟨h3, h4, by rw [getD_set_self _ 0 _ (by rw [List.length_replicate]; omega)]; omega⟩
      · rw [List.length_singleton]
        rcases List.mem_or_eq_of_mem_set hx with hx | hx
        · have := (List.mem_replicate.1 hx).2; omega
        · omega
    obtain ⟨r, hr, hl2⟩ := spec_DistancesTo.l1_ok l hl nn first dst (by omega) nn 0 _ _ (by omega) hI
    refine ⟨r, ?_, by omega, fun _ => by rw [hl2]⟩
    refine Ev.congr (fun k => by unfold spec_DistancesTo.f; rw [hb, Option.bind_some, if_pos rfl]) ?_
    have : ∀ e i : Nat, i + e = nn → Ev (fun k => spec_DistancesTo.l0 k l (nn : Int) first dst (List.replicate i (-1)) (i : Int)) r := by
      intro e
      induction e with
      | zero =>
        intro i hi
        have : i = nn := by omega
        subst this
        exact Ev.step (fun k => by simp only [spec_DistancesTo.l0]; rw [if_neg (by omega), if_pos h3, if_pos (by rw [List.length_replicate]; omega)]; rfl) hr
      | succ e ih =>
        intro i hi
        refine Ev.step (fun k => ?_) (ih (i + 1) (by omega))
        simp only [spec_DistancesTo.l0]
        rw [if_pos (by omega), if_pos (by rw [List.length_replicate]; omega), wrap_nat (by omega), List.replicate_succ']
    exact this nn 0 (by omega)

/-! spec_NextTo -/
theorem spec_NextTo.l1_ok (l : List S123) (n first dst : Int) (o d : List Int) (j : Nat) (hj : j < d.length) (hd : d.length ≤ 12) (hn : (d.length : Int) = n) (ho : o.length = j) (near : List Int) (hN : near.length ≤ 1048576)
    (hnext : ∀ x : Int, ∃ r, Ev (fun k => spec_NextTo.l0 k l n first dst (o ++ [x]) d (wrap64 ((j : Int) + 1))) r ∧ r.length = d.length) :
    ∀ (e i : Nat) (x12 : Int), i + e = near.length → ∃ r, Ev (fun k => spec_NextTo.l1 k l n first dst o d (j : Int) x12 near (i : Int)) r ∧ r.length = d.length := by
  have fin : ∀ (x12 x14 : Int), ∃ r, Ev (fun k => spec_NextTo.j2 k l n first dst o d (j : Int) x12 near x14 false) r ∧ r.length = d.length := fun x12 x14 => by
    obtain ⟨r, hr, hl⟩ := hnext x12
    exact ⟨r, Ev.step (fun k => by simp only [spec_NextTo.j2]; rw [if_neg (by simp), if_pos (by omega)]) hr, hl⟩
  intro e
  induction e with
  | zero =>
    intro i x12 hi
    obtain ⟨r, hr, hl⟩ := fin x12 (i : Int)
    exact ⟨r, Ev.step (fun k => by simp only [spec_NextTo.l1]; rw [if_neg (by omega)]) hr, hl⟩
  | succ e ih =>
    intro i x12 hi
    have hw : wrap64 (n - 1) = n - 1 := by unfold wrap64; omega
    have key : ∀ b : Bool, ∃ r, Ev (fun k => spec_NextTo.j2 k l n first dst o d (j : Int) x12 near (i : Int) b) r ∧ r.length = d.length := fun b => by
      cases b with
      | false => exact fin x12 (i : Int)
      | true =>
        obtain ⟨r0, hr0, hl0⟩ := ih (i + 1) x12 (by omega)
        obtain ⟨r1, hr1, hl1⟩ := ih (i + 1) (rd near (i : Int)) (by omega)
        by_cases c : inR (rd near (i : Int)) 0 (n - 1) = true
        · have c' := c
          unfold inR at c'
          simp only [Bool.and_eq_true, decide_eq_true_eq] at c'
          by_cases c2 : rd near (i : Int) < first
          · by_cases c3 : rd d (rd near (i : Int)) = wrap64 (rd d (j : Int) - 1)
            · exact ⟨r1, Ev.step (fun k => by simp only [spec_NextTo.j2]; rw [if_pos trivial, if_pos (by omega), if_pos (by omega), spec_l1In.val, Option.bind_some, hw, if_pos c, if_pos c2, if_pos c'.1, if_pos (by omega), if_pos (by omega), if_pos (by omega), if_pos c3, wrap_nat (by omega)]) hr1, hl1⟩
            · exact ⟨r0, Ev.step (fun k => by simp only [spec_NextTo.j2]; rw [if_pos trivial, if_pos (by omega), if_pos (by omega), spec_l1In.val, Option.bind_some, hw, if_pos c, if_pos c2, if_pos c'.1, if_pos (by omega), if_pos (by omega), if_pos (by omega), if_neg c3, wrap_nat (by omega)]) hr0, hl0⟩
          · by_cases c4 : rd near (i : Int) = dst
            · by_cases c3 : rd d (rd near (i : Int)) = wrap64 (rd d (j : Int) - 1)
              · exact ⟨r1, Ev.step (fun k => by simp only [spec_NextTo.j2]; rw [if_pos trivial, if_pos (by omega), if_pos (by omega), spec_l1In.val, Option.bind_some, hw, if_pos c, if_neg c2, if_pos c4, if_pos c'.1, if_pos (by omega), if_pos (by omega), if_pos (by omega), if_pos c3, wrap_nat (by omega)]) hr1, hl1⟩
              · exact ⟨r0, Ev.step (fun k => by simp only [spec_NextTo.j2]; rw [if_pos trivial, if_pos (by omega), if_pos (by omega), spec_l1In.val, Option.bind_some, hw, if_pos c, if_neg c2, if_pos c4, if_pos c'.1, if_pos (by omega), if_pos (by omega), if_pos (by omega), if_neg c3, wrap_nat (by omega)]) hr0, hl0⟩
            · exact ⟨r0, Ev.step (fun k => by simp only [spec_NextTo.j2]; rw [if_pos trivial, if_pos (by omega), if_pos (by omega), spec_l1In.val, Option.bind_some, hw, if_pos c, if_neg c2, if_neg c4, wrap_nat (by omega)]) hr0, hl0⟩
        · exact ⟨r0, Ev.step (fun k => by simp only [spec_NextTo.j2]; rw [if_pos trivial, if_pos (by omega), if_pos (by omega), spec_l1In.val, Option.bind_some, hw, if_neg c, wrap_nat (by omega)]) hr0, hl0⟩
    by_cases c : rd d (j : Int) > 0
    · obtain ⟨r, hr, hl⟩ := key (decide (x12 < 0))
      exact ⟨r, Ev.step (fun k => by simp only [spec_NextTo.l1]; rw [if_pos (by omega), if_pos (by omega), if_pos (by omega), if_pos c]) hr, hl⟩
    · obtain ⟨r, hr, hl⟩ := key false
      exact ⟨r, Ev.step (fun k => by simp only [spec_NextTo.l1]; rw [if_pos (by omega), if_pos (by omega), if_pos (by omega), if_neg c]) hr, hl⟩
theorem spec_NextTo.ok (l : List S123) (hl : l.length ≤ 1048576) (n first dst : Int) : ∃ r, Ev (fun k => spec_NextTo.f k l n first dst) r ∧ r.length ≤ 12 := by
  obtain ⟨d, hd, hd12, hdn⟩ := spec_DistancesTo.ok l hl n first dst
  have : ∀ e j : Nat, j + e = d.length → ∀ o : List Int, o.length = j → ∃ r, Ev (fun k => spec_NextTo.l0 k l n first dst o d (j : Int)) r ∧ r.length = d.length := by
    intro e
    induction e with
    | zero =>
      intro j hj o ho
      exact ⟨o, Ev.one fun k => by simp only [spec_NextTo.l0]; rw [if_neg (by omega)], by omega⟩
    | succ e ih =>
      intro j hj o ho
      have hnl := nbs_len l (j : Int)
      have hne : d ≠ [] := fun h => by rw [h] at hj; simp at hj
      obtain ⟨r, hr, hl2⟩ := spec_NextTo.l1_ok l n first dst o d j (by omega) hd12 (hdn hne) ho (nbs l (j : Int)) (by omega) (fun x => by rw [wrap_nat (by omega)]; exact ih (j + 1) (by omega) _ (by rw [List.length_append, List.length_singleton]; omega)) (nbs l (j : Int)).length 0 (-1) (by omega)
      exact ⟨r, Ev.step (fun k => by simp only [spec_NextTo.l0]; rw [if_pos (by omega)]) (Ev.bind (spec_NeighborsIn.ev l _ hl) hr), hl2⟩
  obtain ⟨r, hr, hl2⟩ := this d.length 0 (by omega) [] rfl
  exact ⟨r, Ev.bind hd hr, by omega⟩

/-! spec_TableOf -/
theorem spec_TableOf.ok (l : List S123) (hl : l.length ≤ 1048576) (n first dst : Int) : ∃ D N, Ev (fun k => spec_TableOf.f k l n first dst) (dst, D, N) ∧ D.length ≤ 12 ∧ N.length ≤ 12 := by
  obtain ⟨D, hD, h1, _⟩ := spec_DistancesTo.ok l hl n first dst
  obtain ⟨N, hN, h2⟩ := spec_NextTo.ok l hl n first dst
  exact ⟨D, N, Ev.bind hD (Ev.bind hN (Ev.now _)), h1, h2⟩

/-! spec_l17Tables -/
theorem spec_l17Tables.ok (l : List S123) (hl : l.length ≤ 1048576) (n : Nat) (first : Int) (hn : n ≤ 12) : ∃ r, Ev (fun k => spec_l17Tables.f k l (n : Int) first) r ∧ r.length ≤ 12 ∧ (∀ t ∈ r, fitTi 12 t) ∧ ∀ q, q < r.length → (r.getD q z80).f0 = ((q : Nat) : Int) := by
  have : ∀ e j : Nat, j + e = n → ∀ o : List S80, o.length = j → (∀ t ∈ o, fitTi 12 t) → (∀ q, q < o.length → (o.getD q z80).f0 = ((q : Nat) : Int)) → ∃ r, Ev (fun k => spec_l17Tables.l0 k l (n : Int) first o (j : Int)) r ∧ r.length ≤ n ∧ (∀ t ∈ r, fitTi 12 t) ∧ ∀ q, q < r.length → (r.getD q z80).f0 = ((q : Nat) : Int) := by
    intro e
    induction e with
    | zero =>
      intro j hj o ho hf hd
      exact ⟨o, Ev.one fun k => by simp only [spec_l17Tables.l0]; rw [if_neg (by omega)], by omega, hf, hd⟩
    | succ e ih =>
      intro j hj o ho hf hd
      obtain ⟨D, N, ht, h1, h2⟩ := spec_TableOf.ok l hl (n : Int) first (j : Int)
      obtain ⟨r, hr, hl2, hf2, hd2⟩ := ih (j + 1) (by omega) (o ++ [⟨(j : Int), D, N⟩]) (by rw [List.length_append, List.length_singleton]; omega) (fun t ht => by
        rcases List.mem_append.1 ht with ht | ht
        · exact hf t ht
        · rw [List.mem_singleton] at ht; subst ht; exact ⟨h1, h2⟩) (fun q hq => by
        rw [List.length_append, List.length_singleton] at hq
        by_cases c : q < o.length
        · rw [List.getD_eq_getElem?_getD, List.getElem?_append_left c, ← List.getD_eq_getElem?_getD]; exact hd q c
        · have e : q = o.length := by omega
          subst e
          rw [List.getD_eq_getElem?_getD, List.getElem?_append_right (Nat.le_refl _), Nat.sub_self]
          show ((j : Nat) : Int) = _
          rw [ho])
      exact ⟨r, Ev.step (fun k => by simp only [spec_l17Tables.l0]; rw [if_pos (by omega)]) (Ev.bind ht (Ev.congr (fun k => by rw [if_pos (by omega), wrap_nat (by omega)]) hr)), hl2, hf2, hd2⟩
  obtain ⟨r, hr, hl2, hf, hd⟩ := this n 0 (by omega) [] (by simp) (fun t ht => by cases ht) (fun q hq => by simp at hq)
  exact ⟨r, hr, by omega, hf, hd⟩

/-! spec_BuildProgram -/
theorem fitQ_nil : fitQi 1048576 [] := ⟨by simp, fun x hx => by cases hx⟩
def okDst (p : List S103) : Prop := ∀ x ∈ p, ∀ q, q < x.f2.length → (x.f2.getD q z80).f0 = ((q : Nat) : Int)
theorem okDst_nil : okDst [] := fun x hx => by cases hx
def okP (p : List S103) : Prop := okS (p.map (·.f0))
theorem okP_nil : okP [] := ⟨(fun x hx => by cases hx), List.Pairwise.nil⟩
theorem spec_BuildProgram.okS (pl : List S144) (hp : pl.length ≤ 1048576) (nn T : Nat) (fi sk : Int) (hn : nn ≤ 12) (hT1 : 1 ≤ T) (hT2 : T ≤ 1000) : ∃ x y z p b, Ev (fun k => spec_BuildProgram.f k pl (nn : Int) fi 0 (T : Int) sk) (x, y, z, p, b) ∧ fitQi 1048576 p ∧ okDst p ∧ okP p ∧ 0 ≤ x := by
  have bad : Ev (fun k => spec_BuildProgram.j0 k pl (nn : Int) fi 0 (T : Int) sk true) (0, 0, 0, [], false) := Ev.one fun k => by simp only [spec_BuildProgram.j0]; simp
  obtain ⟨fr, hfr⟩ := spec_l17Frame.ok (nn : Int) fi sk
  cases fr with
  | false => exact ⟨_, _, _, _, _, Ev.congr (fun k => by unfold spec_BuildProgram.f; rw [hfr, Option.bind_some, if_neg (by simp)]) bad, fitQ_nil, okDst_nil, okP_nil, Int.le_refl 0⟩
  | true =>
    obtain ⟨ip, hip⟩ := spec_IsPlan.ok pl hp (nn : Int)
    cases ip with
    | false => exact ⟨_, _, _, _, _, Ev.congr (fun k => by unfold spec_BuildProgram.f; rw [hfr, Option.bind_some, if_pos rfl]) (Ev.bind hip bad), fitQ_nil, okDst_nil, okP_nil, Int.le_refl 0⟩
    | true =>
      obtain ⟨sp, hsp, hsl, hspS⟩ := spec_PiecesOf.ok pl hp T hT1 hT2
      have hgo : ∀ R, Ev (fun k => (spec_PiecesOf.f k pl 0 (T : Int)).bind fun t => (spec_l1In.f (t.length : Int) 1 40).bind fun u => if u = true then spec_BuildProgram.l0 k pl (nn : Int) fi t 0 (nn : Int) fi sk [] else some (0, 0, 0, [], false)) R → Ev (fun k => spec_BuildProgram.f k pl (nn : Int) fi 0 (T : Int) sk) R := fun R h =>
        Ev.congr (fun k => by unfold spec_BuildProgram.f; rw [hfr, Option.bind_some, if_pos rfl]) (Ev.bind hip (Ev.step (fun k => by simp only [spec_BuildProgram.j0]; rw [if_neg (by simp)]) h))
      by_cases c : inR (sp.length : Int) 1 40 = true
      · have : ∀ e j : Nat, j + e = sp.length → ∀ o : List S103, o.length ≤ j → (∀ x ∈ o, fitPi 1048576 x) → okDst o → o.map (·.f0) = sp.take j → ∃ r, Ev (fun k => spec_BuildProgram.l0 k pl (nn : Int) fi sp (j : Int) (nn : Int) fi sk o) ((nn : Int), fi, sk, r, true) ∧ r.length ≤ sp.length ∧ (∀ x ∈ r, fitPi 1048576 x) ∧ okDst r ∧ r.map (·.f0) = sp := by
          intro e
          induction e with
          | zero =>
            intro j hj o ho hf hdd hm
            exact ⟨o, Ev.one fun k => by simp only [spec_BuildProgram.l0]; rw [if_neg (by omega)], by omega, hf, hdd, by rw [hm]; exact List.take_of_length_le (by omega)⟩
          | succ e ih =>
            intro j hj o ho hf hdd hm
            obtain ⟨lk, hlk, hll⟩ := spec_LinksAt.ok pl hp ((rd_T99 sp (j : Int)).f0)
            obtain ⟨tb, htb, htl, htf, htd⟩ := spec_l17Tables.ok lk (by omega) nn fi hn
            obtain ⟨r, hr, hl, hf2, hd2, hm2⟩ := ih (j + 1) (by omega) (o ++ [⟨⟨(rd_T99 sp (j : Int)).f0, (rd_T99 sp (j : Int)).f1⟩, lk, tb⟩]) (by rw [List.length_append, List.length_singleton]; omega) (fun x hx => by
              rcases List.mem_append.1 hx with hx | hx
              · exact hf x hx
              · rw [List.mem_singleton] at hx
                subst hx
                exact ⟨by show lk.length ≤ _; omega, by show tb.length ≤ _; omega, fun t ht => by have := htf t ht; unfold fitTi at this ⊢; omega⟩) (fun x hx => by
              rcases List.mem_append.1 hx with hx | hx
              · exact hdd x hx
              · rw [List.mem_singleton] at hx
                subst hx
                exact htd) (by
              rw [List.map_append, hm, List.map_singleton, take_snocS sp z99 (show j < sp.length by omega)]
              rfl)
            refine ⟨r, Ev.step (fun k => by simp only [spec_BuildProgram.l0]; rw [if_pos (by omega), if_pos (by omega)]) ?_, hl, hf2, hd2, hm2⟩
            refine Ev.bind hlk (Ev.bind htb ?_)
            exact Ev.congr (fun k => by rw [if_pos (by omega), wrap_nat (by omega)]) hr
        obtain ⟨r, hr, hl, hf, hd3, hm3⟩ := this sp.length 0 (by omega) [] (by simp) (fun x hx => by cases hx) okDst_nil rfl
        exact ⟨_, _, _, _, _, hgo _ (Ev.bind hsp (Ev.congr (fun k => by rw [spec_l1In.val, Option.bind_some, if_pos c]; rfl) hr)), ⟨by omega, hf⟩, hd3, by unfold okP; rw [hm3]; exact hspS, by omega⟩
      · exact ⟨_, _, _, _, _, hgo _ (Ev.bind hsp (Ev.all fun k => by rw [spec_l1In.val, Option.bind_some, if_neg c])), fitQ_nil, okDst_nil, okP_nil, Int.le_refl 0⟩
theorem spec_BuildProgram.ok (pl : List S144) (hp : pl.length ≤ 1048576) (nn T : Nat) (fi sk : Int) (hn : nn ≤ 12) (hT1 : 1 ≤ T) (hT2 : T ≤ 1000) : ∃ x y z p b, Ev (fun k => spec_BuildProgram.f k pl (nn : Int) fi 0 (T : Int) sk) (x, y, z, p, b) ∧ fitQi 1048576 p ∧ okDst p := by
  obtain ⟨x, y, z, p, b, h, h1, h2, _⟩ := spec_BuildProgram.okS pl hp nn T fi sk hn hT1 hT2
  exact ⟨x, y, z, p, b, h, h1, h2⟩

/-! spec_l11Plan -/
theorem spec_l11Plan.l2_ok (l : List Int) (hl : l.length ≤ 1048576) (nn : Nat) (T : Int) (i j : Int) (B : Nat)
    (hnext : ∀ o p q, o.length ≤ B → Cur p → ∃ r p' q', Ev (fun k => spec_l11Plan.l1 k (nn : Int) T o i (wrap64 (j + 1)) l p q) (r, p', q') ∧ r.length ≤ 288 ∧ Cur p') :
    ∀ (m : Nat) (o : List S144) (x10 p q : Int), o.length + m ≤ B → B ≤ 288 → Cur p → ∃ r p' q', Ev (fun k => spec_l11Plan.l2 k (nn : Int) T o i j x10 (m : Int) l p q) (r, p', q') ∧ r.length ≤ 288 ∧ Cur p' := by
  have fin : ∀ (o : List S144) (x10 x11 p q : Int), o.length ≤ B → Cur p → ∃ r p' q', Ev (fun k => spec_l11Plan.j3 k (nn : Int) T o i j x10 x11 false l p q) (r, p', q') ∧ r.length ≤ 288 ∧ Cur p' := fun o x10 x11 p q ho hp => by
    obtain ⟨r, p', q', hr, h1, h2⟩ := hnext o p q ho hp
    exact ⟨r, p', q', Ev.step (fun k => by simp only [spec_l11Plan.j3]; rw [if_neg (by simp)]) hr, h1, h2⟩
  intro m
  induction m with
  | zero =>
    intro o x10 p q ho hB hp
    obtain ⟨r, p', q', hr, h1, h2⟩ := fin o x10 0 p q (by omega) hp
    exact ⟨r, p', q', Ev.step (fun k => by simp only [spec_l11Plan.l2]; rw [if_neg (by omega)]; rfl) hr, h1, h2⟩
  | succ m ih =>
    intro o x10 p q ho hB hp
    by_cases c : x10 < T
    · obtain ⟨v, p1, q1, e1, _, _, hp1⟩ := spec_l1Below.ok l hl p q 9 hp
      obtain ⟨u, p2, q2, e2, _, _, hp2⟩ := spec_l1Below.ok l hl p1 q1 6 hp1
      obtain ⟨r, p', q', hr, h1, h2⟩ := ih (o ++ [⟨i, j, x10, mn T (wrap64 (wrap64 (x10 + 2) + v))⟩]) (wrap64 (wrap64 (mn T (wrap64 (wrap64 (x10 + 2) + v)) + 1) + u)) p2 q2 (by rw [List.length_append, List.length_singleton]; omega) hB hp2
      refine ⟨r, p', q', Ev.step (fun k => ?_) (Ev.step (f := fun k => spec_l11Plan.l2 k (nn : Int) T (o ++ [⟨i, j, x10, mn T (wrap64 (wrap64 (x10 + 2) + v))⟩]) i j (wrap64 (wrap64 (mn T (wrap64 (wrap64 (x10 + 2) + v)) + 1) + u)) (m : Int) l p2 q2) (g := fun k => spec_l11Plan.j3 k (nn : Int) T o i j x10 ((m + 1 : Nat) : Int) true l p q) (fun k => ?_) hr), h1, h2⟩
      · simp only [spec_l11Plan.l2]
        rw [if_pos (by omega), decide_eq_true c]
      · simp only [spec_l11Plan.j3]
        rw [if_pos trivial, e1, Option.bind_some, spec_Min.val, Option.bind_some, if_pos (by omega), e2, Option.bind_some, show wrap64 (((m + 1 : Nat) : Int) - 1) = (m : Int) by unfold wrap64; omega]
    · obtain ⟨r, p', q', hr, h1, h2⟩ := fin o x10 ((m + 1 : Nat) : Int) p q (by omega) hp
      exact ⟨r, p', q', Ev.step (fun k => by simp only [spec_l11Plan.l2]; rw [if_pos (by omega), decide_eq_false c]) hr, h1, h2⟩
theorem spec_l11Plan.l1_ok (l : List Int) (hl : l.length ≤ 1048576) (nn : Nat) (hn : nn ≤ 12) (T : Int) (i : Nat) (hi : i < nn)
    (hnext : ∀ o p q, o.length ≤ 24 * (i + 1) → Cur p → ∃ r p' q', Ev (fun k => spec_l11Plan.l0 k (nn : Int) T o (wrap64 ((i : Int) + 1)) l p q) (r, p', q') ∧ r.length ≤ 288 ∧ Cur p') :
    ∀ (e j : Nat) (o : List S144) (p q : Int), j + e = nn → o.length ≤ 24 * i + 2 * j → Cur p → ∃ r p' q', Ev (fun k => spec_l11Plan.l1 k (nn : Int) T o (i : Int) (j : Int) l p q) (r, p', q') ∧ r.length ≤ 288 ∧ Cur p' := by
  intro e
  induction e with
  | zero =>
    intro j o p q hj ho hp
    obtain ⟨r, p', q', hr, h1, h2⟩ := hnext o p q (by omega) hp
    exact ⟨r, p', q', Ev.step (fun k => by simp only [spec_l11Plan.l1]; rw [if_neg (by omega)]) hr, h1, h2⟩
  | succ e ih =>
    intro j o p q hj ho hp
    obtain ⟨v, p1, q1, e1, _, _, hp1⟩ := spec_l1Below.ok l hl p q 5 hp
    obtain ⟨u, p2, q2, e2, hu0, hu3, hp2⟩ := spec_l1Below.ok l hl p1 q1 3 hp1
    have hu3' := hu3 (by omega)
    obtain ⟨r, p', q', hr, h1, h2⟩ := spec_l11Plan.l2_ok l hl nn T (i : Int) (j : Int) (24 * i + 2 * (j + 1)) (fun o' p' q' ho' hp' => by rw [wrap_nat (by omega)]; exact ih (j + 1) o' p' q' (by omega) ho' hp') u.toNat o v p2 q2 (by omega) (by omega) hp2
    rw [Int.toNat_of_nonneg hu0] at hr
    exact ⟨r, p', q', Ev.step (fun k => by simp only [spec_l11Plan.l1]; rw [if_pos (by omega), e1, Option.bind_some, e2, Option.bind_some]) hr, h1, h2⟩
theorem spec_l11Plan.ok (l : List Int) (hl : l.length ≤ 1048576) (nn : Nat) (hn : nn ≤ 12) (T : Int) (p q : Int) (hp : Cur p) : ∃ r p' q', Ev (fun k => spec_l11Plan.f k l p q (nn : Int) T) (r, p', q') ∧ r.length ≤ 288 ∧ Cur p' := by
  have : ∀ (e i : Nat) (o : List S144) (p q : Int), i + e = nn → o.length ≤ 24 * i → Cur p → ∃ r p' q', Ev (fun k => spec_l11Plan.l0 k (nn : Int) T o (i : Int) l p q) (r, p', q') ∧ r.length ≤ 288 ∧ Cur p' := by
    intro e
    induction e with
    | zero =>
      intro i o p q hi ho hp
      exact ⟨o, p, q, Ev.one fun k => by simp only [spec_l11Plan.l0]; rw [if_neg (by omega)], by omega, hp⟩
    | succ e ih =>
      intro i o p q hi ho hp
      obtain ⟨r, p', q', hr, h1, h2⟩ := spec_l11Plan.l1_ok l hl nn hn T i (by omega) (fun o' p' q' ho' hp' => by rw [wrap_nat (by omega)]; exact ih (i + 1) o' p' q' (by omega) ho' hp') (nn - (i + 1)) (i + 1) o p q (by omega) (by omega) hp
      exact ⟨r, p', q', Ev.step (fun k => by simp only [spec_l11Plan.l0]; rw [if_pos (by omega), wrap_nat (by omega)]) hr, h1, h2⟩
  exact this nn 0 [] p q (by omega) (by simp) hp

/-! spec_l17Draw -/
theorem spec_l17Draw.ok (l : List Int) (hl : l.length ≤ 1048576) (p q : Int) (hp : Cur p) : ∃ x y z pp p' q', Ev (fun k => spec_l17Draw.f k l p q) (x, y, z, pp, p', q') ∧ fitQi 1048576 pp ∧ okDst pp ∧ Cur p' := by
  obtain ⟨pl, p1, q1, h1, hpl, hp1⟩ := spec_l11Plan.ok l hl 5 (by omega) 24 p q hp
  have h1' : Ev (fun k => spec_l11Plan.f k l p q 5 24) (pl, p1, q1) := h1
  obtain ⟨v, p2, q2, e2, _, _, hp2⟩ := spec_l1Below.ok l hl p1 q1 3 hp1
  obtain ⟨x, y, z, pp, b, h3, hf, hd⟩ := spec_BuildProgram.ok pl (by omega) 5 24 4 v (by omega) (by omega) (by omega)
  have h3' : Ev (fun k => spec_BuildProgram.f k pl 5 4 0 24 v) (x, y, z, pp, b) := h3
  cases b with
  | true => exact ⟨x, y, z, pp, p2, q2, Ev.bind h1' (Ev.congr (fun k => by rw [e2, Option.bind_some]) (Ev.bind h3' (Ev.all fun k => by rw [if_pos rfl]))), hf, hd, hp2⟩
  | false =>
    obtain ⟨pl4, p4, q4, h4, hpl4, hp4⟩ := spec_l11Plan.ok l hl 3 (by omega) 12 p2 q2 hp2
    have h4' : Ev (fun k => spec_l11Plan.f k l p2 q2 3 12) (pl4, p4, q4) := h4
    obtain ⟨x5, y5, z5, pp5, b5, h5, hf5, hd5⟩ := spec_BuildProgram.ok pl4 (by omega) 3 12 2 0 (by omega) (by omega) (by omega)
    have h5' : Ev (fun k => spec_BuildProgram.f k pl4 3 2 0 12 0) (x5, y5, z5, pp5, b5) := h5
    refine ⟨x5, y5, z5, pp5, p4, q4, Ev.bind h1' (Ev.congr (fun k => by rw [e2, Option.bind_some]) (Ev.bind h3' (Ev.congr (fun k => by rw [if_neg (by simp)]) ?_))), hf5, hd5, hp4⟩
    exact Ev.bind h4' (Ev.bind h5' (Ev.now _))

/-! spec_l1Once -/
theorem spec_l1Once.ok (l : List Int) (hl : l.length ≤ 1048576) (p q n : Int) (hp : Cur p) : ∃ b p' q', spec_l1Once.f l p q n = some (b, p', q') ∧ Cur p' := by
  unfold spec_l1Once.f
  obtain ⟨v, p1, q1, e, h0, h1, hp1⟩ := spec_l1Below.ok l hl p q n hp
  rw [e]
  exact ⟨_, _, _, rfl, hp1⟩

/-! spec_l26Flow -/
theorem spec_l26Flow.ok (l : List Int) (hl : l.length ≤ 1048576) (p q : Int) (hp : Cur p) : ∃ a b c d p' q', spec_l26Flow.f l p q = some (a, b, c, d, p', q') ∧ Cur p' := by
  obtain ⟨v1, p1, q1, e1, _, _, hp1⟩ := spec_l1Below.ok l hl p q 5 hp
  obtain ⟨v2, p2, q2, e2, _, _, hp2⟩ := spec_l1Below.ok l hl p1 q1 9 hp1
  obtain ⟨v3, p3, q3, e3, _, _, hp3⟩ := spec_l1Below.ok l hl p2 q2 4 hp2
  obtain ⟨v4, p4, q4, e4, _, _, hp4⟩ := spec_l1Below.ok l hl p3 q3 3 hp3
  exact ⟨_, _, _, _, p4, q4, by unfold spec_l26Flow.f; rw [e1, Option.bind_some, e2, Option.bind_some, e3, Option.bind_some, e4, Option.bind_some], hp4⟩

/-! spec_l26List -/
theorem spec_l26List.ok_l (l : List Int) (hl : l.length ≤ 1048576) (n : Nat) (hn : n ≤ 8) : ∀ (e i : Nat) (o : List S42) (p q : Int), i + e = n → o.length ≤ i → Cur p → ∃ r p' q', Ev (fun k => spec_l26List.l0 k o (n : Int) (i : Int) l p q) (r, p', q') ∧ r.length ≤ 8 ∧ Cur p' := by
  intro e
  induction e with
  | zero =>
    intro i o p q hi ho hp
    exact ⟨o, p, q, Ev.one fun k => by simp only [spec_l26List.l0]; rw [if_neg (by omega)], by omega, hp⟩
  | succ e ih =>
    intro i o p q hi ho hp
    obtain ⟨a, b, c, d, p1, q1, e1, hp1⟩ := spec_l26Flow.ok l hl p q hp
    obtain ⟨r, p', q', hr, h1, h2⟩ := ih (i + 1) (o ++ [⟨wrap64 (20 + (i : Int)), b, c, d⟩]) p1 q1 (by omega) (by rw [List.length_append, List.length_singleton]; omega) hp1
    exact ⟨r, p', q', Ev.step (fun k => by simp only [spec_l26List.l0]; rw [if_pos (by omega), e1, Option.bind_some, if_pos (by omega), wrap_nat (by omega)]) hr, h1, h2⟩
theorem spec_l26List.ok (l : List Int) (hl : l.length ≤ 1048576) (p q : Int) (hp : Cur p) : ∃ r p' q', Ev (fun k => spec_l26List.f k l p q) (r, p', q') ∧ r.length ≤ 8 ∧ Cur p' := by
  obtain ⟨v, p1, q1, e1, h0, h5, hp1⟩ := spec_l1Below.ok l hl p q 5 hp
  have h5' := h5 (by omega)
  obtain ⟨b, p2, q2, e2, hp2⟩ := spec_l1Once.ok l hl p1 q1 10 hp1
  cases b with
  | true =>
    obtain ⟨r, p', q', hr, h1, h2⟩ := spec_l26List.ok_l l hl 8 (by omega) 8 0 [] p2 q2 (by omega) (by simp) hp2
    have hr' : Ev (fun k => spec_l26List.l0 k [] 8 0 l p2 q2) (r, p', q') := hr
    exact ⟨r, p', q', Ev.congr (fun k => by unfold spec_l26List.f; rw [Option.bind_some, e1, Option.bind_some, e2, Option.bind_some, if_pos rfl]) (Ev.step (g := fun k => spec_l26List.j0 k [] 8 l p2 q2) (fun k => by simp only [spec_l26List.j0]) hr'), h1, h2⟩
  | false =>
    obtain ⟨r, p', q', hr, h1, h2⟩ := spec_l26List.ok_l l hl v.toNat (by omega) v.toNat 0 [] p2 q2 (by omega) (by simp) hp2
    rw [Int.toNat_of_nonneg h0] at hr
    have hr' : Ev (fun k => spec_l26List.l0 k [] v 0 l p2 q2) (r, p', q') := hr
    exact ⟨r, p', q', Ev.congr (fun k => by unfold spec_l26List.f; rw [Option.bind_some, e1, Option.bind_some, e2, Option.bind_some, if_neg (by simp)]) (Ev.step (g := fun k => spec_l26List.j0 k [] v l p2 q2) (fun k => by simp only [spec_l26List.j0]) hr'), h1, h2⟩

/-! spec_l1Int -/
theorem spec_l1Int.ok (l : List Int) (hl : l.length ≤ 1048576) (p q : Int) (xs : List Int) (hx : 0 < xs.length) (hp : Cur p) : ∃ (i : Nat) (p' q' : Int), spec_l1Int.f l p q xs = some (xs.getD i 0, p', q') ∧ i < xs.length ∧ Cur p' := by
  unfold spec_l1Int.f
  obtain ⟨v, p1, q1, e, h0, h1, hp1⟩ := spec_l1Below.ok l hl p q xs.length hp
  have hv := h1 (by omega)
  rw [e, Option.bind_some, if_pos h0, if_pos hv]
  exact ⟨v.toNat, _, _, rfl, by omega, hp1⟩

/-! spec_l26Any -/
theorem spec_l26Any.ok (l : List Int) (hl : l.length ≤ 1048576) (p q : Int) (hp : Cur p) : ∃ a b c d p' q', spec_l26Any.f l p q = some (a, b, c, d, p', q') ∧ Cur p' := by
  obtain ⟨a, b, c, d, p1, q1, e1, hp1⟩ := spec_l26Flow.ok l hl p q hp
  obtain ⟨v, p2, q2, e2, _, _, hp2⟩ := spec_l1Below.ok l hl p1 q1 9 hp1
  unfold spec_l26Any.f
  rw [e1, Option.bind_some, e2, Option.bind_some]
  by_cases c0 : v = 0
  · obtain ⟨i, p3, q3, e3, _, hp3⟩ := spec_l1Int.ok l hl p2 q2 ([(-1), 9999, 10000] : List Int) (by simp) hp2
    exact ⟨_, _, _, _, p3, q3, by rw [if_pos c0, e3, Option.bind_some], hp3⟩
  · by_cases c1 : v = 1
    · obtain ⟨i, p3, q3, e3, _, hp3⟩ := spec_l1Int.ok l hl p2 q2 ([(-1), 5, 0] : List Int) (by simp) hp2
      exact ⟨_, _, _, _, p3, q3, by rw [if_neg c0, if_pos c1, e3, Option.bind_some], hp3⟩
    · by_cases c2 : v = 2
      · obtain ⟨u, p3, q3, e3, _, _, hp3⟩ := spec_l1Below.ok l hl p2 q2 4 hp2
        exact ⟨_, _, _, _, p3, q3, by rw [if_neg c0, if_neg c1, if_pos c2, e3, Option.bind_some], hp3⟩
      · exact ⟨_, _, _, _, p2, q2, by rw [if_neg c0, if_neg c1, if_neg c2], hp2⟩

/-! spec_DrawHasRoom -/
theorem spec_DrawHasRoom.ok (l : List Int) (hl : l.length ≤ 1048576) : ∃ x y z pp fl a b c d lim, Ev (fun k => spec_DrawHasRoom.f k l) (x, y, z, pp, fl, a, b, c, d, lim) ∧ fitQi 1048576 pp ∧ okDst pp ∧ fl.length ≤ 8 := by
  obtain ⟨q0, h0⟩ := spec_l1New.ev l hl
  obtain ⟨x, y, z, pp, p1, q1, h1, hf, hd, hp1⟩ := spec_l17Draw.ok l hl 0 q0 ⟨by omega, by omega⟩
  obtain ⟨fl, p2, q2, h2, hfl, hp2⟩ := spec_l26List.ok l hl p1 q1 hp1
  obtain ⟨a, b, c, d, p3, q3, e3, hp3⟩ := spec_l26Any.ok l hl p2 q2 hp2
  obtain ⟨v, p4, q4, e4, _, _, hp4⟩ := spec_l1Below.ok l hl p3 q3 4 hp3
  exact ⟨x, y, z, pp, fl, a, b, c, d, v, Ev.bind h0 (Ev.bind h1 (Ev.bind h2 (Ev.all fun k => by rw [e3, Option.bind_some, e4, Option.bind_some]))), hf, hd, hfl⟩

/-! spec_DrawAdmitFlow -/
theorem spec_DrawAdmitFlow.ok (l : List Int) (hl : l.length ≤ 1048576) : ∃ x y z pp fl a b c d lim, Ev (fun k => spec_DrawAdmitFlow.f k l) (x, y, z, pp, fl, a, b, c, d, lim) ∧ fitQi 1048576 pp ∧ okDst pp ∧ fl.length ≤ 8 := by
  obtain ⟨x, y, z, pp, fl, a, b, c, d, lim, h, h1, h2, h3⟩ := spec_DrawHasRoom.ok l hl
  exact ⟨x, y, z, pp, fl, a, b, c, d, lim, Ev.bind h (Ev.now _), h1, h2, h3⟩

/-! impl_Max -/
theorem impl_Max.val (a b : Int) : impl_Max.f a b = some (mx a b) := rfl

/-! d_resv -/
theorem pathO_ends (l : List Int) (b : Int) : ∀ (d : Nat) (x : Int) (t : List Int), pathO l b d x = some t → 0 < t.length ∧ t.getD 0 0 = x ∧ t.getD (t.length - 1) 0 = b
  | 0, x, t, h => by simp [pathO] at h
  | d + 1, x, t, h => by
    rw [pathO] at h
    split at h
    · split at h
      · rename_i e
        obtain rfl := Option.some.inj h
        exact ⟨by simp, rfl, e⟩
      · obtain ⟨u, hu, rfl⟩ := Option.map_eq_some_iff.1 h
        obtain ⟨h1, _, h3⟩ := pathO_ends l b d _ u hu
        refine ⟨by simp, rfl, ?_⟩
        rw [List.length_cons, show u.length + 1 - 1 = (u.length - 1) + 1 by omega, List.getD_cons_succ]
        exact h3
    · cases h
theorem route_ends (p : List S103) (k src dst : Int) (hd : okDst p) (h : 0 < (routeP p k src dst).length) : rd (routeP p k src dst) 0 = src ∧ (routeP p k src dst).getD ((routeP p k src dst).length - 1) 0 = dst := by
  unfold routeP at h ⊢
  by_cases c : (tableIn p k dst).2.2.2 = true
  · rw [if_pos c] at h ⊢
    have hb : (tableIn p k dst).1 = dst := by
      unfold tableIn at c ⊢
      by_cases c1 : idxB k p.length = true
      · rw [if_pos c1] at c ⊢
        by_cases c2 : idxB dst (rd_T103 p k).f2.length = true
        · rw [if_pos c2]
          obtain ⟨k0, k1⟩ := (idxB_iff _ _).1 c1
          obtain ⟨d0, d1⟩ := (idxB_iff _ _).1 c2
          have := hd (rd_T103 p k) (getD_mem p z103 (by omega)) dst.toNat (by omega)
          show ((rd_T103 p k).f2.getD dst.toNat z80).f0 = dst
          rw [this]
          omega
        · rw [if_neg c2] at c; cases c
      · rw [if_neg c1] at c; cases c
    unfold path at h ⊢
    cases hp : pathO (tableIn p k dst).2.2.1 (tableIn p k dst).1 ((tableIn p k dst).2.2.1.length + 1) src with
    | none => rw [hp] at h; simp [pathR] at h
    | some t =>
      obtain ⟨h1, h2, h3⟩ := pathO_ends _ _ _ _ t hp
      show rd ([] ++ t) 0 = _ ∧ ([] ++ t).getD (([] ++ t).length - 1) 0 = _
      rw [List.nil_append]
      exact ⟨h2, h3.trans hb⟩
  · rw [if_neg c] at h; simp at h
theorem count_congr (p q : Nat → Bool) (n : Nat) (h : ∀ i, i < n → p i = q i) : countP p n = countP q n := by
  have e : (List.range' 0 n).filter p = (List.range' 0 n).filter q := List.filter_congr (fun x hx => h x (by rw [List.mem_range'_1] at hx; omega))
  unfold countP
  rw [e]
theorem count_snoc (p : Nat → Bool) (n : Nat) : countP p (n + 1) = countP p n + if p n = true then 1 else 0 := by
  unfold countP
  rw [List.range'_concat, List.filter_append, List.length_append]
  simp only [Nat.zero_add, Nat.one_mul]
  by_cases h : p n = true
  · rw [if_pos h, List.filter_cons, if_pos h]; simp
  · rw [if_neg h, List.filter_cons, if_neg h]; simp
theorem res_snoc (p : List S103) (l : List S42) (f : S42) (k a b : Int) : resOn p (l ++ [f]) k a b = resOn p l k a b + if resQ p k a b f = true then 1 else 0 := by
  unfold resOn
  rw [List.length_append, List.length_singleton, count_snoc]
  have e1 : rd_T42 (l ++ [f]) ((l.length : Nat) : Int) = f := by
    show (l ++ [f]).getD ((l.length : Nat) : Int).toNat z42 = f
    rw [Int.toNat_natCast]
    simp [List.getD_eq_getElem?_getD]
  rw [e1, count_congr _ (fun i => resQ p k a b (rd_T42 l ((i : Nat) : Int))) l.length (fun i hi => by
    have : rd_T42 (l ++ [f]) ((i : Nat) : Int) = rd_T42 l ((i : Nat) : Int) := by
      show (l ++ [f]).getD ((i : Nat) : Int).toNat z42 = l.getD ((i : Nat) : Int).toNat z42
      rw [Int.toNat_natCast, List.getD_eq_getElem?_getD, List.getElem?_append_left hi, ← List.getD_eq_getElem?_getD]
    rw [this])]
theorem mx_le (a b c : Int) : mx a b ≤ c ↔ a ≤ c ∧ b ≤ c := by unfold mx; split <;> omega
theorem mx_l (a b : Int) : a ≤ mx a b := by unfold mx; split <;> omega
theorem mx_r (a b : Int) : b ≤ mx a b := by unfold mx; split <;> omega
/-- Two greatest: where every step keeps the bound. -/
theorem fold_rel (R : Int → Int → Prop) (f g : Int → Nat → Int) : ∀ (d i : Nat) (s t : Int), (∀ j, i ≤ j → j < i + d → ∀ s t, R s t → R (f s j) (g t j)) → R s t → R ((List.range' i d).foldl f s) ((List.range' i d).foldl g t)
  | 0, _, _, _, _, h => h
  | d + 1, i, s, t, hs, h => by
    rw [List.range'_succ, List.foldl_cons, List.foldl_cons]
    exact fold_rel R f g d (i + 1) _ _ (fun j h1 h2 => hs j (by omega) (by omega)) (hs i (by omega) (by omega) s t h)
theorem great_rel (R : Int → Int → Prop) (p : List S103) (l m : List S42) (x : Int) (h0 : R 0 0) (h : ∀ (k a b : Nat) (s t : Int), k < p.length → R s t → R (mx s (resOn p l ((k : Nat) : Int) ((a : Nat) : Int) ((b : Nat) : Int))) (mx t (resOn p m ((k : Nat) : Int) ((a : Nat) : Int) ((b : Nat) : Int)))) : R (great p l x) (great p m x) := by
  unfold great
  split
  · refine fold_rel R _ _ p.length 0 0 0 (fun k _ hk s t hst => ?_) h0
    unfold greatA
    refine fold_rel R _ _ x.toNat 0 s t (fun a _ _ s t hst => ?_) hst
    unfold greatB
    exact fold_rel R _ _ x.toNat 0 s t (fun b _ _ s t hst => h k a b s t (by omega) hst) hst
  · exact h0
theorem great_room (p : List S103) (l : List S42) (f : S42) (x limit : Int) (hr : f.f3 = 1 → roomB p l f.f1 f.f2 limit = true) : great p (l ++ [f]) x ≤ mx (great p l x) limit := by
  refine great_rel (fun s t => s ≤ mx t limit) p (l ++ [f]) l x (mx_l _ _) (fun k a b s t hk hst => ?_)
  rw [res_snoc]
  generalize hR : resOn p l ((k : Nat) : Int) ((a : Nat) : Int) ((b : Nat) : Int) = R
  have h1 : mx t limit ≤ mx (mx t R) limit := by rw [mx_le]; exact ⟨Int.le_trans (mx_l t R) (mx_l _ _), mx_r _ _⟩
  have h2 : R ≤ mx (mx t R) limit := Int.le_trans (mx_r t R) (mx_l _ _)
  rw [mx_le]
  refine ⟨Int.le_trans hst h1, ?_⟩
  by_cases c : resQ p ((k : Nat) : Int) ((a : Nat) : Int) ((b : Nat) : Int) f = true
  · rw [if_pos c]
    unfold resQ at c
    rw [Bool.and_eq_true, beq_iff_eq] at c
    have hroom := hr c.1
    unfold roomB at hroom
    have hany : (List.range' 0 p.length).any (roomQ p l f.f1 f.f2 limit) = false := by
      cases hq : (List.range' 0 p.length).any (roomQ p l f.f1 f.f2 limit) with
      | true => rw [hq] at hroom; simp at hroom
      | false => rfl
    rw [List.any_eq_false] at hany
    have hk2 := hany k (by rw [List.mem_range'_1]; omega)
    have hg := c.2
    unfold goesB at hg
    rw [List.any_eq_true] at hg
    obtain ⟨i, hi, hq⟩ := hg
    unfold goesQ at hq
    rw [Bool.and_eq_true, beq_iff_eq, beq_iff_eq] at hq
    unfold roomQ at hk2
    simp only [Bool.not_eq_true, List.any_eq_false] at hk2
    have := hk2 i hi
    rw [hq.1, hq.2, hR] at this
    have this := of_decide_eq_false this
    have h3 : limit ≤ mx (mx t R) limit := mx_r _ _
    omega
  · rw [if_neg c]; omega
theorem great_same (p : List S103) (l : List S42) (f : S42) (x : Int) (h3 : f.f3 ≠ 1) : great p (l ++ [f]) x = great p l x := by
  refine great_rel (fun s t => s = t) p (l ++ [f]) l x rfl (fun k a b s t _ hst => ?_)
  have : resQ p ((k : Nat) : Int) ((a : Nat) : Int) ((b : Nat) : Int) f = false := by
    unfold resQ
    rw [show (f.f3 == 1) = false from beq_eq_false_iff_ne.mpr h3, Bool.false_and]
  rw [res_snoc, this, hst]
  simp
theorem admit_ok (x : Int) (p : List S103) (l : List S42) (f : S42) (limit : Int) : ((admF x p l f limit).2 = false ∧ (admF x p l f limit).1 = l) ∨ ((admF x p l f limit).2 = true ∧ (admF x p l f limit).1 = l ++ [f] ∧ (f.f3 = 1 → roomB p l f.f1 f.f2 limit = true)) := by
  unfold admF
  by_cases h1 : flowB f.f0 f.f1 f.f2 f.f3 x = true
  · rw [if_pos h1]
    by_cases h2 : (l.length : Int) ≥ 8
    · rw [if_pos h2]; exact .inl ⟨rfl, rfl⟩
    · rw [if_neg h2]
      by_cases h3 : (l.any fun y => y.f0 == f.f0) = true
      · rw [if_pos h3]; exact .inl ⟨rfl, rfl⟩
      · rw [if_neg h3]
        by_cases h4 : f.f3 = 1
        · rw [if_pos h4]
          by_cases h5 : roomB p l f.f1 f.f2 limit = true
          · rw [if_pos h5]; exact .inr ⟨rfl, rfl, fun _ => h5⟩
          · rw [if_neg h5]; exact .inl ⟨rfl, rfl⟩
        · rw [if_neg h4]; exact .inr ⟨rfl, rfl, fun h => absurd h h4⟩
  · rw [if_neg h1]; exact .inl ⟨rfl, rfl⟩

/-! @@ FnReserved -/
theorem proved : Stated := by
  intro l0 ⟨hl, hw⟩
  refine Ev.rounds ?_
  refine Ev.congr (fun k => by unfold laws_FnReserved.f; rw [laws_big.val, Option.bind_some]) ?_
  by_cases hb : decide ((l0.length : Int) > 1048576) = true
  · exact Ev.all fun k => by rw [if_pos hb]
  have hb' : ¬ ((l0.length : Int) > 1048576) := fun h => hb (decide_eq_true h)
  obtain ⟨x, y, z, p, fl, a, b, c, d, lim, hdraw, hp, hdst, hfl⟩ := spec_DrawAdmitFlow.ok l0 (by omega)
  have hG := impl_GreatestLoad.ev x y z p fl hp (by omega)
  have hA := impl_AdmitFlow.ev x y z p fl ⟨a, b, c, d⟩ lim hp (by omega)
  refine Ev.congr (fun k => by rw [if_neg hb]) (Ev.bind hdraw (Ev.bind hG (Ev.bind hA ?_)))
  rcases admit_ok x p fl ⟨a, b, c, d⟩ lim with ⟨h2, h1⟩ | ⟨h2, h1, hroom⟩
  · exact Ev.all fun k => by rw [if_neg (by rw [h2]; simp), h1]; simp
  · refine Ev.congr (fun k => by rw [if_pos h2]) ?_
    rw [h1]
    have hG2 := impl_GreatestLoad.ev x y z p (fl ++ [⟨a, b, c, d⟩]) hp (by rw [List.length_append, List.length_singleton]; omega)
    have hle := great_room p fl ⟨a, b, c, d⟩ x lim hroom
    have hsame := great_same p fl ⟨a, b, c, d⟩ x
    have hlen : ((fl ++ [(⟨a, b, c, d⟩ : S42)]).length : Int) = wrap64 ((fl.length : Int) + 1) := by rw [List.length_append, List.length_singleton]; unfold wrap64; omega
    generalize fl ++ [(⟨a, b, c, d⟩ : S42)] = fl2 at hG2 hle hsame hlen
    generalize great p fl2 x = g2 at hG2 hle hsame
    generalize great p fl x = g1 at hle hsame
    have hend : Ev (fun k => laws_FnReserved.l0 k fl lim g1 fl2 (p.length : Int) x y z p a b c d) true := by
      refine Ev.step (fun k => by simp only [laws_FnReserved.l0]; rw [if_neg (by omega), if_pos hlen]) (Ev.bind hG2 ?_)
      refine Ev.congr (fun k => by rw [impl_Max.val, Option.bind_some, if_pos hle]) ?_
      by_cases c3 : d = 1
      · exact Ev.all fun k => by rw [if_pos c3]
      · refine Ev.congr (fun k => by rw [if_neg c3]) (Ev.bind hG2 (Ev.all fun k => ?_))
        rw [hsame c3]
        simp
    have : ∀ e j : Nat, j + e = p.length → Ev (fun k => laws_FnReserved.l0 k fl lim g1 fl2 (j : Int) x y z p a b c d) true := by
      intro e
      induction e with
      | zero =>
        intro j hj
        have : j = p.length := by omega
        subst this
        exact hend
      | succ e ih =>
        intro j hj
        have hr := ih (j + 1) (by omega)
        have hrl := routeP_len hp (j : Int) b c
        have hends := route_ends p (j : Int) b c hdst
        refine Ev.step (fun k => by simp only [laws_FnReserved.l0]; rw [if_pos (by have := hp.1; omega)]) (Ev.bind (impl_RouteIn.ev x y z p (j : Int) a b c d hp) ?_)
        generalize routeP p (j : Int) b c = R at hrl hends
        have hpl := hp.1
        by_cases c0 : (R.length : Int) > 0
        · obtain ⟨h3, h4⟩ := hends (by omega)
          refine Ev.congr (fun k => by rw [if_pos c0, if_pos (by omega), if_pos h3, wrap_pred (by omega) (by omega), if_pos (by omega), if_pos (by omega), if_pos (by rw [rd_nat]; exact h4), wrap_nat (by omega)]) hr
        · exact Ev.congr (fun k => by rw [if_neg c0, wrap_nat (by omega)]) hr
    exact this p.length 0 (by omega)

end Go.Proofs.Ytdodogkgmpaioaa.PureFnReserved
