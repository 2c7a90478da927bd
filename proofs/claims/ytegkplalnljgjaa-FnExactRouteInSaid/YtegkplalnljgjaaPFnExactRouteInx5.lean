/- The functions that the law reaches, as plain Lean functions, each with the proof that the Go code comes to its answers; conditions: those that each theorem names. (printed by a program of this session) -/
import Derived.Test.YtegkplalnljgjaaPFnExactRouteInx0
namespace Go.Proofs.Ytegkplalnljgjaa.PFnExactRouteIn
open Go.RowKit Go.Proofs.YtegkplalnljgjaaW.PrintWords Go.Proofs.YtegkplalnljgjaaW.PrintLast Go.Proofs.YtegkplalnljgjaaW.PrintMore
attribute [local go_sem] max2_int min2_int max_two min_two max_three min_three max_four min_four   -- for this text's walks alone
set_option linter.unusedVariables false
set_option linter.unusedSimpArgs false

/-! ### laws_markProgram: function 54 -/
theorem not_types_ {w : World} {g t : Nat} {cs : Array Value} {L : List Nat} (h : w.heap[g]? = some (.cells cs t (0, 0))) (hs : ∃ q, q ∈ L ∧ ∃ cells, w.heap[g]? = some (.cells cells q (0, 0))) (hn : t ∉ L) : False := by
  obtain ⟨q, hq, cells, hc⟩ := hs
  rw [h] at hc
  injection hc with hc
  injection hc with _ ht _
  exact hn (ht ▸ hq)
def isI_ (v : Value) : Prop := ∃ z, v = .int .i64 z
/-- Numbers in P's blocks are turned to numbers; all else stays. -/
def Mk_ (P : Nat → Prop) (w w' : World) : Prop := Below 0 w w' ∧ (∀ b, b < w.heap.size → ¬ P b → w'.heap[b]? = w.heap[b]?) ∧
  ∀ (b : Nat) (cells : Array Value) (t : Nat), w.heap[b]? = some (.cells cells t (0, 0)) → ∃ cells' : Array Value, w'.heap[b]? = some (.cells cells' t (0, 0)) ∧ ∀ (j : Nat) (u : Value), cells[j]? = some u → ∃ u', cells'[j]? = some u' ∧ (u' = u ∨ isI_ u ∧ isI_ u')
theorem Mk_.refl (P : Nat → Prop) (w : World) : Mk_ P w w := ⟨Below.refl _ _, fun _ _ _ => rfl, fun _ cells _ h => ⟨cells, h, fun _ u hu => ⟨u, hu, .inl rfl⟩⟩⟩
theorem Mk_.then_ {P : Nat → Prop} {w W W2 : World} (h : Mk_ P w W) (k : Mk_ P W W2) : Mk_ P w W2 := by
  refine ⟨h.1.trans k.1, fun b hb hn => (k.2.1 b (Nat.lt_of_lt_of_le hb h.1.size) hn).trans (h.2.1 b hb hn), fun b cells t hc => ?_⟩
  obtain ⟨c1, h1, h2⟩ := h.2.2 b cells t hc
  obtain ⟨c2, h3, h4⟩ := k.2.2 b c1 t h1
  refine ⟨c2, h3, fun j u hu => ?_⟩
  obtain ⟨u1, e1, r1⟩ := h2 j u hu
  obtain ⟨u2, e2, r2⟩ := h4 j u1 e1
  refine ⟨u2, e2, ?_⟩
  rcases r1 with rfl | ⟨a1, a2⟩
  · exact r2
  · rcases r2 with rfl | ⟨b1, b2⟩
    · exact .inr ⟨a1, a2⟩
    · exact .inr ⟨a1, b2⟩
theorem Mk_.drewN {P : Nat → Prop} {w W : World} (h : Mk_ P w W) (n : Nat) : Mk_ P w (W.drewN n) := ⟨wN_ h.1 n, h.2⟩
theorem Mk_.set {P : Nat → Prop} {w W : World} (h : Mk_ P w W) {g o t : Nat} {cs : Array Value} {z z' : Int} (hP : P g) (hb : W.heap[g]? = some (.cells cs t (0, 0))) (hz : cs[o]? = some (.int .i64 z)) : Mk_ P w (W.setCell ⟨g, o, none⟩ (.int .i64 z')) := by
  refine h.then_ ⟨⟨rfl, rfl, rfl, by simp [World.setCell], fun k hk => absurd hk (Nat.not_lt_zero k)⟩, fun b _ hn => Below.heap_setCell W ⟨g, o, none⟩ _ b (fun e => hn (e ▸ hP)), fun b cells t' hc => ?_⟩
  by_cases e : b = g
  · subst e
    rw [hb] at hc
    injection hc with hc
    injection hc with e1 e2 _
    subst e1; subst e2
    refine ⟨_, blk_set hb o _, fun j u hu => ?_⟩
    by_cases ej : j = o
    · subst ej
      rw [hz] at hu
      injection hu with hu
      subst hu
      have hj : j < cs.size := (Array.getElem?_eq_some_iff.1 hz).1
      exact ⟨.int .i64 z', by simp [Array.getElem?_setIfInBounds, hj], .inr ⟨⟨_, rfl⟩, ⟨_, rfl⟩⟩⟩
    · exact ⟨u, by rw [Array.getElem?_setIfInBounds_ne (Ne.symm ej)]; exact hu, .inl rfl⟩
  · exact ⟨cells, (Below.heap_setCell W ⟨g, o, none⟩ _ b e).trans hc, fun _ u hu => ⟨u, hu, .inl rfl⟩⟩
def IntRow_ (P : Nat → Prop) (w : World) (A : Option Addr) (m : Nat) : Prop := m = 0 ∨ ∃ (g : Nat) (cells : Array Value) (t : Nat), A = some ⟨g, 0, none⟩ ∧ P g ∧ w.heap[g]? = some (.cells cells t (0, 0)) ∧ ∀ j, j < m → ∃ z, cells[j]? = some (.int .i64 z)
theorem IntRow_.mk_ {P : Nat → Prop} {w W : World} {A : Option Addr} {m : Nat} (h : IntRow_ P w A m) (k : Mk_ P w W) : IntRow_ P W A m := by
  rcases h with h | ⟨g, cells, t, hA, hP, hb, hz⟩
  · exact .inl h
  · obtain ⟨c1, h1, h2⟩ := k.2.2 g cells t hb
    refine .inr ⟨g, c1, t, hA, hP, h1, fun j hj => ?_⟩
    obtain ⟨z, hz⟩ := hz j hj
    obtain ⟨u, hu, e | ⟨_, z', e⟩⟩ := h2 j _ hz
    · exact ⟨z, e ▸ hu⟩
    · exact ⟨z', e ▸ hu⟩
theorem slice_stays {P : Nat → Prop} {w W : World} (k : Mk_ P w W) {g t j : Nat} {cells : Array Value} {A : Option Addr} {n c : Nat} (hb : w.heap[g]? = some (.cells cells t (0, 0))) (hj : cells[j]? = some (.slice A n c)) : ∃ cells', W.heap[g]? = some (.cells cells' t (0, 0)) ∧ cells'[j]? = some (.slice A n c) := by
  obtain ⟨c1, h1, h2⟩ := k.2.2 g cells t hb
  obtain ⟨u, hu, e | ⟨⟨_, e⟩, _⟩⟩ := h2 j _ hj
  · exact ⟨c1, h1, e ▸ hu⟩
  · cases e
def TabRow_ (P : Nat → Prop) (w : World) (A : Option Addr) (ns : List (Nat × Nat)) : Prop := ns = [] ∨ ∃ (g : Nat) (cells : Array Value) (t : Nat), A = some ⟨g, 0, none⟩ ∧ P g ∧ w.heap[g]? = some (.cells cells t (0, 0)) ∧
  ∀ (j : Nat) (p : Nat × Nat), ns[j]? = some p → (∃ z, cells[j * 3]? = some (.int .i64 z)) ∧ (∃ A1 c1, cells[j * 3 + 1]? = some (.slice A1 p.1 c1) ∧ IntRow_ P w A1 p.1) ∧ ∃ A2 c2, cells[j * 3 + 2]? = some (.slice A2 p.2 c2) ∧ IntRow_ P w A2 p.2
theorem keep_cells {P : Nat → Prop} {w W : World} (k : Mk_ P w W) {g t : Nat} {cells : Array Value} (hb : w.heap[g]? = some (.cells cells t (0, 0))) : ∃ cells' : Array Value, W.heap[g]? = some (.cells cells' t (0, 0)) ∧ (∀ (j : Nat) (z : Int), cells[j]? = some (Value.int .i64 z) → ∃ z', cells'[j]? = some (Value.int .i64 z')) ∧ ∀ (j : Nat) (A : Option Addr) (n c : Nat), cells[j]? = some (Value.slice A n c) → cells'[j]? = some (Value.slice A n c) := by
  obtain ⟨c1, h1, h2⟩ := k.2.2 g cells t hb
  refine ⟨c1, h1, fun j z hz => ?_, fun j A n c hc => ?_⟩
  · obtain ⟨u, hu, e | ⟨_, z', e⟩⟩ := h2 j _ hz
    · exact ⟨z, e ▸ hu⟩
    · exact ⟨z', e ▸ hu⟩
  · obtain ⟨u, hu, e | ⟨⟨_, e⟩, _⟩⟩ := h2 j _ hc
    · exact e ▸ hu
    · cases e
theorem TabRow_.mk_ {P : Nat → Prop} {w W : World} {A : Option Addr} {ns : List (Nat × Nat)} (h : TabRow_ P w A ns) (k : Mk_ P w W) : TabRow_ P W A ns := by
  rcases h with h | ⟨g, cells, t, hA, hP, hb, hz⟩
  · exact .inl h
  · obtain ⟨c1, h1, h2, h3⟩ := keep_cells k hb
    refine .inr ⟨g, c1, t, hA, hP, h1, fun j p hj => ?_⟩
    obtain ⟨⟨z, q0⟩, ⟨A1, d1, q1, i1⟩, ⟨A2, d2, q2, i2⟩⟩ := hz j p hj
    exact ⟨h2 _ _ q0, ⟨A1, d1, h3 _ _ _ _ q1, i1.mk_ k⟩, ⟨A2, d2, h3 _ _ _ _ q2, i2.mk_ k⟩⟩
def PieRow_ (P : Nat → Prop) (w : World) (A : Option Addr) (ns : List (Nat × List (Nat × Nat))) : Prop := ns = [] ∨ ∃ (g : Nat) (cells : Array Value) (t : Nat), A = some ⟨g, 0, none⟩ ∧ P g ∧ w.heap[g]? = some (.cells cells t (0, 0)) ∧
  ∀ (j : Nat) (p : Nat × List (Nat × Nat)), ns[j]? = some p → (∃ z, cells[j * 4]? = some (.int .i64 z)) ∧ (∃ z, cells[j * 4 + 1]? = some (.int .i64 z)) ∧ (∃ A1 c1, cells[j * 4 + 2]? = some (.slice A1 p.1 c1) ∧ IntRow_ P w A1 (p.1 * 2)) ∧ ∃ A2 c2, cells[j * 4 + 3]? = some (.slice A2 p.2.length c2) ∧ TabRow_ P w A2 p.2
theorem PieRow_.mk_ {P : Nat → Prop} {w W : World} {A : Option Addr} {ns : List (Nat × List (Nat × Nat))} (h : PieRow_ P w A ns) (k : Mk_ P w W) : PieRow_ P W A ns := by
  rcases h with h | ⟨g, cells, t, hA, hP, hb, hz⟩
  · exact .inl h
  · obtain ⟨c1, h1, h2, h3⟩ := keep_cells k hb
    refine .inr ⟨g, c1, t, hA, hP, h1, fun j p hj => ?_⟩
    obtain ⟨⟨z, q0⟩, ⟨z', q0'⟩, ⟨A1, d1, q1, i1⟩, ⟨A2, d2, q2, i2⟩⟩ := hz j p hj
    exact ⟨h2 _ _ q0, h2 _ _ q0', ⟨A1, d1, h3 _ _ _ _ q1, i1.mk_ k⟩, ⟨A2, d2, h3 _ _ _ _ q2, i2.mk_ k⟩⟩
def tabSize_ (ns : List (Nat × Nat)) : Nat := (ns.map fun p => 1 + p.1 + p.2).sum
def pieSize_ (ns : List (Nat × List (Nat × Nat))) : Nat := (ns.map fun p => 2 + p.1 * 2 + tabSize_ p.2).sum
theorem sum_take {α : Type} (f : α → Nat) (l : List α) {i : Nat} {x : α} (h : l[i]? = some x) : ((l.take (i + 1)).map f).sum = ((l.take i).map f).sum + f x := by
  rw [List.take_add_one, h]
  simp [List.map_append, List.sum_append]
theorem sum_le {α : Type} (f : α → Nat) (l : List α) (i : Nat) : ((l.take i).map f).sum ≤ (l.map f).sum := by
  have h := congrArg (fun q => (q.map f).sum) (List.take_append_drop i l)
  simp only [List.map_append, List.sum_append] at h
  omega
theorem tab_len : ∀ ns : List (Nat × Nat), ns.length ≤ tabSize_ ns
  | [] => Nat.le_refl _
  | p :: ns => by
    have := tab_len ns
    unfold tabSize_ at this ⊢
    rw [List.map_cons, List.sum_cons, List.length_cons]
    omega
theorem pie_len : ∀ ns : List (Nat × List (Nat × Nat)), ns.length ≤ pieSize_ ns
  | [] => Nat.le_refl _
  | p :: ns => by
    have := pie_len ns
    unfold pieSize_ at this ⊢
    rw [List.map_cons, List.sum_cons, List.length_cons]
    omega
set_option maxHeartbeats 2000000 in
set_option maxRecDepth 100000 in
theorem marks_ints (P : Nat → Prop) (A : Option Addr) (n c : Nat) (a : Int) (w : World) (h0 : 0 ≤ a) (hs : a + n ≤ 4000000000) (h : IntRow_ P w A n) :
    Calls Try.prog 39 #[.slice A n c, .int .i64 a] w fun e w' => e = .returned (.int .i64 (a + n)) ∧ Mk_ P w w' := by
  have HI := aM_ h
  clear h
  go_enter Try.func39, Try.ntmps39
  go_wp2
  go_loopg [1, 5] n (fun gg v1 v5 wr => ∃ (i : Nat) (k : Int), i ≤ n ∧ n - i ≤ gg ∧ v1 = .int .i64 k ∧ v5 = .int .i64 i ∧ Aside0 (k = a + i) ∧ Aside0 (Mk_ P w wr))
  case atStart => exact ⟨0, a, Nat.zero_le _, by omega, rfl, rfl, ⟨by omega⟩, ⟨Mk_.refl _ _⟩⟩
  case round =>
    obtain ⟨i, k, hi, hg, rfl, rfl, HK, HM⟩ := hrel
    have hk := HK.out
    by_cases hlt : i < n
    · have hltz : (i : Int) < (n : Int) := by omega
      have hw : wrap64 (k + 1) = k + 1 := by unfold wrap64; omega
      have HW := aM_ hw
      rcases HI.out.mk_ HM.out with h | ⟨g, cells, t, rfl, hP, hb, hz⟩
      · omega
      · obtain ⟨z, hz⟩ := hz i hlt
        have hx : wr.cell? ⟨g, i, none⟩ = some (.int .i64 z) := (blk_cell hb i).trans hz
        have hf : wr.frozen? ⟨g, i, none⟩ = false := blk_frozen hb i
        have HN := aM_ (Mk_.set (z' := k) HM.out hP hb hz)
        clear hb hz hP hk hw
        go_wp2
        go_roundg (n - (i + 1))
        case measure => omega
        case rel => exact ⟨i + 1, k + 1, by omega, by omega, congrArg (Value.int .i64) (by first | exact HW.out | rw [i64_w]; exact HW.out), by go_num, ⟨by have := HK.out; omega⟩, ⟨HN.out⟩⟩
    · have hltz : ¬ (i : Int) < (n : Int) := by omega
      have : i = n := by omega
      subst this
      obtain rfl := hk
      go_wp2
      go_ret
      exact ⟨rfl, HM.out⟩
set_option maxHeartbeats 2000000 in
set_option maxRecDepth 100000 in
theorem marks_links (P : Nat → Prop) (A : Option Addr) (n c : Nat) (a : Int) (w : World) (h0 : 0 ≤ a) (hs : a + ((n * 2 : Nat) : Int) ≤ 4000000000) (h : IntRow_ P w A (n * 2)) :
    Calls Try.prog 116 #[.slice A n c, .int .i64 a] w fun e w' => e = .returned (.int .i64 (a + ((n * 2 : Nat) : Int))) ∧ Mk_ P w w' := by
  have HI := aM_ h
  have HS := aM_ hs
  have hnb : n ≤ 4000000000 := by omega
  clear h hs
  go_enter Try.func116, Try.ntmps116
  go_wp2
  go_loopg [1, 5] n (fun gg v1 v5 wr => ∃ (i : Nat) (k : Int), i ≤ n ∧ n - i ≤ gg ∧ v1 = .int .i64 k ∧ v5 = .int .i64 i ∧ Aside0 (k = a + ((i * 2 : Nat) : Int)) ∧ Aside0 (Mk_ P w wr))
  case atStart => exact ⟨0, a, Nat.zero_le _, by omega, rfl, rfl, ⟨by omega⟩, ⟨Mk_.refl _ _⟩⟩
  case round =>
    obtain ⟨i, k, hi, hg, rfl, rfl, HK, HM⟩ := hrel
    have hk := HK.out
    have hs := HS.out
    by_cases hlt : i < n
    · have hltz : (i : Int) < (n : Int) := by omega
      have HW := aM_ (show wrap64 (k + 1) = k + 1 by unfold wrap64; omega)
      have HW2 := aM_ (show wrap64 (wrap64 (k + 1) + 1) = k + 2 by unfold wrap64; omega)
      rcases HI.out.mk_ HM.out with h | ⟨g, cells, t, rfl, hP, hb, hz⟩
      · omega
      · obtain ⟨z, hz0⟩ := hz (i * 2) (by omega)
        obtain ⟨z', hz1⟩ := hz (i * 2 + 1) (by omega)
        have hx0 : wr.cell? ⟨g, i * 2, none⟩ = some (.int .i64 z) := (blk_cell hb _).trans hz0
        have hf0 : wr.frozen? ⟨g, i * 2, none⟩ = false := blk_frozen hb _
        have hx1 : wr.cell? ⟨g, i * 2 + 1, none⟩ = some (.int .i64 z') := (blk_cell hb _).trans hz1
        have hf1 : wr.frozen? ⟨g, i * 2 + 1, none⟩ = false := blk_frozen hb _
        have HN := aM_ (Mk_.set (z' := wrap64 (k + 1)) (Mk_.set (z' := k) HM.out hP hb hz0) hP (blk_set hb (i * 2) (.int .i64 k)) (o := i * 2 + 1) (z := z') (by rw [Array.getElem?_setIfInBounds_ne (by omega)]; exact hz1))
        clear hb hz hP hk hz0 hz1 hs
        go_wp2
        go_roundg (n - (i + 1))
        case measure => omega
        case rel => exact ⟨i + 1, k + 2, by omega, by omega, congrArg (Value.int .i64) (by first | exact HW2.out | (simp only [i64_w]; exact HW2.out)), by go_num, ⟨by have := HK.out; omega⟩, ⟨by first | exact HN.out | (simp only [i64_w]; exact HN.out)⟩⟩
    · have hltz : ¬ (i : Int) < (n : Int) := by omega
      have : i = n := by omega
      subst this
      obtain rfl := hk
      clear hs
      go_wp2
      go_ret
      exact ⟨rfl, HM.out⟩
set_option maxHeartbeats 2000000 in
set_option maxRecDepth 100000 in
theorem marks_tabs (P : Nat → Prop) (A : Option Addr) (n c : Nat) (ns : List (Nat × Nat)) (hn : ns.length = n) (a : Int) (w : World) (h0 : 0 ≤ a) (hs : a + (tabSize_ ns : Int) ≤ 4000000000) (h : TabRow_ P w A ns) :
    Calls Try.prog 117 #[.slice A n c, .int .i64 a] w fun e w' => e = .returned (.int .i64 (a + (tabSize_ ns : Int))) ∧ Mk_ P w w' := by
  have HI := aM_ h
  have HS := aM_ hs
  have HL := aM_ hn
  have hnb : n ≤ 4000000000 := by have := tab_len ns; omega
  clear h hs hn
  go_enter Try.func117, Try.ntmps117
  go_wp2
  go_loopg [1, 5] n (fun gg v1 v5 wr => ∃ (i : Nat) (k : Int), i ≤ n ∧ n - i ≤ gg ∧ v1 = .int .i64 k ∧ v5 = .int .i64 i ∧ Aside0 (k = a + (tabSize_ (ns.take i) : Int)) ∧ Aside0 (Mk_ P w wr))
  case atStart => exact ⟨0, a, Nat.zero_le _, by omega, rfl, rfl, ⟨by simp [tabSize_]⟩, ⟨Mk_.refl _ _⟩⟩
  case round =>
    obtain ⟨i, k, hi, hg, rfl, rfl, HK, HM⟩ := hrel
    have hk := HK.out
    have hs := HS.out
    have hl := HL.out
    by_cases hlt : i < n
    · have hltz : (i : Int) < (n : Int) := by omega
      obtain ⟨p, hp⟩ : ∃ p, ns[i]? = some p := ⟨_, List.getElem?_eq_getElem (by omega)⟩
      have ht : tabSize_ (ns.take (i + 1)) = tabSize_ (ns.take i) + (1 + p.1 + p.2) := sum_take _ ns hp
      have hle : tabSize_ (ns.take (i + 1)) ≤ tabSize_ ns := sum_le _ ns (i + 1)
      have HW := aM_ (show wrap64 (k + 1) = k + 1 by unfold wrap64; omega)
      rcases HI.out.mk_ HM.out with h | ⟨g, cells, t, rfl, hP, hb, hz⟩
      · rw [h] at hp; cases hp
      · obtain ⟨⟨z, hz0⟩, ⟨A1, d1, hz1, i1⟩, ⟨A2, d2, hz2, i2⟩⟩ := hz i p hp
        have hx0 : wr.cell? ⟨g, i * 3, none⟩ = some (.int .i64 z) := (blk_cell hb _).trans hz0
        have hf0 : wr.frozen? ⟨g, i * 3, none⟩ = false := blk_frozen hb _
        have hx1 : wr.cell? ⟨g, i * 3 + 1, none⟩ = some (.slice A1 p.1 d1) := (blk_cell hb _).trans hz1
        have hf1 : wr.frozen? ⟨g, i * 3 + 1, none⟩ = false := blk_frozen hb _
        have hm1 : Mk_ P wr (wr.setCell ⟨g, i * 3, none⟩ (.int .i64 k)) := Mk_.set (Mk_.refl _ _) hP hb hz0
        obtain ⟨c1, hb1, _, hc1⟩ := keep_cells hm1 hb
        have hz2' := hc1 _ _ _ _ hz2
        have HC1 := aM_ (marks_ints P A1 p.1 d1 (wrap64 (k + 1)) _ (by have := HW.out; omega) (by have := HW.out; omega) (i1.mk_ hm1))
        have HG := aM_ (show ∀ W, Mk_ P (wr.setCell ⟨g, i * 3, none⟩ (.int .i64 k)) W → W.cell? ⟨g, i * 3 + 2, none⟩ = some (.slice A2 p.2 d2) ∧ W.frozen? ⟨g, i * 3 + 2, none⟩ = false ∧ (Calls Try.prog 39 #[.slice A2 p.2 d2, .int .i64 (wrap64 (k + 1) + p.1)] W fun e w' => e = .returned (.int .i64 (wrap64 (k + 1) + p.1 + p.2)) ∧ Mk_ P W w') from fun W hW => by
          obtain ⟨c2, hb2, _, hc2⟩ := keep_cells hW hb1
          exact ⟨(blk_cell hb2 _).trans (hc2 _ _ _ _ hz2'), blk_frozen hb2 _, marks_ints P A2 p.2 d2 (wrap64 (k + 1) + p.1) W (by have := HW.out; omega) (by have := HW.out; omega) ((i2.mk_ hm1).mk_ hW)⟩)
        have HM1 := aM_ (HM.out.then_ hm1)
        have HT := aM_ ht
        clear hb hz hP hk hz0 hz1 hs hl ht hle hm1 hb1 hc1 hz2' i1 i2 hz2 hp
        go_wp2_with (first | (go_at_call 39; refine HC1.out.mono ?_; rintro e w2 ⟨rfl, hm2⟩; obtain ⟨hx2, hf2, hc⟩ := HG.out w2 hm2; have HC2 := aM_ hc; have HM2 := aM_ hm2; clear hc hm2 HC1 HG) | (go_at_call 39; refine HC2.out.mono ?_; rintro e w3 ⟨rfl, hm3⟩; have HM3 := aM_ hm3; clear hm3 HC2))
        go_roundg (n - (i + 1))
        case measure => omega
        case rel => exact ⟨i + 1, wrap64 (k + 1) + p.1 + p.2, by omega, by omega, rfl, by go_num, ⟨by have := HK.out; have := HT.out; have := HW.out; omega⟩, ⟨(HM1.out.then_ HM2.out).then_ HM3.out⟩⟩
    · have hltz : ¬ (i : Int) < (n : Int) := by omega
      have : i = n := by omega
      subst this
      rw [List.take_of_length_le (by omega)] at hk
      obtain rfl := hk
      clear hs hl
      go_wp2
      go_ret
      exact ⟨rfl, HM.out⟩
set_option maxHeartbeats 2000000 in
set_option maxRecDepth 100000 in
theorem marks_pieces (P : Nat → Prop) (A : Option Addr) (n c : Nat) (ns : List (Nat × List (Nat × Nat))) (hn : ns.length = n) (a : Int) (w : World) (h0 : 0 ≤ a) (hs : a + (pieSize_ ns : Int) ≤ 4000000000) (h : PieRow_ P w A ns) :
    Calls Try.prog 91 #[.slice A n c, .int .i64 a] w fun e w' => e = .returned (.int .i64 (a + (pieSize_ ns : Int))) ∧ Mk_ P w w' := by
  have HI := aM_ h
  have HS := aM_ hs
  have HL := aM_ hn
  have hnb : n ≤ 4000000000 := by have := pie_len ns; omega
  clear h hs hn
  go_enter Try.func91, Try.ntmps91
  go_wp2
  go_loopg [1, 5] n (fun gg v1 v5 wr => ∃ (i : Nat) (k : Int), i ≤ n ∧ n - i ≤ gg ∧ v1 = .int .i64 k ∧ v5 = .int .i64 i ∧ Aside0 (k = a + (pieSize_ (ns.take i) : Int)) ∧ Aside0 (Mk_ P w wr))
  case atStart => exact ⟨0, a, Nat.zero_le _, by omega, rfl, rfl, ⟨by simp [pieSize_]⟩, ⟨Mk_.refl _ _⟩⟩
  case round =>
    obtain ⟨i, k, hi, hg, rfl, rfl, HK, HM⟩ := hrel
    have hk := HK.out
    have hs := HS.out
    have hl := HL.out
    by_cases hlt : i < n
    · have hltz : (i : Int) < (n : Int) := by omega
      obtain ⟨p, hp⟩ : ∃ p, ns[i]? = some p := ⟨_, List.getElem?_eq_getElem (by omega)⟩
      have ht : pieSize_ (ns.take (i + 1)) = pieSize_ (ns.take i) + (2 + p.1 * 2 + tabSize_ p.2) := sum_take _ ns hp
      have hle : pieSize_ (ns.take (i + 1)) ≤ pieSize_ ns := sum_le _ ns (i + 1)
      have HW := aM_ (show wrap64 (k + 1) = k + 1 by unfold wrap64; omega)
      have HW2 := aM_ (show wrap64 (wrap64 (k + 1) + 1) = k + 2 by unfold wrap64; omega)
      rcases HI.out.mk_ HM.out with h | ⟨g, cells, t, rfl, hP, hb, hz⟩
      · rw [h] at hp; cases hp
      · obtain ⟨⟨z, hz0⟩, ⟨z', hz0'⟩, ⟨A1, d1, hz1, i1⟩, ⟨A2, d2, hz2, i2⟩⟩ := hz i p hp
        have hx0 : wr.cell? ⟨g, i * 4, none⟩ = some (.int .i64 z) := (blk_cell hb _).trans hz0
        have hf0 : wr.frozen? ⟨g, i * 4, none⟩ = false := blk_frozen hb _
        have hx0' : wr.cell? ⟨g, i * 4 + 1, none⟩ = some (.int .i64 z') := (blk_cell hb _).trans hz0'
        have hf0' : wr.frozen? ⟨g, i * 4 + 1, none⟩ = false := blk_frozen hb _
        have hx1 : wr.cell? ⟨g, i * 4 + 2, none⟩ = some (.slice A1 p.1 d1) := (blk_cell hb _).trans hz1
        have hf1 : wr.frozen? ⟨g, i * 4 + 2, none⟩ = false := blk_frozen hb _
        have hm1 : Mk_ P wr ((wr.setCell ⟨g, i * 4, none⟩ (.int .i64 k)).setCell ⟨g, i * 4 + 1, none⟩ (.int .i64 (wrap64 (k + 1)))) := Mk_.set (Mk_.set (Mk_.refl _ _) hP hb hz0) hP (blk_set hb (i * 4) (.int .i64 k)) (z := z') (by rw [Array.getElem?_setIfInBounds_ne (by omega)]; exact hz0')
        obtain ⟨c1, hb1, _, hc1⟩ := keep_cells hm1 hb
        have hz2' := hc1 _ _ _ _ hz2
        have HC1 := aM_ (marks_links P A1 p.1 d1 (wrap64 (wrap64 (k + 1) + 1)) _ (by have := HW2.out; omega) (by have := HW2.out; omega) (i1.mk_ hm1))
        have HG := aM_ (show ∀ W, Mk_ P ((wr.setCell ⟨g, i * 4, none⟩ (.int .i64 k)).setCell ⟨g, i * 4 + 1, none⟩ (.int .i64 (wrap64 (k + 1)))) W → W.cell? ⟨g, i * 4 + 3, none⟩ = some (.slice A2 p.2.length d2) ∧ W.frozen? ⟨g, i * 4 + 3, none⟩ = false ∧ (Calls Try.prog 117 #[.slice A2 p.2.length d2, .int .i64 (wrap64 (wrap64 (k + 1) + 1) + ((p.1 * 2 : Nat) : Int))] W fun e w' => e = .returned (.int .i64 (wrap64 (wrap64 (k + 1) + 1) + ((p.1 * 2 : Nat) : Int) + (tabSize_ p.2 : Int))) ∧ Mk_ P W w') from fun W hW => by
          obtain ⟨c2, hb2, _, hc2⟩ := keep_cells hW hb1
          exact ⟨(blk_cell hb2 _).trans (hc2 _ _ _ _ hz2'), blk_frozen hb2 _, marks_tabs P A2 p.2.length d2 p.2 rfl (wrap64 (wrap64 (k + 1) + 1) + ((p.1 * 2 : Nat) : Int)) W (by have := HW2.out; omega) (by have := HW2.out; omega) ((i2.mk_ hm1).mk_ hW)⟩)
        have HM1 := aM_ (HM.out.then_ hm1)
        have HT := aM_ ht
        clear hb hz hP hk hz0 hz0' hz1 hs hl ht hle hm1 hb1 hc1 hz2' i1 i2 hz2 hp
        go_wp2_with (first | (go_at_call 116; refine HC1.out.mono ?_; rintro e w2 ⟨rfl, hm2⟩; obtain ⟨hx2, hf2, hc⟩ := HG.out w2 hm2; have HC2 := aM_ hc; have HM2 := aM_ hm2; clear hc hm2 HC1 HG) | (go_at_call 117; refine HC2.out.mono ?_; rintro e w3 ⟨rfl, hm3⟩; have HM3 := aM_ hm3; clear hm3 HC2))
        go_roundg (n - (i + 1))
        case measure => omega
        case rel => exact ⟨i + 1, wrap64 (wrap64 (k + 1) + 1) + ((p.1 * 2 : Nat) : Int) + (tabSize_ p.2 : Int), by omega, by omega, rfl, by go_num, ⟨by have := HK.out; have := HT.out; have := HW2.out; omega⟩, ⟨(HM1.out.then_ HM2.out).then_ HM3.out⟩⟩
    · have hltz : ¬ (i : Int) < (n : Int) := by omega
      have : i = n := by omega
      subst this
      rw [List.take_of_length_le (by omega)] at hk
      obtain rfl := hk
      clear hs hl
      go_wp2
      go_ret
      exact ⟨rfl, HM.out⟩
/-- A row of numbers, as the marks ask for it. -/
theorem int_row {P : Nat → Prop} {w : World} {e base : Nat} {ok : Nat → Prop} {A : Option Addr} {n c : Nat} {l : List Int} (h : Kd.R (Kd.int .i64) e w base ok (.slice A n c) l) (hP : ∀ k, ok k → P k) : IntRow_ P w A n := by
  by_cases hn : n = 0
  · exact .inl hn
  · obtain ⟨hl, _, _⟩ := Kd.R_reads' h
    obtain ⟨g, cap, he, _, _, cells, hb⟩ := Kd.R_form h (by omega)
    injection he with hA _ _
    subst hA
    refine .inr ⟨g, cells, e, rfl, hP g (h.1 g rfl), hb, fun j hj => ?_⟩
    obtain ⟨cs, hcl, hM, hcc, _⟩ := Kd.R_elem h 0 (j : Int) (by omega) (by omega)
    have hK := (Kd.int .i64).K_of_M hM
    obtain rfl : cs = [.int .i64 (l.getD j 0)] := hK
    have h2 := hcc 0 _ rfl
    rw [blk_cell hb] at h2
    exact ⟨_, (by simpa [Kd.int, Kd.scalar] using h2)⟩
theorem link_row {P : Nat → Prop} {w : World} {e base : Nat} {ok : Nat → Prop} {A : Option Addr} {n c : Nat} {l : List (S160)} (h : Kd.R k160 e w base ok (.slice A n c) l) (hP : ∀ k, ok k → P k) : IntRow_ P w A (n * 2) := by
  by_cases hn : n = 0
  · exact .inl (by omega)
  · obtain ⟨hl, _, _⟩ := Kd.R_reads' h
    obtain ⟨g, cap, he, _, _, cells, hb⟩ := Kd.R_form h (by omega)
    injection he with hA _ _
    subst hA
    refine .inr ⟨g, cells, e, rfl, hP g (h.1 g rfl), hb, fun j hj => ?_⟩
    obtain ⟨cs, hcl, hM, hcc, _⟩ := Kd.R_elem h z160 ((j / 2 : Nat) : Int) (by omega) (by omega)
    obtain rfl := k160_open (k160.K_of_M hM)
    have e1 : ((j / 2 : Nat) : Int).toNat * k160.sz = j / 2 * 2 := rfl
    rcases Nat.mod_two_eq_zero_or_one j with h0 | h0
    · have h2 := hcc 0 _ rfl
      rw [blk_cell hb, e1, show j / 2 * 2 + 0 = j by omega] at h2
      exact ⟨_, h2⟩
    · have h2 := hcc 1 _ rfl
      rw [blk_cell hb, e1, show j / 2 * 2 + 1 = j by omega] at h2
      exact ⟨_, h2⟩
def tabShape_ (l : List (S80)) : List (Nat × Nat) := l.map fun x => (x.f1.length, x.f2.length)
theorem tab_row {P : Nat → Prop} {w : World} {e base : Nat} {ok : Nat → Prop} {A : Option Addr} {n c : Nat} {l : List (S80)} (h : Kd.R k80 e w base ok (.slice A n c) l) (hP : ∀ k, ok k → P k) : TabRow_ P w A (tabShape_ l) := by
  obtain ⟨hl, _, _⟩ := Kd.R_reads' h
  by_cases hn : n = 0
  · exact .inl (by unfold tabShape_; rw [List.eq_nil_of_length_eq_zero (by omega : l.length = 0)]; rfl)
  · obtain ⟨g, cap, he, _, _, cells, hb⟩ := Kd.R_form h (by omega)
    injection he with hA _ _
    subst hA
    refine .inr ⟨g, cells, e, rfl, hP g (h.1 g rfl), hb, fun j p hj => ?_⟩
    unfold tabShape_ at hj
    rw [List.getElem?_map] at hj
    obtain ⟨x, hx, rfl⟩ := Option.map_eq_some_iff.1 hj
    have hjl : j < l.length := (List.getElem?_eq_some_iff.1 hx).1
    obtain ⟨cs, hcl, hM, hcc, _⟩ := Kd.R_elem h z80 (j : Int) (by omega) (by omega)
    rw [show l.getD ((j : Int)).toNat z80 = x by rw [Int.toNat_natCast, List.getD_eq_getElem?_getD, hx]; rfl] at hM
    obtain ⟨v1, v2, rfl, g1, g2⟩ := k80_openM hM
    obtain ⟨A1, c1, rfl⟩ := Kd.R_slice g1
    obtain ⟨A2, c2, rfl⟩ := Kd.R_slice g2
    have e1 : ((j : Nat) : Int).toNat * k80.sz = j * 3 := rfl
    have h0 := hcc 0 _ rfl
    have h1 := hcc 1 _ rfl
    have h2 := hcc 2 _ rfl
    rw [blk_cell hb, e1] at h0 h1 h2
    exact ⟨⟨_, h0⟩, ⟨A1, c1, h1, int_row g1 (fun k hk => hP k hk.1)⟩, ⟨A2, c2, h2, int_row g2 (fun k hk => hP k hk.1)⟩⟩
def pieShape_ (l : List (S119)) : List (Nat × List (Nat × Nat)) := l.map fun x => (x.f1.length, tabShape_ x.f2)
theorem pie_row {P : Nat → Prop} {w : World} {e base : Nat} {ok : Nat → Prop} {A : Option Addr} {n c : Nat} {l : List (S119)} (h : Kd.R k119 e w base ok (.slice A n c) l) (hP : ∀ k, ok k → P k) : PieRow_ P w A (pieShape_ l) := by
  obtain ⟨hl, _, _⟩ := Kd.R_reads' h
  by_cases hn : n = 0
  · exact .inl (by unfold pieShape_; rw [List.eq_nil_of_length_eq_zero (by omega : l.length = 0)]; rfl)
  · obtain ⟨g, cap, he, _, _, cells, hb⟩ := Kd.R_form h (by omega)
    injection he with hA _ _
    subst hA
    refine .inr ⟨g, cells, e, rfl, hP g (h.1 g rfl), hb, fun j p hj => ?_⟩
    unfold pieShape_ at hj
    rw [List.getElem?_map] at hj
    obtain ⟨x, hx, rfl⟩ := Option.map_eq_some_iff.1 hj
    have hjl : j < l.length := (List.getElem?_eq_some_iff.1 hx).1
    obtain ⟨cs, hcl, hM, hcc, _⟩ := Kd.R_elem h z119 (j : Int) (by omega) (by omega)
    rw [show l.getD ((j : Int)).toNat z119 = x by rw [Int.toNat_natCast, List.getD_eq_getElem?_getD, hx]; rfl] at hM
    obtain ⟨v1, v2, rfl, g1, g2⟩ := k119_openM hM
    obtain ⟨A1, c1, rfl⟩ := Kd.R_slice g1
    obtain ⟨A2, c2, rfl⟩ := Kd.R_slice g2
    have e1 : ((j : Nat) : Int).toNat * k119.sz = j * 4 := rfl
    have h0 := hcc 0 _ rfl
    have h1 := hcc 1 _ rfl
    have h2 := hcc 2 _ rfl
    have h3 := hcc 3 _ rfl
    rw [blk_cell hb, e1] at h0 h1 h2 h3
    refine ⟨⟨_, h0⟩, ⟨_, h1⟩, ⟨A1, c1, h2, link_row g1 (fun k hk => hP k hk.1)⟩, ⟨A2, c2, ?_, tab_row g2 (fun k hk => hP k hk.1)⟩⟩
    rw [show (tabShape_ x.f2).length = x.f2.length from List.length_map _]
    exact h3
theorem Mk_.alloc {P : Nat → Prop} {w W : World} (h : Mk_ P w W) (o : Obj) : Mk_ P w (W.alloc o) := by
  have hb := wA_ (Below.refl W.heap.size W) o
  exact h.then_ ⟨⟨hb.os, hb.tape, hb.output, hb.size, fun k hk => absurd hk (Nat.not_lt_zero k)⟩, fun b hlt _ => hb.block b hlt, fun b cells t hc => ⟨cells, (hb.block b (blk_lt hc)).trans hc, fun _ u hu => ⟨u, hu, .inl rfl⟩⟩⟩
def laws_markProgram.f (a0_0 : Int) (a0_1 : Int) (a0_2 : Int) (l0_3 : List (S119)) (a1 : Int) : Option (Int) := if 0 ≤ a1 ∧ a1 + (pieSize_ (pieShape_ l0_3) : Int) ≤ 4000000000 then some (a1 + (pieSize_ (pieShape_ l0_3) : Int)) else none
set_option maxHeartbeats 2000000 in
set_option maxRecDepth 100000 in
theorem laws_markProgram.calls (a0_0 : Int) (a0_1 : Int) (a0_2 : Int) (P0_ : Nat → Prop) (u9000_ : Value) (l0_3 : List (S119)) (a1 : Int) (r1 : Int) (w0 w : World) (hB : Below w0.heap.size w0 w) (ho0 : Kd.R k119 119 w w0.heap.size P0_ u9000_ l0_3) (h : laws_markProgram.f a0_0 a0_1 a0_2 l0_3 a1 = some r1) :
    Calls Try.prog 54 #[.agg #[.int .i64 a0_0, .int .i64 a0_1, .int .i64 a0_2, u9000_], .int .i64 a1] w fun e w' => e = .returned (.int .i64 r1) ∧ Below w0.heap.size w0 w' ∧ Kept w w' (fun k_ => P0_ k_) := by
  unfold laws_markProgram.f at h
  split at h
  · rename_i hs
    obtain rfl := Option.some.inj h
    obtain ⟨A, c, rfl⟩ := Kd.R_slice ho0
    have HP := aM_ (pie_row (P := fun k => P0_ k ∧ w0.heap.size ≤ k) (Kd.R_bound ho0) (fun k hk => ⟨hk.1, hk.2.1⟩))
    have HS := aM_ hs
    have HB := aM_ hB
    have HL := aM_ (show (pieShape_ l0_3).length = l0_3.length from List.length_map _)
    clear h hs ho0 hB
    generalize pieShape_ l0_3 = ns at HP HS HL
    generalize l0_3.length = n at HL
    go_enter Try.func54, Try.ntmps54
    go_wp2_with (go_at_call 91; refine (marks_pieces (fun k => P0_ k ∧ w0.heap.size ≤ k) A n c ns HL.out a1 _ HS.out.1 HS.out.2 (HP.out.mk_ (by repeat (first | exact Mk_.refl _ _ | apply Mk_.alloc | apply Mk_.drewN)))).mono ?_; rintro e w2 ⟨rfl, hm⟩)
    go_ret
    have hw : Mk_ (fun k => P0_ k ∧ w0.heap.size ≤ k) w w2 := Mk_.then_ (by repeat (first | exact Mk_.refl _ _ | apply Mk_.alloc | apply Mk_.drewN)) hm
    exact ⟨rfl, HB.out.trans ⟨hw.1.os, hw.1.tape, hw.1.output, hw.1.size, fun b hb => hw.2.1 b (Nat.lt_of_lt_of_le hb HB.out.size) (fun h => Nat.lt_irrefl _ (Nat.lt_of_lt_of_le hb h.2))⟩, hw.1.size, fun b hb hn => hw.2.1 b hb (fun h => hn h.1)⟩
  · cases h

/-! ### spec_l1In: function 83 -/
def spec_l1In.f (a0 : Int) (a1 : Int) (a2 : Int) : Option (Bool) := if a0 ≥ a1 then (some (decide (a0 ≤ a2))) else (some false)
set_option maxHeartbeats 8000000 in
set_option maxRecDepth 100000 in
theorem spec_l1In.calls (a0 : Int) (a1 : Int) (a2 : Int) (r : Bool) (w : World) (h : spec_l1In.f a0 a1 a2 = some r) :
    Calls Try.prog 83 #[.int .i64 a0, .int .i64 a1, .int .i64 a2] w fun e w' => e = .returned (.bool r) ∧ Drawn0 w w' := by
  have H : (if a0 ≥ a1 then (some (decide (a0 ≤ a2))) else (some false)) = some r := h
  clear h
  by_cases c4 : a0 ≥ a1
  · rw [if_pos c4] at H
    have c4b0 : decide (a1 ≤ a0) = true := decide_eq_true c4
    clear c4
    obtain rfl := Option.some.inj H
    go_enter Try.func83, Try.ntmps83
    go_wp2
    go_ret
    exact ⟨by first | rfl | (simp; done) | (simp [*]; done), by repeat (first | exact Drawn0.refl _ | apply Drawn0.step)⟩
  · rw [if_neg c4] at H
    have c4b0 : decide (a1 ≤ a0) = false := decide_eq_false c4
    clear c4
    obtain rfl := Option.some.inj H
    go_enter Try.func83, Try.ntmps83
    go_wp2
    go_ret
    exact ⟨by first | rfl | (simp; done) | (simp [*]; done), by repeat (first | exact Drawn0.refl _ | apply Drawn0.step)⟩

/-! ### spec_l15Copy: function 115 -/
def spec_l15Copy.f (a0_0 : Int) (l0_1 : List Int) (l0_2 : List Int) : Option (Int × List Int × List Int) := (some (([] : List Int) : List Int)).bind fun y216 => (if y216.length + l0_1.length < 17592186044416 then ((some (([] : List Int) : List Int)).bind fun y222 => (if y222.length + l0_2.length < 17592186044416 then (some (a0_0, (y216 ++ l0_1), (y222 ++ l0_2))) else (none))) else (none))
def spec_l15Copy.T1 : Bool × List (List Nat × List Nat) := (true, [([], []), ([0], [0]), ([], []), ([], []), ([3], [3]), ([2, 4], [2, 4]), ([], []), ([], []), ([7], [7]), ([6, 8, 5], [6, 8]), ([1, 5, 9], [1, 5, 9]), ([10, 9, 0, 1, 2, 3, 4, 5, 6, 7, 8, 9, 10], [10])])
def spec_l15Copy.B1 : List Nat := [0, 1, 0, 0, 8, 28, 0, 0, 128, 508, 1023, 2047]
theorem spec_l15Copy.tab1 : rtab .any (opsOf Try.f115 1) = spec_l15Copy.T1 := by kernel_rfl
theorem spec_l15Copy.bits1 : waitsOk spec_l15Copy.T1.2 spec_l15Copy.B1 = true := by kernel_rfl
set_option maxHeartbeats 8000000 in
set_option maxRecDepth 100000 in
theorem spec_l15Copy.calls (a0_0 : Int) (A0_1 : Option Addr) (c0_1 : Nat) (l0_1 : List Int) (A0_2 : Option Addr) (c0_2 : Nat) (l0_2 : List Int) (r1 : Int) (r2 : List Int) (r3 : List Int) (w : World) (hr0_1 : Kd.C (Kd.int .i64) w A0_1 l0_1.length l0_1) (hc0_1 : l0_1.length ≤ c0_1) (hr0_2 : Kd.C (Kd.int .i64) w A0_2 l0_2.length l0_2) (hc0_2 : l0_2.length ≤ c0_2) (h : spec_l15Copy.f a0_0 l0_1 l0_2 = some (r1, r2, r3)) :
  Calls Try.prog 115 #[.agg #[.int .i64 a0_0, .slice A0_1 l0_1.length c0_1, .slice A0_2 l0_2.length c0_2]] w fun e w' => ∃ v1_ v2_ : Value, e = .returned (.agg #[.int .i64 r1, v1_, v2_]) ∧ Kd.R (Kd.int .i64) 3 w' w.heap.size (fun k_ => some k_ ≠ (v2_ : Value).ownBlock) v1_ r2 ∧ Kd.R (Kd.int .i64) 3 w' w.heap.size (fun k_ => some k_ ≠ (v1_ : Value).ownBlock) v2_ r3 ∧ Below w.heap.size w w' := by
 have hu80 := Try.underlying80; have HR0_1 := aM_ hr0_1; have HC0_1 := aM_ hc0_1; clear hr0_1 hc0_1; have HR0_2 := aM_ hr0_2; have HC0_2 := aM_ hc0_2; clear hr0_2 hc0_2; have HB := aM_ (Below.refl w.heap.size w)
 have H : ((some (([] : List Int) : List Int)).bind fun y216 => (if y216.length + l0_1.length < 17592186044416 then ((some (([] : List Int) : List Int)).bind fun y222 => (if y222.length + l0_2.length < 17592186044416 then (some (a0_0, (y216 ++ l0_1), (y222 ++ l0_2))) else (none))) else (none))) = some (r1, r2, r3) := h
 clear h
 obtain ⟨y216, hy216⟩ : ∃ y_ : List Int, y_ = (([] : List Int)) := ⟨_, rfl⟩
 replace H : (if y216.length + l0_1.length < 17592186044416 then ((some (([] : List Int) : List Int)).bind fun y222 => (if y222.length + l0_2.length < 17592186044416 then (some (a0_0, (y216 ++ l0_1), (y222 ++ l0_2))) else (none))) else (none)) = some (r1, r2, r3) := by first | (rw [hy216]; with_reducible exact H) | (have H2_ := (Option.bind_some _ _).symm.trans H; rw [hy216]; with_reducible exact H2_) | (have H2_ := (Option.bind_some _ _).symm.trans H; with_reducible exact H2_) | with_reducible exact H | (rw [hy216]; exact H) | exact H
 have Ny216 := aM_ hy216; clear hy216
 by_cases c2 : y216.length + l0_1.length < 17592186044416
 ·rw [if_pos c2] at H
  have LMc2 := aM_ c2; clear c2
  obtain ⟨y219, hy219⟩ : ∃ y_ : List Int, y_ = (y216 ++ l0_1) := ⟨_, rfl⟩
  replace H : ((some (([] : List Int) : List Int)).bind fun y222 => (if y222.length + l0_2.length < 17592186044416 then (some (a0_0, y219, (y222 ++ l0_2))) else (none))) = some (r1, r2, r3) := by first | (rw [hy219]; with_reducible exact H) | (have H2_ := (Option.bind_some _ _).symm.trans H; rw [hy219]; with_reducible exact H2_) | (have H2_ := (Option.bind_some _ _).symm.trans H; with_reducible exact H2_) | with_reducible exact H | (rw [hy219]; exact H) | exact H
  have Ny219 := aM_ hy219; clear hy219
  obtain ⟨y222, hy222⟩ : ∃ y_ : List Int, y_ = (([] : List Int)) := ⟨_, rfl⟩
  replace H : (if y222.length + l0_2.length < 17592186044416 then (some (a0_0, y219, (y222 ++ l0_2))) else (none)) = some (r1, r2, r3) := by first | (rw [hy222]; with_reducible exact H) | (have H2_ := (Option.bind_some _ _).symm.trans H; rw [hy222]; with_reducible exact H2_) | (have H2_ := (Option.bind_some _ _).symm.trans H; with_reducible exact H2_) | with_reducible exact H | (rw [hy222]; exact H) | exact H
  have Ny222 := aM_ hy222; clear hy222
  by_cases c3 : y222.length + l0_2.length < 17592186044416
  ·rw [if_pos c3] at H
   have LMc3 := aM_ c3; clear c3
   obtain ⟨y225, hy225⟩ : ∃ y_ : List Int, y_ = (y222 ++ l0_2) := ⟨_, rfl⟩
   replace H : (some (a0_0, y219, y225)) = some (r1, r2, r3) := by first | (rw [hy225]; with_reducible exact H) | (have H2_ := (Option.bind_some _ _).symm.trans H; rw [hy225]; with_reducible exact H2_) | (have H2_ := (Option.bind_some _ _).symm.trans H; with_reducible exact H2_) | with_reducible exact H | (rw [hy225]; exact H) | exact H
   have Ny225 := aM_ hy225; clear hy225
   simp only [Option.some.injEq, Prod.mk.injEq] at H
   obtain ⟨rfl, rfl, rfl⟩ := H
   go_enter Try.func115, Try.ntmps115
   try go_wp2_with (first | ((with_reducible refine gate_dst (N := 1) rfl ?_); refine box_event ?hg (N := 1) ?hd (cs := #[.int .i64 a0_0, .slice A0_1 l0_1.length c0_1, .slice A0_2 l0_2.length c0_2]) (t := 80) ?hr ?_; (case hd => rfl); (case hg => rfl); (case hr => first | (go_simp; done) | (go_simp; rfl)); intro gb214 hg w4 hbox hb; have n0_ := aM_ (wS_ (by repeat (first | (with_reducible first | exact HB.out | apply wA_ | apply wN_ | apply wD_) | exact HB.out)) hb); have n1_ := aM_ (hbox); have n2_ := aM_ ((by rw [hg]; exact (sZ_ (by repeat (first | (with_reducible first | exact HB.out | apply wA_ | apply wN_ | apply wD_) | exact HB.out))) : w.heap.size ≤ gb214)); have n3_ := aM_ ((by rw [hg]; exact (sZ_ (by repeat (first | (with_reducible first | exact HB.out | apply wA_ | apply wN_ | apply wD_) | exact HB.out))) : w.heap.size ≤ gb214)); clear HB; have HB := n0_; have BK214 := n1_; have GW214 := n2_; have GE214 := n3_; clear n0_ n1_ n2_ n3_; clear hb hbox hg) | ((with_reducible refine gate_dst (N := 2) rfl ?_); refine box_event ?hg (N := 2) ?hd (cs := #[.int .i64 0, .slice none 0 0, .slice none 0 0]) (t := 80) ?hr ?_; (case hd => rfl); (case hg => rfl); (case hr => first | (go_simp; done) | (go_simp; rfl)); intro gb215 hg w5 hbox hb; have n0_ := aM_ (bB_ (g := gb214) (by (with_reducible repeat (first | refine bN_ ?_ _ | refine bD_ ?_ | refine bA_ ?_ _)); exact BK214.out) hb); have n1_ := aM_ (wS_ (by repeat (first | (with_reducible first | exact HB.out | apply wA_ | apply wN_ | apply wD_ | refine wE_ ?_ GE214.out) | exact HB.out)) hb); have n2_ := aM_ (hbox); have n3_ := aM_ ((by rw [hg]; exact (sZ_ (by repeat (first | (with_reducible first | exact HB.out | apply wA_ | apply wN_ | apply wD_ | refine wE_ ?_ GE214.out) | exact HB.out))) : w.heap.size ≤ gb215)); have n4_ := aM_ ((by rw [hg]; exact (sZ_ (by repeat (first | (with_reducible first | exact HB.out | apply wA_ | apply wN_ | apply wD_ | refine wE_ ?_ GE214.out) | exact HB.out))) : w.heap.size ≤ gb215)); have n5_ := aM_ ((by rw [hg]; exact Nat.ne_of_lt (blk_lt (g := gb214) (by (with_reducible repeat (first | refine bN_ ?_ _ | refine bD_ ?_ | refine bA_ ?_ _)); exact BK214.out)) : gb214 ≠ gb215)); have n6_ := aM_ ((by rw [hg]; exact Nat.ne_of_gt (blk_lt (g := gb214) (by (with_reducible repeat (first | refine bN_ ?_ _ | refine bD_ ?_ | refine bA_ ?_ _)); exact BK214.out)) : gb215 ≠ gb214)); clear BK214; clear HB; have BK214 := n0_; have HB := n1_; have BK215 := n2_; have GW215 := n3_; have GE215 := n4_; have NB214_215 := n5_; have NB215_214 := n6_; clear n0_ n1_ n2_ n3_ n4_ n5_ n6_; clear hb hbox hg))
   have n0_ := aM_ (bD_ BK214.out); have n1_ := aM_ (bD_ BK215.out); have n2_ := aM_ (wD_ HB.out); clear BK214 BK215 HB; have BK214 := n0_; have BK215 := n1_; have HB := n2_; clear n0_ n1_ n2_
   refine start_ (n := 12) (S := fun w' => w'.cell? ⟨gb214, 0, none⟩ = some (.int .i64 a0_0) ∧ w'.cell? ⟨gb214, 1, none⟩ = some (.slice A0_1 l0_1.length c0_1) ∧ w'.cell? ⟨gb214, 2, none⟩ = some (.slice A0_2 l0_2.length c0_2)) (ds := []) #[false, false, false, false, false, false, false, false, false, false, false, false] (by kernel_rfl) rfl rfl ⟨(blk_cell BK214.out 0).trans rfl, (blk_cell BK214.out 1).trans rfl, (blk_cell BK214.out 2).trans rfl⟩ (fun hHeld => ?_); refine with_tabW spec_l15Copy.tab1 spec_l15Copy.bits1 (fun HT_ HW_ => ?_)
   generalize w5.drew = w6 at BK214 BK215 HB hHeld ⊢
   refine pure_ (i := 0) (N := some 3) (v := ?_) (a' := ?_) #[true, false, false, false, false, false, false, false, false, false, false, false] rfl rfl (any_of HT_.out (by kernel_rfl)) (fun _ _ _ h => h) (Or.inl ⟨by rfl, ?_⟩) ?_ ?_
   rotate_left
   ·intro w'
    go_simp
    with_reducible rfl
   rotate_left
   ·simp only [Act.put, List.setIfInBounds_toArray, List.set_cons_zero, List.set_cons_succ, i64_w, i32_w]
    rfl
   refine pure_ (i := 3) (N := some 6) (v := ?_) (a' := ?_) #[true, false, false, true, false, false, false, false, false, false, false, false] rfl rfl (any_of HT_.out (by kernel_rfl)) (fun _ _ _ h => h) (Or.inl ⟨by rfl, ?_⟩) ?_ ?_
   rotate_left
   ·intro w'
    go_simp
    with_reducible rfl
   rotate_left
   ·simp only [Act.put, List.setIfInBounds_toArray, List.set_cons_zero, List.set_cons_succ, i64_w, i32_w]
    rfl
   refine pure_ (i := 7) (N := some 10) (v := ?_) (a' := ?_) #[true, false, false, true, false, false, false, true, false, false, false, false] rfl rfl (any_of HT_.out (by kernel_rfl)) (fun _ _ _ h => h) (Or.inl ⟨by rfl, ?_⟩) ?_ ?_
   rotate_left
   ·intro w'
    go_simp
    with_reducible rfl
   rotate_left
   ·simp only [Act.put, List.setIfInBounds_toArray, List.set_cons_zero, List.set_cons_succ, i64_w, i32_w]
    rfl
   refine take_ (i := 1) (N := some 4) (v := ?_) (a' := ?_) #[true, true, false, true, false, false, false, true, false, false, false, false] rfl rfl (take_ofW HT_.out HW_.out (by kernel_rfl)) (fun _ _ _ h => h) (Or.inl ⟨by rfl, ?_⟩) hHeld ?_ ?_
   rotate_left
   ·rintro w' ⟨s0, s1, s2⟩
    go_simp
    with_reducible rfl
   rotate_left
   ·simp only [Act.put, List.setIfInBounds_toArray, List.set_cons_zero, List.set_cons_succ, i64_w, i32_w]
    rfl
   refine take_ (i := 4) (N := some 7) (v := ?_) (a' := ?_) #[true, true, false, true, true, false, false, true, false, false, false, false] rfl rfl (take_ofW HT_.out HW_.out (by kernel_rfl)) (fun _ _ _ h => h) (Or.inl ⟨by rfl, ?_⟩) hHeld ?_ ?_
   rotate_left
   ·rintro w' ⟨s0, s1, s2⟩
    go_simp
    with_reducible rfl
   rotate_left
   ·simp only [Act.put, List.setIfInBounds_toArray, List.set_cons_zero, List.set_cons_succ, i64_w, i32_w]
    rfl
   refine take_ (i := 8) (N := some 11) (v := ?_) (a' := ?_) #[true, true, false, true, true, false, false, true, true, false, false, false] rfl rfl (take_ofW HT_.out HW_.out (by kernel_rfl)) (fun _ _ _ h => h) (Or.inl ⟨by rfl, ?_⟩) hHeld ?_ ?_
   rotate_left
   ·rintro w' ⟨s0, s1, s2⟩
    go_simp
    with_reducible rfl
   rotate_left
   ·simp only [Act.put, List.setIfInBounds_toArray, List.set_cons_zero, List.set_cons_succ, i64_w, i32_w]
    rfl
   refine join_ (σ := Value × Value × Value) 3 #[true, true, true, true, true, true, true, true, true, false, false, false] (fun s_ => [(5, s_.1), (8, s_.2.1), (9, s_.2.2)]) (fun s_ w' => (w'.cell? ⟨gb214, 0, none⟩ = some (.int .i64 a0_0) ∧ w'.cell? ⟨gb214, 1, none⟩ = some (.slice A0_1 l0_1.length c0_1) ∧ w'.cell? ⟨gb214, 2, none⟩ = some (.slice A0_2 l0_2.length c0_2)) ∧ (Kd.R (Kd.int .i64) 3 w' w.heap.size (fun k_ => some k_ ≠ (s_.2.2 : Value).ownBlock) s_.2.1 y219) ∧ (Kd.R (Kd.int .i64) 3 w' w.heap.size (fun k_ => some k_ ≠ (s_.2.1 : Value).ownBlock) s_.2.2 y222) ∧ (w'.heap[gb214]? = some (.cells #[.int .i64 a0_0, .slice A0_1 l0_1.length c0_1, .slice A0_2 l0_2.length c0_2] 80 (0, 0))) ∧ (w'.heap[gb215]? = some (.cells #[.int .i64 0, .slice none 0 0, .slice none 0 0] 80 (0, 0))) ∧ (Below w.heap.size w w')) ?_ ?_
   rotate_left
   ·intro hCont
    refine two_ (i := 2) (j := 6) (Ni := some 5) (Nj := some 9) #[true, true, true, true, true, false, false, true, true, false, false, false] #[true, true, false, true, true, false, true, true, true, false, false, false] rfl rfl rfl rfl (two_of HT_.out (by kernel_rfl)) (by decide) (by decide) (fun K hK => ?_) (fun K hK => ?_)
    ·skip
     refine Kd.R_lit_step (Kd.int .i64) _ 3 ?hg (N := 5) ?hd (xs := ([] : List Int)) (inner := []) (ok := fun _ => True) (okp := fun _ => True) ?hr ?hp (fun _ hk => hk) trivial (Below.refl _ _) (Nat.le_refl _) (by simp) ?_; (case hd => rfl); (case hg => rfl); (case hr => first | (go_simp; done) | (go_simp; rfl)); (case hp => exact (Reps.none _ _))
     intro v217 w7 ho8 hb hg_ hnew_
     clear hg_ hnew_
     (first | rw [← Ny216.out] at ho8 | (simp only [Int.reduceToNat] at ho8; rw [← Ny216.out] at ho8))
     have n0_ := aM_ (Kd.R_lower ho8 (sZ_ (by repeat (first | (with_reducible first | exact HB.out | apply wA_ | apply wN_ | apply wD_ | refine wE_ ?_ GE214.out | refine wE_ ?_ GE215.out) | exact HB.out)))); have n1_ := aM_ (bB_ (g := gb214) (by (with_reducible repeat (first | refine bN_ ?_ _ | refine bD_ ?_ | refine bA_ ?_ _)); exact BK214.out) hb); have n2_ := aM_ (bB_ (g := gb215) (by (with_reducible repeat (first | refine bN_ ?_ _ | refine bD_ ?_ | refine bA_ ?_ _)); exact BK215.out) hb); have n3_ := aM_ (wS_ (by repeat (first | (with_reducible first | exact HB.out | apply wA_ | apply wN_ | apply wD_ | refine wE_ ?_ GE214.out | refine wE_ ?_ GE215.out) | exact HB.out)) hb); clear BK214 BK215 HB; have HO218 := n0_; have BK214 := n1_; have BK215 := n2_; have HB := n3_; clear n0_ n1_ n2_ n3_; clear hb ho8
     refine hK.out _ _ ⟨(blk_cell BK214.out 0).trans rfl, (blk_cell BK214.out 1).trans rfl, (blk_cell BK214.out 2).trans rfl⟩ (fun hHeld => ?_)
     clear hK K
     refine norm_ (a' := ?_) ?_ ?_
     rotate_left
     ·show Act.put _ (some 5) _ = _
      simp only [Act.put, List.setIfInBounds_toArray, List.set_cons_zero, List.set_cons_succ, i64_w, i32_w]
      rfl
     refine two_ (i := 5) (j := 6) (Ni := some 8) (Nj := some 9) #[true, true, true, true, true, true, false, true, true, false, false, false] #[true, true, true, true, true, false, true, true, true, false, false, false] rfl rfl rfl rfl (two_of HT_.out (by kernel_rfl)) (by decide) (by decide) (fun K hK => ?_) (fun K hK => ?_)
     ·skip
      refine Kd.R_append_rows_step (Kd.int .i64) (w0 := w) w.heap.size (by rfl) (.tmp 5) (.tmp 7) 22 3 (.int .i64 0) 8 rfl Try.underlying22 info3 rfl (by decide) (by omega) v217 y216 l0_1 _ _ _ (fun _ => True) (fun _ => False) rfl rfl ?aO ?aR (fun _ _ h => h) (fun _ h => h.elim) ?aF ?aB ?aS ?aL ?_
      (case aR => repeat (first | exact (Kd.C_below HR0_1.out HB.out) | (with_reducible refine cA_ ?_ _) | (with_reducible refine cN_ ?_ _) | (with_reducible refine cD_ ?_)))
      (case aB => exact (by repeat (first | (with_reducible first | exact HB.out | apply wA_ | apply wN_ | apply wD_ | refine wE_ ?_ GE214.out | refine wE_ ?_ GE215.out) | exact HB.out)))
      (case aF => exact (fun _ _ => trivial))
      (case aO => exact (by (with_reducible repeat (first | apply rA_ | apply rN_ | apply rD_)); exact HO218.out))
      (case aS => exact (sZ_ (by repeat (first | (with_reducible first | exact HB.out | apply wA_ | apply wN_ | apply wD_ | refine wE_ ?_ GE214.out | refine wE_ ?_ GE215.out) | exact HB.out))))
      (case aL => have := LMc2.out; omega)
      intro v220 w9 ho hb hg hat
      rw [← Ny219.out] at ho
      have n0_ := aM_ (blk_grown (g := gb214) (by (with_reducible repeat (first | refine bN_ ?_ _ | refine bD_ ?_ | refine bA_ ?_ _)); exact BK214.out) hg (Kd.R_ne HO218.out BK214.out (by decide))); have n1_ := aM_ (blk_grown (g := gb215) (by (with_reducible repeat (first | refine bN_ ?_ _ | refine bD_ ?_ | refine bA_ ?_ _)); exact BK215.out) hg (Kd.R_ne HO218.out BK215.out (by decide))); have n2_ := aM_ (hb); have n3_ := aM_ (ho); clear BK214 BK215 HB HO218; have BK214 := n0_; have BK215 := n1_; have HB := n2_; have HO221 := n3_; clear n0_ n1_ n2_ n3_; clear ho hb hg hat
      refine hK.out _ _ ⟨(blk_cell BK214.out 0).trans rfl, (blk_cell BK214.out 1).trans rfl, (blk_cell BK214.out 2).trans rfl⟩ (fun hHeld => ?_)
      clear hK K
      refine norm_ (a' := ?_) ?_ ?_
      rotate_left
      ·show Act.put _ (some 8) _ = _
       simp only [Act.put, List.setIfInBounds_toArray, List.set_cons_zero, List.set_cons_succ, i64_w, i32_w]
       rfl
      refine one_ (i := 6) (N := some 9) #[true, true, true, true, true, true, true, true, true, false, false, false] rfl rfl (one_of HT_.out (by kernel_rfl)) (by decide) (fun K hK => ?_)
      refine Kd.R_lit_step (Kd.int .i64) _ 3 ?hg (N := 9) ?hd (xs := ([] : List Int)) (inner := []) (ok := fun _ => True) (okp := fun _ => True) ?hr ?hp (fun _ hk => hk) trivial (Below.refl _ _) (Nat.le_refl _) (by simp) ?_; (case hd => rfl); (case hg => rfl); (case hr => first | (go_simp; done) | (go_simp; rfl)); (case hp => exact (Reps.none _ _))
      intro v223 w10 ho11 hb hg_ hnew_
      clear hg_ hnew_
      (first | rw [← Ny222.out] at ho11 | (simp only [Int.reduceToNat] at ho11; rw [← Ny222.out] at ho11))
      have n0_ := aM_ (Kd.R_elder' (by (with_reducible repeat (first | apply rA_ | apply rN_ | apply rD_)); exact HO221.out) (Kd.R_base ho11) hb); have n1_ := aM_ (Kd.R_lower (Kd.R_new' ho11 (Kd.R_lt (by (with_reducible repeat (first | apply rA_ | apply rN_ | apply rD_)); exact HO221.out))) (sZ_ (by repeat (first | (with_reducible first | exact HB.out | apply wA_ | apply wN_ | apply wD_ | refine wE_ ?_ GE214.out | refine wE_ ?_ GE215.out) | exact HB.out)))); have n2_ := aM_ (bB_ (g := gb214) (by (with_reducible repeat (first | refine bN_ ?_ _ | refine bD_ ?_ | refine bA_ ?_ _)); exact BK214.out) hb); have n3_ := aM_ (bB_ (g := gb215) (by (with_reducible repeat (first | refine bN_ ?_ _ | refine bD_ ?_ | refine bA_ ?_ _)); exact BK215.out) hb); have n4_ := aM_ (wS_ (by repeat (first | (with_reducible first | exact HB.out | apply wA_ | apply wN_ | apply wD_ | refine wE_ ?_ GE214.out | refine wE_ ?_ GE215.out) | exact HB.out)) hb); clear HO221 BK214 BK215 HB; have HO221 := n0_; have HO224 := n1_; have BK214 := n2_; have BK215 := n3_; have HB := n4_; clear n0_ n1_ n2_ n3_ n4_; clear hb ho11
      refine hK.out _ _ ⟨(blk_cell BK214.out 0).trans rfl, (blk_cell BK214.out 1).trans rfl, (blk_cell BK214.out 2).trans rfl⟩ (fun hHeld => ?_)
      clear hK K
      refine norm_ (a' := ?_) ?_ ?_
      rotate_left
      ·show Act.put _ (some 9) _ = _
       simp only [Act.put, List.setIfInBounds_toArray, List.set_cons_zero, List.set_cons_succ, i64_w, i32_w]
       rfl
      exact norm_ (by simp only [putAll, Act.put, List.setIfInBounds_toArray, List.set_cons_zero, List.set_cons_succ]) (hCont (v217, v220, v223) _ ⟨hHeld, (by (with_reducible repeat (first | apply rA_ | apply rN_ | apply rD_)); exact Kd.R_mono HO221.out (fun _ hk => hk.2)), (by (with_reducible repeat (first | apply rA_ | apply rN_ | apply rD_)); exact Kd.R_mono HO224.out (fun _ hk => hk.2)), (by (with_reducible repeat (first | refine bN_ ?_ _ | refine bD_ ?_ | refine bA_ ?_ _)); exact BK214.out), (by (with_reducible repeat (first | refine bN_ ?_ _ | refine bD_ ?_ | refine bA_ ?_ _)); exact BK215.out), (by repeat (first | (with_reducible first | exact HB.out | apply wA_ | apply wN_ | apply wD_ | refine wE_ ?_ GE214.out | refine wE_ ?_ GE215.out) | exact HB.out))⟩)
     ·skip
      refine Kd.R_lit_step (Kd.int .i64) _ 3 ?hg (N := 9) ?hd (xs := ([] : List Int)) (inner := []) (ok := fun _ => True) (okp := fun _ => True) ?hr ?hp (fun _ hk => hk) trivial (Below.refl _ _) (Nat.le_refl _) (by simp) ?_; (case hd => rfl); (case hg => rfl); (case hr => first | (go_simp; done) | (go_simp; rfl)); (case hp => exact (Reps.none _ _))
      intro v223 w9 ho10 hb hg_ hnew_
      clear hg_ hnew_
      (first | rw [← Ny222.out] at ho10 | (simp only [Int.reduceToNat] at ho10; rw [← Ny222.out] at ho10))
      have n0_ := aM_ (Kd.R_elder' (by (with_reducible repeat (first | apply rA_ | apply rN_ | apply rD_)); exact HO218.out) (Kd.R_base ho10) hb); have n1_ := aM_ (Kd.R_lower (Kd.R_new' ho10 (Kd.R_lt (by (with_reducible repeat (first | apply rA_ | apply rN_ | apply rD_)); exact HO218.out))) (sZ_ (by repeat (first | (with_reducible first | exact HB.out | apply wA_ | apply wN_ | apply wD_ | refine wE_ ?_ GE214.out | refine wE_ ?_ GE215.out) | exact HB.out)))); have n2_ := aM_ (bB_ (g := gb214) (by (with_reducible repeat (first | refine bN_ ?_ _ | refine bD_ ?_ | refine bA_ ?_ _)); exact BK214.out) hb); have n3_ := aM_ (bB_ (g := gb215) (by (with_reducible repeat (first | refine bN_ ?_ _ | refine bD_ ?_ | refine bA_ ?_ _)); exact BK215.out) hb); have n4_ := aM_ (wS_ (by repeat (first | (with_reducible first | exact HB.out | apply wA_ | apply wN_ | apply wD_ | refine wE_ ?_ GE214.out | refine wE_ ?_ GE215.out) | exact HB.out)) hb); clear HO218 BK214 BK215 HB; have HO218 := n0_; have HO224 := n1_; have BK214 := n2_; have BK215 := n3_; have HB := n4_; clear n0_ n1_ n2_ n3_ n4_; clear hb ho10
      refine hK.out _ _ ⟨(blk_cell BK214.out 0).trans rfl, (blk_cell BK214.out 1).trans rfl, (blk_cell BK214.out 2).trans rfl⟩ (fun hHeld => ?_)
      clear hK K
      refine norm_ (a' := ?_) ?_ ?_
      rotate_left
      ·show Act.put _ (some 9) _ = _
       simp only [Act.put, List.setIfInBounds_toArray, List.set_cons_zero, List.set_cons_succ, i64_w, i32_w]
       rfl
      refine one_ (i := 5) (N := some 8) #[true, true, true, true, true, true, true, true, true, false, false, false] rfl rfl (one_of HT_.out (by kernel_rfl)) (by decide) (fun K hK => ?_)
      refine Kd.R_append_rows_step (Kd.int .i64) (w0 := w) w.heap.size (by rfl) (.tmp 5) (.tmp 7) 22 3 (.int .i64 0) 8 rfl Try.underlying22 info3 rfl (by decide) (by omega) v217 y216 l0_1 _ _ _ (fun k_ => some k_ ≠ (v223 : Value).ownBlock) (fun _ => False) rfl rfl ?aO ?aR (fun _ _ h => h) (fun _ h => h.elim) ?aF ?aB ?aS ?aL ?_
      (case aR => repeat (first | exact (Kd.C_below HR0_1.out HB.out) | (with_reducible refine cA_ ?_ _) | (with_reducible refine cN_ ?_ _) | (with_reducible refine cD_ ?_)))
      (case aB => exact (by repeat (first | (with_reducible first | exact HB.out | apply wA_ | apply wN_ | apply wD_ | refine wE_ ?_ GE214.out | refine wE_ ?_ GE215.out) | exact HB.out)))
      (case aF => exact (fun k_ hk => Kd.fresh' (Kd.R_lt (by (with_reducible repeat (first | apply rA_ | apply rN_ | apply rD_)); exact HO224.out)) k_ hk))
      (case aO => exact (by (with_reducible repeat (first | apply rA_ | apply rN_ | apply rD_)); exact Kd.R_mono HO218.out (fun _ hk => hk.2)))
      (case aS => exact (sZ_ (by repeat (first | (with_reducible first | exact HB.out | apply wA_ | apply wN_ | apply wD_ | refine wE_ ?_ GE214.out | refine wE_ ?_ GE215.out) | exact HB.out))))
      (case aL => have := LMc2.out; omega)
      intro v220 w11 ho hb hg hat
      rw [← Ny219.out] at ho
      have n0_ := aM_ (blk_grown (g := gb214) (by (with_reducible repeat (first | refine bN_ ?_ _ | refine bD_ ?_ | refine bA_ ?_ _)); exact BK214.out) hg (Kd.R_ne HO218.out BK214.out (by decide))); have n1_ := aM_ (blk_grown (g := gb215) (by (with_reducible repeat (first | refine bN_ ?_ _ | refine bD_ ?_ | refine bA_ ?_ _)); exact BK215.out) hg (Kd.R_ne HO218.out BK215.out (by decide))); have n2_ := aM_ (Kd.R_after (ok := (fun _ => True)) (by (with_reducible repeat (first | apply rA_ | apply rN_ | apply rD_)); exact HO224.out) hg hat); have n3_ := aM_ (hb); have n4_ := aM_ (ho); clear BK214 BK215 HO224 HB HO218; have BK214 := n0_; have BK215 := n1_; have HO224 := n2_; have HB := n3_; have HO221 := n4_; clear n0_ n1_ n2_ n3_ n4_; clear ho hb hg hat
      refine hK.out _ _ ⟨(blk_cell BK214.out 0).trans rfl, (blk_cell BK214.out 1).trans rfl, (blk_cell BK214.out 2).trans rfl⟩ (fun hHeld => ?_)
      clear hK K
      refine norm_ (a' := ?_) ?_ ?_
      rotate_left
      ·show Act.put _ (some 8) _ = _
       simp only [Act.put, List.setIfInBounds_toArray, List.set_cons_zero, List.set_cons_succ, i64_w, i32_w]
       rfl
      exact norm_ (by simp only [putAll, Act.put, List.setIfInBounds_toArray, List.set_cons_zero, List.set_cons_succ]) (hCont (v217, v220, v223) _ ⟨hHeld, (by (with_reducible repeat (first | apply rA_ | apply rN_ | apply rD_)); exact HO221.out), (by (with_reducible repeat (first | apply rA_ | apply rN_ | apply rD_)); exact Kd.R_mono HO224.out (fun _ hk => hk.2)), (by (with_reducible repeat (first | refine bN_ ?_ _ | refine bD_ ?_ | refine bA_ ?_ _)); exact BK214.out), (by (with_reducible repeat (first | refine bN_ ?_ _ | refine bD_ ?_ | refine bA_ ?_ _)); exact BK215.out), (by repeat (first | (with_reducible first | exact HB.out | apply wA_ | apply wN_ | apply wD_ | refine wE_ ?_ GE214.out | refine wE_ ?_ GE215.out) | exact HB.out))⟩)
    ·skip
     refine Kd.R_lit_step (Kd.int .i64) _ 3 ?hg (N := 9) ?hd (xs := ([] : List Int)) (inner := []) (ok := fun _ => True) (okp := fun _ => True) ?hr ?hp (fun _ hk => hk) trivial (Below.refl _ _) (Nat.le_refl _) (by simp) ?_; (case hd => rfl); (case hg => rfl); (case hr => first | (go_simp; done) | (go_simp; rfl)); (case hp => exact (Reps.none _ _))
     intro v223 w7 ho8 hb hg_ hnew_
     clear hg_ hnew_
     (first | rw [← Ny222.out] at ho8 | (simp only [Int.reduceToNat] at ho8; rw [← Ny222.out] at ho8))
     have n0_ := aM_ (Kd.R_lower ho8 (sZ_ (by repeat (first | (with_reducible first | exact HB.out | apply wA_ | apply wN_ | apply wD_ | refine wE_ ?_ GE214.out | refine wE_ ?_ GE215.out) | exact HB.out)))); have n1_ := aM_ (bB_ (g := gb214) (by (with_reducible repeat (first | refine bN_ ?_ _ | refine bD_ ?_ | refine bA_ ?_ _)); exact BK214.out) hb); have n2_ := aM_ (bB_ (g := gb215) (by (with_reducible repeat (first | refine bN_ ?_ _ | refine bD_ ?_ | refine bA_ ?_ _)); exact BK215.out) hb); have n3_ := aM_ (wS_ (by repeat (first | (with_reducible first | exact HB.out | apply wA_ | apply wN_ | apply wD_ | refine wE_ ?_ GE214.out | refine wE_ ?_ GE215.out) | exact HB.out)) hb); clear BK214 BK215 HB; have HO224 := n0_; have BK214 := n1_; have BK215 := n2_; have HB := n3_; clear n0_ n1_ n2_ n3_; clear hb ho8
     refine hK.out _ _ ⟨(blk_cell BK214.out 0).trans rfl, (blk_cell BK214.out 1).trans rfl, (blk_cell BK214.out 2).trans rfl⟩ (fun hHeld => ?_)
     clear hK K
     refine norm_ (a' := ?_) ?_ ?_
     rotate_left
     ·show Act.put _ (some 9) _ = _
      simp only [Act.put, List.setIfInBounds_toArray, List.set_cons_zero, List.set_cons_succ, i64_w, i32_w]
      rfl
     refine one_ (i := 2) (N := some 5) #[true, true, true, true, true, false, true, true, true, false, false, false] rfl rfl (one_of HT_.out (by kernel_rfl)) (by decide) (fun K hK => ?_)
     refine Kd.R_lit_step (Kd.int .i64) _ 3 ?hg (N := 5) ?hd (xs := ([] : List Int)) (inner := []) (ok := fun _ => True) (okp := fun _ => True) ?hr ?hp (fun _ hk => hk) trivial (Below.refl _ _) (Nat.le_refl _) (by simp) ?_; (case hd => rfl); (case hg => rfl); (case hr => first | (go_simp; done) | (go_simp; rfl)); (case hp => exact (Reps.none _ _))
     intro v217 w9 ho10 hb hg_ hnew_
     clear hg_ hnew_
     (first | rw [← Ny216.out] at ho10 | (simp only [Int.reduceToNat] at ho10; rw [← Ny216.out] at ho10))
     have n0_ := aM_ (Kd.R_elder' (by (with_reducible repeat (first | apply rA_ | apply rN_ | apply rD_)); exact HO224.out) (Kd.R_base ho10) hb); have n1_ := aM_ (Kd.R_lower (Kd.R_new' ho10 (Kd.R_lt (by (with_reducible repeat (first | apply rA_ | apply rN_ | apply rD_)); exact HO224.out))) (sZ_ (by repeat (first | (with_reducible first | exact HB.out | apply wA_ | apply wN_ | apply wD_ | refine wE_ ?_ GE214.out | refine wE_ ?_ GE215.out) | exact HB.out)))); have n2_ := aM_ (bB_ (g := gb214) (by (with_reducible repeat (first | refine bN_ ?_ _ | refine bD_ ?_ | refine bA_ ?_ _)); exact BK214.out) hb); have n3_ := aM_ (bB_ (g := gb215) (by (with_reducible repeat (first | refine bN_ ?_ _ | refine bD_ ?_ | refine bA_ ?_ _)); exact BK215.out) hb); have n4_ := aM_ (wS_ (by repeat (first | (with_reducible first | exact HB.out | apply wA_ | apply wN_ | apply wD_ | refine wE_ ?_ GE214.out | refine wE_ ?_ GE215.out) | exact HB.out)) hb); clear HO224 BK214 BK215 HB; have HO224 := n0_; have HO218 := n1_; have BK214 := n2_; have BK215 := n3_; have HB := n4_; clear n0_ n1_ n2_ n3_ n4_; clear hb ho10
     refine hK.out _ _ ⟨(blk_cell BK214.out 0).trans rfl, (blk_cell BK214.out 1).trans rfl, (blk_cell BK214.out 2).trans rfl⟩ (fun hHeld => ?_)
     clear hK K
     refine norm_ (a' := ?_) ?_ ?_
     rotate_left
     ·show Act.put _ (some 5) _ = _
      simp only [Act.put, List.setIfInBounds_toArray, List.set_cons_zero, List.set_cons_succ, i64_w, i32_w]
      rfl
     refine one_ (i := 5) (N := some 8) #[true, true, true, true, true, true, true, true, true, false, false, false] rfl rfl (one_of HT_.out (by kernel_rfl)) (by decide) (fun K hK => ?_)
     refine Kd.R_append_rows_step (Kd.int .i64) (w0 := w) w.heap.size (by rfl) (.tmp 5) (.tmp 7) 22 3 (.int .i64 0) 8 rfl Try.underlying22 info3 rfl (by decide) (by omega) v217 y216 l0_1 _ _ _ (fun k_ => some k_ ≠ (v223 : Value).ownBlock) (fun _ => False) rfl rfl ?aO ?aR (fun _ _ h => h) (fun _ h => h.elim) ?aF ?aB ?aS ?aL ?_
     (case aR => repeat (first | exact (Kd.C_below HR0_1.out HB.out) | (with_reducible refine cA_ ?_ _) | (with_reducible refine cN_ ?_ _) | (with_reducible refine cD_ ?_)))
     (case aB => exact (by repeat (first | (with_reducible first | exact HB.out | apply wA_ | apply wN_ | apply wD_ | refine wE_ ?_ GE214.out | refine wE_ ?_ GE215.out) | exact HB.out)))
     (case aF => exact (fun k_ hk => Kd.fresh' (Kd.R_lt (by (with_reducible repeat (first | apply rA_ | apply rN_ | apply rD_)); exact HO224.out)) k_ hk))
     (case aO => exact (by (with_reducible repeat (first | apply rA_ | apply rN_ | apply rD_)); exact Kd.R_mono HO218.out (fun _ hk => hk.2)))
     (case aS => exact (sZ_ (by repeat (first | (with_reducible first | exact HB.out | apply wA_ | apply wN_ | apply wD_ | refine wE_ ?_ GE214.out | refine wE_ ?_ GE215.out) | exact HB.out))))
     (case aL => have := LMc2.out; omega)
     intro v220 w11 ho hb hg hat
     rw [← Ny219.out] at ho
     have n0_ := aM_ (blk_grown (g := gb214) (by (with_reducible repeat (first | refine bN_ ?_ _ | refine bD_ ?_ | refine bA_ ?_ _)); exact BK214.out) hg (Kd.R_ne HO218.out BK214.out (by decide))); have n1_ := aM_ (blk_grown (g := gb215) (by (with_reducible repeat (first | refine bN_ ?_ _ | refine bD_ ?_ | refine bA_ ?_ _)); exact BK215.out) hg (Kd.R_ne HO218.out BK215.out (by decide))); have n2_ := aM_ (Kd.R_after (ok := (fun _ => True)) (by (with_reducible repeat (first | apply rA_ | apply rN_ | apply rD_)); exact HO224.out) hg hat); have n3_ := aM_ (hb); have n4_ := aM_ (ho); clear BK214 BK215 HO224 HB HO218; have BK214 := n0_; have BK215 := n1_; have HO224 := n2_; have HB := n3_; have HO221 := n4_; clear n0_ n1_ n2_ n3_ n4_; clear ho hb hg hat
     refine hK.out _ _ ⟨(blk_cell BK214.out 0).trans rfl, (blk_cell BK214.out 1).trans rfl, (blk_cell BK214.out 2).trans rfl⟩ (fun hHeld => ?_)
     clear hK K
     refine norm_ (a' := ?_) ?_ ?_
     rotate_left
     ·show Act.put _ (some 8) _ = _
      simp only [Act.put, List.setIfInBounds_toArray, List.set_cons_zero, List.set_cons_succ, i64_w, i32_w]
      rfl
     exact norm_ (by simp only [putAll, Act.put, List.setIfInBounds_toArray, List.set_cons_zero, List.set_cons_succ]) (hCont (v217, v220, v223) _ ⟨hHeld, (by (with_reducible repeat (first | apply rA_ | apply rN_ | apply rD_)); exact HO221.out), (by (with_reducible repeat (first | apply rA_ | apply rN_ | apply rD_)); exact Kd.R_mono HO224.out (fun _ hk => hk.2)), (by (with_reducible repeat (first | refine bN_ ?_ _ | refine bD_ ?_ | refine bA_ ?_ _)); exact BK214.out), (by (with_reducible repeat (first | refine bN_ ?_ _ | refine bD_ ?_ | refine bA_ ?_ _)); exact BK215.out), (by repeat (first | (with_reducible first | exact HB.out | apply wA_ | apply wN_ | apply wD_ | refine wE_ ?_ GE214.out | refine wE_ ?_ GE215.out) | exact HB.out))⟩)
   rintro ⟨v217, v220, v223⟩ w12 ⟨hS_, h0_, h1_, h2_, h3_, h4_⟩
   have n0_ : Aside0 (Kd.R (Kd.int .i64) 3 w12 w.heap.size (fun k_ => some k_ ≠ (v223 : Value).ownBlock) v220 y219) := ⟨h0_⟩
   have n1_ : Aside0 (Kd.R (Kd.int .i64) 3 w12 w.heap.size (fun k_ => some k_ ≠ (v220 : Value).ownBlock) v223 y222) := ⟨h1_⟩
   have n2_ : Aside0 (w12.heap[gb214]? = some (.cells #[.int .i64 a0_0, .slice A0_1 l0_1.length c0_1, .slice A0_2 l0_2.length c0_2] 80 (0, 0))) := ⟨h2_⟩
   have n3_ : Aside0 (w12.heap[gb215]? = some (.cells #[.int .i64 0, .slice none 0 0, .slice none 0 0] 80 (0, 0))) := ⟨h3_⟩
   have n4_ : Aside0 (Below w.heap.size w w12) := ⟨h4_⟩
   clear BK214 BK215 HB h0_ h1_ h2_ h3_ h4_; have HO221 := n0_; have HO224 := n1_; have BK214 := n2_; have BK215 := n3_; have HB := n4_; clear n0_ n1_ n2_ n3_ n4_
   have hHeld : w12.cell? ⟨gb214, 0, none⟩ = some (.int .i64 a0_0) ∧ w12.cell? ⟨gb214, 1, none⟩ = some (.slice A0_1 l0_1.length c0_1) ∧ w12.cell? ⟨gb214, 2, none⟩ = some (.slice A0_2 l0_2.length c0_2) := hS_
   refine norm_ (a' := ?_) ?_ ?_
   rotate_left
   ·simp only [putAll, Act.put, List.setIfInBounds_toArray, List.set_cons_zero, List.set_cons_succ]
    rfl
   refine one_ (i := 9) (N := some 12) #[true, true, true, true, true, true, true, true, true, true, false, false] rfl rfl (one_of HT_.out (by kernel_rfl)) (by decide) (fun K hK => ?_)
   refine Kd.R_append_rows_step (Kd.int .i64) (w0 := w) w.heap.size (by rfl) (.tmp 9) (.tmp 11) 22 3 (.int .i64 0) 8 rfl Try.underlying22 info3 rfl (by decide) (by omega) v223 y222 l0_2 _ _ _ (fun k_ => some k_ ≠ (v220 : Value).ownBlock) (fun _ => False) rfl rfl ?aO ?aR (fun _ _ h => h) (fun _ h => h.elim) ?aF ?aB ?aS ?aL ?_
   (case aR => repeat (first | exact (Kd.C_below HR0_2.out HB.out) | (with_reducible refine cA_ ?_ _) | (with_reducible refine cN_ ?_ _) | (with_reducible refine cD_ ?_)))
   (case aB => exact (by repeat (first | (with_reducible first | exact HB.out | apply wA_ | apply wN_ | apply wD_ | refine wE_ ?_ GE214.out | refine wE_ ?_ GE215.out) | exact HB.out)))
   (case aF => exact (fun k_ hk => Kd.fresh' (Kd.R_lt (by (with_reducible repeat (first | apply rA_ | apply rN_ | apply rD_)); exact HO221.out)) k_ hk))
   (case aO => exact (by (with_reducible repeat (first | apply rA_ | apply rN_ | apply rD_)); exact HO224.out))
   (case aS => exact (sZ_ (by repeat (first | (with_reducible first | exact HB.out | apply wA_ | apply wN_ | apply wD_ | refine wE_ ?_ GE214.out | refine wE_ ?_ GE215.out) | exact HB.out))))
   (case aL => have := LMc3.out; omega)
   intro v226 w13 ho hb hg hat
   rw [← Ny225.out] at ho
   have n0_ := aM_ (blk_grown (g := gb214) (by (with_reducible repeat (first | refine bN_ ?_ _ | refine bD_ ?_ | refine bA_ ?_ _)); exact BK214.out) hg (Kd.R_ne HO224.out BK214.out (by decide))); have n1_ := aM_ (blk_grown (g := gb215) (by (with_reducible repeat (first | refine bN_ ?_ _ | refine bD_ ?_ | refine bA_ ?_ _)); exact BK215.out) hg (Kd.R_ne HO224.out BK215.out (by decide))); have n2_ := aM_ (Kd.R_after (ok := (fun _ => True)) (by (with_reducible repeat (first | apply rA_ | apply rN_ | apply rD_)); exact Kd.R_mono HO221.out (fun _ hk => ⟨trivial, hk⟩)) hg hat); have n3_ := aM_ (hb); have n4_ := aM_ (ho); clear BK214 BK215 HO221 HB HO224; have BK214 := n0_; have BK215 := n1_; have HO221 := n2_; have HB := n3_; have HO227 := n4_; clear n0_ n1_ n2_ n3_ n4_; clear ho hb hg hat
   obtain ⟨Ao14, co14, eo14⟩ := Kd.R_slice HO227.out
   (first | subst eo14 | (injection eo14 with f1_ f2_ f3_; have f4_ := f1_.symm; have f5_ := f3_.symm; clear f1_ f2_ f3_; subst f4_; subst f5_))
   obtain ⟨Ao15, co15, eo15⟩ := Kd.R_slice HO221.out
   (first | subst eo15 | (injection eo15 with f1_ f2_ f3_; have f4_ := f1_.symm; have f5_ := f3_.symm; clear f1_ f2_ f3_; subst f4_; subst f5_))
   refine hK.out _ _ ⟨(blk_cell BK214.out 0).trans rfl, (blk_cell BK214.out 1).trans rfl, (blk_cell BK214.out 2).trans rfl⟩ (fun hHeld => ?_)
   clear hK K
   refine norm_ (a' := ?_) ?_ ?_
   rotate_left
   ·show Act.put _ (some 12) _ = _
    simp only [Act.put, List.setIfInBounds_toArray, List.set_cons_zero, List.set_cons_succ, i64_w, i32_w]
    rfl
   refine pure_ (i := 10) (N := some 13) (v := ?_) (a' := ?_) #[true, true, true, true, true, true, true, true, true, true, true, false] rfl rfl (any_of HT_.out (by kernel_rfl)) (fun _ _ _ h => h) (Or.inl ⟨by rfl, ?_⟩) ?_ ?_
   rotate_left
   ·intro w'
    go_simp
    with_reducible rfl
   rotate_left
   ·simp only [Act.put, List.setIfInBounds_toArray, List.set_cons_zero, List.set_cons_succ, i64_w, i32_w]
    rfl
   refine one_ (i := 11) (N := none) #[true, true, true, true, true, true, true, true, true, true, true, true] rfl rfl (one_of HT_.out (by kernel_rfl)) (by decide) (fun K hK => ?_)
   have hs16 : w13.cell? ⟨gb215, 0, none⟩ = some (.int .i64 0) := (blk_cell BK215.out 0).trans rfl
   have hfs16 := blk_frozen BK215.out 0; have hns16_0 := NB214_215.out; have hms16_0 := NB215_214.out
   have hs17 : w13.cell? ⟨gb215, 1, none⟩ = some (.slice none 0 0) := (blk_cell BK215.out 1).trans rfl
   have hfs17 := blk_frozen BK215.out 1; have hns17_0 := NB214_215.out; have hms17_0 := NB215_214.out
   have hs18 : w13.cell? ⟨gb215, 2, none⟩ = some (.slice none 0 0) := (blk_cell BK215.out 2).trans rfl
   have hfs18 := blk_frozen BK215.out 2; have hns18_0 := NB214_215.out; have hms18_0 := NB215_214.out
   refine skip_ (w1 := ?_) (by rfl) rfl ?_ ?_
   rotate_left
   ·go_simp
    rfl
   refine hK.out _ _ ⟨((cell_far (p := ⟨gb215, _, none⟩) NB214_215.out _).trans (((cell_far (p := ⟨gb215, _, none⟩) NB214_215.out _).trans (((cell_far (p := ⟨gb215, _, none⟩) NB214_215.out _).trans (hHeld.1)))))), ((cell_far (p := ⟨gb215, _, none⟩) NB214_215.out _).trans (((cell_far (p := ⟨gb215, _, none⟩) NB214_215.out _).trans (((cell_far (p := ⟨gb215, _, none⟩) NB214_215.out _).trans (hHeld.2.1)))))), ((cell_far (p := ⟨gb215, _, none⟩) NB214_215.out _).trans (((cell_far (p := ⟨gb215, _, none⟩) NB214_215.out _).trans (((cell_far (p := ⟨gb215, _, none⟩) NB214_215.out _).trans (hHeld.2.2))))))⟩ (fun hHeld => ?_)
   clear hK K
   refine done_ (done_of HT_.out (by kernel_rfl)) ?_
   try go_wp2
   refine bodyPost_ret (results_cell_row rfl _ _ gb215 80 #[.int .i64 a0_0, .slice Ao15 y219.length co15, .slice Ao14 y225.length co14] (0, 0) _ rfl (by (with_reducible repeat (first | refine bN_ ?_ _ | refine bD_ ?_ | refine bA_ ?_ _)); refine blk_put (cs := #[.int .i64 a0_0, .slice Ao15 y219.length co15, .slice none 0 0]) ?_ 2 _ rfl; (with_reducible repeat (first | refine bN_ ?_ _ | refine bD_ ?_ | refine bA_ ?_ _)); refine blk_put (cs := #[.int .i64 a0_0, .slice none 0 0, .slice none 0 0]) ?_ 1 _ rfl; (with_reducible repeat (first | refine bN_ ?_ _ | refine bD_ ?_ | refine bA_ ?_ _)); refine blk_put (cs := #[.int .i64 0, .slice none 0 0, .slice none 0 0]) ?_ 0 _ rfl; (with_reducible repeat (first | refine bN_ ?_ _ | refine bD_ ?_ | refine bA_ ?_ _)); exact BK215.out) Try.underlying80 rfl (by kernel_rfl)) rfl ?_
   exact ⟨_, _, by first | rfl | (simp [errW_none, errW_some] <;> rfl) | (simp [*, errW_none, errW_some] <;> rfl), by (with_reducible repeat (first | apply rA_ | apply rN_ | apply rD_)); exact Kd.R_mono (Kd.R_far (p := ⟨gb215, 2, none⟩) (Kd.R_far (p := ⟨gb215, 1, none⟩) (Kd.R_far (p := ⟨gb215, 0, none⟩) (Kd.R_types HO221.out BK215.out (by decide)) (fun _ hk => hk.2) (.int .i64 a0_0)) (fun _ hk => hk.2) (.slice Ao15 y219.length co15)) (fun _ hk => hk.2) (.slice Ao14 y225.length co14)) (fun _ hk => hk.1.2), by (with_reducible repeat (first | apply rA_ | apply rN_ | apply rD_)); exact Kd.R_mono (Kd.R_far (p := ⟨gb215, 2, none⟩) (Kd.R_far (p := ⟨gb215, 1, none⟩) (Kd.R_far (p := ⟨gb215, 0, none⟩) (Kd.R_types HO227.out BK215.out (by decide)) (fun _ hk => hk.2) (.int .i64 a0_0)) (fun _ hk => hk.2) (.slice Ao15 y219.length co15)) (fun _ hk => hk.2) (.slice Ao14 y225.length co14)) (fun _ hk => hk.1), by repeat (first | (with_reducible first | exact HB.out | apply wA_ | apply wN_ | apply wD_ | refine wE_ ?_ GE214.out | refine wE_ ?_ GE215.out) | exact HB.out)⟩
  ·rw [if_neg c3] at H
   exact absurd H (by simp)
 ·rw [if_neg c2] at H
  exact absurd H (by simp)

end Go.Proofs.Ytegkplalnljgjaa.PFnExactRouteIn
