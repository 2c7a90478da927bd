/- The functions that the law reaches, as plain Lean functions, each with the proof that the Go code comes to its answers; conditions: those that each theorem names. (printed by a program of this session) -/
import Derived.Test.YtdodogkgmpaioaaPFnExactAdmitFlowx0
namespace Go.Proofs.Ytdodogkgmpaioaa.PFnExactAdmitFlow
open Go.RowKit Go.Proofs.YtdodogkgmpaioaaW.PrintWords Go.Proofs.YtdodogkgmpaioaaW.PrintLast Go.Proofs.YtdodogkgmpaioaaW.PrintMore
attribute [local go_sem] max2_int min2_int max_two min_two max_three min_three max_four min_four   -- for this text's walks alone
set_option linter.unusedVariables false
set_option linter.unusedSimpArgs false

/-! ### laws_markProgram: function 22 -/
theorem not_types_ {w : World} {g t : Nat} {cs : Array Value} {L : List Nat} (h : w.heap[g]? = some (.cells cs t (0, 0))) (hs : ∃ q, q ∈ L ∧ ∃ cells, w.heap[g]? = some (.cells cells q (0, 0))) (hn : t ∉ L) : False := by
  obtain ⟨q, hq, cells, hc⟩ := hs
  rw [h] at hc
  injection hc with hc
  injection hc with _ ht _
  exact hn (ht ▸ hq)
def isI_ (v : Value) : Prop := ∃ z, v = .int .i64 z
/-- Numbers in P's blocks are turned to numbers; all else stays. -/
def Mk_ (P : Nat → Prop) (w w' : World) : Prop := Below 0 w w' ∧ (∀ b, b < w.heap.size → ¬ P b → w'.heap[b]? = w.heap[b]?) ∧
  ∀ (b : Nat) (cells : Array Value) (t : Nat), w.heap[b]? = some (.cells cells t (0, 0)) → ∃ cells' : Array Value, w'.heap[b]? = some (.cells cells' t (0, 0)) ∧ ∀ (j : Nat) (u : Value), cells[j]? = some u → ∃ u', cells'[j]? = some u' ∧ (u' = u ∨ isI_ u ∧ isI_ u')
theorem Mk_.refl (P : Nat → Prop) (w : World) : Mk_ P w w := ⟨Below.refl _ _, fun _ _ _ => rfl, fun _ cells _ h => ⟨cells, h, fun _ u hu => ⟨u, hu, .inl rfl⟩⟩⟩
theorem Mk_.then_ {P : Nat → Prop} {w W W2 : World} (h : Mk_ P w W) (k : Mk_ P W W2) : Mk_ P w W2 := by
  refine ⟨h.1.trans k.1, fun b hb hn => (k.2.1 b (Nat.lt_of_lt_of_le hb h.1.size) hn).trans (h.2.1 b hb hn), fun b cells t hc => ?_⟩
  obtain ⟨c1, h1, h2⟩ := h.2.2 b cells t hc
  obtain ⟨c2, h3, h4⟩ := k.2.2 b c1 t h1
  refine ⟨c2, h3, fun j u hu => ?_⟩
  obtain ⟨u1, e1, r1⟩ := h2 j u hu
  obtain ⟨u2, e2, r2⟩ := h4 j u1 e1
  refine ⟨u2, e2, ?_⟩
  rcases r1 with rfl | ⟨a1, a2⟩
  · exact r2
  · rcases r2 with rfl | ⟨b1, b2⟩
    · exact .inr ⟨a1, a2⟩
    · exact .inr ⟨a1, b2⟩
theorem Mk_.drewN {P : Nat → Prop} {w W : World} (h : Mk_ P w W) (n : Nat) : Mk_ P w (W.drewN n) := ⟨wN_ h.1 n, h.2⟩
theorem Mk_.set {P : Nat → Prop} {w W : World} (h : Mk_ P w W) {g o t : Nat} {cs : Array Value} {z z' : Int} (hP : P g) (hb : W.heap[g]? = some (.cells cs t (0, 0))) (hz : cs[o]? = some (.int .i64 z)) : Mk_ P w (W.setCell ⟨g, o, none⟩ (.int .i64 z')) := by
  refine h.then_ ⟨⟨rfl, rfl, rfl, by simp [World.setCell], fun k hk => absurd hk (Nat.not_lt_zero k)⟩, fun b _ hn => Below.heap_setCell W ⟨g, o, none⟩ _ b (fun e => hn (e ▸ hP)), fun b cells t' hc => ?_⟩
  by_cases e : b = g
  · subst e
    rw [hb] at hc
    injection hc with hc
    injection hc with e1 e2 _
    subst e1; subst e2
    refine ⟨_, blk_set hb o _, fun j u hu => ?_⟩
    by_cases ej : j = o
    · subst ej
      rw [hz] at hu
      injection hu with hu
      subst hu
      have hj : j < cs.size := (Array.getElem?_eq_some_iff.1 hz).1
      exact ⟨.int .i64 z', by simp [Array.getElem?_setIfInBounds, hj], .inr ⟨⟨_, rfl⟩, ⟨_, rfl⟩⟩⟩
    · exact ⟨u, by rw [Array.getElem?_setIfInBounds_ne (Ne.symm ej)]; exact hu, .inl rfl⟩
  · exact ⟨cells, (Below.heap_setCell W ⟨g, o, none⟩ _ b e).trans hc, fun _ u hu => ⟨u, hu, .inl rfl⟩⟩
def IntRow_ (P : Nat → Prop) (w : World) (A : Option Addr) (m : Nat) : Prop := m = 0 ∨ ∃ (g : Nat) (cells : Array Value) (t : Nat), A = some ⟨g, 0, none⟩ ∧ P g ∧ w.heap[g]? = some (.cells cells t (0, 0)) ∧ ∀ j, j < m → ∃ z, cells[j]? = some (.int .i64 z)
theorem IntRow_.mk_ {P : Nat → Prop} {w W : World} {A : Option Addr} {m : Nat} (h : IntRow_ P w A m) (k : Mk_ P w W) : IntRow_ P W A m := by
  rcases h with h | ⟨g, cells, t, hA, hP, hb, hz⟩
  · exact .inl h
  · obtain ⟨c1, h1, h2⟩ := k.2.2 g cells t hb
    refine .inr ⟨g, c1, t, hA, hP, h1, fun j hj => ?_⟩
    obtain ⟨z, hz⟩ := hz j hj
    obtain ⟨u, hu, e | ⟨_, z', e⟩⟩ := h2 j _ hz
    · exact ⟨z, e ▸ hu⟩
    · exact ⟨z', e ▸ hu⟩
theorem slice_stays {P : Nat → Prop} {w W : World} (k : Mk_ P w W) {g t j : Nat} {cells : Array Value} {A : Option Addr} {n c : Nat} (hb : w.heap[g]? = some (.cells cells t (0, 0))) (hj : cells[j]? = some (.slice A n c)) : ∃ cells', W.heap[g]? = some (.cells cells' t (0, 0)) ∧ cells'[j]? = some (.slice A n c) := by
  obtain ⟨c1, h1, h2⟩ := k.2.2 g cells t hb
  obtain ⟨u, hu, e | ⟨⟨_, e⟩, _⟩⟩ := h2 j _ hj
  · exact ⟨c1, h1, e ▸ hu⟩
  · cases e
def TabRow_ (P : Nat → Prop) (w : World) (A : Option Addr) (ns : List (Nat × Nat)) : Prop := ns = [] ∨ ∃ (g : Nat) (cells : Array Value) (t : Nat), A = some ⟨g, 0, none⟩ ∧ P g ∧ w.heap[g]? = some (.cells cells t (0, 0)) ∧
  ∀ (j : Nat) (p : Nat × Nat), ns[j]? = some p → (∃ z, cells[j * 3]? = some (.int .i64 z)) ∧ (∃ A1 c1, cells[j * 3 + 1]? = some (.slice A1 p.1 c1) ∧ IntRow_ P w A1 p.1) ∧ ∃ A2 c2, cells[j * 3 + 2]? = some (.slice A2 p.2 c2) ∧ IntRow_ P w A2 p.2
theorem keep_cells {P : Nat → Prop} {w W : World} (k : Mk_ P w W) {g t : Nat} {cells : Array Value} (hb : w.heap[g]? = some (.cells cells t (0, 0))) : ∃ cells' : Array Value, W.heap[g]? = some (.cells cells' t (0, 0)) ∧ (∀ (j : Nat) (z : Int), cells[j]? = some (Value.int .i64 z) → ∃ z', cells'[j]? = some (Value.int .i64 z')) ∧ ∀ (j : Nat) (A : Option Addr) (n c : Nat), cells[j]? = some (Value.slice A n c) → cells'[j]? = some (Value.slice A n c) := by
  obtain ⟨c1, h1, h2⟩ := k.2.2 g cells t hb
  refine ⟨c1, h1, fun j z hz => ?_, fun j A n c hc => ?_⟩
  · obtain ⟨u, hu, e | ⟨_, z', e⟩⟩ := h2 j _ hz
    · exact ⟨z, e ▸ hu⟩
    · exact ⟨z', e ▸ hu⟩
  · obtain ⟨u, hu, e | ⟨⟨_, e⟩, _⟩⟩ := h2 j _ hc
    · exact e ▸ hu
    · cases e
theorem TabRow_.mk_ {P : Nat → Prop} {w W : World} {A : Option Addr} {ns : List (Nat × Nat)} (h : TabRow_ P w A ns) (k : Mk_ P w W) : TabRow_ P W A ns := by
  rcases h with h | ⟨g, cells, t, hA, hP, hb, hz⟩
  · exact .inl h
  · obtain ⟨c1, h1, h2, h3⟩ := keep_cells k hb
    refine .inr ⟨g, c1, t, hA, hP, h1, fun j p hj => ?_⟩
    obtain ⟨⟨z, q0⟩, ⟨A1, d1, q1, i1⟩, ⟨A2, d2, q2, i2⟩⟩ := hz j p hj
    exact ⟨h2 _ _ q0, ⟨A1, d1, h3 _ _ _ _ q1, i1.mk_ k⟩, ⟨A2, d2, h3 _ _ _ _ q2, i2.mk_ k⟩⟩
def PieRow_ (P : Nat → Prop) (w : World) (A : Option Addr) (ns : List (Nat × List (Nat × Nat))) : Prop := ns = [] ∨ ∃ (g : Nat) (cells : Array Value) (t : Nat), A = some ⟨g, 0, none⟩ ∧ P g ∧ w.heap[g]? = some (.cells cells t (0, 0)) ∧
  ∀ (j : Nat) (p : Nat × List (Nat × Nat)), ns[j]? = some p → (∃ z, cells[j * 4]? = some (.int .i64 z)) ∧ (∃ z, cells[j * 4 + 1]? = some (.int .i64 z)) ∧ (∃ A1 c1, cells[j * 4 + 2]? = some (.slice A1 p.1 c1) ∧ IntRow_ P w A1 (p.1 * 2)) ∧ ∃ A2 c2, cells[j * 4 + 3]? = some (.slice A2 p.2.length c2) ∧ TabRow_ P w A2 p.2
theorem PieRow_.mk_ {P : Nat → Prop} {w W : World} {A : Option Addr} {ns : List (Nat × List (Nat × Nat))} (h : PieRow_ P w A ns) (k : Mk_ P w W) : PieRow_ P W A ns := by
  rcases h with h | ⟨g, cells, t, hA, hP, hb, hz⟩
  · exact .inl h
  · obtain ⟨c1, h1, h2, h3⟩ := keep_cells k hb
    refine .inr ⟨g, c1, t, hA, hP, h1, fun j p hj => ?_⟩
    obtain ⟨⟨z, q0⟩, ⟨z', q0'⟩, ⟨A1, d1, q1, i1⟩, ⟨A2, d2, q2, i2⟩⟩ := hz j p hj
    exact ⟨h2 _ _ q0, h2 _ _ q0', ⟨A1, d1, h3 _ _ _ _ q1, i1.mk_ k⟩, ⟨A2, d2, h3 _ _ _ _ q2, i2.mk_ k⟩⟩
def tabSize_ (ns : List (Nat × Nat)) : Nat := (ns.map fun p => 1 + p.1 + p.2).sum
def pieSize_ (ns : List (Nat × List (Nat × Nat))) : Nat := (ns.map fun p => 2 + p.1 * 2 + tabSize_ p.2).sum
theorem sum_take {α : Type} (f : α → Nat) (l : List α) {i : Nat} {x : α} (h : l[i]? = some x) : ((l.take (i + 1)).map f).sum = ((l.take i).map f).sum + f x := by
  rw [List.take_add_one, h]
  simp [List.map_append, List.sum_append]
theorem sum_le {α : Type} (f : α → Nat) (l : List α) (i : Nat) : ((l.take i).map f).sum ≤ (l.map f).sum := by
  have h := congrArg (fun q => (q.map f).sum) (List.take_append_drop i l)
  simp only [List.map_append, List.sum_append] at h
  omega
theorem tab_len : ∀ ns : List (Nat × Nat), ns.length ≤ tabSize_ ns
  | [] => Nat.le_refl _
  | p :: ns => by
    have := tab_len ns
    unfold tabSize_ at this ⊢
    rw [List.map_cons, List.sum_cons, List.length_cons]
    omega
theorem pie_len : ∀ ns : List (Nat × List (Nat × Nat)), ns.length ≤ pieSize_ ns
  | [] => Nat.le_refl _
  | p :: ns => by
    have := pie_len ns
    unfold pieSize_ at this ⊢
    rw [List.map_cons, List.sum_cons, List.length_cons]
    omega
set_option maxHeartbeats 2000000 in
set_option maxRecDepth 100000 in
theorem marks_ints (P : Nat → Prop) (A : Option Addr) (n c : Nat) (a : Int) (w : World) (h0 : 0 ≤ a) (hs : a + n ≤ 4000000000) (h : IntRow_ P w A n) :
    Calls Try.prog 36 #[.slice A n c, .int .i64 a] w fun e w' => e = .returned (.int .i64 (a + n)) ∧ Mk_ P w w' := by
  have HI := aM_ h
  clear h
  go_enter Try.func36, Try.ntmps36
  go_wp2
  go_loopg [1, 5] n (fun gg v1 v5 wr => ∃ (i : Nat) (k : Int), i ≤ n ∧ n - i ≤ gg ∧ v1 = .int .i64 k ∧ v5 = .int .i64 i ∧ Aside0 (k = a + i) ∧ Aside0 (Mk_ P w wr))
  case atStart => exact ⟨0, a, Nat.zero_le _, by omega, rfl, rfl, ⟨by omega⟩, ⟨Mk_.refl _ _⟩⟩
  case round =>
    obtain ⟨i, k, hi, hg, rfl, rfl, HK, HM⟩ := hrel
    have hk := HK.out
    by_cases hlt : i < n
    · have hltz : (i : Int) < (n : Int) := by omega
      have hw : wrap64 (k + 1) = k + 1 := by unfold wrap64; omega
      have HW := aM_ hw
      rcases HI.out.mk_ HM.out with h | ⟨g, cells, t, rfl, hP, hb, hz⟩
      · omega
      · obtain ⟨z, hz⟩ := hz i hlt
        have hx : wr.cell? ⟨g, i, none⟩ = some (.int .i64 z) := (blk_cell hb i).trans hz
        have hf : wr.frozen? ⟨g, i, none⟩ = false := blk_frozen hb i
        have HN := aM_ (Mk_.set (z' := k) HM.out hP hb hz)
        clear hb hz hP hk hw
        go_wp2
        go_roundg (n - (i + 1))
        case measure => omega
        case rel => exact ⟨i + 1, k + 1, by omega, by omega, congrArg (Value.int .i64) (by first | exact HW.out | rw [i64_w]; exact HW.out), by go_num, ⟨by have := HK.out; omega⟩, ⟨HN.out⟩⟩
    · have hltz : ¬ (i : Int) < (n : Int) := by omega
      have : i = n := by omega
      subst this
      obtain rfl := hk
      go_wp2
      go_ret
      exact ⟨rfl, HM.out⟩
set_option maxHeartbeats 2000000 in
set_option maxRecDepth 100000 in
theorem marks_links (P : Nat → Prop) (A : Option Addr) (n c : Nat) (a : Int) (w : World) (h0 : 0 ≤ a) (hs : a + ((n * 2 : Nat) : Int) ≤ 4000000000) (h : IntRow_ P w A (n * 2)) :
    Calls Try.prog 80 #[.slice A n c, .int .i64 a] w fun e w' => e = .returned (.int .i64 (a + ((n * 2 : Nat) : Int))) ∧ Mk_ P w w' := by
  have HI := aM_ h
  have HS := aM_ hs
  have hnb : n ≤ 4000000000 := by omega
  clear h hs
  go_enter Try.func80, Try.ntmps80
  go_wp2
  go_loopg [1, 5] n (fun gg v1 v5 wr => ∃ (i : Nat) (k : Int), i ≤ n ∧ n - i ≤ gg ∧ v1 = .int .i64 k ∧ v5 = .int .i64 i ∧ Aside0 (k = a + ((i * 2 : Nat) : Int)) ∧ Aside0 (Mk_ P w wr))
  case atStart => exact ⟨0, a, Nat.zero_le _, by omega, rfl, rfl, ⟨by omega⟩, ⟨Mk_.refl _ _⟩⟩
  case round =>
    obtain ⟨i, k, hi, hg, rfl, rfl, HK, HM⟩ := hrel
    have hk := HK.out
    have hs := HS.out
    by_cases hlt : i < n
    · have hltz : (i : Int) < (n : Int) := by omega
      have HW := aM_ (show wrap64 (k + 1) = k + 1 by unfold wrap64; omega)
      have HW2 := aM_ (show wrap64 (wrap64 (k + 1) + 1) = k + 2 by unfold wrap64; omega)
      rcases HI.out.mk_ HM.out with h | ⟨g, cells, t, rfl, hP, hb, hz⟩
      · omega
      · obtain ⟨z, hz0⟩ := hz (i * 2) (by omega)
        obtain ⟨z', hz1⟩ := hz (i * 2 + 1) (by omega)
        have hx0 : wr.cell? ⟨g, i * 2, none⟩ = some (.int .i64 z) := (blk_cell hb _).trans hz0
        have hf0 : wr.frozen? ⟨g, i * 2, none⟩ = false := blk_frozen hb _
        have hx1 : wr.cell? ⟨g, i * 2 + 1, none⟩ = some (.int .i64 z') := (blk_cell hb _).trans hz1
        have hf1 : wr.frozen? ⟨g, i * 2 + 1, none⟩ = false := blk_frozen hb _
        have HN := aM_ (Mk_.set (z' := wrap64 (k + 1)) (Mk_.set (z' := k) HM.out hP hb hz0) hP (blk_set hb (i * 2) (.int .i64 k)) (o := i * 2 + 1) (z := z') (by rw [Array.getElem?_setIfInBounds_ne (by omega)]; exact hz1))
        clear hb hz hP hk hz0 hz1 hs
        go_wp2
        go_roundg (n - (i + 1))
        case measure => omega
        case rel => exact ⟨i + 1, k + 2, by omega, by omega, congrArg (Value.int .i64) (by first | exact HW2.out | (simp only [i64_w]; exact HW2.out)), by go_num, ⟨by have := HK.out; omega⟩, ⟨by first | exact HN.out | (simp only [i64_w]; exact HN.out)⟩⟩
    · have hltz : ¬ (i : Int) < (n : Int) := by omega
      have : i = n := by omega
      subst this
      obtain rfl := hk
      clear hs
      go_wp2
      go_ret
      exact ⟨rfl, HM.out⟩
set_option maxHeartbeats 2000000 in
set_option maxRecDepth 100000 in
theorem marks_tabs (P : Nat → Prop) (A : Option Addr) (n c : Nat) (ns : List (Nat × Nat)) (hn : ns.length = n) (a : Int) (w : World) (h0 : 0 ≤ a) (hs : a + (tabSize_ ns : Int) ≤ 4000000000) (h : TabRow_ P w A ns) :
    Calls Try.prog 81 #[.slice A n c, .int .i64 a] w fun e w' => e = .returned (.int .i64 (a + (tabSize_ ns : Int))) ∧ Mk_ P w w' := by
  have HI := aM_ h
  have HS := aM_ hs
  have HL := aM_ hn
  have hnb : n ≤ 4000000000 := by have := tab_len ns; omega
  clear h hs hn
  go_enter Try.func81, Try.ntmps81
  go_wp2
  go_loopg [1, 5] n (fun gg v1 v5 wr => ∃ (i : Nat) (k : Int), i ≤ n ∧ n - i ≤ gg ∧ v1 = .int .i64 k ∧ v5 = .int .i64 i ∧ Aside0 (k = a + (tabSize_ (ns.take i) : Int)) ∧ Aside0 (Mk_ P w wr))
  case atStart => exact ⟨0, a, Nat.zero_le _, by omega, rfl, rfl, ⟨by simp [tabSize_]⟩, ⟨Mk_.refl _ _⟩⟩
  case round =>
    obtain ⟨i, k, hi, hg, rfl, rfl, HK, HM⟩ := hrel
    have hk := HK.out
    have hs := HS.out
    have hl := HL.out
    by_cases hlt : i < n
    · have hltz : (i : Int) < (n : Int) := by omega
      obtain ⟨p, hp⟩ : ∃ p, ns[i]? = some p := ⟨_, List.getElem?_eq_getElem (by omega)⟩
      have ht : tabSize_ (ns.take (i + 1)) = tabSize_ (ns.take i) + (1 + p.1 + p.2) := sum_take _ ns hp
      have hle : tabSize_ (ns.take (i + 1)) ≤ tabSize_ ns := sum_le _ ns (i + 1)
      have HW := aM_ (show wrap64 (k + 1) = k + 1 by unfold wrap64; omega)
      rcases HI.out.mk_ HM.out with h | ⟨g, cells, t, rfl, hP, hb, hz⟩
      · rw [h] at hp; cases hp
      · obtain ⟨⟨z, hz0⟩, ⟨A1, d1, hz1, i1⟩, ⟨A2, d2, hz2, i2⟩⟩ := hz i p hp
        have hx0 : wr.cell? ⟨g, i * 3, none⟩ = some (.int .i64 z) := (blk_cell hb _).trans hz0
        have hf0 : wr.frozen? ⟨g, i * 3, none⟩ = false := blk_frozen hb _
        have hx1 : wr.cell? ⟨g, i * 3 + 1, none⟩ = some (.slice A1 p.1 d1) := (blk_cell hb _).trans hz1
        have hf1 : wr.frozen? ⟨g, i * 3 + 1, none⟩ = false := blk_frozen hb _
        have hm1 : Mk_ P wr (wr.setCell ⟨g, i * 3, none⟩ (.int .i64 k)) := Mk_.set (Mk_.refl _ _) hP hb hz0
        obtain ⟨c1, hb1, _, hc1⟩ := keep_cells hm1 hb
        have hz2' := hc1 _ _ _ _ hz2
        have HC1 := aM_ (marks_ints P A1 p.1 d1 (wrap64 (k + 1)) _ (by have := HW.out; omega) (by have := HW.out; omega) (i1.mk_ hm1))
        have HG := aM_ (show ∀ W, Mk_ P (wr.setCell ⟨g, i * 3, none⟩ (.int .i64 k)) W → W.cell? ⟨g, i * 3 + 2, none⟩ = some (.slice A2 p.2 d2) ∧ W.frozen? ⟨g, i * 3 + 2, none⟩ = false ∧ (Calls Try.prog 36 #[.slice A2 p.2 d2, .int .i64 (wrap64 (k + 1) + p.1)] W fun e w' => e = .returned (.int .i64 (wrap64 (k + 1) + p.1 + p.2)) ∧ Mk_ P W w') from fun W hW => by
          obtain ⟨c2, hb2, _, hc2⟩ := keep_cells hW hb1
          exact ⟨(blk_cell hb2 _).trans (hc2 _ _ _ _ hz2'), blk_frozen hb2 _, marks_ints P A2 p.2 d2 (wrap64 (k + 1) + p.1) W (by have := HW.out; omega) (by have := HW.out; omega) ((i2.mk_ hm1).mk_ hW)⟩)
        have HM1 := aM_ (HM.out.then_ hm1)
        have HT := aM_ ht
        clear hb hz hP hk hz0 hz1 hs hl ht hle hm1 hb1 hc1 hz2' i1 i2 hz2 hp
        go_wp2_with (first | (go_at_call 36; refine HC1.out.mono ?_; rintro e w2 ⟨rfl, hm2⟩; obtain ⟨hx2, hf2, hc⟩ := HG.out w2 hm2; have HC2 := aM_ hc; have HM2 := aM_ hm2; clear hc hm2 HC1 HG) | (go_at_call 36; refine HC2.out.mono ?_; rintro e w3 ⟨rfl, hm3⟩; have HM3 := aM_ hm3; clear hm3 HC2))
        go_roundg (n - (i + 1))
        case measure => omega
        case rel => exact ⟨i + 1, wrap64 (k + 1) + p.1 + p.2, by omega, by omega, rfl, by go_num, ⟨by have := HK.out; have := HT.out; have := HW.out; omega⟩, ⟨(HM1.out.then_ HM2.out).then_ HM3.out⟩⟩
    · have hltz : ¬ (i : Int) < (n : Int) := by omega
      have : i = n := by omega
      subst this
      rw [List.take_of_length_le (by omega)] at hk
      obtain rfl := hk
      clear hs hl
      go_wp2
      go_ret
      exact ⟨rfl, HM.out⟩
set_option maxHeartbeats 2000000 in
set_option maxRecDepth 100000 in
theorem marks_pieces (P : Nat → Prop) (A : Option Addr) (n c : Nat) (ns : List (Nat × List (Nat × Nat))) (hn : ns.length = n) (a : Int) (w : World) (h0 : 0 ≤ a) (hs : a + (pieSize_ ns : Int) ≤ 4000000000) (h : PieRow_ P w A ns) :
    Calls Try.prog 58 #[.slice A n c, .int .i64 a] w fun e w' => e = .returned (.int .i64 (a + (pieSize_ ns : Int))) ∧ Mk_ P w w' := by
  have HI := aM_ h
  have HS := aM_ hs
  have HL := aM_ hn
  have hnb : n ≤ 4000000000 := by have := pie_len ns; omega
  clear h hs hn
  go_enter Try.func58, Try.ntmps58
  go_wp2
  go_loopg [1, 5] n (fun gg v1 v5 wr => ∃ (i : Nat) (k : Int), i ≤ n ∧ n - i ≤ gg ∧ v1 = .int .i64 k ∧ v5 = .int .i64 i ∧ Aside0 (k = a + (pieSize_ (ns.take i) : Int)) ∧ Aside0 (Mk_ P w wr))
  case atStart => exact ⟨0, a, Nat.zero_le _, by omega, rfl, rfl, ⟨by simp [pieSize_]⟩, ⟨Mk_.refl _ _⟩⟩
  case round =>
    obtain ⟨i, k, hi, hg, rfl, rfl, HK, HM⟩ := hrel
    have hk := HK.out
    have hs := HS.out
    have hl := HL.out
    by_cases hlt : i < n
    · have hltz : (i : Int) < (n : Int) := by omega
      obtain ⟨p, hp⟩ : ∃ p, ns[i]? = some p := ⟨_, List.getElem?_eq_getElem (by omega)⟩
      have ht : pieSize_ (ns.take (i + 1)) = pieSize_ (ns.take i) + (2 + p.1 * 2 + tabSize_ p.2) := sum_take _ ns hp
      have hle : pieSize_ (ns.take (i + 1)) ≤ pieSize_ ns := sum_le _ ns (i + 1)
      have HW := aM_ (show wrap64 (k + 1) = k + 1 by unfold wrap64; omega)
      have HW2 := aM_ (show wrap64 (wrap64 (k + 1) + 1) = k + 2 by unfold wrap64; omega)
      rcases HI.out.mk_ HM.out with h | ⟨g, cells, t, rfl, hP, hb, hz⟩
      · rw [h] at hp; cases hp
      · obtain ⟨⟨z, hz0⟩, ⟨z', hz0'⟩, ⟨A1, d1, hz1, i1⟩, ⟨A2, d2, hz2, i2⟩⟩ := hz i p hp
        have hx0 : wr.cell? ⟨g, i * 4, none⟩ = some (.int .i64 z) := (blk_cell hb _).trans hz0
        have hf0 : wr.frozen? ⟨g, i * 4, none⟩ = false := blk_frozen hb _
        have hx0' : wr.cell? ⟨g, i * 4 + 1, none⟩ = some (.int .i64 z') := (blk_cell hb _).trans hz0'
        have hf0' : wr.frozen? ⟨g, i * 4 + 1, none⟩ = false := blk_frozen hb _
        have hx1 : wr.cell? ⟨g, i * 4 + 2, none⟩ = some (.slice A1 p.1 d1) := (blk_cell hb _).trans hz1
        have hf1 : wr.frozen? ⟨g, i * 4 + 2, none⟩ = false := blk_frozen hb _
        have hm1 : Mk_ P wr ((wr.setCell ⟨g, i * 4, none⟩ (.int .i64 k)).setCell ⟨g, i * 4 + 1, none⟩ (.int .i64 (wrap64 (k + 1)))) := Mk_.set (Mk_.set (Mk_.refl _ _) hP hb hz0) hP (blk_set hb (i * 4) (.int .i64 k)) (z := z') (by rw [Array.getElem?_setIfInBounds_ne (by omega)]; exact hz0')
        obtain ⟨c1, hb1, _, hc1⟩ := keep_cells hm1 hb
        have hz2' := hc1 _ _ _ _ hz2
        have HC1 := aM_ (marks_links P A1 p.1 d1 (wrap64 (wrap64 (k + 1) + 1)) _ (by have := HW2.out; omega) (by have := HW2.out; omega) (i1.mk_ hm1))
        have HG := aM_ (show ∀ W, Mk_ P ((wr.setCell ⟨g, i * 4, none⟩ (.int .i64 k)).setCell ⟨g, i * 4 + 1, none⟩ (.int .i64 (wrap64 (k + 1)))) W → W.cell? ⟨g, i * 4 + 3, none⟩ = some (.slice A2 p.2.length d2) ∧ W.frozen? ⟨g, i * 4 + 3, none⟩ = false ∧ (Calls Try.prog 81 #[.slice A2 p.2.length d2, .int .i64 (wrap64 (wrap64 (k + 1) + 1) + ((p.1 * 2 : Nat) : Int))] W fun e w' => e = .returned (.int .i64 (wrap64 (wrap64 (k + 1) + 1) + ((p.1 * 2 : Nat) : Int) + (tabSize_ p.2 : Int))) ∧ Mk_ P W w') from fun W hW => by
          obtain ⟨c2, hb2, _, hc2⟩ := keep_cells hW hb1
          exact ⟨(blk_cell hb2 _).trans (hc2 _ _ _ _ hz2'), blk_frozen hb2 _, marks_tabs P A2 p.2.length d2 p.2 rfl (wrap64 (wrap64 (k + 1) + 1) + ((p.1 * 2 : Nat) : Int)) W (by have := HW2.out; omega) (by have := HW2.out; omega) ((i2.mk_ hm1).mk_ hW)⟩)
        have HM1 := aM_ (HM.out.then_ hm1)
        have HT := aM_ ht
        clear hb hz hP hk hz0 hz0' hz1 hs hl ht hle hm1 hb1 hc1 hz2' i1 i2 hz2 hp
        go_wp2_with (first | (go_at_call 80; refine HC1.out.mono ?_; rintro e w2 ⟨rfl, hm2⟩; obtain ⟨hx2, hf2, hc⟩ := HG.out w2 hm2; have HC2 := aM_ hc; have HM2 := aM_ hm2; clear hc hm2 HC1 HG) | (go_at_call 81; refine HC2.out.mono ?_; rintro e w3 ⟨rfl, hm3⟩; have HM3 := aM_ hm3; clear hm3 HC2))
        go_roundg (n - (i + 1))
        case measure => omega
        case rel => exact ⟨i + 1, wrap64 (wrap64 (k + 1) + 1) + ((p.1 * 2 : Nat) : Int) + (tabSize_ p.2 : Int), by omega, by omega, rfl, by go_num, ⟨by have := HK.out; have := HT.out; have := HW2.out; omega⟩, ⟨(HM1.out.then_ HM2.out).then_ HM3.out⟩⟩
    · have hltz : ¬ (i : Int) < (n : Int) := by omega
      have : i = n := by omega
      subst this
      rw [List.take_of_length_le (by omega)] at hk
      obtain rfl := hk
      clear hs hl
      go_wp2
      go_ret
      exact ⟨rfl, HM.out⟩
/-- A row of numbers, as the marks ask for it. -/
theorem int_row {P : Nat → Prop} {w : World} {e base : Nat} {ok : Nat → Prop} {A : Option Addr} {n c : Nat} {l : List Int} (h : Kd.R (Kd.int .i64) e w base ok (.slice A n c) l) (hP : ∀ k, ok k → P k) : IntRow_ P w A n := by
  by_cases hn : n = 0
  · exact .inl hn
  · obtain ⟨hl, _, _⟩ := Kd.R_reads' h
    obtain ⟨g, cap, he, _, _, cells, hb⟩ := Kd.R_form h (by omega)
    injection he with hA _ _
    subst hA
    refine .inr ⟨g, cells, e, rfl, hP g (h.1 g rfl), hb, fun j hj => ?_⟩
    obtain ⟨cs, hcl, hM, hcc, _⟩ := Kd.R_elem h 0 (j : Int) (by omega) (by omega)
    have hK := (Kd.int .i64).K_of_M hM
    obtain rfl : cs = [.int .i64 (l.getD j 0)] := hK
    have h2 := hcc 0 _ rfl
    rw [blk_cell hb] at h2
    exact ⟨_, (by simpa [Kd.int, Kd.scalar] using h2)⟩
theorem link_row {P : Nat → Prop} {w : World} {e base : Nat} {ok : Nat → Prop} {A : Option Addr} {n c : Nat} {l : List (S123)} (h : Kd.R k123 e w base ok (.slice A n c) l) (hP : ∀ k, ok k → P k) : IntRow_ P w A (n * 2) := by
  by_cases hn : n = 0
  · exact .inl (by omega)
  · obtain ⟨hl, _, _⟩ := Kd.R_reads' h
    obtain ⟨g, cap, he, _, _, cells, hb⟩ := Kd.R_form h (by omega)
    injection he with hA _ _
    subst hA
    refine .inr ⟨g, cells, e, rfl, hP g (h.1 g rfl), hb, fun j hj => ?_⟩
    obtain ⟨cs, hcl, hM, hcc, _⟩ := Kd.R_elem h z123 ((j / 2 : Nat) : Int) (by omega) (by omega)
    obtain rfl := k123_open (k123.K_of_M hM)
    have e1 : ((j / 2 : Nat) : Int).toNat * k123.sz = j / 2 * 2 := rfl
    rcases Nat.mod_two_eq_zero_or_one j with h0 | h0
    · have h2 := hcc 0 _ rfl
      rw [blk_cell hb, e1, show j / 2 * 2 + 0 = j by omega] at h2
      exact ⟨_, h2⟩
    · have h2 := hcc 1 _ rfl
      rw [blk_cell hb, e1, show j / 2 * 2 + 1 = j by omega] at h2
      exact ⟨_, h2⟩
def tabShape_ (l : List (S80)) : List (Nat × Nat) := l.map fun x => (x.f1.length, x.f2.length)
theorem tab_row {P : Nat → Prop} {w : World} {e base : Nat} {ok : Nat → Prop} {A : Option Addr} {n c : Nat} {l : List (S80)} (h : Kd.R k80 e w base ok (.slice A n c) l) (hP : ∀ k, ok k → P k) : TabRow_ P w A (tabShape_ l) := by
  obtain ⟨hl, _, _⟩ := Kd.R_reads' h
  by_cases hn : n = 0
  · exact .inl (by unfold tabShape_; rw [List.eq_nil_of_length_eq_zero (by omega : l.length = 0)]; rfl)
  · obtain ⟨g, cap, he, _, _, cells, hb⟩ := Kd.R_form h (by omega)
    injection he with hA _ _
    subst hA
    refine .inr ⟨g, cells, e, rfl, hP g (h.1 g rfl), hb, fun j p hj => ?_⟩
    unfold tabShape_ at hj
    rw [List.getElem?_map] at hj
    obtain ⟨x, hx, rfl⟩ := Option.map_eq_some_iff.1 hj
    have hjl : j < l.length := (List.getElem?_eq_some_iff.1 hx).1
    obtain ⟨cs, hcl, hM, hcc, _⟩ := Kd.R_elem h z80 (j : Int) (by omega) (by omega)
    rw [show l.getD ((j : Int)).toNat z80 = x by rw [Int.toNat_natCast, List.getD_eq_getElem?_getD, hx]; rfl] at hM
    obtain ⟨v1, v2, rfl, g1, g2⟩ := k80_openM hM
    obtain ⟨A1, c1, rfl⟩ := Kd.R_slice g1
    obtain ⟨A2, c2, rfl⟩ := Kd.R_slice g2
    have e1 : ((j : Nat) : Int).toNat * k80.sz = j * 3 := rfl
    have h0 := hcc 0 _ rfl
    have h1 := hcc 1 _ rfl
    have h2 := hcc 2 _ rfl
    rw [blk_cell hb, e1] at h0 h1 h2
    exact ⟨⟨_, h0⟩, ⟨A1, c1, h1, int_row g1 (fun k hk => hP k hk.1)⟩, ⟨A2, c2, h2, int_row g2 (fun k hk => hP k hk.1)⟩⟩
def pieShape_ (l : List (S103)) : List (Nat × List (Nat × Nat)) := l.map fun x => (x.f1.length, tabShape_ x.f2)
theorem pie_row {P : Nat → Prop} {w : World} {e base : Nat} {ok : Nat → Prop} {A : Option Addr} {n c : Nat} {l : List (S103)} (h : Kd.R k103 e w base ok (.slice A n c) l) (hP : ∀ k, ok k → P k) : PieRow_ P w A (pieShape_ l) := by
  obtain ⟨hl, _, _⟩ := Kd.R_reads' h
  by_cases hn : n = 0
  · exact .inl (by unfold pieShape_; rw [List.eq_nil_of_length_eq_zero (by omega : l.length = 0)]; rfl)
  · obtain ⟨g, cap, he, _, _, cells, hb⟩ := Kd.R_form h (by omega)
    injection he with hA _ _
    subst hA
    refine .inr ⟨g, cells, e, rfl, hP g (h.1 g rfl), hb, fun j p hj => ?_⟩
    unfold pieShape_ at hj
    rw [List.getElem?_map] at hj
    obtain ⟨x, hx, rfl⟩ := Option.map_eq_some_iff.1 hj
    have hjl : j < l.length := (List.getElem?_eq_some_iff.1 hx).1
    obtain ⟨cs, hcl, hM, hcc, _⟩ := Kd.R_elem h z103 (j : Int) (by omega) (by omega)
    rw [show l.getD ((j : Int)).toNat z103 = x by rw [Int.toNat_natCast, List.getD_eq_getElem?_getD, hx]; rfl] at hM
    obtain ⟨v1, v2, rfl, g1, g2⟩ := k103_openM hM
    obtain ⟨A1, c1, rfl⟩ := Kd.R_slice g1
    obtain ⟨A2, c2, rfl⟩ := Kd.R_slice g2
    have e1 : ((j : Nat) : Int).toNat * k103.sz = j * 4 := rfl
    have h0 := hcc 0 _ rfl
    have h1 := hcc 1 _ rfl
    have h2 := hcc 2 _ rfl
    have h3 := hcc 3 _ rfl
    rw [blk_cell hb, e1] at h0 h1 h2 h3
    refine ⟨⟨_, h0⟩, ⟨_, h1⟩, ⟨A1, c1, h2, link_row g1 (fun k hk => hP k hk.1)⟩, ⟨A2, c2, ?_, tab_row g2 (fun k hk => hP k hk.1)⟩⟩
    rw [show (tabShape_ x.f2).length = x.f2.length from List.length_map _]
    exact h3
theorem Mk_.alloc {P : Nat → Prop} {w W : World} (h : Mk_ P w W) (o : Obj) : Mk_ P w (W.alloc o) := by
  have hb := wA_ (Below.refl W.heap.size W) o
  exact h.then_ ⟨⟨hb.os, hb.tape, hb.output, hb.size, fun k hk => absurd hk (Nat.not_lt_zero k)⟩, fun b hlt _ => hb.block b hlt, fun b cells t hc => ⟨cells, (hb.block b (blk_lt hc)).trans hc, fun _ u hu => ⟨u, hu, .inl rfl⟩⟩⟩
def laws_markProgram.f (a0_0 : Int) (a0_1 : Int) (a0_2 : Int) (l0_3 : List (S103)) (a1 : Int) : Option (Int) := if 0 ≤ a1 ∧ a1 + (pieSize_ (pieShape_ l0_3) : Int) ≤ 4000000000 then some (a1 + (pieSize_ (pieShape_ l0_3) : Int)) else none
set_option maxHeartbeats 2000000 in
set_option maxRecDepth 100000 in
theorem laws_markProgram.calls (a0_0 : Int) (a0_1 : Int) (a0_2 : Int) (P0_ : Nat → Prop) (u9000_ : Value) (l0_3 : List (S103)) (a1 : Int) (r1 : Int) (w0 w : World) (hB : Below w0.heap.size w0 w) (ho0 : Kd.R k103 103 w w0.heap.size P0_ u9000_ l0_3) (h : laws_markProgram.f a0_0 a0_1 a0_2 l0_3 a1 = some r1) :
    Calls Try.prog 22 #[.agg #[.int .i64 a0_0, .int .i64 a0_1, .int .i64 a0_2, u9000_], .int .i64 a1] w fun e w' => e = .returned (.int .i64 r1) ∧ Below w0.heap.size w0 w' ∧ Kept w w' (fun k_ => P0_ k_) := by
  unfold laws_markProgram.f at h
  split at h
  · rename_i hs
    obtain rfl := Option.some.inj h
    obtain ⟨A, c, rfl⟩ := Kd.R_slice ho0
    have HP := aM_ (pie_row (P := fun k => P0_ k ∧ w0.heap.size ≤ k) (Kd.R_bound ho0) (fun k hk => ⟨hk.1, hk.2.1⟩))
    have HS := aM_ hs
    have HB := aM_ hB
    have HL := aM_ (show (pieShape_ l0_3).length = l0_3.length from List.length_map _)
    clear h hs ho0 hB
    generalize pieShape_ l0_3 = ns at HP HS HL
    generalize l0_3.length = n at HL
    go_enter Try.func22, Try.ntmps22
    go_wp2_with (go_at_call 58; refine (marks_pieces (fun k => P0_ k ∧ w0.heap.size ≤ k) A n c ns HL.out a1 _ HS.out.1 HS.out.2 (HP.out.mk_ (by repeat (first | exact Mk_.refl _ _ | apply Mk_.alloc | apply Mk_.drewN)))).mono ?_; rintro e w2 ⟨rfl, hm⟩)
    go_ret
    have hw : Mk_ (fun k => P0_ k ∧ w0.heap.size ≤ k) w w2 := Mk_.then_ (by repeat (first | exact Mk_.refl _ _ | apply Mk_.alloc | apply Mk_.drewN)) hm
    exact ⟨rfl, HB.out.trans ⟨hw.1.os, hw.1.tape, hw.1.output, hw.1.size, fun b hb => hw.2.1 b (Nat.lt_of_lt_of_le hb HB.out.size) (fun h => Nat.lt_irrefl _ (Nat.lt_of_lt_of_le hb h.2))⟩, hw.1.size, fun b hb hn => hw.2.1 b hb (fun h => hn h.1)⟩
  · cases h

/-! ### laws_markFlowS: function 23 -/
def laws_markFlowS.l0 : Nat → List (S42) → Int → Int → Option (Int × (List (S42)))
  | 0, _, _, _ => none
  | k + 1, x0, x1, x5 => if x5 < (x0.length : Int) then (if 0 ≤ x5 then ((some (x0.set (x5 : Int).toNat (⟨x1, (rd_T42 x0 x5).f1, (rd_T42 x0 x5).f2, (rd_T42 x0 x5).f3⟩ : S42) : List (S42))).bind fun y410 => ((some (y410.set (x5 : Int).toNat (⟨(rd_T42 y410 x5).f0, wrap64 (x1 + 1), (rd_T42 y410 x5).f2, (rd_T42 y410 x5).f3⟩ : S42) : List (S42))).bind fun y411 => ((some (y411.set (x5 : Int).toNat (⟨(rd_T42 y411 x5).f0, (rd_T42 y411 x5).f1, wrap64 ((wrap64 (x1 + 1)) + 1), (rd_T42 y411 x5).f3⟩ : S42) : List (S42))).bind fun y412 => (laws_markFlowS.l0 k (y412.set (x5 : Int).toNat (⟨(rd_T42 y412 x5).f0, (rd_T42 y412 x5).f1, (rd_T42 y412 x5).f2, wrap64 ((wrap64 ((wrap64 (x1 + 1)) + 1)) + 1)⟩ : S42)) (wrap64 ((wrap64 ((wrap64 ((wrap64 (x1 + 1)) + 1)) + 1)) + 1)) (wrap64 (x5 + 1)))))) else (none)) else (some (x1, x0))
def laws_markFlowS.f (k : Nat) (l0 : List (S42)) (a1 : Int) : Option (Int × (List (S42))) := laws_markFlowS.l0 k l0 a1 0
set_option maxHeartbeats 8000000 in
set_option maxRecDepth 100000 in
theorem laws_markFlowS.calls (k : Nat) (P0_ : Nat → Prop) (u9000_ : Value) (l0 : List (S42)) (a1 : Int) (r1 : Int) (r2 : List (S42)) (w0 w : World) (hB : Below w0.heap.size w0 w) (ho0 : Kd.R k42 42 w w0.heap.size P0_ u9000_ l0) (h : laws_markFlowS.f k l0 a1 = some (r1, r2)) :
  Calls Try.prog 23 #[u9000_, .int .i64 a1] w fun e w' => e = .returned (.int .i64 r1) ∧ Kd.R k42 42 w' w0.heap.size (fun k_ => (P0_ k_ ∨ w.heap.size ≤ k_)) u9000_ r2 ∧ Below w0.heap.size w0 w' ∧ Kept w w' (fun k_ => P0_ k_) := by
 have HO0 := aM_ (show Kd.R k42 42 w w0.heap.size (fun k_ => (P0_ k_ ∨ w.heap.size ≤ k_)) u9000_ l0 from Kd.R_mono ho0 (fun k_ hk => (.inl hk))); have HK := aM_ (Kept.refl w (fun k_ => P0_ k_)); have HW0 := aM_ hB.size; have HB := aM_ hB; clear hB
 have H : (laws_markFlowS.l0 k l0 a1 0) = some (r1, r2) := h
 clear h
 have H' := aM_ H
 clear H
 go_enter Try.func23, Try.ntmps23
 go_wp2
 go_loopg [1, 5] k (fun kq v1 v5 w' => ∃ (x0_1 : List (S42)) (x1_1 : Int) (x5_1 : Int), v1 = .int .i64 x1_1 ∧ v5 = .int .i64 x5_1 ∧ Aside0 (laws_markFlowS.l0 kq x0_1 x1_1 x5_1 = some (r1, r2)) ∧ Aside0 (kq ≤ k) ∧ Aside0 (Kd.R k42 42 w' w0.heap.size (fun k_ => (P0_ k_ ∨ w.heap.size ≤ k_)) u9000_ x0_1) ∧ Aside0 (Kept w w' (fun k_ => P0_ k_)) ∧ Aside0 (Below w0.heap.size w0 w'))
 case atStart => exact ⟨(l0), (a1), (0), (by first | rfl | (simp; done) | (simp [*]; done)), (by first | rfl | (simp; done) | (simp [*]; done)), H', ⟨Nat.le_refl _⟩, ⟨by (with_reducible repeat (first | apply rA_ | apply rN_ | apply rD_)); exact HO0.out⟩, ⟨by repeat (first | (with_reducible first | exact HK.out | apply Kept.alloc | apply Kept.drewN | apply Kept.drew) | exact HK.out)⟩, ⟨bw_⟩⟩
 case round =>
  clear H'
  try clear c2
  try clear p2
  obtain ⟨x0_1, x1_1, x5_1, rfl, rfl, HA, HK1, HO_0, HK, HB⟩ := hrel
  cases gk with
  | zero => exact absurd HA.out (by simp [laws_markFlowS.l0])
  | succ k1 =>
   have H := HA.out; clear HA
   simp only [laws_markFlowS.l0] at H
   by_cases c3 : x5_1 < (x0_1.length : Int)
   ·rw [if_pos c3] at H
    have c3b0 : decide (x5_1 < (x0_1.length : Int)) = true := decide_eq_true c3
    clear c3
    by_cases c4 : 0 ≤ x5_1
    ·rw [if_pos c4] at H
     have c4b0 : decide (0 ≤ x5_1) = true := decide_eq_true c4
     clear c4
     obtain ⟨y410, hy410⟩ : ∃ y_ : List (S42), y_ = (x0_1.set (x5_1 : Int).toNat (⟨x1_1, (rd_T42 x0_1 x5_1).f1, (rd_T42 x0_1 x5_1).f2, (rd_T42 x0_1 x5_1).f3⟩ : S42)) := ⟨_, rfl⟩
     replace H : ((some (y410.set (x5_1 : Int).toNat (⟨(rd_T42 y410 x5_1).f0, wrap64 (x1_1 + 1), (rd_T42 y410 x5_1).f2, (rd_T42 y410 x5_1).f3⟩ : S42) : List (S42))).bind fun y411 => ((some (y411.set (x5_1 : Int).toNat (⟨(rd_T42 y411 x5_1).f0, (rd_T42 y411 x5_1).f1, wrap64 ((wrap64 (x1_1 + 1)) + 1), (rd_T42 y411 x5_1).f3⟩ : S42) : List (S42))).bind fun y412 => (laws_markFlowS.l0 k1 (y412.set (x5_1 : Int).toNat (⟨(rd_T42 y412 x5_1).f0, (rd_T42 y412 x5_1).f1, (rd_T42 y412 x5_1).f2, wrap64 ((wrap64 ((wrap64 (x1_1 + 1)) + 1)) + 1)⟩ : S42)) (wrap64 ((wrap64 ((wrap64 ((wrap64 (x1_1 + 1)) + 1)) + 1)) + 1)) (wrap64 (x5_1 + 1))))) = some (r1, r2) := by first | (rw [hy410]; with_reducible exact H) | (have H2_ := (Option.bind_some _ _).symm.trans H; rw [hy410]; with_reducible exact H2_) | (have H2_ := (Option.bind_some _ _).symm.trans H; with_reducible exact H2_) | with_reducible exact H | (rw [hy410]; exact H) | exact H
     have Ny410 := aM_ hy410; clear hy410
     obtain ⟨y411, hy411⟩ : ∃ y_ : List (S42), y_ = (y410.set (x5_1 : Int).toNat (⟨(rd_T42 y410 x5_1).f0, wrap64 (x1_1 + 1), (rd_T42 y410 x5_1).f2, (rd_T42 y410 x5_1).f3⟩ : S42)) := ⟨_, rfl⟩
     replace H : ((some (y411.set (x5_1 : Int).toNat (⟨(rd_T42 y411 x5_1).f0, (rd_T42 y411 x5_1).f1, wrap64 ((wrap64 (x1_1 + 1)) + 1), (rd_T42 y411 x5_1).f3⟩ : S42) : List (S42))).bind fun y412 => (laws_markFlowS.l0 k1 (y412.set (x5_1 : Int).toNat (⟨(rd_T42 y412 x5_1).f0, (rd_T42 y412 x5_1).f1, (rd_T42 y412 x5_1).f2, wrap64 ((wrap64 ((wrap64 (x1_1 + 1)) + 1)) + 1)⟩ : S42)) (wrap64 ((wrap64 ((wrap64 ((wrap64 (x1_1 + 1)) + 1)) + 1)) + 1)) (wrap64 (x5_1 + 1)))) = some (r1, r2) := by first | (rw [hy411]; with_reducible exact H) | (have H2_ := (Option.bind_some _ _).symm.trans H; rw [hy411]; with_reducible exact H2_) | (have H2_ := (Option.bind_some _ _).symm.trans H; with_reducible exact H2_) | with_reducible exact H | (rw [hy411]; exact H) | exact H
     have Ny411 := aM_ hy411; clear hy411
     obtain ⟨y412, hy412⟩ : ∃ y_ : List (S42), y_ = (y411.set (x5_1 : Int).toNat (⟨(rd_T42 y411 x5_1).f0, (rd_T42 y411 x5_1).f1, wrap64 ((wrap64 (x1_1 + 1)) + 1), (rd_T42 y411 x5_1).f3⟩ : S42)) := ⟨_, rfl⟩
     replace H : (laws_markFlowS.l0 k1 (y412.set (x5_1 : Int).toNat (⟨(rd_T42 y412 x5_1).f0, (rd_T42 y412 x5_1).f1, (rd_T42 y412 x5_1).f2, wrap64 ((wrap64 ((wrap64 (x1_1 + 1)) + 1)) + 1)⟩ : S42)) (wrap64 ((wrap64 ((wrap64 ((wrap64 (x1_1 + 1)) + 1)) + 1)) + 1)) (wrap64 (x5_1 + 1))) = some (r1, r2) := by first | (rw [hy412]; with_reducible exact H) | (have H2_ := (Option.bind_some _ _).symm.trans H; rw [hy412]; with_reducible exact H2_) | (have H2_ := (Option.bind_some _ _).symm.trans H; with_reducible exact H2_) | with_reducible exact H | (rw [hy412]; exact H) | exact H
     have Ny412 := aM_ hy412; clear hy412
     obtain ⟨y413, hy413⟩ : ∃ y_ : List (S42), y_ = (y412.set (x5_1 : Int).toNat (⟨(rd_T42 y412 x5_1).f0, (rd_T42 y412 x5_1).f1, (rd_T42 y412 x5_1).f2, wrap64 ((wrap64 ((wrap64 (x1_1 + 1)) + 1)) + 1)⟩ : S42)) := ⟨_, rfl⟩
     replace H : (laws_markFlowS.l0 k1 y413 (wrap64 ((wrap64 ((wrap64 ((wrap64 (x1_1 + 1)) + 1)) + 1)) + 1)) (wrap64 (x5_1 + 1))) = some (r1, r2) := by first | (rw [hy413]; with_reducible exact H) | (have H2_ := (Option.bind_some _ _).symm.trans H; rw [hy413]; with_reducible exact H2_) | (have H2_ := (Option.bind_some _ _).symm.trans H; with_reducible exact H2_) | with_reducible exact H | (rw [hy413]; exact H) | exact H
     have Ny413 := aM_ hy413; clear hy413
     have H' := aM_ H
     clear H
     obtain ⟨Ao9, co9, eo9⟩ := Kd.R_slice HO_0.out
     subst eo9
     have p5 : 0 ≤ (x5_1 : Int) := dT_
     have q5 : (x5_1 : Int) < ((x0_1.length : Int) : Int) := dT_
     obtain ⟨go5, co5, eo5, gb5, gl5, cl5, HG5⟩ := Kd.R_form HO_0.out (by omega)
     (first | cases eo5 | (injection eo5 with ea_ en_ ec_; (first | subst ea_ | (injection ea_ with ea_; subst ea_)); subst ec_; clear en_))
     have GB5 := aM_ gb5; have GG5 := aM_ HG5; clear gb5 gl5 HG5; have HMgo5 := aM_ (show (P0_ go5 ∨ w.heap.size ≤ go5) from (HO_0.out.1 _ rfl))
     obtain ⟨ce5, hcl5, hM5, hcc5, hfr5⟩ := Kd.R_elem HO_0.out z42 (x5_1 : Int) p5 q5
     obtain rfl := k42_openM hM5
     have hx5_0 : wr.cell? ⟨go5, (x5_1 : Int).toNat * 4, none⟩ = some (.int .i64 ((rd_T42 x0_1 x5_1).f0)) := hcc5 0 _ rfl
     have hx5_1 : wr.cell? ⟨go5, (x5_1 : Int).toNat * 4 + 1, none⟩ = some (.int .i64 ((rd_T42 x0_1 x5_1).f1)) := hcc5 1 _ rfl
     have hx5_2 : wr.cell? ⟨go5, (x5_1 : Int).toNat * 4 + 2, none⟩ = some (.int .i64 ((rd_T42 x0_1 x5_1).f2)) := hcc5 2 _ rfl
     have hx5_3 : wr.cell? ⟨go5, (x5_1 : Int).toNat * 4 + 3, none⟩ = some (.int .i64 ((rd_T42 x0_1 x5_1).f3)) := hcc5 3 _ rfl
     have hf5_0 : wr.frozen? ⟨go5, (x5_1 : Int).toNat * 4, none⟩ = false := hfr5 0
     have hf5_1 : wr.frozen? ⟨go5, (x5_1 : Int).toNat * 4 + 1, none⟩ = false := hfr5 1
     have hf5_2 : wr.frozen? ⟨go5, (x5_1 : Int).toNat * 4 + 2, none⟩ = false := hfr5 2
     have hf5_3 : wr.frozen? ⟨go5, (x5_1 : Int).toNat * 4 + 3, none⟩ = false := hfr5 3
     clear hcl5 hcc5 hfr5 hM5; replace p5 := eq_true p5; replace q5 := eq_true q5; have HX10 := aM_ (show Kd.R k42 42 wr w0.heap.size (fun k_ => (P0_ k_ ∨ w.heap.size ≤ k_)) (.slice (some ⟨go5, 0, none⟩) x0_1.length co9) x0_1 from (rb_ HO_0.out))
     obtain ⟨ce10, hcl10, hM10, hcc10, hfr10⟩ := Kd.R_elem HX10.out z42 (x5_1 : Int) (dT_) (by have h_ : (x5_1 : Int) < ((x0_1.length : Int) : Int) := dT_; first | exact h_ | (have e_ := (Kd.R_reads' HO_0.out).1; omega) | simpa using h_)
     obtain rfl := k42_openM hM10
     have HP10 := Kd.R_seg HX10.out (x5_1 : Int) (dT_) (by have h_ : (x5_1 : Int) < ((x0_1.length : Int) : Int) := dT_; first | exact h_ | (have e_ := (Kd.R_reads' HO_0.out).1; omega) | simpa using h_) (seg := [.int .i64 x1_1]) (j := 0) hcl10 hcc10 (show 1 ≤ 4 from by decide) (x' := (⟨x1_1, (rd_T42 x0_1 x5_1).f1, (rd_T42 x0_1 x5_1).f2, (rd_T42 x0_1 x5_1).f3⟩ : S42)) (k42_mkM _ _ _ (⟨x1_1, (rd_T42 x0_1 x5_1).f1, (rd_T42 x0_1 x5_1).f2, (rd_T42 x0_1 x5_1).f3⟩ : S42) ) (fun _ hk => hk)
     have hx10_0 := hcc10 0 _ rfl
     (try simp only [show (k42).sz = 4 from rfl, Nat.mul_one, Nat.add_zero] at hx10_0)
     have hf10_0 := hfr10 0
     (try simp only [show (k42).sz = 4 from rfl, Nat.mul_one, Nat.add_zero] at hf10_0)
     clear hcl10 hcc10 hfr10 hM10
     go_wp2_with (first | ((with_reducible refine gate_store (t := 3) (p := 16) rfl ?_); refine store_event (t := 3) (p := 16) (v := ?vo_w11) (w1 := (wr.setCell ⟨go5, (x5_1 : Int).toNat * 4, none⟩ (.int .i64 x1_1))) ?hg ?ho ?hn ?hr ?_; (case ho => rfl); (case hg => rfl); (case hn => rfl); (case hr => first | (go_simp; done) | (go_simp; rfl)); intro w11 hw; have hg : wr.grownBy w11 (some go5) := (by rw [hw]; exact HP10.2); have hp_ : Kd.R k42 42 w11 w0.heap.size (fun k_ => (P0_ k_ ∨ w.heap.size ≤ k_)) (.slice (some ⟨go5, 0, none⟩) x0_1.length co9) y410 := (by rw [hw, Ny410.out]; exact HP10.1); clear HP10; have n0_ := aM_ (hp_); have n1_ := aM_ ((by rw [hw]; exact wE_ (HB.out) GB5.out : Below w0.heap.size w0 w11)); have n2_ := aM_ (Kept.of_grown (S := (fun k_ => P0_ k_)) hg (by repeat (first | (with_reducible first | exact HK.out | apply Kept.alloc | apply Kept.drewN | apply Kept.drew) | exact HK.out)) (fun k_ e_ => (HO_0.out.1 k_ e_))); clear HO_0; clear HB; clear HK; have HO_0 := n0_; have HB := n1_; have HK := n2_; clear n0_ n1_ n2_; clear hg hw hp_; have p6 : 0 ≤ (x5_1 : Int) := dT_; have q6 : (x5_1 : Int) < ((x0_1.length : Int) : Int) := dT_; obtain ⟨ce6, hcl6, hM6, hcc6, hfr6⟩ := Kd.R_elem HO_0.out z42 (x5_1 : Int) p6 q6; obtain rfl := k42_openM hM6; have hx6_0 : w11.cell? ⟨go5, (x5_1 : Int).toNat * 4, none⟩ = some (.int .i64 ((rd_T42 y410 x5_1).f0)) := hcc6 0 _ rfl; have hx6_1 : w11.cell? ⟨go5, (x5_1 : Int).toNat * 4 + 1, none⟩ = some (.int .i64 ((rd_T42 y410 x5_1).f1)) := hcc6 1 _ rfl; have hx6_2 : w11.cell? ⟨go5, (x5_1 : Int).toNat * 4 + 2, none⟩ = some (.int .i64 ((rd_T42 y410 x5_1).f2)) := hcc6 2 _ rfl; have hx6_3 : w11.cell? ⟨go5, (x5_1 : Int).toNat * 4 + 3, none⟩ = some (.int .i64 ((rd_T42 y410 x5_1).f3)) := hcc6 3 _ rfl; have hf6_0 : w11.frozen? ⟨go5, (x5_1 : Int).toNat * 4, none⟩ = false := hfr6 0; have hf6_1 : w11.frozen? ⟨go5, (x5_1 : Int).toNat * 4 + 1, none⟩ = false := hfr6 1; have hf6_2 : w11.frozen? ⟨go5, (x5_1 : Int).toNat * 4 + 2, none⟩ = false := hfr6 2; have hf6_3 : w11.frozen? ⟨go5, (x5_1 : Int).toNat * 4 + 3, none⟩ = false := hfr6 3; clear hcl6 hcc6 hfr6 hM6; replace p6 := eq_true p6; replace q6 := eq_true q6; have HX12 := aM_ (show Kd.R k42 42 w11 w0.heap.size (fun k_ => (P0_ k_ ∨ w.heap.size ≤ k_)) (.slice (some ⟨go5, 0, none⟩) x0_1.length co9) y410 from (rb_ HO_0.out)); obtain ⟨ce12, hcl12, hM12, hcc12, hfr12⟩ := Kd.R_elem HX12.out z42 (x5_1 : Int) (dT_) (by have h_ : (x5_1 : Int) < ((x0_1.length : Int) : Int) := dT_; first | exact h_ | (have e_ := (Kd.R_reads' HO_0.out).1; omega) | simpa using h_); obtain rfl := k42_openM hM12; have HP12 := Kd.R_seg HX12.out (x5_1 : Int) (dT_) (by have h_ : (x5_1 : Int) < ((x0_1.length : Int) : Int) := dT_; first | exact h_ | (have e_ := (Kd.R_reads' HO_0.out).1; omega) | simpa using h_) (seg := [.int .i64 (wrap64 (x1_1 + 1))]) (j := 1) hcl12 hcc12 (show 2 ≤ 4 from by decide) (x' := (⟨(rd_T42 y410 x5_1).f0, wrap64 (x1_1 + 1), (rd_T42 y410 x5_1).f2, (rd_T42 y410 x5_1).f3⟩ : S42)) (k42_mkM _ _ _ (⟨(rd_T42 y410 x5_1).f0, wrap64 (x1_1 + 1), (rd_T42 y410 x5_1).f2, (rd_T42 y410 x5_1).f3⟩ : S42) ) (fun _ hk => hk); have hx12_1 := hcc12 1 _ rfl; (try simp only [show (k42).sz = 4 from rfl, Nat.mul_one, Nat.add_zero] at hx12_1); have hf12_1 := hfr12 1; (try simp only [show (k42).sz = 4 from rfl, Nat.mul_one, Nat.add_zero] at hf12_1); clear hcl12 hcc12 hfr12 hM12) | ((with_reducible refine gate_store (t := 3) (p := 23) rfl ?_); refine store_event (t := 3) (p := 23) (v := ?vo_w13) (w1 := (w11.setCell ⟨go5, (x5_1 : Int).toNat * 4 + 1, none⟩ (.int .i64 (wrap64 (x1_1 + 1))))) ?hg ?ho ?hn ?hr ?_; (case ho => rfl); (case hg => rfl); (case hn => rfl); (case hr => first | (go_simp; done) | (go_simp; rfl)); intro w13 hw; have hg : w11.grownBy w13 (some go5) := (by rw [hw]; exact HP12.2); have hp_ : Kd.R k42 42 w13 w0.heap.size (fun k_ => (P0_ k_ ∨ w.heap.size ≤ k_)) (.slice (some ⟨go5, 0, none⟩) x0_1.length co9) y411 := (by rw [hw, Ny411.out]; exact HP12.1); clear HP12; have n0_ := aM_ (hp_); have n1_ := aM_ ((by rw [hw]; exact wE_ (HB.out) GB5.out : Below w0.heap.size w0 w13)); have n2_ := aM_ (Kept.of_grown (S := (fun k_ => P0_ k_)) hg (by repeat (first | (with_reducible first | exact HK.out | apply Kept.alloc | apply Kept.drewN | apply Kept.drew) | exact HK.out)) (fun k_ e_ => (HO_0.out.1 k_ e_))); clear HO_0; clear HB; clear HK; have HO_0 := n0_; have HB := n1_; have HK := n2_; clear n0_ n1_ n2_; clear hg hw hp_; have p7 : 0 ≤ (x5_1 : Int) := dT_; have q7 : (x5_1 : Int) < ((x0_1.length : Int) : Int) := dT_; obtain ⟨ce7, hcl7, hM7, hcc7, hfr7⟩ := Kd.R_elem HO_0.out z42 (x5_1 : Int) p7 q7; obtain rfl := k42_openM hM7; have hx7_0 : w13.cell? ⟨go5, (x5_1 : Int).toNat * 4, none⟩ = some (.int .i64 ((rd_T42 y411 x5_1).f0)) := hcc7 0 _ rfl; have hx7_1 : w13.cell? ⟨go5, (x5_1 : Int).toNat * 4 + 1, none⟩ = some (.int .i64 ((rd_T42 y411 x5_1).f1)) := hcc7 1 _ rfl; have hx7_2 : w13.cell? ⟨go5, (x5_1 : Int).toNat * 4 + 2, none⟩ = some (.int .i64 ((rd_T42 y411 x5_1).f2)) := hcc7 2 _ rfl; have hx7_3 : w13.cell? ⟨go5, (x5_1 : Int).toNat * 4 + 3, none⟩ = some (.int .i64 ((rd_T42 y411 x5_1).f3)) := hcc7 3 _ rfl; have hf7_0 : w13.frozen? ⟨go5, (x5_1 : Int).toNat * 4, none⟩ = false := hfr7 0; have hf7_1 : w13.frozen? ⟨go5, (x5_1 : Int).toNat * 4 + 1, none⟩ = false := hfr7 1; have hf7_2 : w13.frozen? ⟨go5, (x5_1 : Int).toNat * 4 + 2, none⟩ = false := hfr7 2; have hf7_3 : w13.frozen? ⟨go5, (x5_1 : Int).toNat * 4 + 3, none⟩ = false := hfr7 3; clear hcl7 hcc7 hfr7 hM7; replace p7 := eq_true p7; replace q7 := eq_true q7; have HX14 := aM_ (show Kd.R k42 42 w13 w0.heap.size (fun k_ => (P0_ k_ ∨ w.heap.size ≤ k_)) (.slice (some ⟨go5, 0, none⟩) x0_1.length co9) y411 from (rb_ HO_0.out)); obtain ⟨ce14, hcl14, hM14, hcc14, hfr14⟩ := Kd.R_elem HX14.out z42 (x5_1 : Int) (dT_) (by have h_ : (x5_1 : Int) < ((x0_1.length : Int) : Int) := dT_; first | exact h_ | (have e_ := (Kd.R_reads' HO_0.out).1; omega) | simpa using h_); obtain rfl := k42_openM hM14; have HP14 := Kd.R_seg HX14.out (x5_1 : Int) (dT_) (by have h_ : (x5_1 : Int) < ((x0_1.length : Int) : Int) := dT_; first | exact h_ | (have e_ := (Kd.R_reads' HO_0.out).1; omega) | simpa using h_) (seg := [.int .i64 (wrap64 ((wrap64 (x1_1 + 1)) + 1))]) (j := 2) hcl14 hcc14 (show 3 ≤ 4 from by decide) (x' := (⟨(rd_T42 y411 x5_1).f0, (rd_T42 y411 x5_1).f1, wrap64 ((wrap64 (x1_1 + 1)) + 1), (rd_T42 y411 x5_1).f3⟩ : S42)) (k42_mkM _ _ _ (⟨(rd_T42 y411 x5_1).f0, (rd_T42 y411 x5_1).f1, wrap64 ((wrap64 (x1_1 + 1)) + 1), (rd_T42 y411 x5_1).f3⟩ : S42) ) (fun _ hk => hk); have hx14_2 := hcc14 2 _ rfl; (try simp only [show (k42).sz = 4 from rfl, Nat.mul_one, Nat.add_zero] at hx14_2); have hf14_2 := hfr14 2; (try simp only [show (k42).sz = 4 from rfl, Nat.mul_one, Nat.add_zero] at hf14_2); clear hcl14 hcc14 hfr14 hM14) | ((with_reducible refine gate_store (t := 3) (p := 30) rfl ?_); refine store_event (t := 3) (p := 30) (v := ?vo_w15) (w1 := (w13.setCell ⟨go5, (x5_1 : Int).toNat * 4 + 2, none⟩ (.int .i64 (wrap64 ((wrap64 (x1_1 + 1)) + 1))))) ?hg ?ho ?hn ?hr ?_; (case ho => rfl); (case hg => rfl); (case hn => rfl); (case hr => first | (go_simp; done) | (go_simp; rfl)); intro w15 hw; have hg : w13.grownBy w15 (some go5) := (by rw [hw]; exact HP14.2); have hp_ : Kd.R k42 42 w15 w0.heap.size (fun k_ => (P0_ k_ ∨ w.heap.size ≤ k_)) (.slice (some ⟨go5, 0, none⟩) x0_1.length co9) y412 := (by rw [hw, Ny412.out]; exact HP14.1); clear HP14; have n0_ := aM_ (hp_); have n1_ := aM_ ((by rw [hw]; exact wE_ (HB.out) GB5.out : Below w0.heap.size w0 w15)); have n2_ := aM_ (Kept.of_grown (S := (fun k_ => P0_ k_)) hg (by repeat (first | (with_reducible first | exact HK.out | apply Kept.alloc | apply Kept.drewN | apply Kept.drew) | exact HK.out)) (fun k_ e_ => (HO_0.out.1 k_ e_))); clear HO_0; clear HB; clear HK; have HO_0 := n0_; have HB := n1_; have HK := n2_; clear n0_ n1_ n2_; clear hg hw hp_; have p8 : 0 ≤ (x5_1 : Int) := dT_; have q8 : (x5_1 : Int) < ((x0_1.length : Int) : Int) := dT_; obtain ⟨ce8, hcl8, hM8, hcc8, hfr8⟩ := Kd.R_elem HO_0.out z42 (x5_1 : Int) p8 q8; obtain rfl := k42_openM hM8; have hx8_0 : w15.cell? ⟨go5, (x5_1 : Int).toNat * 4, none⟩ = some (.int .i64 ((rd_T42 y412 x5_1).f0)) := hcc8 0 _ rfl; have hx8_1 : w15.cell? ⟨go5, (x5_1 : Int).toNat * 4 + 1, none⟩ = some (.int .i64 ((rd_T42 y412 x5_1).f1)) := hcc8 1 _ rfl; have hx8_2 : w15.cell? ⟨go5, (x5_1 : Int).toNat * 4 + 2, none⟩ = some (.int .i64 ((rd_T42 y412 x5_1).f2)) := hcc8 2 _ rfl; have hx8_3 : w15.cell? ⟨go5, (x5_1 : Int).toNat * 4 + 3, none⟩ = some (.int .i64 ((rd_T42 y412 x5_1).f3)) := hcc8 3 _ rfl; have hf8_0 : w15.frozen? ⟨go5, (x5_1 : Int).toNat * 4, none⟩ = false := hfr8 0; have hf8_1 : w15.frozen? ⟨go5, (x5_1 : Int).toNat * 4 + 1, none⟩ = false := hfr8 1; have hf8_2 : w15.frozen? ⟨go5, (x5_1 : Int).toNat * 4 + 2, none⟩ = false := hfr8 2; have hf8_3 : w15.frozen? ⟨go5, (x5_1 : Int).toNat * 4 + 3, none⟩ = false := hfr8 3; clear hcl8 hcc8 hfr8 hM8; replace p8 := eq_true p8; replace q8 := eq_true q8; have HX16 := aM_ (show Kd.R k42 42 w15 w0.heap.size (fun k_ => (P0_ k_ ∨ w.heap.size ≤ k_)) (.slice (some ⟨go5, 0, none⟩) x0_1.length co9) y412 from (rb_ HO_0.out)); obtain ⟨ce16, hcl16, hM16, hcc16, hfr16⟩ := Kd.R_elem HX16.out z42 (x5_1 : Int) (dT_) (by have h_ : (x5_1 : Int) < ((x0_1.length : Int) : Int) := dT_; first | exact h_ | (have e_ := (Kd.R_reads' HO_0.out).1; omega) | simpa using h_); obtain rfl := k42_openM hM16; have HP16 := Kd.R_seg HX16.out (x5_1 : Int) (dT_) (by have h_ : (x5_1 : Int) < ((x0_1.length : Int) : Int) := dT_; first | exact h_ | (have e_ := (Kd.R_reads' HO_0.out).1; omega) | simpa using h_) (seg := [.int .i64 (wrap64 ((wrap64 ((wrap64 (x1_1 + 1)) + 1)) + 1))]) (j := 3) hcl16 hcc16 (show 4 ≤ 4 from by decide) (x' := (⟨(rd_T42 y412 x5_1).f0, (rd_T42 y412 x5_1).f1, (rd_T42 y412 x5_1).f2, wrap64 ((wrap64 ((wrap64 (x1_1 + 1)) + 1)) + 1)⟩ : S42)) (k42_mkM _ _ _ (⟨(rd_T42 y412 x5_1).f0, (rd_T42 y412 x5_1).f1, (rd_T42 y412 x5_1).f2, wrap64 ((wrap64 ((wrap64 (x1_1 + 1)) + 1)) + 1)⟩ : S42) ) (fun _ hk => hk); have hx16_3 := hcc16 3 _ rfl; (try simp only [show (k42).sz = 4 from rfl, Nat.mul_one, Nat.add_zero] at hx16_3); have hf16_3 := hfr16 3; (try simp only [show (k42).sz = 4 from rfl, Nat.mul_one, Nat.add_zero] at hf16_3); clear hcl16 hcc16 hfr16 hM16) | ((with_reducible refine gate_store (t := 3) (p := 37) rfl ?_); refine store_event (t := 3) (p := 37) (v := ?vo_w17) (w1 := (w15.setCell ⟨go5, (x5_1 : Int).toNat * 4 + 3, none⟩ (.int .i64 (wrap64 ((wrap64 ((wrap64 (x1_1 + 1)) + 1)) + 1))))) ?hg ?ho ?hn ?hr ?_; (case ho => rfl); (case hg => rfl); (case hn => rfl); (case hr => first | (go_simp; done) | (go_simp; rfl)); intro w17 hw; have hg : w15.grownBy w17 (some go5) := (by rw [hw]; exact HP16.2); have hp_ : Kd.R k42 42 w17 w0.heap.size (fun k_ => (P0_ k_ ∨ w.heap.size ≤ k_)) (.slice (some ⟨go5, 0, none⟩) x0_1.length co9) y413 := (by rw [hw, Ny413.out]; exact HP16.1); clear HP16; have n0_ := aM_ (hp_); have n1_ := aM_ ((by rw [hw]; exact wE_ (HB.out) GB5.out : Below w0.heap.size w0 w17)); have n2_ := aM_ (Kept.of_grown (S := (fun k_ => P0_ k_)) hg (by repeat (first | (with_reducible first | exact HK.out | apply Kept.alloc | apply Kept.drewN | apply Kept.drew) | exact HK.out)) (fun k_ e_ => (HO_0.out.1 k_ e_))); clear HO_0; clear HB; clear HK; have HO_0 := n0_; have HB := n1_; have HK := n2_; clear n0_ n1_ n2_; clear hg hw hp_))
     go_roundg k1
     case measure => have := HK1.out; omega
     case rel => exact ⟨(y413), (wrap64 ((wrap64 ((wrap64 ((wrap64 (x1_1 + 1)) + 1)) + 1)) + 1)), (wrap64 (x5_1 + 1)), (by first | rfl | (simp; done) | (simp [*]; done)), (by first | rfl | (simp; done) | (simp [*]; done)), H', ⟨by have := HK1.out; omega⟩, ⟨by (with_reducible repeat (first | apply rA_ | apply rN_ | apply rD_)); exact HO_0.out⟩, ⟨by repeat (first | (with_reducible first | exact HK.out | apply Kept.alloc | apply Kept.drewN | apply Kept.drew) | exact HK.out)⟩, ⟨bw_⟩⟩
    ·rw [if_neg c4] at H
     exact absurd H (by simp)
   ·rw [if_neg c3] at H
    have c3b0 : decide (x5_1 < (x0_1.length : Int)) = false := decide_eq_false c3
    clear c3
    simp only [Option.some.injEq, Prod.mk.injEq] at H
    obtain ⟨rfl, rfl⟩ := H
    obtain ⟨Ao18, co18, eo18⟩ := Kd.R_slice HO_0.out
    subst eo18
    go_wp2
    go_ret
    exact ⟨by first | rfl | (simp [errW_none, errW_some] <;> rfl) | (simp [*, errW_none, errW_some] <;> rfl), by (with_reducible repeat (first | apply rA_ | apply rN_ | apply rD_)); exact HO_0.out, bw_, by repeat (first | (with_reducible first | exact HK.out | apply Kept.alloc | apply Kept.drewN | apply Kept.drew) | exact HK.out)⟩

/-! ### laws_heldFlowS: function 24 -/
def laws_heldFlowS.l0 : Nat → List (S42) → Int → Int → Option (Int)
  | 0, _, _, _ => none
  | k + 1, x0, x1, x5 => if x5 < (x0.length : Int) then (if 0 ≤ x5 then (if ((rd_T42 x0 x5).f0) = x1 then (if ((rd_T42 x0 x5).f1) = (wrap64 (x1 + 1)) then (if ((rd_T42 x0 x5).f2) = (wrap64 ((wrap64 (x1 + 1)) + 1)) then (if ((rd_T42 x0 x5).f3) = (wrap64 ((wrap64 ((wrap64 (x1 + 1)) + 1)) + 1)) then (laws_heldFlowS.l0 k x0 (wrap64 ((wrap64 ((wrap64 ((wrap64 (x1 + 1)) + 1)) + 1)) + 1)) (wrap64 (x5 + 1))) else (some (-1))) else (some (-1))) else (some (-1))) else (some (-1))) else (none)) else (some x1)
def laws_heldFlowS.f (k : Nat) (l0 : List (S42)) (a1 : Int) : Option (Int) := laws_heldFlowS.l0 k l0 a1 0
set_option maxHeartbeats 8000000 in
set_option maxRecDepth 100000 in
theorem laws_heldFlowS.calls (k : Nat) (A0 : Option Addr) (c0 : Nat) (l0 : List (S42)) (a1 : Int) (r : Int) (w : World) (hr0 : Kd.C k42 w A0 l0.length l0) (hc0 : l0.length ≤ c0) (h : laws_heldFlowS.f k l0 a1 = some r) :
    Calls Try.prog 24 #[.slice A0 l0.length c0, .int .i64 a1] w fun e w' => e = .returned (.int .i64 r) ∧ Drawn0 w w' := by
  have HR0 := aM_ hr0
  have HC0 := aM_ hc0
  clear hr0 hc0
  have H : (laws_heldFlowS.l0 k l0 a1 0) = some r := h
  clear h
  have H' := aM_ H
  clear H
  go_enter Try.func24, Try.ntmps24
  go_wp2
  go_loopg [1, 5] k (fun kq v1 v5 w' => ∃ (x1_1 : Int) (x5_1 : Int), v1 = .int .i64 x1_1 ∧ v5 = .int .i64 x5_1 ∧ Aside0 (laws_heldFlowS.l0 kq l0 x1_1 x5_1 = some r) ∧ Aside0 (kq ≤ k) ∧ Drawn0 w w')
  case atStart => exact ⟨(a1), (0), (by first | rfl | (simp; done) | (simp [*]; done)), (by first | rfl | (simp; done) | (simp [*]; done)), H', ⟨Nat.le_refl _⟩, by repeat (first | exact Drawn0.refl _ | apply Drawn0.step)⟩
  case round =>
    clear H'
    try clear c2
    try clear p2
    obtain ⟨x1_1, x5_1, rfl, rfl, HA, HK1, ⟨m1, rfl⟩⟩ := hrel
    cases gk with
    | zero => exact absurd HA.out (by simp [laws_heldFlowS.l0])
    | succ k1 =>
      have H := HA.out
      clear HA
      simp only [laws_heldFlowS.l0] at H
      by_cases c3 : x5_1 < (l0.length : Int)
      · rw [if_pos c3] at H
        have c3b0 : decide (x5_1 < (l0.length : Int)) = true := decide_eq_true c3
        clear c3
        by_cases c4 : 0 ≤ x5_1
        · rw [if_pos c4] at H
          have c4b0 : decide (0 ≤ x5_1) = true := decide_eq_true c4
          clear c4
          by_cases c5 : ((rd_T42 l0 x5_1).f0) = x1_1
          · rw [if_pos c5] at H
            have c5b0 : (((rd_T42 l0 x5_1).f0) == x1_1) = true := beq_iff_eq.mpr c5
            have c5b1 : (((rd_T42 l0 x5_1).f0) != x1_1) = false := bne_eq_false_iff_eq.mpr c5
            clear c5
            by_cases c6 : ((rd_T42 l0 x5_1).f1) = (wrap64 (x1_1 + 1))
            · rw [if_pos c6] at H
              have c6b0 : (((rd_T42 l0 x5_1).f1) == (wrap64 (x1_1 + 1))) = true := beq_iff_eq.mpr c6
              have c6b1 : (((rd_T42 l0 x5_1).f1) != (wrap64 (x1_1 + 1))) = false := bne_eq_false_iff_eq.mpr c6
              clear c6
              by_cases c7 : ((rd_T42 l0 x5_1).f2) = (wrap64 ((wrap64 (x1_1 + 1)) + 1))
              · rw [if_pos c7] at H
                have c7b0 : (((rd_T42 l0 x5_1).f2) == (wrap64 ((wrap64 (x1_1 + 1)) + 1))) = true := beq_iff_eq.mpr c7
                have c7b1 : (((rd_T42 l0 x5_1).f2) != (wrap64 ((wrap64 (x1_1 + 1)) + 1))) = false := bne_eq_false_iff_eq.mpr c7
                clear c7
                by_cases c8 : ((rd_T42 l0 x5_1).f3) = (wrap64 ((wrap64 ((wrap64 (x1_1 + 1)) + 1)) + 1))
                · rw [if_pos c8] at H
                  have c8b0 : (((rd_T42 l0 x5_1).f3) == (wrap64 ((wrap64 ((wrap64 (x1_1 + 1)) + 1)) + 1))) = true := beq_iff_eq.mpr c8
                  have c8b1 : (((rd_T42 l0 x5_1).f3) != (wrap64 ((wrap64 ((wrap64 (x1_1 + 1)) + 1)) + 1))) = false := bne_eq_false_iff_eq.mpr c8
                  clear c8
                  have H' := aM_ H
                  clear H
                  have p414 : 0 ≤ (x5_1 : Int) := dT_
                  have q414 : x5_1 < (l0.length : Int) := dT_
                  obtain ⟨ad414, e414, hx414_0, hx414_1, hx414_2, hx414_3⟩ := at_T42 HR0.out x5_1 p414 q414
                  cases e414
                  replace p414 := eq_true p414
                  replace q414 := eq_true q414
                  have p415 : 0 ≤ (x5_1 : Int) := dT_
                  have q415 : x5_1 < (l0.length : Int) := dT_
                  obtain ⟨ad415, e415, hx415_0, hx415_1, hx415_2, hx415_3⟩ := at_T42 HR0.out x5_1 p415 q415
                  obtain rfl : ad414 = ad415 := (by injection e415)
                  replace p415 := eq_true p415
                  replace q415 := eq_true q415
                  have p416 : 0 ≤ (x5_1 : Int) := dT_
                  have q416 : x5_1 < (l0.length : Int) := dT_
                  obtain ⟨ad416, e416, hx416_0, hx416_1, hx416_2, hx416_3⟩ := at_T42 HR0.out x5_1 p416 q416
                  obtain rfl : ad414 = ad416 := (by injection e416)
                  replace p416 := eq_true p416
                  replace q416 := eq_true q416
                  have p417 : 0 ≤ (x5_1 : Int) := dT_
                  have q417 : x5_1 < (l0.length : Int) := dT_
                  obtain ⟨ad417, e417, hx417_0, hx417_1, hx417_2, hx417_3⟩ := at_T42 HR0.out x5_1 p417 q417
                  obtain rfl : ad414 = ad417 := (by injection e417)
                  replace p417 := eq_true p417
                  replace q417 := eq_true q417
                  go_wp2
                  go_roundg k1
                  case measure => have := HK1.out; omega
                  case rel => exact ⟨(wrap64 ((wrap64 ((wrap64 ((wrap64 (x1_1 + 1)) + 1)) + 1)) + 1)), (wrap64 (x5_1 + 1)), (by first | rfl | (simp; done) | (simp [*]; done)), (by first | rfl | (simp; done) | (simp [*]; done)), H', ⟨by have := HK1.out; omega⟩, by repeat (first | exact Drawn0.refl _ | apply Drawn0.step)⟩
                · rw [if_neg c8] at H
                  have c8b0 : (((rd_T42 l0 x5_1).f3) == (wrap64 ((wrap64 ((wrap64 (x1_1 + 1)) + 1)) + 1))) = false := beq_eq_false_iff_ne.mpr c8
                  have c8b1 : (((rd_T42 l0 x5_1).f3) != (wrap64 ((wrap64 ((wrap64 (x1_1 + 1)) + 1)) + 1))) = true := bne_iff_ne.mpr c8
                  obtain rfl := Option.some.inj H
                  have p414 : 0 ≤ (x5_1 : Int) := dT_
                  have q414 : x5_1 < (l0.length : Int) := dT_
                  obtain ⟨ad414, e414, hx414_0, hx414_1, hx414_2, hx414_3⟩ := at_T42 HR0.out x5_1 p414 q414
                  cases e414
                  replace p414 := eq_true p414
                  replace q414 := eq_true q414
                  have p415 : 0 ≤ (x5_1 : Int) := dT_
                  have q415 : x5_1 < (l0.length : Int) := dT_
                  obtain ⟨ad415, e415, hx415_0, hx415_1, hx415_2, hx415_3⟩ := at_T42 HR0.out x5_1 p415 q415
                  obtain rfl : ad414 = ad415 := (by injection e415)
                  replace p415 := eq_true p415
                  replace q415 := eq_true q415
                  have p416 : 0 ≤ (x5_1 : Int) := dT_
                  have q416 : x5_1 < (l0.length : Int) := dT_
                  obtain ⟨ad416, e416, hx416_0, hx416_1, hx416_2, hx416_3⟩ := at_T42 HR0.out x5_1 p416 q416
                  obtain rfl : ad414 = ad416 := (by injection e416)
                  replace p416 := eq_true p416
                  replace q416 := eq_true q416
                  have p417 : 0 ≤ (x5_1 : Int) := dT_
                  have q417 : x5_1 < (l0.length : Int) := dT_
                  obtain ⟨ad417, e417, hx417_0, hx417_1, hx417_2, hx417_3⟩ := at_T42 HR0.out x5_1 p417 q417
                  obtain rfl : ad414 = ad417 := (by injection e417)
                  replace p417 := eq_true p417
                  replace q417 := eq_true q417
                  go_wp2
                  go_ret
                  exact ⟨by first | rfl | (simp; done) | (simp [*]; done), by repeat (first | exact Drawn0.refl _ | apply Drawn0.step)⟩
              · rw [if_neg c7] at H
                have c7b0 : (((rd_T42 l0 x5_1).f2) == (wrap64 ((wrap64 (x1_1 + 1)) + 1))) = false := beq_eq_false_iff_ne.mpr c7
                have c7b1 : (((rd_T42 l0 x5_1).f2) != (wrap64 ((wrap64 (x1_1 + 1)) + 1))) = true := bne_iff_ne.mpr c7
                obtain rfl := Option.some.inj H
                have p414 : 0 ≤ (x5_1 : Int) := dT_
                have q414 : x5_1 < (l0.length : Int) := dT_
                obtain ⟨ad414, e414, hx414_0, hx414_1, hx414_2, hx414_3⟩ := at_T42 HR0.out x5_1 p414 q414
                cases e414
                replace p414 := eq_true p414
                replace q414 := eq_true q414
                have p415 : 0 ≤ (x5_1 : Int) := dT_
                have q415 : x5_1 < (l0.length : Int) := dT_
                obtain ⟨ad415, e415, hx415_0, hx415_1, hx415_2, hx415_3⟩ := at_T42 HR0.out x5_1 p415 q415
                obtain rfl : ad414 = ad415 := (by injection e415)
                replace p415 := eq_true p415
                replace q415 := eq_true q415
                have p416 : 0 ≤ (x5_1 : Int) := dT_
                have q416 : x5_1 < (l0.length : Int) := dT_
                obtain ⟨ad416, e416, hx416_0, hx416_1, hx416_2, hx416_3⟩ := at_T42 HR0.out x5_1 p416 q416
                obtain rfl : ad414 = ad416 := (by injection e416)
                replace p416 := eq_true p416
                replace q416 := eq_true q416
                go_wp2
                go_ret
                exact ⟨by first | rfl | (simp; done) | (simp [*]; done), by repeat (first | exact Drawn0.refl _ | apply Drawn0.step)⟩
            · rw [if_neg c6] at H
              have c6b0 : (((rd_T42 l0 x5_1).f1) == (wrap64 (x1_1 + 1))) = false := beq_eq_false_iff_ne.mpr c6
              have c6b1 : (((rd_T42 l0 x5_1).f1) != (wrap64 (x1_1 + 1))) = true := bne_iff_ne.mpr c6
              obtain rfl := Option.some.inj H
              have p414 : 0 ≤ (x5_1 : Int) := dT_
              have q414 : x5_1 < (l0.length : Int) := dT_
              obtain ⟨ad414, e414, hx414_0, hx414_1, hx414_2, hx414_3⟩ := at_T42 HR0.out x5_1 p414 q414
              cases e414
              replace p414 := eq_true p414
              replace q414 := eq_true q414
              have p415 : 0 ≤ (x5_1 : Int) := dT_
              have q415 : x5_1 < (l0.length : Int) := dT_
              obtain ⟨ad415, e415, hx415_0, hx415_1, hx415_2, hx415_3⟩ := at_T42 HR0.out x5_1 p415 q415
              obtain rfl : ad414 = ad415 := (by injection e415)
              replace p415 := eq_true p415
              replace q415 := eq_true q415
              go_wp2
              go_ret
              exact ⟨by first | rfl | (simp; done) | (simp [*]; done), by repeat (first | exact Drawn0.refl _ | apply Drawn0.step)⟩
          · rw [if_neg c5] at H
            have c5b0 : (((rd_T42 l0 x5_1).f0) == x1_1) = false := beq_eq_false_iff_ne.mpr c5
            have c5b1 : (((rd_T42 l0 x5_1).f0) != x1_1) = true := bne_iff_ne.mpr c5
            obtain rfl := Option.some.inj H
            have p414 : 0 ≤ (x5_1 : Int) := dT_
            have q414 : x5_1 < (l0.length : Int) := dT_
            obtain ⟨ad414, e414, hx414_0, hx414_1, hx414_2, hx414_3⟩ := at_T42 HR0.out x5_1 p414 q414
            cases e414
            replace p414 := eq_true p414
            replace q414 := eq_true q414
            go_wp2
            go_ret
            exact ⟨by first | rfl | (simp; done) | (simp [*]; done), by repeat (first | exact Drawn0.refl _ | apply Drawn0.step)⟩
        · rw [if_neg c4] at H
          exact absurd H (by simp)
      · rw [if_neg c3] at H
        have c3b0 : decide (x5_1 < (l0.length : Int)) = false := decide_eq_false c3
        clear c3
        obtain rfl := Option.some.inj H
        go_wp2
        go_ret
        exact ⟨by first | rfl | (simp; done) | (simp [*]; done), by repeat (first | exact Drawn0.refl _ | apply Drawn0.step)⟩

end Go.Proofs.Ytdodogkgmpaioaa.PFnExactAdmitFlow
