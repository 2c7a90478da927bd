/- The functions that the law reaches, as plain Lean functions, each with the proof that the Go code comes to its answers; conditions: those that each theorem names. (printed by a program of this session) -/
import Derived.Test.YtdodogkgmpaioaaPFnExactReachFromx0
import Derived.Test.YtdodogkgmpaioaaPFnExactReachFromx1
namespace Go.Proofs.Ytdodogkgmpaioaa.PFnExactReachFrom
open Go.RowKit Go.Proofs.YtdodogkgmpaioaaW.PrintWords Go.Proofs.YtdodogkgmpaioaaW.PrintLast Go.Proofs.YtdodogkgmpaioaaW.PrintMore
attribute [local go_sem] max2_int min2_int max_two min_two max_three min_three max_four min_four   -- for this text's walks alone
set_option linter.unusedVariables false
set_option linter.unusedSimpArgs false

attribute [local go_sem high] eqA123
/-! ### laws_markProgram: function 22 -/
theorem not_types_ {w : World} {g t : Nat} {cs : Array Value} {L : List Nat} (h : w.heap[g]? = some (.cells cs t (0, 0))) (hs : ∃ q, q ∈ L ∧ ∃ cells, w.heap[g]? = some (.cells cells q (0, 0))) (hn : t ∉ L) : False := by
  obtain ⟨q, hq, cells, hc⟩ := hs
  rw [h] at hc
  injection hc with hc
  injection hc with _ ht _
  exact hn (ht ▸ hq)
def isI_ (v : Value) : Prop := ∃ z, v = .int .i64 z
/-- Numbers in P's blocks are turned to numbers; all else stays. -/
def Mk_ (P : Nat → Prop) (w w' : World) : Prop := Below 0 w w' ∧ (∀ b, b < w.heap.size → ¬ P b → w'.heap[b]? = w.heap[b]?) ∧
  ∀ (b : Nat) (cells : Array Value) (t : Nat), w.heap[b]? = some (.cells cells t (0, 0)) → ∃ cells' : Array Value, w'.heap[b]? = some (.cells cells' t (0, 0)) ∧ ∀ (j : Nat) (u : Value), cells[j]? = some u → ∃ u', cells'[j]? = some u' ∧ (u' = u ∨ isI_ u ∧ isI_ u')
theorem Mk_.refl (P : Nat → Prop) (w : World) : Mk_ P w w := ⟨Below.refl _ _, fun _ _ _ => rfl, fun _ cells _ h => ⟨cells, h, fun _ u hu => ⟨u, hu, .inl rfl⟩⟩⟩
theorem Mk_.then_ {P : Nat → Prop} {w W W2 : World} (h : Mk_ P w W) (k : Mk_ P W W2) : Mk_ P w W2 := by
  refine ⟨h.1.trans k.1, fun b hb hn => (k.2.1 b (Nat.lt_of_lt_of_le hb h.1.size) hn).trans (h.2.1 b hb hn), fun b cells t hc => ?_⟩
  obtain ⟨c1, h1, h2⟩ := h.2.2 b cells t hc
  obtain ⟨c2, h3, h4⟩ := k.2.2 b c1 t h1
  refine ⟨c2, h3, fun j u hu => ?_⟩
  obtain ⟨u1, e1, r1⟩ := h2 j u hu
  obtain ⟨u2, e2, r2⟩ := h4 j u1 e1
  refine ⟨u2, e2, ?_⟩
  rcases r1 with rfl | ⟨a1, a2⟩
  · exact r2
  · rcases r2 with rfl | ⟨b1, b2⟩
    · exact .inr ⟨a1, a2⟩
    · exact .inr ⟨a1, b2⟩
theorem Mk_.drewN {P : Nat → Prop} {w W : World} (h : Mk_ P w W) (n : Nat) : Mk_ P w (W.drewN n) := ⟨wN_ h.1 n, h.2⟩
theorem Mk_.set {P : Nat → Prop} {w W : World} (h : Mk_ P w W) {g o t : Nat} {cs : Array Value} {z z' : Int} (hP : P g) (hb : W.heap[g]? = some (.cells cs t (0, 0))) (hz : cs[o]? = some (.int .i64 z)) : Mk_ P w (W.setCell ⟨g, o, none⟩ (.int .i64 z')) := by
  refine h.then_ ⟨⟨rfl, rfl, rfl, by simp [World.setCell], fun k hk => absurd hk (Nat.not_lt_zero k)⟩, fun b _ hn => Below.heap_setCell W ⟨g, o, none⟩ _ b (fun e => hn (e ▸ hP)), fun b cells t' hc => ?_⟩
  by_cases e : b = g
  · subst e
    rw [hb] at hc
    injection hc with hc
    injection hc with e1 e2 _
    subst e1; subst e2
    refine ⟨_, blk_set hb o _, fun j u hu => ?_⟩
    by_cases ej : j = o
    · subst ej
      rw [hz] at hu
      injection hu with hu
      subst hu
      have hj : j < cs.size := (Array.getElem?_eq_some_iff.1 hz).1
      exact ⟨.int .i64 z', by simp [Array.getElem?_setIfInBounds, hj], .inr ⟨⟨_, rfl⟩, ⟨_, rfl⟩⟩⟩
    · exact ⟨u, by rw [Array.getElem?_setIfInBounds_ne (Ne.symm ej)]; exact hu, .inl rfl⟩
  · exact ⟨cells, (Below.heap_setCell W ⟨g, o, none⟩ _ b e).trans hc, fun _ u hu => ⟨u, hu, .inl rfl⟩⟩
def IntRow_ (P : Nat → Prop) (w : World) (A : Option Addr) (m : Nat) : Prop := m = 0 ∨ ∃ (g : Nat) (cells : Array Value) (t : Nat), A = some ⟨g, 0, none⟩ ∧ P g ∧ w.heap[g]? = some (.cells cells t (0, 0)) ∧ ∀ j, j < m → ∃ z, cells[j]? = some (.int .i64 z)
theorem IntRow_.mk_ {P : Nat → Prop} {w W : World} {A : Option Addr} {m : Nat} (h : IntRow_ P w A m) (k : Mk_ P w W) : IntRow_ P W A m := by
  rcases h with h | ⟨g, cells, t, hA, hP, hb, hz⟩
  · exact .inl h
  · obtain ⟨c1, h1, h2⟩ := k.2.2 g cells t hb
    refine .inr ⟨g, c1, t, hA, hP, h1, fun j hj => ?_⟩
    obtain ⟨z, hz⟩ := hz j hj
    obtain ⟨u, hu, e | ⟨_, z', e⟩⟩ := h2 j _ hz
    · exact ⟨z, e ▸ hu⟩
    · exact ⟨z', e ▸ hu⟩
theorem slice_stays {P : Nat → Prop} {w W : World} (k : Mk_ P w W) {g t j : Nat} {cells : Array Value} {A : Option Addr} {n c : Nat} (hb : w.heap[g]? = some (.cells cells t (0, 0))) (hj : cells[j]? = some (.slice A n c)) : ∃ cells', W.heap[g]? = some (.cells cells' t (0, 0)) ∧ cells'[j]? = some (.slice A n c) := by
  obtain ⟨c1, h1, h2⟩ := k.2.2 g cells t hb
  obtain ⟨u, hu, e | ⟨⟨_, e⟩, _⟩⟩ := h2 j _ hj
  · exact ⟨c1, h1, e ▸ hu⟩
  · cases e
def TabRow_ (P : Nat → Prop) (w : World) (A : Option Addr) (ns : List (Nat × Nat)) : Prop := ns = [] ∨ ∃ (g : Nat) (cells : Array Value) (t : Nat), A = some ⟨g, 0, none⟩ ∧ P g ∧ w.heap[g]? = some (.cells cells t (0, 0)) ∧
  ∀ (j : Nat) (p : Nat × Nat), ns[j]? = some p → (∃ z, cells[j * 3]? = some (.int .i64 z)) ∧ (∃ A1 c1, cells[j * 3 + 1]? = some (.slice A1 p.1 c1) ∧ IntRow_ P w A1 p.1) ∧ ∃ A2 c2, cells[j * 3 + 2]? = some (.slice A2 p.2 c2) ∧ IntRow_ P w A2 p.2
theorem keep_cells {P : Nat → Prop} {w W : World} (k : Mk_ P w W) {g t : Nat} {cells : Array Value} (hb : w.heap[g]? = some (.cells cells t (0, 0))) : ∃ cells' : Array Value, W.heap[g]? = some (.cells cells' t (0, 0)) ∧ (∀ (j : Nat) (z : Int), cells[j]? = some (Value.int .i64 z) → ∃ z', cells'[j]? = some (Value.int .i64 z')) ∧ ∀ (j : Nat) (A : Option Addr) (n c : Nat), cells[j]? = some (Value.slice A n c) → cells'[j]? = some (Value.slice A n c) := by
  obtain ⟨c1, h1, h2⟩ := k.2.2 g cells t hb
  refine ⟨c1, h1, fun j z hz => ?_, fun j A n c hc => ?_⟩
  · obtain ⟨u, hu, e | ⟨_, z', e⟩⟩ := h2 j _ hz
    · exact ⟨z, e ▸ hu⟩
    · exact ⟨z', e ▸ hu⟩
  · obtain ⟨u, hu, e | ⟨⟨_, e⟩, _⟩⟩ := h2 j _ hc
    · exact e ▸ hu
    · cases e
theorem TabRow_.mk_ {P : Nat → Prop} {w W : World} {A : Option Addr} {ns : List (Nat × Nat)} (h : TabRow_ P w A ns) (k : Mk_ P w W) : TabRow_ P W A ns := by
  rcases h with h | ⟨g, cells, t, hA, hP, hb, hz⟩
  · exact .inl h
  · obtain ⟨c1, h1, h2, h3⟩ := keep_cells k hb
    refine .inr ⟨g, c1, t, hA, hP, h1, fun j p hj => ?_⟩
    obtain ⟨⟨z, q0⟩, ⟨A1, d1, q1, i1⟩, ⟨A2, d2, q2, i2⟩⟩ := hz j p hj
    exact ⟨h2 _ _ q0, ⟨A1, d1, h3 _ _ _ _ q1, i1.mk_ k⟩, ⟨A2, d2, h3 _ _ _ _ q2, i2.mk_ k⟩⟩
def PieRow_ (P : Nat → Prop) (w : World) (A : Option Addr) (ns : List (Nat × List (Nat × Nat))) : Prop := ns = [] ∨ ∃ (g : Nat) (cells : Array Value) (t : Nat), A = some ⟨g, 0, none⟩ ∧ P g ∧ w.heap[g]? = some (.cells cells t (0, 0)) ∧
  ∀ (j : Nat) (p : Nat × List (Nat × Nat)), ns[j]? = some p → (∃ z, cells[j * 4]? = some (.int .i64 z)) ∧ (∃ z, cells[j * 4 + 1]? = some (.int .i64 z)) ∧ (∃ A1 c1, cells[j * 4 + 2]? = some (.slice A1 p.1 c1) ∧ IntRow_ P w A1 (p.1 * 2)) ∧ ∃ A2 c2, cells[j * 4 + 3]? = some (.slice A2 p.2.length c2) ∧ TabRow_ P w A2 p.2
theorem PieRow_.mk_ {P : Nat → Prop} {w W : World} {A : Option Addr} {ns : List (Nat × List (Nat × Nat))} (h : PieRow_ P w A ns) (k : Mk_ P w W) : PieRow_ P W A ns := by
  rcases h with h | ⟨g, cells, t, hA, hP, hb, hz⟩
  · exact .inl h
  · obtain ⟨c1, h1, h2, h3⟩ := keep_cells k hb
    refine .inr ⟨g, c1, t, hA, hP, h1, fun j p hj => ?_⟩
    obtain ⟨⟨z, q0⟩, ⟨z', q0'⟩, ⟨A1, d1, q1, i1⟩, ⟨A2, d2, q2, i2⟩⟩ := hz j p hj
    exact ⟨h2 _ _ q0, h2 _ _ q0', ⟨A1, d1, h3 _ _ _ _ q1, i1.mk_ k⟩, ⟨A2, d2, h3 _ _ _ _ q2, i2.mk_ k⟩⟩
def tabSize_ (ns : List (Nat × Nat)) : Nat := (ns.map fun p => 1 + p.1 + p.2).sum
def pieSize_ (ns : List (Nat × List (Nat × Nat))) : Nat := (ns.map fun p => 2 + p.1 * 2 + tabSize_ p.2).sum
theorem sum_take {α : Type} (f : α → Nat) (l : List α) {i : Nat} {x : α} (h : l[i]? = some x) : ((l.take (i + 1)).map f).sum = ((l.take i).map f).sum + f x := by
  rw [List.take_add_one, h]
  simp [List.map_append, List.sum_append]
theorem sum_le {α : Type} (f : α → Nat) (l : List α) (i : Nat) : ((l.take i).map f).sum ≤ (l.map f).sum := by
  have h := congrArg (fun q => (q.map f).sum) (List.take_append_drop i l)
  simp only [List.map_append, List.sum_append] at h
  omega
theorem tab_len : ∀ ns : List (Nat × Nat), ns.length ≤ tabSize_ ns
  | [] => Nat.le_refl _
  | p :: ns => by
    have := tab_len ns
    unfold tabSize_ at this ⊢
    rw [List.map_cons, List.sum_cons, List.length_cons]
    omega
theorem pie_len : ∀ ns : List (Nat × List (Nat × Nat)), ns.length ≤ pieSize_ ns
  | [] => Nat.le_refl _
  | p :: ns => by
    have := pie_len ns
    unfold pieSize_ at this ⊢
    rw [List.map_cons, List.sum_cons, List.length_cons]
    omega
set_option maxHeartbeats 2000000 in
set_option maxRecDepth 100000 in
theorem marks_ints (P : Nat → Prop) (A : Option Addr) (n c : Nat) (a : Int) (w : World) (h0 : 0 ≤ a) (hs : a + n ≤ 4000000000) (h : IntRow_ P w A n) :
    Calls Try.prog 36 #[.slice A n c, .int .i64 a] w fun e w' => e = .returned (.int .i64 (a + n)) ∧ Mk_ P w w' := by
  have HI := aM_ h
  clear h
  go_enter Try.func36, Try.ntmps36
  go_wp2
  go_loopg [1, 5] n (fun gg v1 v5 wr => ∃ (i : Nat) (k : Int), i ≤ n ∧ n - i ≤ gg ∧ v1 = .int .i64 k ∧ v5 = .int .i64 i ∧ Aside0 (k = a + i) ∧ Aside0 (Mk_ P w wr))
  case atStart => exact ⟨0, a, Nat.zero_le _, by omega, rfl, rfl, ⟨by omega⟩, ⟨Mk_.refl _ _⟩⟩
  case round =>
    obtain ⟨i, k, hi, hg, rfl, rfl, HK, HM⟩ := hrel
    have hk := HK.out
    by_cases hlt : i < n
    · have hltz : (i : Int) < (n : Int) := by omega
      have hw : wrap64 (k + 1) = k + 1 := by unfold wrap64; omega
      have HW := aM_ hw
      rcases HI.out.mk_ HM.out with h | ⟨g, cells, t, rfl, hP, hb, hz⟩
      · omega
      · obtain ⟨z, hz⟩ := hz i hlt
        have hx : wr.cell? ⟨g, i, none⟩ = some (.int .i64 z) := (blk_cell hb i).trans hz
        have hf : wr.frozen? ⟨g, i, none⟩ = false := blk_frozen hb i
        have HN := aM_ (Mk_.set (z' := k) HM.out hP hb hz)
        clear hb hz hP hk hw
        go_wp2
        go_roundg (n - (i + 1))
        case measure => omega
        case rel => exact ⟨i + 1, k + 1, by omega, by omega, congrArg (Value.int .i64) (by first | exact HW.out | rw [i64_w]; exact HW.out), by go_num, ⟨by have := HK.out; omega⟩, ⟨HN.out⟩⟩
    · have hltz : ¬ (i : Int) < (n : Int) := by omega
      have : i = n := by omega
      subst this
      obtain rfl := hk
      go_wp2
      go_ret
      exact ⟨rfl, HM.out⟩
set_option maxHeartbeats 2000000 in
set_option maxRecDepth 100000 in
theorem marks_links (P : Nat → Prop) (A : Option Addr) (n c : Nat) (a : Int) (w : World) (h0 : 0 ≤ a) (hs : a + ((n * 2 : Nat) : Int) ≤ 4000000000) (h : IntRow_ P w A (n * 2)) :
    Calls Try.prog 80 #[.slice A n c, .int .i64 a] w fun e w' => e = .returned (.int .i64 (a + ((n * 2 : Nat) : Int))) ∧ Mk_ P w w' := by
  have HI := aM_ h
  have HS := aM_ hs
  have hnb : n ≤ 4000000000 := by omega
  clear h hs
  go_enter Try.func80, Try.ntmps80
  go_wp2
  go_loopg [1, 5] n (fun gg v1 v5 wr => ∃ (i : Nat) (k : Int), i ≤ n ∧ n - i ≤ gg ∧ v1 = .int .i64 k ∧ v5 = .int .i64 i ∧ Aside0 (k = a + ((i * 2 : Nat) : Int)) ∧ Aside0 (Mk_ P w wr))
  case atStart => exact ⟨0, a, Nat.zero_le _, by omega, rfl, rfl, ⟨by omega⟩, ⟨Mk_.refl _ _⟩⟩
  case round =>
    obtain ⟨i, k, hi, hg, rfl, rfl, HK, HM⟩ := hrel
    have hk := HK.out
    have hs := HS.out
    by_cases hlt : i < n
    · have hltz : (i : Int) < (n : Int) := by omega
      have HW := aM_ (show wrap64 (k + 1) = k + 1 by unfold wrap64; omega)
      have HW2 := aM_ (show wrap64 (wrap64 (k + 1) + 1) = k + 2 by unfold wrap64; omega)
      rcases HI.out.mk_ HM.out with h | ⟨g, cells, t, rfl, hP, hb, hz⟩
      · omega
      · obtain ⟨z, hz0⟩ := hz (i * 2) (by omega)
        obtain ⟨z', hz1⟩ := hz (i * 2 + 1) (by omega)
        have hx0 : wr.cell? ⟨g, i * 2, none⟩ = some (.int .i64 z) := (blk_cell hb _).trans hz0
        have hf0 : wr.frozen? ⟨g, i * 2, none⟩ = false := blk_frozen hb _
        have hx1 : wr.cell? ⟨g, i * 2 + 1, none⟩ = some (.int .i64 z') := (blk_cell hb _).trans hz1
        have hf1 : wr.frozen? ⟨g, i * 2 + 1, none⟩ = false := blk_frozen hb _
        have HN := aM_ (Mk_.set (z' := wrap64 (k + 1)) (Mk_.set (z' := k) HM.out hP hb hz0) hP (blk_set hb (i * 2) (.int .i64 k)) (o := i * 2 + 1) (z := z') (by rw [Array.getElem?_setIfInBounds_ne (by omega)]; exact hz1))
        clear hb hz hP hk hz0 hz1 hs
        go_wp2
        go_roundg (n - (i + 1))
        case measure => omega
        case rel => exact ⟨i + 1, k + 2, by omega, by omega, congrArg (Value.int .i64) (by first | exact HW2.out | (simp only [i64_w]; exact HW2.out)), by go_num, ⟨by have := HK.out; omega⟩, ⟨by first | exact HN.out | (simp only [i64_w]; exact HN.out)⟩⟩
    · have hltz : ¬ (i : Int) < (n : Int) := by omega
      have : i = n := by omega
      subst this
      obtain rfl := hk
      clear hs
      go_wp2
      go_ret
      exact ⟨rfl, HM.out⟩
set_option maxHeartbeats 2000000 in
set_option maxRecDepth 100000 in
theorem marks_tabs (P : Nat → Prop) (A : Option Addr) (n c : Nat) (ns : List (Nat × Nat)) (hn : ns.length = n) (a : Int) (w : World) (h0 : 0 ≤ a) (hs : a + (tabSize_ ns : Int) ≤ 4000000000) (h : TabRow_ P w A ns) :
    Calls Try.prog 81 #[.slice A n c, .int .i64 a] w fun e w' => e = .returned (.int .i64 (a + (tabSize_ ns : Int))) ∧ Mk_ P w w' := by
  have HI := aM_ h
  have HS := aM_ hs
  have HL := aM_ hn
  have hnb : n ≤ 4000000000 := by have := tab_len ns; omega
  clear h hs hn
  go_enter Try.func81, Try.ntmps81
  go_wp2
  go_loopg [1, 5] n (fun gg v1 v5 wr => ∃ (i : Nat) (k : Int), i ≤ n ∧ n - i ≤ gg ∧ v1 = .int .i64 k ∧ v5 = .int .i64 i ∧ Aside0 (k = a + (tabSize_ (ns.take i) : Int)) ∧ Aside0 (Mk_ P w wr))
  case atStart => exact ⟨0, a, Nat.zero_le _, by omega, rfl, rfl, ⟨by simp [tabSize_]⟩, ⟨Mk_.refl _ _⟩⟩
  case round =>
    obtain ⟨i, k, hi, hg, rfl, rfl, HK, HM⟩ := hrel
    have hk := HK.out
    have hs := HS.out
    have hl := HL.out
    by_cases hlt : i < n
    · have hltz : (i : Int) < (n : Int) := by omega
      obtain ⟨p, hp⟩ : ∃ p, ns[i]? = some p := ⟨_, List.getElem?_eq_getElem (by omega)⟩
      have ht : tabSize_ (ns.take (i + 1)) = tabSize_ (ns.take i) + (1 + p.1 + p.2) := sum_take _ ns hp
      have hle : tabSize_ (ns.take (i + 1)) ≤ tabSize_ ns := sum_le _ ns (i + 1)
      have HW := aM_ (show wrap64 (k + 1) = k + 1 by unfold wrap64; omega)
      rcases HI.out.mk_ HM.out with h | ⟨g, cells, t, rfl, hP, hb, hz⟩
      · rw [h] at hp; cases hp
      · obtain ⟨⟨z, hz0⟩, ⟨A1, d1, hz1, i1⟩, ⟨A2, d2, hz2, i2⟩⟩ := hz i p hp
        have hx0 : wr.cell? ⟨g, i * 3, none⟩ = some (.int .i64 z) := (blk_cell hb _).trans hz0
        have hf0 : wr.frozen? ⟨g, i * 3, none⟩ = false := blk_frozen hb _
        have hx1 : wr.cell? ⟨g, i * 3 + 1, none⟩ = some (.slice A1 p.1 d1) := (blk_cell hb _).trans hz1
        have hf1 : wr.frozen? ⟨g, i * 3 + 1, none⟩ = false := blk_frozen hb _
        have hm1 : Mk_ P wr (wr.setCell ⟨g, i * 3, none⟩ (.int .i64 k)) := Mk_.set (Mk_.refl _ _) hP hb hz0
        obtain ⟨c1, hb1, _, hc1⟩ := keep_cells hm1 hb
        have hz2' := hc1 _ _ _ _ hz2
        have HC1 := aM_ (marks_ints P A1 p.1 d1 (wrap64 (k + 1)) _ (by have := HW.out; omega) (by have := HW.out; omega) (i1.mk_ hm1))
        have HG := aM_ (show ∀ W, Mk_ P (wr.setCell ⟨g, i * 3, none⟩ (.int .i64 k)) W → W.cell? ⟨g, i * 3 + 2, none⟩ = some (.slice A2 p.2 d2) ∧ W.frozen? ⟨g, i * 3 + 2, none⟩ = false ∧ (Calls Try.prog 36 #[.slice A2 p.2 d2, .int .i64 (wrap64 (k + 1) + p.1)] W fun e w' => e = .returned (.int .i64 (wrap64 (k + 1) + p.1 + p.2)) ∧ Mk_ P W w') from fun W hW => by
          obtain ⟨c2, hb2, _, hc2⟩ := keep_cells hW hb1
          exact ⟨(blk_cell hb2 _).trans (hc2 _ _ _ _ hz2'), blk_frozen hb2 _, marks_ints P A2 p.2 d2 (wrap64 (k + 1) + p.1) W (by have := HW.out; omega) (by have := HW.out; omega) ((i2.mk_ hm1).mk_ hW)⟩)
        have HM1 := aM_ (HM.out.then_ hm1)
        have HT := aM_ ht
        clear hb hz hP hk hz0 hz1 hs hl ht hle hm1 hb1 hc1 hz2' i1 i2 hz2 hp
        go_wp2_with (first | (go_at_call 36; refine HC1.out.mono ?_; rintro e w2 ⟨rfl, hm2⟩; obtain ⟨hx2, hf2, hc⟩ := HG.out w2 hm2; have HC2 := aM_ hc; have HM2 := aM_ hm2; clear hc hm2 HC1 HG) | (go_at_call 36; refine HC2.out.mono ?_; rintro e w3 ⟨rfl, hm3⟩; have HM3 := aM_ hm3; clear hm3 HC2))
        go_roundg (n - (i + 1))
        case measure => omega
        case rel => exact ⟨i + 1, wrap64 (k + 1) + p.1 + p.2, by omega, by omega, rfl, by go_num, ⟨by have := HK.out; have := HT.out; have := HW.out; omega⟩, ⟨(HM1.out.then_ HM2.out).then_ HM3.out⟩⟩
    · have hltz : ¬ (i : Int) < (n : Int) := by omega
      have : i = n := by omega
      subst this
      rw [List.take_of_length_le (by omega)] at hk
      obtain rfl := hk
      clear hs hl
      go_wp2
      go_ret
      exact ⟨rfl, HM.out⟩
set_option maxHeartbeats 2000000 in
set_option maxRecDepth 100000 in
theorem marks_pieces (P : Nat → Prop) (A : Option Addr) (n c : Nat) (ns : List (Nat × List (Nat × Nat))) (hn : ns.length = n) (a : Int) (w : World) (h0 : 0 ≤ a) (hs : a + (pieSize_ ns : Int) ≤ 4000000000) (h : PieRow_ P w A ns) :
    Calls Try.prog 58 #[.slice A n c, .int .i64 a] w fun e w' => e = .returned (.int .i64 (a + (pieSize_ ns : Int))) ∧ Mk_ P w w' := by
  have HI := aM_ h
  have HS := aM_ hs
  have HL := aM_ hn
  have hnb : n ≤ 4000000000 := by have := pie_len ns; omega
  clear h hs hn
  go_enter Try.func58, Try.ntmps58
  go_wp2
  go_loopg [1, 5] n (fun gg v1 v5 wr => ∃ (i : Nat) (k : Int), i ≤ n ∧ n - i ≤ gg ∧ v1 = .int .i64 k ∧ v5 = .int .i64 i ∧ Aside0 (k = a + (pieSize_ (ns.take i) : Int)) ∧ Aside0 (Mk_ P w wr))
  case atStart => exact ⟨0, a, Nat.zero_le _, by omega, rfl, rfl, ⟨by simp [pieSize_]⟩, ⟨Mk_.refl _ _⟩⟩
  case round =>
    obtain ⟨i, k, hi, hg, rfl, rfl, HK, HM⟩ := hrel
    have hk := HK.out
    have hs := HS.out
    have hl := HL.out
    by_cases hlt : i < n
    · have hltz : (i : Int) < (n : Int) := by omega
      obtain ⟨p, hp⟩ : ∃ p, ns[i]? = some p := ⟨_, List.getElem?_eq_getElem (by omega)⟩
      have ht : pieSize_ (ns.take (i + 1)) = pieSize_ (ns.take i) + (2 + p.1 * 2 + tabSize_ p.2) := sum_take _ ns hp
      have hle : pieSize_ (ns.take (i + 1)) ≤ pieSize_ ns := sum_le _ ns (i + 1)
      have HW := aM_ (show wrap64 (k + 1) = k + 1 by unfold wrap64; omega)
      have HW2 := aM_ (show wrap64 (wrap64 (k + 1) + 1) = k + 2 by unfold wrap64; omega)
      rcases HI.out.mk_ HM.out with h | ⟨g, cells, t, rfl, hP, hb, hz⟩
      · rw [h] at hp; cases hp
      · obtain ⟨⟨z, hz0⟩, ⟨z', hz0'⟩, ⟨A1, d1, hz1, i1⟩, ⟨A2, d2, hz2, i2⟩⟩ := hz i p hp
        have hx0 : wr.cell? ⟨g, i * 4, none⟩ = some (.int .i64 z) := (blk_cell hb _).trans hz0
        have hf0 : wr.frozen? ⟨g, i * 4, none⟩ = false := blk_frozen hb _
        have hx0' : wr.cell? ⟨g, i * 4 + 1, none⟩ = some (.int .i64 z') := (blk_cell hb _).trans hz0'
        have hf0' : wr.frozen? ⟨g, i * 4 + 1, none⟩ = false := blk_frozen hb _
        have hx1 : wr.cell? ⟨g, i * 4 + 2, none⟩ = some (.slice A1 p.1 d1) := (blk_cell hb _).trans hz1
        have hf1 : wr.frozen? ⟨g, i * 4 + 2, none⟩ = false := blk_frozen hb _
        have hm1 : Mk_ P wr ((wr.setCell ⟨g, i * 4, none⟩ (.int .i64 k)).setCell ⟨g, i * 4 + 1, none⟩ (.int .i64 (wrap64 (k + 1)))) := Mk_.set (Mk_.set (Mk_.refl _ _) hP hb hz0) hP (blk_set hb (i * 4) (.int .i64 k)) (z := z') (by rw [Array.getElem?_setIfInBounds_ne (by omega)]; exact hz0')
        obtain ⟨c1, hb1, _, hc1⟩ := keep_cells hm1 hb
        have hz2' := hc1 _ _ _ _ hz2
        have HC1 := aM_ (marks_links P A1 p.1 d1 (wrap64 (wrap64 (k + 1) + 1)) _ (by have := HW2.out; omega) (by have := HW2.out; omega) (i1.mk_ hm1))
        have HG := aM_ (show ∀ W, Mk_ P ((wr.setCell ⟨g, i * 4, none⟩ (.int .i64 k)).setCell ⟨g, i * 4 + 1, none⟩ (.int .i64 (wrap64 (k + 1)))) W → W.cell? ⟨g, i * 4 + 3, none⟩ = some (.slice A2 p.2.length d2) ∧ W.frozen? ⟨g, i * 4 + 3, none⟩ = false ∧ (Calls Try.prog 81 #[.slice A2 p.2.length d2, .int .i64 (wrap64 (wrap64 (k + 1) + 1) + ((p.1 * 2 : Nat) : Int))] W fun e w' => e = .returned (.int .i64 (wrap64 (wrap64 (k + 1) + 1) + ((p.1 * 2 : Nat) : Int) + (tabSize_ p.2 : Int))) ∧ Mk_ P W w') from fun W hW => by
          obtain ⟨c2, hb2, _, hc2⟩ := keep_cells hW hb1
          exact ⟨(blk_cell hb2 _).trans (hc2 _ _ _ _ hz2'), blk_frozen hb2 _, marks_tabs P A2 p.2.length d2 p.2 rfl (wrap64 (wrap64 (k + 1) + 1) + ((p.1 * 2 : Nat) : Int)) W (by have := HW2.out; omega) (by have := HW2.out; omega) ((i2.mk_ hm1).mk_ hW)⟩)
        have HM1 := aM_ (HM.out.then_ hm1)
        have HT := aM_ ht
        clear hb hz hP hk hz0 hz0' hz1 hs hl ht hle hm1 hb1 hc1 hz2' i1 i2 hz2 hp
        go_wp2_with (first | (go_at_call 80; refine HC1.out.mono ?_; rintro e w2 ⟨rfl, hm2⟩; obtain ⟨hx2, hf2, hc⟩ := HG.out w2 hm2; have HC2 := aM_ hc; have HM2 := aM_ hm2; clear hc hm2 HC1 HG) | (go_at_call 81; refine HC2.out.mono ?_; rintro e w3 ⟨rfl, hm3⟩; have HM3 := aM_ hm3; clear hm3 HC2))
        go_roundg (n - (i + 1))
        case measure => omega
        case rel => exact ⟨i + 1, wrap64 (wrap64 (k + 1) + 1) + ((p.1 * 2 : Nat) : Int) + (tabSize_ p.2 : Int), by omega, by omega, rfl, by go_num, ⟨by have := HK.out; have := HT.out; have := HW2.out; omega⟩, ⟨(HM1.out.then_ HM2.out).then_ HM3.out⟩⟩
    · have hltz : ¬ (i : Int) < (n : Int) := by omega
      have : i = n := by omega
      subst this
      rw [List.take_of_length_le (by omega)] at hk
      obtain rfl := hk
      clear hs hl
      go_wp2
      go_ret
      exact ⟨rfl, HM.out⟩
/-- A row of numbers, as the marks ask for it. -/
theorem int_row {P : Nat → Prop} {w : World} {e base : Nat} {ok : Nat → Prop} {A : Option Addr} {n c : Nat} {l : List Int} (h : Kd.R (Kd.int .i64) e w base ok (.slice A n c) l) (hP : ∀ k, ok k → P k) : IntRow_ P w A n := by
  by_cases hn : n = 0
  · exact .inl hn
  · obtain ⟨hl, _, _⟩ := Kd.R_reads' h
    obtain ⟨g, cap, he, _, _, cells, hb⟩ := Kd.R_form h (by omega)
    injection he with hA _ _
    subst hA
    refine .inr ⟨g, cells, e, rfl, hP g (h.1 g rfl), hb, fun j hj => ?_⟩
    obtain ⟨cs, hcl, hM, hcc, _⟩ := Kd.R_elem h 0 (j : Int) (by omega) (by omega)
    have hK := (Kd.int .i64).K_of_M hM
    obtain rfl : cs = [.int .i64 (l.getD j 0)] := hK
    have h2 := hcc 0 _ rfl
    rw [blk_cell hb] at h2
    exact ⟨_, (by simpa [Kd.int, Kd.scalar] using h2)⟩
theorem link_row {P : Nat → Prop} {w : World} {e base : Nat} {ok : Nat → Prop} {A : Option Addr} {n c : Nat} {l : List (S123)} (h : Kd.R k123 e w base ok (.slice A n c) l) (hP : ∀ k, ok k → P k) : IntRow_ P w A (n * 2) := by
  by_cases hn : n = 0
  · exact .inl (by omega)
  · obtain ⟨hl, _, _⟩ := Kd.R_reads' h
    obtain ⟨g, cap, he, _, _, cells, hb⟩ := Kd.R_form h (by omega)
    injection he with hA _ _
    subst hA
    refine .inr ⟨g, cells, e, rfl, hP g (h.1 g rfl), hb, fun j hj => ?_⟩
    obtain ⟨cs, hcl, hM, hcc, _⟩ := Kd.R_elem h z123 ((j / 2 : Nat) : Int) (by omega) (by omega)
    obtain rfl := k123_open (k123.K_of_M hM)
    have e1 : ((j / 2 : Nat) : Int).toNat * k123.sz = j / 2 * 2 := rfl
    rcases Nat.mod_two_eq_zero_or_one j with h0 | h0
    · have h2 := hcc 0 _ rfl
      rw [blk_cell hb, e1, show j / 2 * 2 + 0 = j by omega] at h2
      exact ⟨_, h2⟩
    · have h2 := hcc 1 _ rfl
      rw [blk_cell hb, e1, show j / 2 * 2 + 1 = j by omega] at h2
      exact ⟨_, h2⟩
def tabShape_ (l : List (S80)) : List (Nat × Nat) := l.map fun x => (x.f1.length, x.f2.length)
theorem tab_row {P : Nat → Prop} {w : World} {e base : Nat} {ok : Nat → Prop} {A : Option Addr} {n c : Nat} {l : List (S80)} (h : Kd.R k80 e w base ok (.slice A n c) l) (hP : ∀ k, ok k → P k) : TabRow_ P w A (tabShape_ l) := by
  obtain ⟨hl, _, _⟩ := Kd.R_reads' h
  by_cases hn : n = 0
  · exact .inl (by unfold tabShape_; rw [List.eq_nil_of_length_eq_zero (by omega : l.length = 0)]; rfl)
  · obtain ⟨g, cap, he, _, _, cells, hb⟩ := Kd.R_form h (by omega)
    injection he with hA _ _
    subst hA
    refine .inr ⟨g, cells, e, rfl, hP g (h.1 g rfl), hb, fun j p hj => ?_⟩
    unfold tabShape_ at hj
    rw [List.getElem?_map] at hj
    obtain ⟨x, hx, rfl⟩ := Option.map_eq_some_iff.1 hj
    have hjl : j < l.length := (List.getElem?_eq_some_iff.1 hx).1
    obtain ⟨cs, hcl, hM, hcc, _⟩ := Kd.R_elem h z80 (j : Int) (by omega) (by omega)
    rw [show l.getD ((j : Int)).toNat z80 = x by rw [Int.toNat_natCast, List.getD_eq_getElem?_getD, hx]; rfl] at hM
    obtain ⟨v1, v2, rfl, g1, g2⟩ := k80_openM hM
    obtain ⟨A1, c1, rfl⟩ := Kd.R_slice g1
    obtain ⟨A2, c2, rfl⟩ := Kd.R_slice g2
    have e1 : ((j : Nat) : Int).toNat * k80.sz = j * 3 := rfl
    have h0 := hcc 0 _ rfl
    have h1 := hcc 1 _ rfl
    have h2 := hcc 2 _ rfl
    rw [blk_cell hb, e1] at h0 h1 h2
    exact ⟨⟨_, h0⟩, ⟨A1, c1, h1, int_row g1 (fun k hk => hP k hk.1)⟩, ⟨A2, c2, h2, int_row g2 (fun k hk => hP k hk.1)⟩⟩
def pieShape_ (l : List (S103)) : List (Nat × List (Nat × Nat)) := l.map fun x => (x.f1.length, tabShape_ x.f2)
theorem pie_row {P : Nat → Prop} {w : World} {e base : Nat} {ok : Nat → Prop} {A : Option Addr} {n c : Nat} {l : List (S103)} (h : Kd.R k103 e w base ok (.slice A n c) l) (hP : ∀ k, ok k → P k) : PieRow_ P w A (pieShape_ l) := by
  obtain ⟨hl, _, _⟩ := Kd.R_reads' h
  by_cases hn : n = 0
  · exact .inl (by unfold pieShape_; rw [List.eq_nil_of_length_eq_zero (by omega : l.length = 0)]; rfl)
  · obtain ⟨g, cap, he, _, _, cells, hb⟩ := Kd.R_form h (by omega)
    injection he with hA _ _
    subst hA
    refine .inr ⟨g, cells, e, rfl, hP g (h.1 g rfl), hb, fun j p hj => ?_⟩
    unfold pieShape_ at hj
    rw [List.getElem?_map] at hj
    obtain ⟨x, hx, rfl⟩ := Option.map_eq_some_iff.1 hj
    have hjl : j < l.length := (List.getElem?_eq_some_iff.1 hx).1
    obtain ⟨cs, hcl, hM, hcc, _⟩ := Kd.R_elem h z103 (j : Int) (by omega) (by omega)
    rw [show l.getD ((j : Int)).toNat z103 = x by rw [Int.toNat_natCast, List.getD_eq_getElem?_getD, hx]; rfl] at hM
    obtain ⟨v1, v2, rfl, g1, g2⟩ := k103_openM hM
    obtain ⟨A1, c1, rfl⟩ := Kd.R_slice g1
    obtain ⟨A2, c2, rfl⟩ := Kd.R_slice g2
    have e1 : ((j : Nat) : Int).toNat * k103.sz = j * 4 := rfl
    have h0 := hcc 0 _ rfl
    have h1 := hcc 1 _ rfl
    have h2 := hcc 2 _ rfl
    have h3 := hcc 3 _ rfl
    rw [blk_cell hb, e1] at h0 h1 h2 h3
    refine ⟨⟨_, h0⟩, ⟨_, h1⟩, ⟨A1, c1, h2, link_row g1 (fun k hk => hP k hk.1)⟩, ⟨A2, c2, ?_, tab_row g2 (fun k hk => hP k hk.1)⟩⟩
    rw [show (tabShape_ x.f2).length = x.f2.length from List.length_map _]
    exact h3
theorem Mk_.alloc {P : Nat → Prop} {w W : World} (h : Mk_ P w W) (o : Obj) : Mk_ P w (W.alloc o) := by
  have hb := wA_ (Below.refl W.heap.size W) o
  exact h.then_ ⟨⟨hb.os, hb.tape, hb.output, hb.size, fun k hk => absurd hk (Nat.not_lt_zero k)⟩, fun b hlt _ => hb.block b hlt, fun b cells t hc => ⟨cells, (hb.block b (blk_lt hc)).trans hc, fun _ u hu => ⟨u, hu, .inl rfl⟩⟩⟩
def laws_markProgram.f (a0_0 : Int) (a0_1 : Int) (a0_2 : Int) (l0_3 : List (S103)) (a1 : Int) : Option (Int) := if 0 ≤ a1 ∧ a1 + (pieSize_ (pieShape_ l0_3) : Int) ≤ 4000000000 then some (a1 + (pieSize_ (pieShape_ l0_3) : Int)) else none
set_option maxHeartbeats 2000000 in
set_option maxRecDepth 100000 in
theorem laws_markProgram.calls (a0_0 : Int) (a0_1 : Int) (a0_2 : Int) (P0_ : Nat → Prop) (u9000_ : Value) (l0_3 : List (S103)) (a1 : Int) (r1 : Int) (w0 w : World) (hB : Below w0.heap.size w0 w) (ho0 : Kd.R k103 103 w w0.heap.size P0_ u9000_ l0_3) (h : laws_markProgram.f a0_0 a0_1 a0_2 l0_3 a1 = some r1) :
    Calls Try.prog 22 #[.agg #[.int .i64 a0_0, .int .i64 a0_1, .int .i64 a0_2, u9000_], .int .i64 a1] w fun e w' => e = .returned (.int .i64 r1) ∧ Below w0.heap.size w0 w' ∧ Kept w w' (fun k_ => P0_ k_) := by
  unfold laws_markProgram.f at h
  split at h
  · rename_i hs
    obtain rfl := Option.some.inj h
    obtain ⟨A, c, rfl⟩ := Kd.R_slice ho0
    have HP := aM_ (pie_row (P := fun k => P0_ k ∧ w0.heap.size ≤ k) (Kd.R_bound ho0) (fun k hk => ⟨hk.1, hk.2.1⟩))
    have HS := aM_ hs
    have HB := aM_ hB
    have HL := aM_ (show (pieShape_ l0_3).length = l0_3.length from List.length_map _)
    clear h hs ho0 hB
    generalize pieShape_ l0_3 = ns at HP HS HL
    generalize l0_3.length = n at HL
    go_enter Try.func22, Try.ntmps22
    go_wp2_with (go_at_call 58; refine (marks_pieces (fun k => P0_ k ∧ w0.heap.size ≤ k) A n c ns HL.out a1 _ HS.out.1 HS.out.2 (HP.out.mk_ (by repeat (first | exact Mk_.refl _ _ | apply Mk_.alloc | apply Mk_.drewN)))).mono ?_; rintro e w2 ⟨rfl, hm⟩)
    go_ret
    have hw : Mk_ (fun k => P0_ k ∧ w0.heap.size ≤ k) w w2 := Mk_.then_ (by repeat (first | exact Mk_.refl _ _ | apply Mk_.alloc | apply Mk_.drewN)) hm
    exact ⟨rfl, HB.out.trans ⟨hw.1.os, hw.1.tape, hw.1.output, hw.1.size, fun b hb => hw.2.1 b (Nat.lt_of_lt_of_le hb HB.out.size) (fun h => Nat.lt_irrefl _ (Nat.lt_of_lt_of_le hb h.2))⟩, hw.1.size, fun b hb hn => hw.2.1 b hb (fun h => hn h.1)⟩
  · cases h

/-! ### spec_l1In: function 43 -/
def spec_l1In.f (a0 : Int) (a1 : Int) (a2 : Int) : Option (Bool) := if a0 ≥ a1 then (some (decide (a0 ≤ a2))) else (some false)
set_option maxHeartbeats 8000000 in
set_option maxRecDepth 100000 in
theorem spec_l1In.calls (a0 : Int) (a1 : Int) (a2 : Int) (r : Bool) (w : World) (h : spec_l1In.f a0 a1 a2 = some r) :
    Calls Try.prog 43 #[.int .i64 a0, .int .i64 a1, .int .i64 a2] w fun e w' => e = .returned (.bool r) ∧ Drawn0 w w' := by
  have H : (if a0 ≥ a1 then (some (decide (a0 ≤ a2))) else (some false)) = some r := h
  clear h
  by_cases c4 : a0 ≥ a1
  · rw [if_pos c4] at H
    have c4b0 : decide (a1 ≤ a0) = true := decide_eq_true c4
    clear c4
    obtain rfl := Option.some.inj H
    go_enter Try.func43, Try.ntmps43
    go_wp2
    go_ret
    exact ⟨by first | rfl | (simp; done) | (simp [*]; done), by repeat (first | exact Drawn0.refl _ | apply Drawn0.step)⟩
  · rw [if_neg c4] at H
    have c4b0 : decide (a1 ≤ a0) = false := decide_eq_false c4
    clear c4
    obtain rfl := Option.some.inj H
    go_enter Try.func43, Try.ntmps43
    go_wp2
    go_ret
    exact ⟨by first | rfl | (simp; done) | (simp [*]; done), by repeat (first | exact Drawn0.refl _ | apply Drawn0.step)⟩

/-! ### spec_HasLink: function 87 -/
def spec_HasLink.l0 : Nat → Int → Int → List (S123) → Int → Option (Bool)
  | 0, _, _, _, _ => none
  | k + 1, x2, x3, x9, x10 => if x10 < (x9.length : Int) then (if 0 ≤ x10 then (if (((rd_T123 x9 x10).f0) == x2 && (((rd_T123 x9 x10).f1) == x3)) = true then (some true) else (if (((rd_T123 x9 x10).f0) == x3 && (((rd_T123 x9 x10).f1) == x2)) = true then (some true) else (spec_HasLink.l0 k x2 x3 x9 (wrap64 (x10 + 1))))) else (none)) else (some false)
def spec_HasLink.f (k : Nat) (a0_0 : Int) (a0_1 : Int) (a0_2 : Int) (l0_3 : List (S103)) (a1 : Int) (a2 : Int) (a3 : Int) : Option (Bool) := (spec_l1In.f a1 0 (wrap64 ((l0_3.length : Int) - 1))).bind fun t214 => (if t214 = true then (if 0 ≤ a1 then (if a1 < (l0_3.length : Int) then (spec_HasLink.l0 k a2 a3 ((rd_T103 l0_3 a1).f1) 0) else (none)) else (none)) else (some false))
theorem spec_HasLink.mono_l : ∀ k, (∀ y0 y1 y2 y3, LeO (spec_HasLink.l0 k y0 y1 y2 y3) (spec_HasLink.l0 (k + 1) y0 y1 y2 y3))
  | 0 => fun _ _ _ _ r h => by simp [spec_HasLink.l0] at h
  | k + 1 => by
    have ih0 := spec_HasLink.mono_l k
    · intro y0 y1 y2 y3
      unfold spec_HasLink.l0
      repeat' first
      | (with_reducible exact ih0 _ _ _ _)
      | (with_reducible exact LeO.refl _)
      | (with_reducible exact LeO.none _)
      | (with_reducible refine LeO.ite ?_ ?_)
      | (with_reducible refine LeO.bind ?_ (fun _ => ?_))
      | exact ih0 _ _ _ _
      | exact LeO.none _
      | refine LeO.ite ?_ ?_
      | refine LeO.bind ?_ (fun _ => ?_)
theorem spec_HasLink.mono : ∀ a0 a1 a2 a3 a4 a5 a6 k, LeO (spec_HasLink.f k a0 a1 a2 a3 a4 a5 a6) (spec_HasLink.f (k + 1) a0 a1 a2 a3 a4 a5 a6) := by
  intro a0 a1 a2 a3 a4 a5 a6 k
  have ih0 := spec_HasLink.mono_l k
  unfold spec_HasLink.f
  repeat' first
      | (with_reducible exact ih0 _ _ _ _)
      | (with_reducible exact LeO.refl _)
      | (with_reducible exact LeO.none _)
      | (with_reducible refine LeO.ite ?_ ?_)
      | (with_reducible refine LeO.bind ?_ (fun _ => ?_))
      | exact ih0 _ _ _ _
      | exact LeO.none _
      | refine LeO.ite ?_ ?_
      | refine LeO.bind ?_ (fun _ => ?_)
set_option maxHeartbeats 8000000 in
set_option maxRecDepth 100000 in
theorem spec_HasLink.calls (k : Nat) (a0_0 : Int) (a0_1 : Int) (a0_2 : Int) (A0_3 : Option Addr) (c0_3 : Nat) (l0_3 : List (S103)) (a1 : Int) (a2 : Int) (a3 : Int) (r : Bool) (w : World) (hr0_3 : Kd.C k103 w A0_3 l0_3.length l0_3) (hc0_3 : l0_3.length ≤ c0_3) (h : spec_HasLink.f k a0_0 a0_1 a0_2 l0_3 a1 a2 a3 = some r) :
  Calls Try.prog 87 #[.agg #[.int .i64 a0_0, .int .i64 a0_1, .int .i64 a0_2, .slice A0_3 l0_3.length c0_3], .int .i64 a1, .int .i64 a2, .int .i64 a3] w fun e w' => e = .returned (.bool r) ∧ Below w.heap.size w w' := by
 have hu31 := Try.underlying31; have hu123 := Try.underlying123; have HR0_3 := aM_ hr0_3; have HC0_3 := aM_ hc0_3; clear hr0_3 hc0_3; have HB := aM_ (Below.refl w.heap.size w)
 have H : ((spec_l1In.f a1 0 (wrap64 ((l0_3.length : Int) - 1))).bind fun t214 => (if t214 = true then (if 0 ≤ a1 then (if a1 < (l0_3.length : Int) then (spec_HasLink.l0 k a2 a3 ((rd_T103 l0_3 a1).f1) 0) else (none)) else (none)) else (some false))) = some r := h
 clear h
 replace H := Option.bind_eq_some_iff.mp H
 obtain ⟨t214, A50, H⟩ := H
 (try dsimp only at H)
 have A5 := aM_ A50; clear A50
 by_cases c6 : t214 = true
 ·subst c6
  have H1 : (if 0 ≤ a1 then (if a1 < (l0_3.length : Int) then (spec_HasLink.l0 k a2 a3 ((rd_T103 l0_3 a1).f1) 0) else (none)) else (none)) = some r := by rw [if_pos rfl] at H; exact H
  clear H; have H := H1; clear H1
  by_cases c7 : 0 ≤ a1
  ·rw [if_pos c7] at H
   have c7b0 : decide (0 ≤ a1) = true := decide_eq_true c7
   clear c7
   by_cases c8 : a1 < (l0_3.length : Int)
   ·rw [if_pos c8] at H
    have c8b0 : decide (a1 < (l0_3.length : Int)) = true := decide_eq_true c8
    clear c8
    have H' := aM_ H
    clear H
    go_enter Try.func87, Try.ntmps87
    go_wp2_with (first | ((with_reducible refine gate_dst (N := 4) rfl ?_); refine box_event ?hg (N := 4) ?hd (cs := #[.int .i64 a0_0, .int .i64 a0_1, .int .i64 a0_2, .slice A0_3 l0_3.length c0_3]) (t := 31) ?hr ?_; (case hd => rfl); (case hg => rfl); (case hr => first | (go_simp; done) | (go_simp; rfl)); intro gb213 hg w9 hbox hb; have n0_ := aM_ (wS_ (by repeat (first | (with_reducible first | exact HB.out | apply wA_ | apply wN_ | apply wD_) | exact HB.out)) hb); have n1_ := aM_ (hbox); have n2_ := aM_ ((by rw [hg]; exact (sZ_ (by repeat (first | (with_reducible first | exact HB.out | apply wA_ | apply wN_ | apply wD_) | exact HB.out))) : w.heap.size ≤ gb213)); have n3_ := aM_ ((by rw [hg]; exact (sZ_ (by repeat (first | (with_reducible first | exact HB.out | apply wA_ | apply wN_ | apply wD_) | exact HB.out))) : w.heap.size ≤ gb213)); clear HB; have HB := n0_; have BK213 := n1_; have GW213 := n2_; have GE213 := n3_; clear n0_ n1_ n2_ n3_; clear hb hbox hg; have hcz10_0 : w9.cell? ⟨gb213, 0, none⟩ = some (.int .i64 a0_0) := (blk_cell BK213.out 0).trans rfl; have hcz10_1 : w9.cell? ⟨gb213, 1, none⟩ = some (.int .i64 a0_1) := (blk_cell BK213.out 1).trans rfl; have hcz10_2 : w9.cell? ⟨gb213, 2, none⟩ = some (.int .i64 a0_2) := (blk_cell BK213.out 2).trans rfl; have hcz10_3 : w9.cell? ⟨gb213, 3, none⟩ = some (.slice A0_3 l0_3.length c0_3) := (blk_cell BK213.out 3).trans rfl; have hfz10_0 := blk_frozen BK213.out 0; have hfz10_1 := blk_frozen BK213.out 1; have hfz10_2 := blk_frozen BK213.out 2; have hfz10_3 := blk_frozen BK213.out 3) | ((with_reducible refine gate_callee (f := 43) rfl ?_); refine goesL_ (some 16) rfl rfl Try.func43 (by kernel_rfl) rfl #[.int .i64 a1, .int .i64 0, .int .i64 (wrap64 ((l0_3.length : Int) - 1))] rfl (by (try simp only [List.map_toArray, List.map_cons, List.map_nil]); first | done | rfl | (simp only [List.length_drop, List.length_take]; rfl)) ?_; (first | (with_reducible refine (spec_l1In.calls a1 0 (wrap64 ((l0_3.length : Int) - 1)) true _ A5.out).mono ?_) | (with_reducible refine (spec_l1In.calls a1 0 (IntKind.i64.wrap ((l0_3.length : Int) - 1)) true _ (by rw [i64_w]; exact A5.out)).mono ?_)); rintro e w' ⟨rfl, ⟨nd, rfl⟩⟩; refine ⟨_, rfl, ?_⟩; have p215 : 0 ≤ (a1 : Int) := of_decide_eq_true (by first | (with_reducible assumption) | assumption); have q215 : a1 < (l0_3.length : Int) := of_decide_eq_true (by first | (with_reducible assumption) | assumption); obtain ⟨ad215, A215_2, c215_2, A215_3, c215_3, e215, hx215_0, hx215_1, hx215_2, hx215_3, hl215_2, hi215_2, hl215_3, hi215_3⟩ := at_T103 HR0_3.out a1 p215 q215; cases e215; replace hx215_0 := (HB.out.cell (World.block_lt_of_cell? w _ hx215_0)).trans hx215_0; replace hx215_1 := (HB.out.cell (World.block_lt_of_cell? w _ hx215_1)).trans hx215_1; replace hx215_2 := (HB.out.cell (World.block_lt_of_cell? w _ hx215_2)).trans hx215_2; replace hx215_3 := (HB.out.cell (World.block_lt_of_cell? w _ hx215_3)).trans hx215_3; have HR215_2 := aM_ hi215_2; have HC215_2 := aM_ hl215_2; clear hi215_2 hl215_2; have HR215_3 := aM_ hi215_3; have HC215_3 := aM_ hl215_3; clear hi215_3 hl215_3; replace p215 := eq_true p215; replace q215 := eq_true q215))
    go_loopg [10] k (fun kq v10 w' => ∃ (x10_1 : Int), v10 = .int .i64 x10_1 ∧ Aside0 (spec_HasLink.l0 kq a2 a3 ((rd_T103 l0_3 a1).f1) x10_1 = some r) ∧ Aside0 (kq ≤ k) ∧ Aside0 (w'.heap[gb213]? = some (.cells #[.int .i64 a0_0, .int .i64 a0_1, .int .i64 a0_2, (.slice (some ad215) l0_3.length c0_3)] 31 (0, 0))) ∧ Aside0 (Below w.heap.size w w'))
    case atStart => exact ⟨(0), (by first | rfl | (simp; done) | (simp [*]; done)), H', ⟨Nat.le_refl _⟩, ⟨by (with_reducible repeat (first | refine bN_ ?_ _ | refine bD_ ?_ | refine bA_ ?_ _)); exact BK213.out⟩, ⟨by repeat (first | (with_reducible first | exact HB.out | apply wA_ | apply wN_ | apply wD_ | refine wE_ ?_ GE213.out) | exact HB.out)⟩⟩
    case round =>
     clear H'
     try clear c2
     try clear p2
     try clear q2
     try clear hx2
     try clear c4
     try clear c6
     try clear p6
     try clear c7
     try clear c7b0
     try clear c8
     try clear c8b0
     try clear hcz10_0
     try clear hcz10_1
     try clear hcz10_2
     try clear hcz10_3
     try clear hfz10_0
     try clear hfz10_1
     try clear hfz10_2
     try clear hfz10_3
     try clear hx215_0
     try clear hx215_1
     try clear hx215_2
     try clear hx215_3
     try clear p215
     try clear q215
     obtain ⟨x10_1, rfl, HA, HK1, BK213, HB⟩ := hrel
     cases gk with
     | zero => exact absurd HA.out (by simp [spec_HasLink.l0])
     | succ k1 =>
      have H := HA.out; clear HA
      simp only [spec_HasLink.l0] at H
      by_cases c11 : x10_1 < (((rd_T103 l0_3 a1).f1).length : Int)
      ·rw [if_pos c11] at H
       have c11b0 : decide (x10_1 < (((rd_T103 l0_3 a1).f1).length : Int)) = true := decide_eq_true c11
       clear c11
       by_cases c12 : 0 ≤ x10_1
       ·rw [if_pos c12] at H
        have c12b0 : decide (0 ≤ x10_1) = true := decide_eq_true c12
        clear c12
        by_cases c13 : (((rd_T123 ((rd_T103 l0_3 a1).f1) x10_1).f0) == a2 && (((rd_T123 ((rd_T103 l0_3 a1).f1) x10_1).f1) == a3)) = true
        ·rw [if_pos c13] at H
         have c13b0 : (((rd_T123 ((rd_T103 l0_3 a1).f1) x10_1).f0) == a2 && (((rd_T123 ((rd_T103 l0_3 a1).f1) x10_1).f1) == a3)) = true := c13
         (try (have c13b1 : decide (((rd_T123 ((rd_T103 l0_3 a1).f1) x10_1).f0) = a2 && (((rd_T123 ((rd_T103 l0_3 a1).f1) x10_1).f1) == a3)) = true := by simpa using c13))
         (try (have c13b2 : (((rd_T123 ((rd_T103 l0_3 a1).f1) x10_1).f0) == a2 && (((rd_T123 ((rd_T103 l0_3 a1).f1) x10_1).f1) == a3)) = true := by simpa using c13))
         clear c13
         obtain rfl := Option.some.inj H
         have p216 : 0 ≤ (x10_1 : Int) := of_decide_eq_true (by first | (with_reducible assumption) | assumption)
         have q216 : x10_1 < (((rd_T103 l0_3 a1).f1).length : Int) := of_decide_eq_true (by first | (with_reducible assumption) | assumption)
         obtain ⟨ad216, e216, hx216_0, hx216_1⟩ := at_T123 HR215_2.out x10_1 p216 q216
         cases e216
         replace hx216_0 := (HB.out.cell (World.block_lt_of_cell? w _ hx216_0)).trans hx216_0
         replace hx216_1 := (HB.out.cell (World.block_lt_of_cell? w _ hx216_1)).trans hx216_1
         replace p216 := eq_true p216; replace q216 := eq_true q216
         go_wp2
         go_ret
         exact ⟨by first | rfl | (simp [errW_none, errW_some] <;> rfl) | (simp [*, errW_none, errW_some] <;> rfl), by repeat (first | (with_reducible first | exact HB.out | apply wA_ | apply wN_ | apply wD_ | refine wE_ ?_ GE213.out) | exact HB.out)⟩
        ·rw [if_neg c13] at H
         have c13b0 : (((rd_T123 ((rd_T103 l0_3 a1).f1) x10_1).f0) == a2 && (((rd_T123 ((rd_T103 l0_3 a1).f1) x10_1).f1) == a3)) = false := by simpa using c13
         (try (have c13b1 : decide (((rd_T123 ((rd_T103 l0_3 a1).f1) x10_1).f0) = a2 && (((rd_T123 ((rd_T103 l0_3 a1).f1) x10_1).f1) == a3)) = false := by simpa using c13))
         (try (have c13b2 : (((rd_T123 ((rd_T103 l0_3 a1).f1) x10_1).f0) == a2 && (((rd_T123 ((rd_T103 l0_3 a1).f1) x10_1).f1) == a3)) = false := by simpa using c13))
         (try (have c13b3 : ¬ (((rd_T123 ((rd_T103 l0_3 a1).f1) x10_1).f0) = a2 && (((rd_T123 ((rd_T103 l0_3 a1).f1) x10_1).f1) == a3)) := by simpa using c13))
         clear c13
         by_cases c14 : (((rd_T123 ((rd_T103 l0_3 a1).f1) x10_1).f0) == a3 && (((rd_T123 ((rd_T103 l0_3 a1).f1) x10_1).f1) == a2)) = true
         ·rw [if_pos c14] at H
          have c14b0 : (((rd_T123 ((rd_T103 l0_3 a1).f1) x10_1).f0) == a3 && (((rd_T123 ((rd_T103 l0_3 a1).f1) x10_1).f1) == a2)) = true := c14
          (try (have c14b1 : decide (((rd_T123 ((rd_T103 l0_3 a1).f1) x10_1).f0) = a3 && (((rd_T123 ((rd_T103 l0_3 a1).f1) x10_1).f1) == a2)) = true := by simpa using c14))
          (try (have c14b2 : (((rd_T123 ((rd_T103 l0_3 a1).f1) x10_1).f0) == a3 && (((rd_T123 ((rd_T103 l0_3 a1).f1) x10_1).f1) == a2)) = true := by simpa using c14))
          clear c14
          obtain rfl := Option.some.inj H
          have p216 : 0 ≤ (x10_1 : Int) := of_decide_eq_true (by first | (with_reducible assumption) | assumption)
          have q216 : x10_1 < (((rd_T103 l0_3 a1).f1).length : Int) := of_decide_eq_true (by first | (with_reducible assumption) | assumption)
          obtain ⟨ad216, e216, hx216_0, hx216_1⟩ := at_T123 HR215_2.out x10_1 p216 q216
          cases e216
          replace hx216_0 := (HB.out.cell (World.block_lt_of_cell? w _ hx216_0)).trans hx216_0
          replace hx216_1 := (HB.out.cell (World.block_lt_of_cell? w _ hx216_1)).trans hx216_1
          replace p216 := eq_true p216; replace q216 := eq_true q216
          have p217 : 0 ≤ (x10_1 : Int) := of_decide_eq_true (by first | (with_reducible assumption) | assumption)
          have q217 : x10_1 < (((rd_T103 l0_3 a1).f1).length : Int) := of_decide_eq_true (by first | (with_reducible assumption) | assumption)
          obtain ⟨ad217, e217, hx217_0, hx217_1⟩ := at_T123 HR215_2.out x10_1 p217 q217
          obtain rfl : ad216 = ad217 := (by injection e217)
          replace hx217_0 := (HB.out.cell (World.block_lt_of_cell? w _ hx217_0)).trans hx217_0
          replace hx217_1 := (HB.out.cell (World.block_lt_of_cell? w _ hx217_1)).trans hx217_1
          replace p217 := eq_true p217; replace q217 := eq_true q217
          go_wp2
          go_ret
          exact ⟨by first | rfl | (simp [errW_none, errW_some] <;> rfl) | (simp [*, errW_none, errW_some] <;> rfl), by repeat (first | (with_reducible first | exact HB.out | apply wA_ | apply wN_ | apply wD_ | refine wE_ ?_ GE213.out) | exact HB.out)⟩
         ·rw [if_neg c14] at H
          have c14b0 : (((rd_T123 ((rd_T103 l0_3 a1).f1) x10_1).f0) == a3 && (((rd_T123 ((rd_T103 l0_3 a1).f1) x10_1).f1) == a2)) = false := by simpa using c14
          (try (have c14b1 : decide (((rd_T123 ((rd_T103 l0_3 a1).f1) x10_1).f0) = a3 && (((rd_T123 ((rd_T103 l0_3 a1).f1) x10_1).f1) == a2)) = false := by simpa using c14))
          (try (have c14b2 : (((rd_T123 ((rd_T103 l0_3 a1).f1) x10_1).f0) == a3 && (((rd_T123 ((rd_T103 l0_3 a1).f1) x10_1).f1) == a2)) = false := by simpa using c14))
          (try (have c14b3 : ¬ (((rd_T123 ((rd_T103 l0_3 a1).f1) x10_1).f0) = a3 && (((rd_T123 ((rd_T103 l0_3 a1).f1) x10_1).f1) == a2)) := by simpa using c14))
          clear c14
          have H' := aM_ H
          clear H
          have p216 : 0 ≤ (x10_1 : Int) := of_decide_eq_true (by first | (with_reducible assumption) | assumption)
          have q216 : x10_1 < (((rd_T103 l0_3 a1).f1).length : Int) := of_decide_eq_true (by first | (with_reducible assumption) | assumption)
          obtain ⟨ad216, e216, hx216_0, hx216_1⟩ := at_T123 HR215_2.out x10_1 p216 q216
          cases e216
          replace hx216_0 := (HB.out.cell (World.block_lt_of_cell? w _ hx216_0)).trans hx216_0
          replace hx216_1 := (HB.out.cell (World.block_lt_of_cell? w _ hx216_1)).trans hx216_1
          replace p216 := eq_true p216; replace q216 := eq_true q216
          have p217 : 0 ≤ (x10_1 : Int) := of_decide_eq_true (by first | (with_reducible assumption) | assumption)
          have q217 : x10_1 < (((rd_T103 l0_3 a1).f1).length : Int) := of_decide_eq_true (by first | (with_reducible assumption) | assumption)
          obtain ⟨ad217, e217, hx217_0, hx217_1⟩ := at_T123 HR215_2.out x10_1 p217 q217
          obtain rfl : ad216 = ad217 := (by injection e217)
          replace hx217_0 := (HB.out.cell (World.block_lt_of_cell? w _ hx217_0)).trans hx217_0
          replace hx217_1 := (HB.out.cell (World.block_lt_of_cell? w _ hx217_1)).trans hx217_1
          replace p217 := eq_true p217; replace q217 := eq_true q217
          go_wp2
          go_roundg k1
          case measure => have := HK1.out; omega
          case rel => exact ⟨(wrap64 (x10_1 + 1)), (by first | rfl | (simp; done) | (simp [*]; done)), H', ⟨by have := HK1.out; omega⟩, ⟨by (with_reducible repeat (first | refine bN_ ?_ _ | refine bD_ ?_ | refine bA_ ?_ _)); exact BK213.out⟩, ⟨by repeat (first | (with_reducible first | exact HB.out | apply wA_ | apply wN_ | apply wD_ | refine wE_ ?_ GE213.out) | exact HB.out)⟩⟩
       ·rw [if_neg c12] at H
        exact absurd H (by simp)
      ·rw [if_neg c11] at H
       have c11b0 : decide (x10_1 < (((rd_T103 l0_3 a1).f1).length : Int)) = false := decide_eq_false c11
       clear c11
       obtain rfl := Option.some.inj H
       go_wp2
       go_ret
       exact ⟨by first | rfl | (simp [errW_none, errW_some] <;> rfl) | (simp [*, errW_none, errW_some] <;> rfl), by repeat (first | (with_reducible first | exact HB.out | apply wA_ | apply wN_ | apply wD_ | refine wE_ ?_ GE213.out) | exact HB.out)⟩
   ·rw [if_neg c8] at H
    exact absurd H (by simp)
  ·rw [if_neg c7] at H
   exact absurd H (by simp)
 ·replace c6 := Bool.eq_false_iff.mpr c6
  subst c6
  have H1 : (some false) = some r := by rw [if_neg (show ¬ (false = true) by decide)] at H; exact H
  clear H; have H := H1; clear H1
  obtain rfl := Option.some.inj H
  go_enter Try.func87, Try.ntmps87
  go_wp2_with (first | ((with_reducible refine gate_dst (N := 4) rfl ?_); refine box_event ?hg (N := 4) ?hd (cs := #[.int .i64 a0_0, .int .i64 a0_1, .int .i64 a0_2, .slice A0_3 l0_3.length c0_3]) (t := 31) ?hr ?_; (case hd => rfl); (case hg => rfl); (case hr => first | (go_simp; done) | (go_simp; rfl)); intro gb213 hg w15 hbox hb; have n0_ := aM_ (wS_ (by repeat (first | (with_reducible first | exact HB.out | apply wA_ | apply wN_ | apply wD_) | exact HB.out)) hb); have n1_ := aM_ (hbox); have n2_ := aM_ ((by rw [hg]; exact (sZ_ (by repeat (first | (with_reducible first | exact HB.out | apply wA_ | apply wN_ | apply wD_) | exact HB.out))) : w.heap.size ≤ gb213)); have n3_ := aM_ ((by rw [hg]; exact (sZ_ (by repeat (first | (with_reducible first | exact HB.out | apply wA_ | apply wN_ | apply wD_) | exact HB.out))) : w.heap.size ≤ gb213)); clear HB; have HB := n0_; have BK213 := n1_; have GW213 := n2_; have GE213 := n3_; clear n0_ n1_ n2_ n3_; clear hb hbox hg; have hcz16_0 : w15.cell? ⟨gb213, 0, none⟩ = some (.int .i64 a0_0) := (blk_cell BK213.out 0).trans rfl; have hcz16_1 : w15.cell? ⟨gb213, 1, none⟩ = some (.int .i64 a0_1) := (blk_cell BK213.out 1).trans rfl; have hcz16_2 : w15.cell? ⟨gb213, 2, none⟩ = some (.int .i64 a0_2) := (blk_cell BK213.out 2).trans rfl; have hcz16_3 : w15.cell? ⟨gb213, 3, none⟩ = some (.slice A0_3 l0_3.length c0_3) := (blk_cell BK213.out 3).trans rfl; have hfz16_0 := blk_frozen BK213.out 0; have hfz16_1 := blk_frozen BK213.out 1; have hfz16_2 := blk_frozen BK213.out 2; have hfz16_3 := blk_frozen BK213.out 3) | ((with_reducible refine gate_callee (f := 43) rfl ?_); refine goesL_ (some 16) rfl rfl Try.func43 (by kernel_rfl) rfl #[.int .i64 a1, .int .i64 0, .int .i64 (wrap64 ((l0_3.length : Int) - 1))] rfl (by (try simp only [List.map_toArray, List.map_cons, List.map_nil]); first | done | rfl | (simp only [List.length_drop, List.length_take]; rfl)) ?_; (first | (with_reducible refine (spec_l1In.calls a1 0 (wrap64 ((l0_3.length : Int) - 1)) false _ A5.out).mono ?_) | (with_reducible refine (spec_l1In.calls a1 0 (IntKind.i64.wrap ((l0_3.length : Int) - 1)) false _ (by rw [i64_w]; exact A5.out)).mono ?_)); rintro e w' ⟨rfl, ⟨nd, rfl⟩⟩; refine ⟨_, rfl, ?_⟩))
  go_ret
  exact ⟨by first | rfl | (simp [errW_none, errW_some] <;> rfl) | (simp [*, errW_none, errW_some] <;> rfl), by repeat (first | (with_reducible first | exact HB.out | apply wA_ | apply wN_ | apply wD_ | refine wE_ ?_ GE213.out) | exact HB.out)⟩

/-! ### spec_IsSpan: function 127 -/
def spec_IsSpan.f (a0_0 : Int) (a0_1 : Int) : Option (Bool) := if a0_0 ≥ 0 then (if a0_1 ≤ 1000 then (some (decide (a0_0 < a0_1))) else (some false)) else (some false)
set_option maxHeartbeats 8000000 in
set_option maxRecDepth 100000 in
theorem spec_IsSpan.calls (a0_0 : Int) (a0_1 : Int) (r : Bool) (w : World) (h : spec_IsSpan.f a0_0 a0_1 = some r) :
    Calls Try.prog 127 #[.agg #[.int .i64 a0_0, .int .i64 a0_1]] w fun e w' => e = .returned (.bool r) ∧ Below w.heap.size w w' := by
  have hu99 := Try.underlying99
  have HB := aM_ (Below.refl w.heap.size w)
  have H : (if a0_0 ≥ 0 then (if a0_1 ≤ 1000 then (some (decide (a0_0 < a0_1))) else (some false)) else (some false)) = some r := h
  clear h
  by_cases c2 : a0_0 ≥ 0
  · rw [if_pos c2] at H
    have c2b0 : decide (0 ≤ a0_0) = true := decide_eq_true c2
    clear c2
    by_cases c3 : a0_1 ≤ 1000
    · rw [if_pos c3] at H
      have c3b0 : decide (a0_1 ≤ 1000) = true := decide_eq_true c3
      clear c3
      obtain rfl := Option.some.inj H
      go_enter Try.func127, Try.ntmps127
      go_wp2_with (first | ((with_reducible refine gate_dst (N := 1) rfl ?_); refine box_event ?hg (N := 1) ?hd (cs := #[.int .i64 a0_0, .int .i64 a0_1]) (t := 99) ?hr ?_; (case hd => rfl); (case hg => rfl); (case hr => first | (go_simp; done) | (go_simp; rfl)); intro gb218 hg w4 hbox hb; have n0_ := aM_ (wS_ (by repeat (first | (with_reducible first | exact HB.out | apply wA_ | apply wN_ | apply wD_) | exact HB.out)) hb); have n1_ := aM_ (hbox); have n2_ := aM_ ((by rw [hg]; exact (sZ_ (by repeat (first | (with_reducible first | exact HB.out | apply wA_ | apply wN_ | apply wD_) | exact HB.out))) : w.heap.size ≤ gb218)); have n3_ := aM_ ((by rw [hg]; exact (sZ_ (by repeat (first | (with_reducible first | exact HB.out | apply wA_ | apply wN_ | apply wD_) | exact HB.out))) : w.heap.size ≤ gb218)); clear HB; have HB := n0_; have BK218 := n1_; have GW218 := n2_; have GE218 := n3_; clear n0_ n1_ n2_ n3_; clear hb hbox hg; have hcz5_0 : w4.cell? ⟨gb218, 0, none⟩ = some (.int .i64 a0_0) := (blk_cell BK218.out 0).trans rfl; have hcz5_1 : w4.cell? ⟨gb218, 1, none⟩ = some (.int .i64 a0_1) := (blk_cell BK218.out 1).trans rfl; have hfz5_0 := blk_frozen BK218.out 0; have hfz5_1 := blk_frozen BK218.out 1))
      go_ret
      exact ⟨by first | rfl | (simp [errW_none, errW_some] <;> rfl) | (simp [*, errW_none, errW_some] <;> rfl), by repeat (first | (with_reducible first | exact HB.out | apply wA_ | apply wN_ | apply wD_ | refine wE_ ?_ GE218.out) | exact HB.out)⟩
    · rw [if_neg c3] at H
      have c3b0 : decide (a0_1 ≤ 1000) = false := decide_eq_false c3
      clear c3
      obtain rfl := Option.some.inj H
      go_enter Try.func127, Try.ntmps127
      go_wp2_with (first | ((with_reducible refine gate_dst (N := 1) rfl ?_); refine box_event ?hg (N := 1) ?hd (cs := #[.int .i64 a0_0, .int .i64 a0_1]) (t := 99) ?hr ?_; (case hd => rfl); (case hg => rfl); (case hr => first | (go_simp; done) | (go_simp; rfl)); intro gb218 hg w6 hbox hb; have n0_ := aM_ (wS_ (by repeat (first | (with_reducible first | exact HB.out | apply wA_ | apply wN_ | apply wD_) | exact HB.out)) hb); have n1_ := aM_ (hbox); have n2_ := aM_ ((by rw [hg]; exact (sZ_ (by repeat (first | (with_reducible first | exact HB.out | apply wA_ | apply wN_ | apply wD_) | exact HB.out))) : w.heap.size ≤ gb218)); have n3_ := aM_ ((by rw [hg]; exact (sZ_ (by repeat (first | (with_reducible first | exact HB.out | apply wA_ | apply wN_ | apply wD_) | exact HB.out))) : w.heap.size ≤ gb218)); clear HB; have HB := n0_; have BK218 := n1_; have GW218 := n2_; have GE218 := n3_; clear n0_ n1_ n2_ n3_; clear hb hbox hg; have hcz7_0 : w6.cell? ⟨gb218, 0, none⟩ = some (.int .i64 a0_0) := (blk_cell BK218.out 0).trans rfl; have hcz7_1 : w6.cell? ⟨gb218, 1, none⟩ = some (.int .i64 a0_1) := (blk_cell BK218.out 1).trans rfl; have hfz7_0 := blk_frozen BK218.out 0; have hfz7_1 := blk_frozen BK218.out 1))
      go_ret
      exact ⟨by first | rfl | (simp [errW_none, errW_some] <;> rfl) | (simp [*, errW_none, errW_some] <;> rfl), by repeat (first | (with_reducible first | exact HB.out | apply wA_ | apply wN_ | apply wD_ | refine wE_ ?_ GE218.out) | exact HB.out)⟩
  · rw [if_neg c2] at H
    have c2b0 : decide (0 ≤ a0_0) = false := decide_eq_false c2
    clear c2
    obtain rfl := Option.some.inj H
    go_enter Try.func127, Try.ntmps127
    go_wp2_with (first | ((with_reducible refine gate_dst (N := 1) rfl ?_); refine box_event ?hg (N := 1) ?hd (cs := #[.int .i64 a0_0, .int .i64 a0_1]) (t := 99) ?hr ?_; (case hd => rfl); (case hg => rfl); (case hr => first | (go_simp; done) | (go_simp; rfl)); intro gb218 hg w8 hbox hb; have n0_ := aM_ (wS_ (by repeat (first | (with_reducible first | exact HB.out | apply wA_ | apply wN_ | apply wD_) | exact HB.out)) hb); have n1_ := aM_ (hbox); have n2_ := aM_ ((by rw [hg]; exact (sZ_ (by repeat (first | (with_reducible first | exact HB.out | apply wA_ | apply wN_ | apply wD_) | exact HB.out))) : w.heap.size ≤ gb218)); have n3_ := aM_ ((by rw [hg]; exact (sZ_ (by repeat (first | (with_reducible first | exact HB.out | apply wA_ | apply wN_ | apply wD_) | exact HB.out))) : w.heap.size ≤ gb218)); clear HB; have HB := n0_; have BK218 := n1_; have GW218 := n2_; have GE218 := n3_; clear n0_ n1_ n2_ n3_; clear hb hbox hg; have hcz9_0 : w8.cell? ⟨gb218, 0, none⟩ = some (.int .i64 a0_0) := (blk_cell BK218.out 0).trans rfl; have hcz9_1 : w8.cell? ⟨gb218, 1, none⟩ = some (.int .i64 a0_1) := (blk_cell BK218.out 1).trans rfl; have hfz9_0 := blk_frozen BK218.out 0; have hfz9_1 := blk_frozen BK218.out 1))
    go_ret
    exact ⟨by first | rfl | (simp [errW_none, errW_some] <;> rfl) | (simp [*, errW_none, errW_some] <;> rfl), by repeat (first | (with_reducible first | exact HB.out | apply wA_ | apply wN_ | apply wD_ | refine wE_ ?_ GE218.out) | exact HB.out)⟩

/-! ### spec_InSpan: function 111 -/
def spec_InSpan.f (a0_0 : Int) (a0_1 : Int) (a1 : Int) : Option (Bool) := (spec_IsSpan.f a0_0 a0_1).bind fun t220 => (if t220 = true then (if a0_0 ≤ a1 then (some (decide (a1 < a0_1))) else (some false)) else (some false))
set_option maxHeartbeats 8000000 in
set_option maxRecDepth 100000 in
theorem spec_InSpan.calls (a0_0 : Int) (a0_1 : Int) (a1 : Int) (r : Bool) (w : World) (h : spec_InSpan.f a0_0 a0_1 a1 = some r) :
    Calls Try.prog 111 #[.agg #[.int .i64 a0_0, .int .i64 a0_1], .int .i64 a1] w fun e w' => e = .returned (.bool r) ∧ Below w.heap.size w w' := by
  have hu99 := Try.underlying99
  have HB := aM_ (Below.refl w.heap.size w)
  have H : ((spec_IsSpan.f a0_0 a0_1).bind fun t220 => (if t220 = true then (if a0_0 ≤ a1 then (some (decide (a1 < a0_1))) else (some false)) else (some false))) = some r := h
  clear h
  replace H := Option.bind_eq_some_iff.mp H
  obtain ⟨t220, A30, H⟩ := H
  replace H : (if t220 = true then (if a0_0 ≤ a1 then (some (decide (a1 < a0_1))) else (some false)) else (some false)) = some r := H
  have A3 := aM_ A30
  clear A30
  by_cases c4 : t220 = true
  · subst c4
    have H1 : (if a0_0 ≤ a1 then (some (decide (a1 < a0_1))) else (some false)) = some r := by rw [if_pos rfl] at H; exact H
    clear H
    have H := H1
    clear H1
    by_cases c5 : a0_0 ≤ a1
    · rw [if_pos c5] at H
      have c5b0 : decide (a0_0 ≤ a1) = true := decide_eq_true c5
      clear c5
      obtain rfl := Option.some.inj H
      go_enter Try.func111, Try.ntmps111
      go_wp2_with (first | ((with_reducible refine gate_dst (N := 2) rfl ?_); refine box_event ?hg (N := 2) ?hd (cs := #[.int .i64 a0_0, .int .i64 a0_1]) (t := 99) ?hr ?_; (case hd => rfl); (case hg => rfl); (case hr => first | (go_simp; done) | (go_simp; rfl)); intro gb219 hg w6 hbox hb; have n0_ := aM_ (wS_ (by repeat (first | (with_reducible first | exact HB.out | apply wA_ | apply wN_ | apply wD_) | exact HB.out)) hb); have n1_ := aM_ (hbox); have n2_ := aM_ ((by rw [hg]; exact (sZ_ (by repeat (first | (with_reducible first | exact HB.out | apply wA_ | apply wN_ | apply wD_) | exact HB.out))) : w.heap.size ≤ gb219)); have n3_ := aM_ ((by rw [hg]; exact (sZ_ (by repeat (first | (with_reducible first | exact HB.out | apply wA_ | apply wN_ | apply wD_) | exact HB.out))) : w.heap.size ≤ gb219)); clear HB; have HB := n0_; have BK219 := n1_; have GW219 := n2_; have GE219 := n3_; clear n0_ n1_ n2_ n3_; clear hb hbox hg; have hcz7_0 : w6.cell? ⟨gb219, 0, none⟩ = some (.int .i64 a0_0) := (blk_cell BK219.out 0).trans rfl; have hcz7_1 : w6.cell? ⟨gb219, 1, none⟩ = some (.int .i64 a0_1) := (blk_cell BK219.out 1).trans rfl; have hfz7_0 := blk_frozen BK219.out 0; have hfz7_1 := blk_frozen BK219.out 1) | ((with_reducible refine gate_callee (f := 127) rfl ?_); refine goesL_ (some 6) rfl rfl Try.func127 (by kernel_rfl) rfl #[.agg #[.int .i64 a0_0, .int .i64 a0_1]] rfl (by (try simp only [List.map_toArray, List.map_cons, List.map_nil]); first | done | rfl | (simp only [List.length_drop, List.length_take]; rfl)) ?_; (with_reducible refine (spec_IsSpan.calls a0_0 a0_1 true _ A3.out).mono ?_); rintro e w8 ⟨rfl, hb⟩; refine ⟨_, rfl, ?_⟩; have n0_ := aM_ (bB_ (g := gb219) (by (with_reducible repeat (first | refine bN_ ?_ _ | refine bD_ ?_ | refine bA_ ?_ _)); exact BK219.out) hb); have n1_ := aM_ (wS_ (by repeat (first | (with_reducible first | exact HB.out | apply wA_ | apply wN_ | apply wD_ | refine wE_ ?_ GE219.out) | exact HB.out)) hb); clear BK219; clear HB; have BK219 := n0_; have HB := n1_; clear n0_ n1_; (try clear hb); (try clear hb2); (try clear hk); (try clear hi); have hcz9_0 : w8.cell? ⟨gb219, 0, none⟩ = some (.int .i64 a0_0) := (blk_cell BK219.out 0).trans rfl; have hcz9_1 : w8.cell? ⟨gb219, 1, none⟩ = some (.int .i64 a0_1) := (blk_cell BK219.out 1).trans rfl; have hfz9_0 := blk_frozen BK219.out 0; have hfz9_1 := blk_frozen BK219.out 1))
      go_ret
      exact ⟨by first | rfl | (simp [errW_none, errW_some] <;> rfl) | (simp [*, errW_none, errW_some] <;> rfl), by repeat (first | (with_reducible first | exact HB.out | apply wA_ | apply wN_ | apply wD_ | refine wE_ ?_ GE219.out) | exact HB.out)⟩
    · rw [if_neg c5] at H
      have c5b0 : decide (a0_0 ≤ a1) = false := decide_eq_false c5
      clear c5
      obtain rfl := Option.some.inj H
      go_enter Try.func111, Try.ntmps111
      go_wp2_with (first | ((with_reducible refine gate_dst (N := 2) rfl ?_); refine box_event ?hg (N := 2) ?hd (cs := #[.int .i64 a0_0, .int .i64 a0_1]) (t := 99) ?hr ?_; (case hd => rfl); (case hg => rfl); (case hr => first | (go_simp; done) | (go_simp; rfl)); intro gb219 hg w10 hbox hb; have n0_ := aM_ (wS_ (by repeat (first | (with_reducible first | exact HB.out | apply wA_ | apply wN_ | apply wD_) | exact HB.out)) hb); have n1_ := aM_ (hbox); have n2_ := aM_ ((by rw [hg]; exact (sZ_ (by repeat (first | (with_reducible first | exact HB.out | apply wA_ | apply wN_ | apply wD_) | exact HB.out))) : w.heap.size ≤ gb219)); have n3_ := aM_ ((by rw [hg]; exact (sZ_ (by repeat (first | (with_reducible first | exact HB.out | apply wA_ | apply wN_ | apply wD_) | exact HB.out))) : w.heap.size ≤ gb219)); clear HB; have HB := n0_; have BK219 := n1_; have GW219 := n2_; have GE219 := n3_; clear n0_ n1_ n2_ n3_; clear hb hbox hg; have hcz11_0 : w10.cell? ⟨gb219, 0, none⟩ = some (.int .i64 a0_0) := (blk_cell BK219.out 0).trans rfl; have hcz11_1 : w10.cell? ⟨gb219, 1, none⟩ = some (.int .i64 a0_1) := (blk_cell BK219.out 1).trans rfl; have hfz11_0 := blk_frozen BK219.out 0; have hfz11_1 := blk_frozen BK219.out 1) | ((with_reducible refine gate_callee (f := 127) rfl ?_); refine goesL_ (some 6) rfl rfl Try.func127 (by kernel_rfl) rfl #[.agg #[.int .i64 a0_0, .int .i64 a0_1]] rfl (by (try simp only [List.map_toArray, List.map_cons, List.map_nil]); first | done | rfl | (simp only [List.length_drop, List.length_take]; rfl)) ?_; (with_reducible refine (spec_IsSpan.calls a0_0 a0_1 true _ A3.out).mono ?_); rintro e w12 ⟨rfl, hb⟩; refine ⟨_, rfl, ?_⟩; have n0_ := aM_ (bB_ (g := gb219) (by (with_reducible repeat (first | refine bN_ ?_ _ | refine bD_ ?_ | refine bA_ ?_ _)); exact BK219.out) hb); have n1_ := aM_ (wS_ (by repeat (first | (with_reducible first | exact HB.out | apply wA_ | apply wN_ | apply wD_ | refine wE_ ?_ GE219.out) | exact HB.out)) hb); clear BK219; clear HB; have BK219 := n0_; have HB := n1_; clear n0_ n1_; (try clear hb); (try clear hb2); (try clear hk); (try clear hi); have hcz13_0 : w12.cell? ⟨gb219, 0, none⟩ = some (.int .i64 a0_0) := (blk_cell BK219.out 0).trans rfl; have hcz13_1 : w12.cell? ⟨gb219, 1, none⟩ = some (.int .i64 a0_1) := (blk_cell BK219.out 1).trans rfl; have hfz13_0 := blk_frozen BK219.out 0; have hfz13_1 := blk_frozen BK219.out 1))
      go_ret
      exact ⟨by first | rfl | (simp [errW_none, errW_some] <;> rfl) | (simp [*, errW_none, errW_some] <;> rfl), by repeat (first | (with_reducible first | exact HB.out | apply wA_ | apply wN_ | apply wD_ | refine wE_ ?_ GE219.out) | exact HB.out)⟩
  · replace c4 := Bool.eq_false_iff.mpr c4
    subst c4
    have H1 : (some false) = some r := by rw [if_neg (show ¬ (false = true) by decide)] at H; exact H
    clear H
    have H := H1
    clear H1
    obtain rfl := Option.some.inj H
    go_enter Try.func111, Try.ntmps111
    go_wp2_with (first | ((with_reducible refine gate_dst (N := 2) rfl ?_); refine box_event ?hg (N := 2) ?hd (cs := #[.int .i64 a0_0, .int .i64 a0_1]) (t := 99) ?hr ?_; (case hd => rfl); (case hg => rfl); (case hr => first | (go_simp; done) | (go_simp; rfl)); intro gb219 hg w14 hbox hb; have n0_ := aM_ (wS_ (by repeat (first | (with_reducible first | exact HB.out | apply wA_ | apply wN_ | apply wD_) | exact HB.out)) hb); have n1_ := aM_ (hbox); have n2_ := aM_ ((by rw [hg]; exact (sZ_ (by repeat (first | (with_reducible first | exact HB.out | apply wA_ | apply wN_ | apply wD_) | exact HB.out))) : w.heap.size ≤ gb219)); have n3_ := aM_ ((by rw [hg]; exact (sZ_ (by repeat (first | (with_reducible first | exact HB.out | apply wA_ | apply wN_ | apply wD_) | exact HB.out))) : w.heap.size ≤ gb219)); clear HB; have HB := n0_; have BK219 := n1_; have GW219 := n2_; have GE219 := n3_; clear n0_ n1_ n2_ n3_; clear hb hbox hg; have hcz15_0 : w14.cell? ⟨gb219, 0, none⟩ = some (.int .i64 a0_0) := (blk_cell BK219.out 0).trans rfl; have hcz15_1 : w14.cell? ⟨gb219, 1, none⟩ = some (.int .i64 a0_1) := (blk_cell BK219.out 1).trans rfl; have hfz15_0 := blk_frozen BK219.out 0; have hfz15_1 := blk_frozen BK219.out 1) | ((with_reducible refine gate_callee (f := 127) rfl ?_); refine goesL_ (some 6) rfl rfl Try.func127 (by kernel_rfl) rfl #[.agg #[.int .i64 a0_0, .int .i64 a0_1]] rfl (by (try simp only [List.map_toArray, List.map_cons, List.map_nil]); first | done | rfl | (simp only [List.length_drop, List.length_take]; rfl)) ?_; (with_reducible refine (spec_IsSpan.calls a0_0 a0_1 false _ A3.out).mono ?_); rintro e w16 ⟨rfl, hb⟩; refine ⟨_, rfl, ?_⟩; have n0_ := aM_ (bB_ (g := gb219) (by (with_reducible repeat (first | refine bN_ ?_ _ | refine bD_ ?_ | refine bA_ ?_ _)); exact BK219.out) hb); have n1_ := aM_ (wS_ (by repeat (first | (with_reducible first | exact HB.out | apply wA_ | apply wN_ | apply wD_ | refine wE_ ?_ GE219.out) | exact HB.out)) hb); clear BK219; clear HB; have BK219 := n0_; have HB := n1_; clear n0_ n1_; (try clear hb); (try clear hb2); (try clear hk); (try clear hi)))
    go_ret
    exact ⟨by first | rfl | (simp [errW_none, errW_some] <;> rfl) | (simp [*, errW_none, errW_some] <;> rfl), by repeat (first | (with_reducible first | exact HB.out | apply wA_ | apply wN_ | apply wD_ | refine wE_ ?_ GE219.out) | exact HB.out)⟩

/-! ### spec_PieceAt: function 88 -/
def spec_PieceAt.l0 : Nat → Int → Int → Int → Int → Int → List (S103) → Option (Int)
  | 0, _, _, _, _, _, _ => none
  | k + 1, x1, x5, x222000, x222001, x222002, x222003 => if x5 < (x222003.length : Int) then (if 0 ≤ x5 then ((spec_InSpan.f ((rd_T103 x222003 x5).f0.f0) ((rd_T103 x222003 x5).f0.f1) x1).bind fun t223 => (if t223 = true then (some x5) else (spec_PieceAt.l0 k x1 (wrap64 (x5 + 1)) x222000 x222001 x222002 x222003))) else (none)) else (some (-1))
def spec_PieceAt.f (k : Nat) (a0_0 : Int) (a0_1 : Int) (a0_2 : Int) (l0_3 : List (S103)) (a1 : Int) : Option (Int) := spec_PieceAt.l0 k a1 0 a0_0 a0_1 a0_2 l0_3
theorem spec_PieceAt.mono_l : ∀ k, (∀ y0 y1 y2 y3 y4 y5, LeO (spec_PieceAt.l0 k y0 y1 y2 y3 y4 y5) (spec_PieceAt.l0 (k + 1) y0 y1 y2 y3 y4 y5))
  | 0 => fun _ _ _ _ _ _ r h => by simp [spec_PieceAt.l0] at h
  | k + 1 => by
    have ih0 := spec_PieceAt.mono_l k
    · intro y0 y1 y2 y3 y4 y5
      unfold spec_PieceAt.l0
      repeat' first
      | (with_reducible exact ih0 _ _ _ _ _ _)
      | (with_reducible exact LeO.refl _)
      | (with_reducible exact LeO.none _)
      | (with_reducible refine LeO.ite ?_ ?_)
      | (with_reducible refine LeO.bind ?_ (fun _ => ?_))
      | exact ih0 _ _ _ _ _ _
      | exact LeO.none _
      | refine LeO.ite ?_ ?_
      | refine LeO.bind ?_ (fun _ => ?_)
theorem spec_PieceAt.mono : ∀ a0 a1 a2 a3 a4 k, LeO (spec_PieceAt.f k a0 a1 a2 a3 a4) (spec_PieceAt.f (k + 1) a0 a1 a2 a3 a4) := by
  intro a0 a1 a2 a3 a4 k
  have ih0 := spec_PieceAt.mono_l k
  unfold spec_PieceAt.f
  repeat' first
      | (with_reducible exact ih0 _ _ _ _ _ _)
      | (with_reducible exact LeO.refl _)
      | (with_reducible exact LeO.none _)
      | (with_reducible refine LeO.ite ?_ ?_)
      | (with_reducible refine LeO.bind ?_ (fun _ => ?_))
      | exact ih0 _ _ _ _ _ _
      | exact LeO.none _
      | refine LeO.ite ?_ ?_
      | refine LeO.bind ?_ (fun _ => ?_)
set_option maxHeartbeats 8000000 in
set_option maxRecDepth 100000 in
theorem spec_PieceAt.calls (k : Nat) (a0_0 : Int) (a0_1 : Int) (a0_2 : Int) (A0_3 : Option Addr) (c0_3 : Nat) (l0_3 : List (S103)) (a1 : Int) (r : Int) (w : World) (hr0_3 : Kd.C k103 w A0_3 l0_3.length l0_3) (hc0_3 : l0_3.length ≤ c0_3) (h : spec_PieceAt.f k a0_0 a0_1 a0_2 l0_3 a1 = some r) :
  Calls Try.prog 88 #[.agg #[.int .i64 a0_0, .int .i64 a0_1, .int .i64 a0_2, .slice A0_3 l0_3.length c0_3], .int .i64 a1] w fun e w' => e = .returned (.int .i64 r) ∧ Below w.heap.size w w' := by
 have hu31 := Try.underlying31; have hu99 := Try.underlying99; have HR0_3 := aM_ hr0_3; have HC0_3 := aM_ hc0_3; clear hr0_3 hc0_3; have HB := aM_ (Below.refl w.heap.size w)
 have H : (spec_PieceAt.l0 k a1 0 a0_0 a0_1 a0_2 l0_3) = some r := h
 clear h
 have H' := aM_ H
 clear H
 go_enter Try.func88, Try.ntmps88
 go_wp2_with (first | ((with_reducible refine gate_dst (N := 2) rfl ?_); refine box_event ?hg (N := 2) ?hd (cs := #[.int .i64 a0_0, .int .i64 a0_1, .int .i64 a0_2, .slice A0_3 l0_3.length c0_3]) (t := 31) ?hr ?_; (case hd => rfl); (case hg => rfl); (case hr => first | (go_simp; done) | (go_simp; rfl)); intro gb221 hg w3 hbox hb; have n0_ := aM_ (wS_ (by repeat (first | (with_reducible first | exact HB.out | apply wA_ | apply wN_ | apply wD_) | exact HB.out)) hb); have n1_ := aM_ (hbox); have n2_ := aM_ ((by rw [hg]; exact (sZ_ (by repeat (first | (with_reducible first | exact HB.out | apply wA_ | apply wN_ | apply wD_) | exact HB.out))) : w.heap.size ≤ gb221)); have n3_ := aM_ ((by rw [hg]; exact (sZ_ (by repeat (first | (with_reducible first | exact HB.out | apply wA_ | apply wN_ | apply wD_) | exact HB.out))) : w.heap.size ≤ gb221)); clear HB; have HB := n0_; have BK221 := n1_; have GW221 := n2_; have GE221 := n3_; clear n0_ n1_ n2_ n3_; clear hb hbox hg))
 go_loopg [5] k (fun kq v5 w' => ∃ (x5_1 : Int), v5 = .int .i64 x5_1 ∧ Aside0 (spec_PieceAt.l0 kq a1 x5_1 a0_0 a0_1 a0_2 l0_3 = some r) ∧ Aside0 (kq ≤ k) ∧ Aside0 (w'.heap[gb221]? = some (.cells #[.int .i64 a0_0, .int .i64 a0_1, .int .i64 a0_2, (.slice A0_3 l0_3.length c0_3)] 31 (0, 0))) ∧ Aside0 (Below w.heap.size w w'))
 case atStart => exact ⟨(0), (by first | rfl | (simp; done) | (simp [*]; done)), H', ⟨Nat.le_refl _⟩, ⟨by (with_reducible repeat (first | refine bN_ ?_ _ | refine bD_ ?_ | refine bA_ ?_ _)); exact BK221.out⟩, ⟨by repeat (first | (with_reducible first | exact HB.out | apply wA_ | apply wN_ | apply wD_ | refine wE_ ?_ GE221.out) | exact HB.out)⟩⟩
 case round =>
  clear H'
  try clear p2
  obtain ⟨x5_1, rfl, HA, HK1, BK221, HB⟩ := hrel
  cases gk with
  | zero => exact absurd HA.out (by simp [spec_PieceAt.l0])
  | succ k1 =>
   have H := HA.out; clear HA
   simp only [spec_PieceAt.l0] at H
   by_cases c4 : x5_1 < (l0_3.length : Int)
   ·rw [if_pos c4] at H
    have c4b0 : decide (x5_1 < (l0_3.length : Int)) = true := decide_eq_true c4
    clear c4
    by_cases c5 : 0 ≤ x5_1
    ·rw [if_pos c5] at H
     have c5b0 : decide (0 ≤ x5_1) = true := decide_eq_true c5
     clear c5
     replace H := Option.bind_eq_some_iff.mp H
     obtain ⟨t223, A60, H⟩ := H
     (try dsimp only at H)
     have A6 := aM_ A60; clear A60
     by_cases c7 : t223 = true
     ·subst c7
      have H1 : (some x5_1) = some r := by rw [if_pos rfl] at H; exact H
      clear H; have H := H1; clear H1
      obtain rfl := Option.some.inj H
      have hcz8_0 : wr.cell? ⟨gb221, 0, none⟩ = some (.int .i64 a0_0) := (blk_cell BK221.out 0).trans rfl
      have hcz8_1 : wr.cell? ⟨gb221, 1, none⟩ = some (.int .i64 a0_1) := (blk_cell BK221.out 1).trans rfl
      have hcz8_2 : wr.cell? ⟨gb221, 2, none⟩ = some (.int .i64 a0_2) := (blk_cell BK221.out 2).trans rfl
      have hcz8_3 : wr.cell? ⟨gb221, 3, none⟩ = some (.slice A0_3 l0_3.length c0_3) := (blk_cell BK221.out 3).trans rfl
      have hfz8_0 := blk_frozen BK221.out 0; have hfz8_1 := blk_frozen BK221.out 1; have hfz8_2 := blk_frozen BK221.out 2; have hfz8_3 := blk_frozen BK221.out 3
      have p222 : 0 ≤ (x5_1 : Int) := of_decide_eq_true (by first | (with_reducible assumption) | assumption)
      have q222 : x5_1 < (l0_3.length : Int) := of_decide_eq_true (by first | (with_reducible assumption) | assumption)
      obtain ⟨ad222, A222_2, c222_2, A222_3, c222_3, e222, hx222_0, hx222_1, hx222_2, hx222_3, hl222_2, hi222_2, hl222_3, hi222_3⟩ := at_T103 HR0_3.out x5_1 p222 q222
      cases e222
      replace hx222_0 := (HB.out.cell (World.block_lt_of_cell? w _ hx222_0)).trans hx222_0
      replace hx222_1 := (HB.out.cell (World.block_lt_of_cell? w _ hx222_1)).trans hx222_1
      replace hx222_2 := (HB.out.cell (World.block_lt_of_cell? w _ hx222_2)).trans hx222_2
      replace hx222_3 := (HB.out.cell (World.block_lt_of_cell? w _ hx222_3)).trans hx222_3
      have HR222_2 := aM_ hi222_2; have HC222_2 := aM_ hl222_2; clear hi222_2 hl222_2; have HR222_3 := aM_ hi222_3; have HC222_3 := aM_ hl222_3; clear hi222_3 hl222_3; replace p222 := eq_true p222; replace q222 := eq_true q222
      go_wp2_with (first | ((with_reducible refine gate_callee (f := 111) rfl ?_); refine goesL_ (some 20) rfl rfl Try.func111 (by kernel_rfl) rfl #[.agg #[.int .i64 ((rd_T103 l0_3 x5_1).f0.f0), .int .i64 ((rd_T103 l0_3 x5_1).f0.f1)], .int .i64 a1] rfl (by (try simp only [List.map_toArray, List.map_cons, List.map_nil]); first | done | rfl | (simp only [List.length_drop, List.length_take]; rfl)) ?_; (with_reducible refine (spec_InSpan.calls ((rd_T103 l0_3 x5_1).f0.f0) ((rd_T103 l0_3 x5_1).f0.f1) a1 true _ A6.out).mono ?_); rintro e w9 ⟨rfl, hb⟩; refine ⟨_, rfl, ?_⟩; have n0_ := aM_ (bB_ (g := gb221) (by (with_reducible repeat (first | refine bN_ ?_ _ | refine bD_ ?_ | refine bA_ ?_ _)); exact BK221.out) hb); have n1_ := aM_ (wS_ (by repeat (first | (with_reducible first | exact HB.out | apply wA_ | apply wN_ | apply wD_ | refine wE_ ?_ GE221.out) | exact HB.out)) hb); clear BK221; clear HB; have BK221 := n0_; have HB := n1_; clear n0_ n1_; (try clear hb); (try clear hb2); (try clear hk); (try clear hi)))
      go_ret
      exact ⟨by first | rfl | (simp [errW_none, errW_some] <;> rfl) | (simp [*, errW_none, errW_some] <;> rfl), by repeat (first | (with_reducible first | exact HB.out | apply wA_ | apply wN_ | apply wD_ | refine wE_ ?_ GE221.out) | exact HB.out)⟩
     ·replace c7 := Bool.eq_false_iff.mpr c7
      subst c7
      have H1 : (spec_PieceAt.l0 k1 a1 (wrap64 (x5_1 + 1)) a0_0 a0_1 a0_2 l0_3) = some r := by rw [if_neg (show ¬ (false = true) by decide)] at H; exact H
      clear H; have H := H1; clear H1
      have H' := aM_ H
      clear H
      have hcz10_0 : wr.cell? ⟨gb221, 0, none⟩ = some (.int .i64 a0_0) := (blk_cell BK221.out 0).trans rfl
      have hcz10_1 : wr.cell? ⟨gb221, 1, none⟩ = some (.int .i64 a0_1) := (blk_cell BK221.out 1).trans rfl
      have hcz10_2 : wr.cell? ⟨gb221, 2, none⟩ = some (.int .i64 a0_2) := (blk_cell BK221.out 2).trans rfl
      have hcz10_3 : wr.cell? ⟨gb221, 3, none⟩ = some (.slice A0_3 l0_3.length c0_3) := (blk_cell BK221.out 3).trans rfl
      have hfz10_0 := blk_frozen BK221.out 0; have hfz10_1 := blk_frozen BK221.out 1; have hfz10_2 := blk_frozen BK221.out 2; have hfz10_3 := blk_frozen BK221.out 3
      have p222 : 0 ≤ (x5_1 : Int) := of_decide_eq_true (by first | (with_reducible assumption) | assumption)
      have q222 : x5_1 < (l0_3.length : Int) := of_decide_eq_true (by first | (with_reducible assumption) | assumption)
      obtain ⟨ad222, A222_2, c222_2, A222_3, c222_3, e222, hx222_0, hx222_1, hx222_2, hx222_3, hl222_2, hi222_2, hl222_3, hi222_3⟩ := at_T103 HR0_3.out x5_1 p222 q222
      cases e222
      replace hx222_0 := (HB.out.cell (World.block_lt_of_cell? w _ hx222_0)).trans hx222_0
      replace hx222_1 := (HB.out.cell (World.block_lt_of_cell? w _ hx222_1)).trans hx222_1
      replace hx222_2 := (HB.out.cell (World.block_lt_of_cell? w _ hx222_2)).trans hx222_2
      replace hx222_3 := (HB.out.cell (World.block_lt_of_cell? w _ hx222_3)).trans hx222_3
      have HR222_2 := aM_ hi222_2; have HC222_2 := aM_ hl222_2; clear hi222_2 hl222_2; have HR222_3 := aM_ hi222_3; have HC222_3 := aM_ hl222_3; clear hi222_3 hl222_3; replace p222 := eq_true p222; replace q222 := eq_true q222
      go_wp2_with (first | ((with_reducible refine gate_callee (f := 111) rfl ?_); refine goesL_ (some 20) rfl rfl Try.func111 (by kernel_rfl) rfl #[.agg #[.int .i64 ((rd_T103 l0_3 x5_1).f0.f0), .int .i64 ((rd_T103 l0_3 x5_1).f0.f1)], .int .i64 a1] rfl (by (try simp only [List.map_toArray, List.map_cons, List.map_nil]); first | done | rfl | (simp only [List.length_drop, List.length_take]; rfl)) ?_; (with_reducible refine (spec_InSpan.calls ((rd_T103 l0_3 x5_1).f0.f0) ((rd_T103 l0_3 x5_1).f0.f1) a1 false _ A6.out).mono ?_); rintro e w11 ⟨rfl, hb⟩; refine ⟨_, rfl, ?_⟩; have n0_ := aM_ (bB_ (g := gb221) (by (with_reducible repeat (first | refine bN_ ?_ _ | refine bD_ ?_ | refine bA_ ?_ _)); exact BK221.out) hb); have n1_ := aM_ (wS_ (by repeat (first | (with_reducible first | exact HB.out | apply wA_ | apply wN_ | apply wD_ | refine wE_ ?_ GE221.out) | exact HB.out)) hb); clear BK221; clear HB; have BK221 := n0_; have HB := n1_; clear n0_ n1_; (try clear hb); (try clear hb2); (try clear hk); (try clear hi)))
      go_roundg k1
      case measure => have := HK1.out; omega
      case rel => exact ⟨(wrap64 (x5_1 + 1)), (by first | rfl | (simp; done) | (simp [*]; done)), H', ⟨by have := HK1.out; omega⟩, ⟨by (with_reducible repeat (first | refine bN_ ?_ _ | refine bD_ ?_ | refine bA_ ?_ _)); exact BK221.out⟩, ⟨by repeat (first | (with_reducible first | exact HB.out | apply wA_ | apply wN_ | apply wD_ | refine wE_ ?_ GE221.out) | exact HB.out)⟩⟩
    ·rw [if_neg c5] at H
     exact absurd H (by simp)
   ·rw [if_neg c4] at H
    have c4b0 : decide (x5_1 < (l0_3.length : Int)) = false := decide_eq_false c4
    clear c4
    obtain rfl := Option.some.inj H
    have hcz12_0 : wr.cell? ⟨gb221, 0, none⟩ = some (.int .i64 a0_0) := (blk_cell BK221.out 0).trans rfl
    have hcz12_1 : wr.cell? ⟨gb221, 1, none⟩ = some (.int .i64 a0_1) := (blk_cell BK221.out 1).trans rfl
    have hcz12_2 : wr.cell? ⟨gb221, 2, none⟩ = some (.int .i64 a0_2) := (blk_cell BK221.out 2).trans rfl
    have hcz12_3 : wr.cell? ⟨gb221, 3, none⟩ = some (.slice A0_3 l0_3.length c0_3) := (blk_cell BK221.out 3).trans rfl
    have hfz12_0 := blk_frozen BK221.out 0; have hfz12_1 := blk_frozen BK221.out 1; have hfz12_2 := blk_frozen BK221.out 2; have hfz12_3 := blk_frozen BK221.out 3
    go_wp2
    go_ret
    exact ⟨by first | rfl | (simp [errW_none, errW_some] <;> rfl) | (simp [*, errW_none, errW_some] <;> rfl), by repeat (first | (with_reducible first | exact HB.out | apply wA_ | apply wN_ | apply wD_ | refine wE_ ?_ GE221.out) | exact HB.out)⟩

end Go.Proofs.Ytdodogkgmpaioaa.PFnExactReachFrom
