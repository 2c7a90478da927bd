/- The functions that the law reaches, as plain Lean functions, each with the proof that the Go code comes to its answers; conditions: those that each theorem names. (printed by a program of this session) -/
import Derived.Test.YtlogjmgghnifoaaPFnExactHandoversOfx0
namespace Go.Proofs.Ytlogjmgghnifoaa.PFnExactHandoversOf
open Go.RowKit Go.Proofs.YtlogjmgghnifoaaW.PrintWords Go.Proofs.YtlogjmgghnifoaaW.PrintLast Go.Proofs.YtlogjmgghnifoaaW.PrintMore
attribute [local go_sem] max2_int min2_int max_two min_two max_three min_three max_four min_four   -- for this text's walks alone
set_option linter.unusedVariables false
set_option linter.unusedSimpArgs false

/-! ### laws_markProgram: function 18 -/
theorem not_types_ {w : World} {g t : Nat} {cs : Array Value} {L : List Nat} (h : w.heap[g]? = some (.cells cs t (0, 0))) (hs : ∃ q, q ∈ L ∧ ∃ cells, w.heap[g]? = some (.cells cells q (0, 0))) (hn : t ∉ L) : False := by
  obtain ⟨q, hq, cells, hc⟩ := hs
  rw [h] at hc
  injection hc with hc
  injection hc with _ ht _
  exact hn (ht ▸ hq)
def isI_ (v : Value) : Prop := ∃ z, v = .int .i64 z
/-- Numbers in P's blocks are turned to numbers; all else stays. -/
def Mk_ (P : Nat → Prop) (w w' : World) : Prop := Below 0 w w' ∧ (∀ b, b < w.heap.size → ¬ P b → w'.heap[b]? = w.heap[b]?) ∧
  ∀ (b : Nat) (cells : Array Value) (t : Nat), w.heap[b]? = some (.cells cells t (0, 0)) → ∃ cells' : Array Value, w'.heap[b]? = some (.cells cells' t (0, 0)) ∧ ∀ (j : Nat) (u : Value), cells[j]? = some u → ∃ u', cells'[j]? = some u' ∧ (u' = u ∨ isI_ u ∧ isI_ u')
theorem Mk_.refl (P : Nat → Prop) (w : World) : Mk_ P w w := ⟨Below.refl _ _, fun _ _ _ => rfl, fun _ cells _ h => ⟨cells, h, fun _ u hu => ⟨u, hu, .inl rfl⟩⟩⟩
theorem Mk_.then_ {P : Nat → Prop} {w W W2 : World} (h : Mk_ P w W) (k : Mk_ P W W2) : Mk_ P w W2 := by
  refine ⟨h.1.trans k.1, fun b hb hn => (k.2.1 b (Nat.lt_of_lt_of_le hb h.1.size) hn).trans (h.2.1 b hb hn), fun b cells t hc => ?_⟩
  obtain ⟨c1, h1, h2⟩ := h.2.2 b cells t hc
  obtain ⟨c2, h3, h4⟩ := k.2.2 b c1 t h1
  refine ⟨c2, h3, fun j u hu => ?_⟩
  obtain ⟨u1, e1, r1⟩ := h2 j u hu
  obtain ⟨u2, e2, r2⟩ := h4 j u1 e1
  refine ⟨u2, e2, ?_⟩
  rcases r1 with rfl | ⟨a1, a2⟩
  · exact r2
  · rcases r2 with rfl | ⟨b1, b2⟩
    · exact .inr ⟨a1, a2⟩
    · exact .inr ⟨a1, b2⟩
theorem Mk_.drewN {P : Nat → Prop} {w W : World} (h : Mk_ P w W) (n : Nat) : Mk_ P w (W.drewN n) := ⟨pw_below_drewN h.1 n, h.2⟩
theorem Mk_.set {P : Nat → Prop} {w W : World} (h : Mk_ P w W) {g o t : Nat} {cs : Array Value} {z z' : Int} (hP : P g) (hb : W.heap[g]? = some (.cells cs t (0, 0))) (hz : cs[o]? = some (.int .i64 z)) : Mk_ P w (W.setCell ⟨g, o, none⟩ (.int .i64 z')) := by
  refine h.then_ ⟨⟨rfl, rfl, rfl, by simp [World.setCell], fun k hk => absurd hk (Nat.not_lt_zero k)⟩, fun b _ hn => Below.heap_setCell W ⟨g, o, none⟩ _ b (fun e => hn (e ▸ hP)), fun b cells t' hc => ?_⟩
  by_cases e : b = g
  · subst e
    rw [hb] at hc
    injection hc with hc
    injection hc with e1 e2 _
    subst e1; subst e2
    refine ⟨_, blk_set hb o _, fun j u hu => ?_⟩
    by_cases ej : j = o
    · subst ej
      rw [hz] at hu
      injection hu with hu
      subst hu
      have hj : j < cs.size := (Array.getElem?_eq_some_iff.1 hz).1
      exact ⟨.int .i64 z', by simp [Array.getElem?_setIfInBounds, hj], .inr ⟨⟨_, rfl⟩, ⟨_, rfl⟩⟩⟩
    · exact ⟨u, by rw [Array.getElem?_setIfInBounds_ne (Ne.symm ej)]; exact hu, .inl rfl⟩
  · exact ⟨cells, (Below.heap_setCell W ⟨g, o, none⟩ _ b e).trans hc, fun _ u hu => ⟨u, hu, .inl rfl⟩⟩
def IntRow_ (P : Nat → Prop) (w : World) (A : Option Addr) (m : Nat) : Prop := m = 0 ∨ ∃ (g : Nat) (cells : Array Value) (t : Nat), A = some ⟨g, 0, none⟩ ∧ P g ∧ w.heap[g]? = some (.cells cells t (0, 0)) ∧ ∀ j, j < m → ∃ z, cells[j]? = some (.int .i64 z)
theorem IntRow_.mk_ {P : Nat → Prop} {w W : World} {A : Option Addr} {m : Nat} (h : IntRow_ P w A m) (k : Mk_ P w W) : IntRow_ P W A m := by
  rcases h with h | ⟨g, cells, t, hA, hP, hb, hz⟩
  · exact .inl h
  · obtain ⟨c1, h1, h2⟩ := k.2.2 g cells t hb
    refine .inr ⟨g, c1, t, hA, hP, h1, fun j hj => ?_⟩
    obtain ⟨z, hz⟩ := hz j hj
    obtain ⟨u, hu, e | ⟨_, z', e⟩⟩ := h2 j _ hz
    · exact ⟨z, e ▸ hu⟩
    · exact ⟨z', e ▸ hu⟩
theorem slice_stays {P : Nat → Prop} {w W : World} (k : Mk_ P w W) {g t j : Nat} {cells : Array Value} {A : Option Addr} {n c : Nat} (hb : w.heap[g]? = some (.cells cells t (0, 0))) (hj : cells[j]? = some (.slice A n c)) : ∃ cells', W.heap[g]? = some (.cells cells' t (0, 0)) ∧ cells'[j]? = some (.slice A n c) := by
  obtain ⟨c1, h1, h2⟩ := k.2.2 g cells t hb
  obtain ⟨u, hu, e | ⟨⟨_, e⟩, _⟩⟩ := h2 j _ hj
  · exact ⟨c1, h1, e ▸ hu⟩
  · cases e
def TabRow_ (P : Nat → Prop) (w : World) (A : Option Addr) (ns : List (Nat × Nat)) : Prop := ns = [] ∨ ∃ (g : Nat) (cells : Array Value) (t : Nat), A = some ⟨g, 0, none⟩ ∧ P g ∧ w.heap[g]? = some (.cells cells t (0, 0)) ∧
  ∀ (j : Nat) (p : Nat × Nat), ns[j]? = some p → (∃ z, cells[j * 3]? = some (.int .i64 z)) ∧ (∃ A1 c1, cells[j * 3 + 1]? = some (.slice A1 p.1 c1) ∧ IntRow_ P w A1 p.1) ∧ ∃ A2 c2, cells[j * 3 + 2]? = some (.slice A2 p.2 c2) ∧ IntRow_ P w A2 p.2
theorem keep_cells {P : Nat → Prop} {w W : World} (k : Mk_ P w W) {g t : Nat} {cells : Array Value} (hb : w.heap[g]? = some (.cells cells t (0, 0))) : ∃ cells' : Array Value, W.heap[g]? = some (.cells cells' t (0, 0)) ∧ (∀ (j : Nat) (z : Int), cells[j]? = some (Value.int .i64 z) → ∃ z', cells'[j]? = some (Value.int .i64 z')) ∧ ∀ (j : Nat) (A : Option Addr) (n c : Nat), cells[j]? = some (Value.slice A n c) → cells'[j]? = some (Value.slice A n c) := by
  obtain ⟨c1, h1, h2⟩ := k.2.2 g cells t hb
  refine ⟨c1, h1, fun j z hz => ?_, fun j A n c hc => ?_⟩
  · obtain ⟨u, hu, e | ⟨_, z', e⟩⟩ := h2 j _ hz
    · exact ⟨z, e ▸ hu⟩
    · exact ⟨z', e ▸ hu⟩
  · obtain ⟨u, hu, e | ⟨⟨_, e⟩, _⟩⟩ := h2 j _ hc
    · exact e ▸ hu
    · cases e
theorem TabRow_.mk_ {P : Nat → Prop} {w W : World} {A : Option Addr} {ns : List (Nat × Nat)} (h : TabRow_ P w A ns) (k : Mk_ P w W) : TabRow_ P W A ns := by
  rcases h with h | ⟨g, cells, t, hA, hP, hb, hz⟩
  · exact .inl h
  · obtain ⟨c1, h1, h2, h3⟩ := keep_cells k hb
    refine .inr ⟨g, c1, t, hA, hP, h1, fun j p hj => ?_⟩
    obtain ⟨⟨z, q0⟩, ⟨A1, d1, q1, i1⟩, ⟨A2, d2, q2, i2⟩⟩ := hz j p hj
    exact ⟨h2 _ _ q0, ⟨A1, d1, h3 _ _ _ _ q1, i1.mk_ k⟩, ⟨A2, d2, h3 _ _ _ _ q2, i2.mk_ k⟩⟩
def PieRow_ (P : Nat → Prop) (w : World) (A : Option Addr) (ns : List (Nat × List (Nat × Nat))) : Prop := ns = [] ∨ ∃ (g : Nat) (cells : Array Value) (t : Nat), A = some ⟨g, 0, none⟩ ∧ P g ∧ w.heap[g]? = some (.cells cells t (0, 0)) ∧
  ∀ (j : Nat) (p : Nat × List (Nat × Nat)), ns[j]? = some p → (∃ z, cells[j * 4]? = some (.int .i64 z)) ∧ (∃ z, cells[j * 4 + 1]? = some (.int .i64 z)) ∧ (∃ A1 c1, cells[j * 4 + 2]? = some (.slice A1 p.1 c1) ∧ IntRow_ P w A1 (p.1 * 2)) ∧ ∃ A2 c2, cells[j * 4 + 3]? = some (.slice A2 p.2.length c2) ∧ TabRow_ P w A2 p.2
theorem PieRow_.mk_ {P : Nat → Prop} {w W : World} {A : Option Addr} {ns : List (Nat × List (Nat × Nat))} (h : PieRow_ P w A ns) (k : Mk_ P w W) : PieRow_ P W A ns := by
  rcases h with h | ⟨g, cells, t, hA, hP, hb, hz⟩
  · exact .inl h
  · obtain ⟨c1, h1, h2, h3⟩ := keep_cells k hb
    refine .inr ⟨g, c1, t, hA, hP, h1, fun j p hj => ?_⟩
    obtain ⟨⟨z, q0⟩, ⟨z', q0'⟩, ⟨A1, d1, q1, i1⟩, ⟨A2, d2, q2, i2⟩⟩ := hz j p hj
    exact ⟨h2 _ _ q0, h2 _ _ q0', ⟨A1, d1, h3 _ _ _ _ q1, i1.mk_ k⟩, ⟨A2, d2, h3 _ _ _ _ q2, i2.mk_ k⟩⟩
def tabSize_ (ns : List (Nat × Nat)) : Nat := (ns.map fun p => 1 + p.1 + p.2).sum
def pieSize_ (ns : List (Nat × List (Nat × Nat))) : Nat := (ns.map fun p => 2 + p.1 * 2 + tabSize_ p.2).sum
theorem sum_take {α : Type} (f : α → Nat) (l : List α) {i : Nat} {x : α} (h : l[i]? = some x) : ((l.take (i + 1)).map f).sum = ((l.take i).map f).sum + f x := by
  rw [List.take_add_one, h]
  simp [List.map_append, List.sum_append]
theorem sum_le {α : Type} (f : α → Nat) (l : List α) (i : Nat) : ((l.take i).map f).sum ≤ (l.map f).sum := by
  have h := congrArg (fun q => (q.map f).sum) (List.take_append_drop i l)
  simp only [List.map_append, List.sum_append] at h
  omega
theorem tab_len : ∀ ns : List (Nat × Nat), ns.length ≤ tabSize_ ns
  | [] => Nat.le_refl _
  | p :: ns => by
    have := tab_len ns
    unfold tabSize_ at this ⊢
    rw [List.map_cons, List.sum_cons, List.length_cons]
    omega
theorem pie_len : ∀ ns : List (Nat × List (Nat × Nat)), ns.length ≤ pieSize_ ns
  | [] => Nat.le_refl _
  | p :: ns => by
    have := pie_len ns
    unfold pieSize_ at this ⊢
    rw [List.map_cons, List.sum_cons, List.length_cons]
    omega
set_option maxHeartbeats 2000000 in
set_option maxRecDepth 100000 in
theorem marks_ints (P : Nat → Prop) (A : Option Addr) (n c : Nat) (a : Int) (w : World) (h0 : 0 ≤ a) (hs : a + n ≤ 4000000000) (h : IntRow_ P w A n) :
    Calls Try.prog 31 #[.slice A n c, .int .i64 a] w fun e w' => e = .returned (.int .i64 (a + n)) ∧ Mk_ P w w' := by
  have HI := Aside0.mk h
  clear h
  go_enter Try.func31, Try.ntmps31
  go_wp2
  go_loopg [1, 5] n (fun gg v1 v5 wr => ∃ (i : Nat) (k : Int), i ≤ n ∧ n - i ≤ gg ∧ v1 = .int .i64 k ∧ v5 = .int .i64 i ∧ Aside0 (k = a + i) ∧ Aside0 (Mk_ P w wr))
  case atStart => exact ⟨0, a, Nat.zero_le _, by omega, rfl, rfl, ⟨by omega⟩, ⟨Mk_.refl _ _⟩⟩
  case round =>
    obtain ⟨i, k, hi, hg, rfl, rfl, HK, HM⟩ := hrel
    have hk := HK.out
    by_cases hlt : i < n
    · have hltz : (i : Int) < (n : Int) := by omega
      have hw : wrap64 (k + 1) = k + 1 := by unfold wrap64; omega
      have HW := Aside0.mk hw
      rcases HI.out.mk_ HM.out with h | ⟨g, cells, t, rfl, hP, hb, hz⟩
      · omega
      · obtain ⟨z, hz⟩ := hz i hlt
        have hx : wr.cell? ⟨g, i, none⟩ = some (.int .i64 z) := (blk_cell hb i).trans hz
        have hf : wr.frozen? ⟨g, i, none⟩ = false := blk_frozen hb i
        have HN := Aside0.mk (Mk_.set (z' := k) HM.out hP hb hz)
        clear hb hz hP hk hw
        go_wp2
        go_roundg (n - (i + 1))
        case measure => omega
        case rel => exact ⟨i + 1, k + 1, by omega, by omega, congrArg (Value.int .i64) (by first | exact HW.out | rw [i64_w]; exact HW.out), by go_num, ⟨by have := HK.out; omega⟩, ⟨HN.out⟩⟩
    · have hltz : ¬ (i : Int) < (n : Int) := by omega
      have : i = n := by omega
      subst this
      obtain rfl := hk
      go_wp2
      go_ret
      exact ⟨rfl, HM.out⟩
set_option maxHeartbeats 2000000 in
set_option maxRecDepth 100000 in
theorem marks_links (P : Nat → Prop) (A : Option Addr) (n c : Nat) (a : Int) (w : World) (h0 : 0 ≤ a) (hs : a + ((n * 2 : Nat) : Int) ≤ 4000000000) (h : IntRow_ P w A (n * 2)) :
    Calls Try.prog 52 #[.slice A n c, .int .i64 a] w fun e w' => e = .returned (.int .i64 (a + ((n * 2 : Nat) : Int))) ∧ Mk_ P w w' := by
  have HI := Aside0.mk h
  have HS := Aside0.mk hs
  have hnb : n ≤ 4000000000 := by omega
  clear h hs
  go_enter Try.func52, Try.ntmps52
  go_wp2
  go_loopg [1, 5] n (fun gg v1 v5 wr => ∃ (i : Nat) (k : Int), i ≤ n ∧ n - i ≤ gg ∧ v1 = .int .i64 k ∧ v5 = .int .i64 i ∧ Aside0 (k = a + ((i * 2 : Nat) : Int)) ∧ Aside0 (Mk_ P w wr))
  case atStart => exact ⟨0, a, Nat.zero_le _, by omega, rfl, rfl, ⟨by omega⟩, ⟨Mk_.refl _ _⟩⟩
  case round =>
    obtain ⟨i, k, hi, hg, rfl, rfl, HK, HM⟩ := hrel
    have hk := HK.out
    have hs := HS.out
    by_cases hlt : i < n
    · have hltz : (i : Int) < (n : Int) := by omega
      have HW := Aside0.mk (show wrap64 (k + 1) = k + 1 by unfold wrap64; omega)
      have HW2 := Aside0.mk (show wrap64 (wrap64 (k + 1) + 1) = k + 2 by unfold wrap64; omega)
      rcases HI.out.mk_ HM.out with h | ⟨g, cells, t, rfl, hP, hb, hz⟩
      · omega
      · obtain ⟨z, hz0⟩ := hz (i * 2) (by omega)
        obtain ⟨z', hz1⟩ := hz (i * 2 + 1) (by omega)
        have hx0 : wr.cell? ⟨g, i * 2, none⟩ = some (.int .i64 z) := (blk_cell hb _).trans hz0
        have hf0 : wr.frozen? ⟨g, i * 2, none⟩ = false := blk_frozen hb _
        have hx1 : wr.cell? ⟨g, i * 2 + 1, none⟩ = some (.int .i64 z') := (blk_cell hb _).trans hz1
        have hf1 : wr.frozen? ⟨g, i * 2 + 1, none⟩ = false := blk_frozen hb _
        have HN := Aside0.mk (Mk_.set (z' := wrap64 (k + 1)) (Mk_.set (z' := k) HM.out hP hb hz0) hP (blk_set hb (i * 2) (.int .i64 k)) (o := i * 2 + 1) (z := z') (by rw [Array.getElem?_setIfInBounds_ne (by omega)]; exact hz1))
        clear hb hz hP hk hz0 hz1 hs
        go_wp2
        go_roundg (n - (i + 1))
        case measure => omega
        case rel => exact ⟨i + 1, k + 2, by omega, by omega, congrArg (Value.int .i64) (by first | exact HW2.out | (simp only [i64_w]; exact HW2.out)), by go_num, ⟨by have := HK.out; omega⟩, ⟨by first | exact HN.out | (simp only [i64_w]; exact HN.out)⟩⟩
    · have hltz : ¬ (i : Int) < (n : Int) := by omega
      have : i = n := by omega
      subst this
      obtain rfl := hk
      clear hs
      go_wp2
      go_ret
      exact ⟨rfl, HM.out⟩
set_option maxHeartbeats 2000000 in
set_option maxRecDepth 100000 in
theorem marks_tabs (P : Nat → Prop) (A : Option Addr) (n c : Nat) (ns : List (Nat × Nat)) (hn : ns.length = n) (a : Int) (w : World) (h0 : 0 ≤ a) (hs : a + (tabSize_ ns : Int) ≤ 4000000000) (h : TabRow_ P w A ns) :
    Calls Try.prog 131 #[.slice A n c, .int .i64 a] w fun e w' => e = .returned (.int .i64 (a + (tabSize_ ns : Int))) ∧ Mk_ P w w' := by
  have HI := Aside0.mk h
  have HS := Aside0.mk hs
  have HL := Aside0.mk hn
  have hnb : n ≤ 4000000000 := by have := tab_len ns; omega
  clear h hs hn
  go_enter Try.func131, Try.ntmps131
  go_wp2
  go_loopg [1, 5] n (fun gg v1 v5 wr => ∃ (i : Nat) (k : Int), i ≤ n ∧ n - i ≤ gg ∧ v1 = .int .i64 k ∧ v5 = .int .i64 i ∧ Aside0 (k = a + (tabSize_ (ns.take i) : Int)) ∧ Aside0 (Mk_ P w wr))
  case atStart => exact ⟨0, a, Nat.zero_le _, by omega, rfl, rfl, ⟨by simp [tabSize_]⟩, ⟨Mk_.refl _ _⟩⟩
  case round =>
    obtain ⟨i, k, hi, hg, rfl, rfl, HK, HM⟩ := hrel
    have hk := HK.out
    have hs := HS.out
    have hl := HL.out
    by_cases hlt : i < n
    · have hltz : (i : Int) < (n : Int) := by omega
      obtain ⟨p, hp⟩ : ∃ p, ns[i]? = some p := ⟨_, List.getElem?_eq_getElem (by omega)⟩
      have ht : tabSize_ (ns.take (i + 1)) = tabSize_ (ns.take i) + (1 + p.1 + p.2) := sum_take _ ns hp
      have hle : tabSize_ (ns.take (i + 1)) ≤ tabSize_ ns := sum_le _ ns (i + 1)
      have HW := Aside0.mk (show wrap64 (k + 1) = k + 1 by unfold wrap64; omega)
      rcases HI.out.mk_ HM.out with h | ⟨g, cells, t, rfl, hP, hb, hz⟩
      · rw [h] at hp; cases hp
      · obtain ⟨⟨z, hz0⟩, ⟨A1, d1, hz1, i1⟩, ⟨A2, d2, hz2, i2⟩⟩ := hz i p hp
        have hx0 : wr.cell? ⟨g, i * 3, none⟩ = some (.int .i64 z) := (blk_cell hb _).trans hz0
        have hf0 : wr.frozen? ⟨g, i * 3, none⟩ = false := blk_frozen hb _
        have hx1 : wr.cell? ⟨g, i * 3 + 1, none⟩ = some (.slice A1 p.1 d1) := (blk_cell hb _).trans hz1
        have hf1 : wr.frozen? ⟨g, i * 3 + 1, none⟩ = false := blk_frozen hb _
        have hm1 : Mk_ P wr (wr.setCell ⟨g, i * 3, none⟩ (.int .i64 k)) := Mk_.set (Mk_.refl _ _) hP hb hz0
        obtain ⟨c1, hb1, _, hc1⟩ := keep_cells hm1 hb
        have hz2' := hc1 _ _ _ _ hz2
        have HC1 := Aside0.mk (marks_ints P A1 p.1 d1 (wrap64 (k + 1)) _ (by have := HW.out; omega) (by have := HW.out; omega) (i1.mk_ hm1))
        have HG := Aside0.mk (show ∀ W, Mk_ P (wr.setCell ⟨g, i * 3, none⟩ (.int .i64 k)) W → W.cell? ⟨g, i * 3 + 2, none⟩ = some (.slice A2 p.2 d2) ∧ W.frozen? ⟨g, i * 3 + 2, none⟩ = false ∧ (Calls Try.prog 31 #[.slice A2 p.2 d2, .int .i64 (wrap64 (k + 1) + p.1)] W fun e w' => e = .returned (.int .i64 (wrap64 (k + 1) + p.1 + p.2)) ∧ Mk_ P W w') from fun W hW => by
          obtain ⟨c2, hb2, _, hc2⟩ := keep_cells hW hb1
          exact ⟨(blk_cell hb2 _).trans (hc2 _ _ _ _ hz2'), blk_frozen hb2 _, marks_ints P A2 p.2 d2 (wrap64 (k + 1) + p.1) W (by have := HW.out; omega) (by have := HW.out; omega) ((i2.mk_ hm1).mk_ hW)⟩)
        have HM1 := Aside0.mk (HM.out.then_ hm1)
        have HT := Aside0.mk ht
        clear hb hz hP hk hz0 hz1 hs hl ht hle hm1 hb1 hc1 hz2' i1 i2 hz2 hp
        go_wp2_with (first | (go_at_call 31; refine HC1.out.mono ?_; rintro e w2 ⟨rfl, hm2⟩; obtain ⟨hx2, hf2, hc⟩ := HG.out w2 hm2; have HC2 := Aside0.mk hc; have HM2 := Aside0.mk hm2; clear hc hm2 HC1 HG) | (go_at_call 31; refine HC2.out.mono ?_; rintro e w3 ⟨rfl, hm3⟩; have HM3 := Aside0.mk hm3; clear hm3 HC2))
        go_roundg (n - (i + 1))
        case measure => omega
        case rel => exact ⟨i + 1, wrap64 (k + 1) + p.1 + p.2, by omega, by omega, rfl, by go_num, ⟨by have := HK.out; have := HT.out; have := HW.out; omega⟩, ⟨(HM1.out.then_ HM2.out).then_ HM3.out⟩⟩
    · have hltz : ¬ (i : Int) < (n : Int) := by omega
      have : i = n := by omega
      subst this
      rw [List.take_of_length_le (by omega)] at hk
      obtain rfl := hk
      clear hs hl
      go_wp2
      go_ret
      exact ⟨rfl, HM.out⟩
set_option maxHeartbeats 2000000 in
set_option maxRecDepth 100000 in
theorem marks_pieces (P : Nat → Prop) (A : Option Addr) (n c : Nat) (ns : List (Nat × List (Nat × Nat))) (hn : ns.length = n) (a : Int) (w : World) (h0 : 0 ≤ a) (hs : a + (pieSize_ ns : Int) ≤ 4000000000) (h : PieRow_ P w A ns) :
    Calls Try.prog 67 #[.slice A n c, .int .i64 a] w fun e w' => e = .returned (.int .i64 (a + (pieSize_ ns : Int))) ∧ Mk_ P w w' := by
  have HI := Aside0.mk h
  have HS := Aside0.mk hs
  have HL := Aside0.mk hn
  have hnb : n ≤ 4000000000 := by have := pie_len ns; omega
  clear h hs hn
  go_enter Try.func67, Try.ntmps67
  go_wp2
  go_loopg [1, 5] n (fun gg v1 v5 wr => ∃ (i : Nat) (k : Int), i ≤ n ∧ n - i ≤ gg ∧ v1 = .int .i64 k ∧ v5 = .int .i64 i ∧ Aside0 (k = a + (pieSize_ (ns.take i) : Int)) ∧ Aside0 (Mk_ P w wr))
  case atStart => exact ⟨0, a, Nat.zero_le _, by omega, rfl, rfl, ⟨by simp [pieSize_]⟩, ⟨Mk_.refl _ _⟩⟩
  case round =>
    obtain ⟨i, k, hi, hg, rfl, rfl, HK, HM⟩ := hrel
    have hk := HK.out
    have hs := HS.out
    have hl := HL.out
    by_cases hlt : i < n
    · have hltz : (i : Int) < (n : Int) := by omega
      obtain ⟨p, hp⟩ : ∃ p, ns[i]? = some p := ⟨_, List.getElem?_eq_getElem (by omega)⟩
      have ht : pieSize_ (ns.take (i + 1)) = pieSize_ (ns.take i) + (2 + p.1 * 2 + tabSize_ p.2) := sum_take _ ns hp
      have hle : pieSize_ (ns.take (i + 1)) ≤ pieSize_ ns := sum_le _ ns (i + 1)
      have HW := Aside0.mk (show wrap64 (k + 1) = k + 1 by unfold wrap64; omega)
      have HW2 := Aside0.mk (show wrap64 (wrap64 (k + 1) + 1) = k + 2 by unfold wrap64; omega)
      rcases HI.out.mk_ HM.out with h | ⟨g, cells, t, rfl, hP, hb, hz⟩
      · rw [h] at hp; cases hp
      · obtain ⟨⟨z, hz0⟩, ⟨z', hz0'⟩, ⟨A1, d1, hz1, i1⟩, ⟨A2, d2, hz2, i2⟩⟩ := hz i p hp
        have hx0 : wr.cell? ⟨g, i * 4, none⟩ = some (.int .i64 z) := (blk_cell hb _).trans hz0
        have hf0 : wr.frozen? ⟨g, i * 4, none⟩ = false := blk_frozen hb _
        have hx0' : wr.cell? ⟨g, i * 4 + 1, none⟩ = some (.int .i64 z') := (blk_cell hb _).trans hz0'
        have hf0' : wr.frozen? ⟨g, i * 4 + 1, none⟩ = false := blk_frozen hb _
        have hx1 : wr.cell? ⟨g, i * 4 + 2, none⟩ = some (.slice A1 p.1 d1) := (blk_cell hb _).trans hz1
        have hf1 : wr.frozen? ⟨g, i * 4 + 2, none⟩ = false := blk_frozen hb _
        have hm1 : Mk_ P wr ((wr.setCell ⟨g, i * 4, none⟩ (.int .i64 k)).setCell ⟨g, i * 4 + 1, none⟩ (.int .i64 (wrap64 (k + 1)))) := Mk_.set (Mk_.set (Mk_.refl _ _) hP hb hz0) hP (blk_set hb (i * 4) (.int .i64 k)) (z := z') (by rw [Array.getElem?_setIfInBounds_ne (by omega)]; exact hz0')
        obtain ⟨c1, hb1, _, hc1⟩ := keep_cells hm1 hb
        have hz2' := hc1 _ _ _ _ hz2
        have HC1 := Aside0.mk (marks_links P A1 p.1 d1 (wrap64 (wrap64 (k + 1) + 1)) _ (by have := HW2.out; omega) (by have := HW2.out; omega) (i1.mk_ hm1))
        have HG := Aside0.mk (show ∀ W, Mk_ P ((wr.setCell ⟨g, i * 4, none⟩ (.int .i64 k)).setCell ⟨g, i * 4 + 1, none⟩ (.int .i64 (wrap64 (k + 1)))) W → W.cell? ⟨g, i * 4 + 3, none⟩ = some (.slice A2 p.2.length d2) ∧ W.frozen? ⟨g, i * 4 + 3, none⟩ = false ∧ (Calls Try.prog 131 #[.slice A2 p.2.length d2, .int .i64 (wrap64 (wrap64 (k + 1) + 1) + ((p.1 * 2 : Nat) : Int))] W fun e w' => e = .returned (.int .i64 (wrap64 (wrap64 (k + 1) + 1) + ((p.1 * 2 : Nat) : Int) + (tabSize_ p.2 : Int))) ∧ Mk_ P W w') from fun W hW => by
          obtain ⟨c2, hb2, _, hc2⟩ := keep_cells hW hb1
          exact ⟨(blk_cell hb2 _).trans (hc2 _ _ _ _ hz2'), blk_frozen hb2 _, marks_tabs P A2 p.2.length d2 p.2 rfl (wrap64 (wrap64 (k + 1) + 1) + ((p.1 * 2 : Nat) : Int)) W (by have := HW2.out; omega) (by have := HW2.out; omega) ((i2.mk_ hm1).mk_ hW)⟩)
        have HM1 := Aside0.mk (HM.out.then_ hm1)
        have HT := Aside0.mk ht
        clear hb hz hP hk hz0 hz0' hz1 hs hl ht hle hm1 hb1 hc1 hz2' i1 i2 hz2 hp
        go_wp2_with (first | (go_at_call 52; refine HC1.out.mono ?_; rintro e w2 ⟨rfl, hm2⟩; obtain ⟨hx2, hf2, hc⟩ := HG.out w2 hm2; have HC2 := Aside0.mk hc; have HM2 := Aside0.mk hm2; clear hc hm2 HC1 HG) | (go_at_call 131; refine HC2.out.mono ?_; rintro e w3 ⟨rfl, hm3⟩; have HM3 := Aside0.mk hm3; clear hm3 HC2))
        go_roundg (n - (i + 1))
        case measure => omega
        case rel => exact ⟨i + 1, wrap64 (wrap64 (k + 1) + 1) + ((p.1 * 2 : Nat) : Int) + (tabSize_ p.2 : Int), by omega, by omega, rfl, by go_num, ⟨by have := HK.out; have := HT.out; have := HW2.out; omega⟩, ⟨(HM1.out.then_ HM2.out).then_ HM3.out⟩⟩
    · have hltz : ¬ (i : Int) < (n : Int) := by omega
      have : i = n := by omega
      subst this
      rw [List.take_of_length_le (by omega)] at hk
      obtain rfl := hk
      clear hs hl
      go_wp2
      go_ret
      exact ⟨rfl, HM.out⟩
/-- A row of numbers, as the marks ask for it. -/
theorem int_row {P : Nat → Prop} {w : World} {e base : Nat} {ok : Nat → Prop} {A : Option Addr} {n c : Nat} {l : List Int} (h : Kd.R (Kd.int .i64) e w base ok (.slice A n c) l) (hP : ∀ k, ok k → P k) : IntRow_ P w A n := by
  by_cases hn : n = 0
  · exact .inl hn
  · obtain ⟨hl, _, _⟩ := Kd.R_reads' h
    obtain ⟨g, cap, he, _, _, cells, hb⟩ := Kd.R_form h (by omega)
    injection he with hA _ _
    subst hA
    refine .inr ⟨g, cells, e, rfl, hP g (h.1 g rfl), hb, fun j hj => ?_⟩
    obtain ⟨cs, hcl, hM, hcc, _⟩ := Kd.R_elem h 0 (j : Int) (by omega) (by omega)
    have hK := (Kd.int .i64).K_of_M hM
    obtain rfl : cs = [.int .i64 (l.getD j 0)] := hK
    have h2 := hcc 0 _ rfl
    rw [blk_cell hb] at h2
    exact ⟨_, (by simpa [Kd.int, Kd.scalar] using h2)⟩
theorem link_row {P : Nat → Prop} {w : World} {e base : Nat} {ok : Nat → Prop} {A : Option Addr} {n c : Nat} {l : List (S166)} (h : Kd.R k166 e w base ok (.slice A n c) l) (hP : ∀ k, ok k → P k) : IntRow_ P w A (n * 2) := by
  by_cases hn : n = 0
  · exact .inl (by omega)
  · obtain ⟨hl, _, _⟩ := Kd.R_reads' h
    obtain ⟨g, cap, he, _, _, cells, hb⟩ := Kd.R_form h (by omega)
    injection he with hA _ _
    subst hA
    refine .inr ⟨g, cells, e, rfl, hP g (h.1 g rfl), hb, fun j hj => ?_⟩
    obtain ⟨cs, hcl, hM, hcc, _⟩ := Kd.R_elem h z166 ((j / 2 : Nat) : Int) (by omega) (by omega)
    obtain rfl := k166_open (k166.K_of_M hM)
    have e1 : ((j / 2 : Nat) : Int).toNat * k166.sz = j / 2 * 2 := rfl
    rcases Nat.mod_two_eq_zero_or_one j with h0 | h0
    · have h2 := hcc 0 _ rfl
      rw [blk_cell hb, e1, show j / 2 * 2 + 0 = j by omega] at h2
      exact ⟨_, h2⟩
    · have h2 := hcc 1 _ rfl
      rw [blk_cell hb, e1, show j / 2 * 2 + 1 = j by omega] at h2
      exact ⟨_, h2⟩
def tabShape_ (l : List (S247)) : List (Nat × Nat) := l.map fun x => (x.f1.length, x.f2.length)
theorem tab_row {P : Nat → Prop} {w : World} {e base : Nat} {ok : Nat → Prop} {A : Option Addr} {n c : Nat} {l : List (S247)} (h : Kd.R k247 e w base ok (.slice A n c) l) (hP : ∀ k, ok k → P k) : TabRow_ P w A (tabShape_ l) := by
  obtain ⟨hl, _, _⟩ := Kd.R_reads' h
  by_cases hn : n = 0
  · exact .inl (by unfold tabShape_; rw [List.eq_nil_of_length_eq_zero (by omega : l.length = 0)]; rfl)
  · obtain ⟨g, cap, he, _, _, cells, hb⟩ := Kd.R_form h (by omega)
    injection he with hA _ _
    subst hA
    refine .inr ⟨g, cells, e, rfl, hP g (h.1 g rfl), hb, fun j p hj => ?_⟩
    unfold tabShape_ at hj
    rw [List.getElem?_map] at hj
    obtain ⟨x, hx, rfl⟩ := Option.map_eq_some_iff.1 hj
    have hjl : j < l.length := (List.getElem?_eq_some_iff.1 hx).1
    obtain ⟨cs, hcl, hM, hcc, _⟩ := Kd.R_elem h z247 (j : Int) (by omega) (by omega)
    rw [show l.getD ((j : Int)).toNat z247 = x by rw [Int.toNat_natCast, List.getD_eq_getElem?_getD, hx]; rfl] at hM
    obtain ⟨v1, v2, rfl, g1, g2⟩ := k247_openM hM
    obtain ⟨A1, c1, rfl⟩ := Kd.R_slice g1
    obtain ⟨A2, c2, rfl⟩ := Kd.R_slice g2
    have e1 : ((j : Nat) : Int).toNat * k247.sz = j * 3 := rfl
    have h0 := hcc 0 _ rfl
    have h1 := hcc 1 _ rfl
    have h2 := hcc 2 _ rfl
    rw [blk_cell hb, e1] at h0 h1 h2
    exact ⟨⟨_, h0⟩, ⟨A1, c1, h1, int_row g1 (fun k hk => hP k hk.1)⟩, ⟨A2, c2, h2, int_row g2 (fun k hk => hP k hk.1)⟩⟩
def pieShape_ (l : List (S112)) : List (Nat × List (Nat × Nat)) := l.map fun x => (x.f1.length, tabShape_ x.f2)
theorem pie_row {P : Nat → Prop} {w : World} {e base : Nat} {ok : Nat → Prop} {A : Option Addr} {n c : Nat} {l : List (S112)} (h : Kd.R k112 e w base ok (.slice A n c) l) (hP : ∀ k, ok k → P k) : PieRow_ P w A (pieShape_ l) := by
  obtain ⟨hl, _, _⟩ := Kd.R_reads' h
  by_cases hn : n = 0
  · exact .inl (by unfold pieShape_; rw [List.eq_nil_of_length_eq_zero (by omega : l.length = 0)]; rfl)
  · obtain ⟨g, cap, he, _, _, cells, hb⟩ := Kd.R_form h (by omega)
    injection he with hA _ _
    subst hA
    refine .inr ⟨g, cells, e, rfl, hP g (h.1 g rfl), hb, fun j p hj => ?_⟩
    unfold pieShape_ at hj
    rw [List.getElem?_map] at hj
    obtain ⟨x, hx, rfl⟩ := Option.map_eq_some_iff.1 hj
    have hjl : j < l.length := (List.getElem?_eq_some_iff.1 hx).1
    obtain ⟨cs, hcl, hM, hcc, _⟩ := Kd.R_elem h z112 (j : Int) (by omega) (by omega)
    rw [show l.getD ((j : Int)).toNat z112 = x by rw [Int.toNat_natCast, List.getD_eq_getElem?_getD, hx]; rfl] at hM
    obtain ⟨v1, v2, rfl, g1, g2⟩ := k112_openM hM
    obtain ⟨A1, c1, rfl⟩ := Kd.R_slice g1
    obtain ⟨A2, c2, rfl⟩ := Kd.R_slice g2
    have e1 : ((j : Nat) : Int).toNat * k112.sz = j * 4 := rfl
    have h0 := hcc 0 _ rfl
    have h1 := hcc 1 _ rfl
    have h2 := hcc 2 _ rfl
    have h3 := hcc 3 _ rfl
    rw [blk_cell hb, e1] at h0 h1 h2 h3
    refine ⟨⟨_, h0⟩, ⟨_, h1⟩, ⟨A1, c1, h2, link_row g1 (fun k hk => hP k hk.1)⟩, ⟨A2, c2, ?_, tab_row g2 (fun k hk => hP k hk.1)⟩⟩
    rw [show (tabShape_ x.f2).length = x.f2.length from List.length_map _]
    exact h3
theorem Mk_.alloc {P : Nat → Prop} {w W : World} (h : Mk_ P w W) (o : Obj) : Mk_ P w (W.alloc o) := by
  have hb := below_alloc (Below.refl W.heap.size W) o
  exact h.then_ ⟨⟨hb.os, hb.tape, hb.output, hb.size, fun k hk => absurd hk (Nat.not_lt_zero k)⟩, fun b hlt _ => hb.block b hlt, fun b cells t hc => ⟨cells, (hb.block b (blk_lt hc)).trans hc, fun _ u hu => ⟨u, hu, .inl rfl⟩⟩⟩
def laws_markProgram.f (a0_0 : Int) (a0_1 : Int) (a0_2 : Int) (l0_3 : List (S112)) (a1 : Int) : Option (Int) := if 0 ≤ a1 ∧ a1 + (pieSize_ (pieShape_ l0_3) : Int) ≤ 4000000000 then some (a1 + (pieSize_ (pieShape_ l0_3) : Int)) else none
set_option maxHeartbeats 2000000 in
set_option maxRecDepth 100000 in
theorem laws_markProgram.calls (a0_0 : Int) (a0_1 : Int) (a0_2 : Int) (P0_ : Nat → Prop) (u9000_ : Value) (l0_3 : List (S112)) (a1 : Int) (r1 : Int) (w0 w : World) (hB : Below w0.heap.size w0 w) (ho0 : Kd.R k112 112 w w0.heap.size P0_ u9000_ l0_3) (h : laws_markProgram.f a0_0 a0_1 a0_2 l0_3 a1 = some r1) :
    Calls Try.prog 18 #[.agg #[.int .i64 a0_0, .int .i64 a0_1, .int .i64 a0_2, u9000_], .int .i64 a1] w fun e w' => e = .returned (.int .i64 r1) ∧ Below w0.heap.size w0 w' ∧ Kept w w' (fun k_ => P0_ k_) := by
  unfold laws_markProgram.f at h
  split at h
  · rename_i hs
    obtain rfl := Option.some.inj h
    obtain ⟨A, c, rfl⟩ := Kd.R_slice ho0
    have HP := Aside0.mk (pie_row (P := fun k => P0_ k ∧ w0.heap.size ≤ k) (Kd.R_bound ho0) (fun k hk => ⟨hk.1, hk.2.1⟩))
    have HS := Aside0.mk hs
    have HB := Aside0.mk hB
    have HL := Aside0.mk (show (pieShape_ l0_3).length = l0_3.length from List.length_map _)
    clear h hs ho0 hB
    generalize pieShape_ l0_3 = ns at HP HS HL
    generalize l0_3.length = n at HL
    go_enter Try.func18, Try.ntmps18
    go_wp2_with (go_at_call 67; refine (marks_pieces (fun k => P0_ k ∧ w0.heap.size ≤ k) A n c ns HL.out a1 _ HS.out.1 HS.out.2 (HP.out.mk_ (by repeat (first | exact Mk_.refl _ _ | apply Mk_.alloc | apply Mk_.drewN)))).mono ?_; rintro e w2 ⟨rfl, hm⟩)
    go_ret
    have hw : Mk_ (fun k => P0_ k ∧ w0.heap.size ≤ k) w w2 := Mk_.then_ (by repeat (first | exact Mk_.refl _ _ | apply Mk_.alloc | apply Mk_.drewN)) hm
    exact ⟨rfl, HB.out.trans ⟨hw.1.os, hw.1.tape, hw.1.output, hw.1.size, fun b hb => hw.2.1 b (Nat.lt_of_lt_of_le hb HB.out.size) (fun h => Nat.lt_irrefl _ (Nat.lt_of_lt_of_le hb h.2))⟩, hw.1.size, fun b hb hn => hw.2.1 b hb (fun h => hn h.1)⟩
  · cases h

/-! ### slices_Sort_int_int: function 123 -/
def slices_Sort_int_int.ren : Go.Shelf.Ren := ⟨fun | 5 => 123 | 8 => 170 | 7 => 169 | 19 => 198 | 20 => 199 | 10 => 189 | 11 => 190 | 12 => 191 | 13 => 192 | 14 => 193 | 15 => 194 | 16 => 195 | 17 => 196 | 18 => 197 | 30 => 209 | 31 => 210 | 32 => 211 | 33 => 212 | 34 => 213 | 35 => 214 | 40 => 218 | n => n, fun | 23 => 44 | 25 => 3 | 3 => 3 | 32 => 241 | 22 => 44 | 0 => 0 | 44 => 281 | 46 => 283 | 4 => 4 | 36 => 274 | 35 => 273 | 41 => 278 | 5 => 5 | 9 => 9 | 53 => 294 | 57 => 298 | 63 => 301 | 64 => 302 | n => n, fun | n => n⟩
theorem slices_Sort_int_int.lays : Go.Proofs.SlLaysM.n5 Try.prog slices_Sort_int_int.ren := {
  mixed := by kernel_rfl
  f5 := ⟨Try.f123.name, by decide, Try.func123.trans (congrArg some (by kernel_rfl))⟩
  f7 := ⟨Try.f169.name, by decide, Try.func169.trans (congrArg some (by kernel_rfl))⟩
  f8 := Try.func170.trans (congrArg some (by kernel_rfl))
  f10 := ⟨Try.f189.name, by decide, Try.func189.trans (congrArg some (by kernel_rfl))⟩
  f11 := ⟨Try.f190.name, by decide, Try.func190.trans (congrArg some (by kernel_rfl))⟩
  f12 := ⟨Try.f191.name, by decide, Try.func191.trans (congrArg some (by kernel_rfl))⟩
  f13 := ⟨Try.f192.name, by decide, Try.func192.trans (congrArg some (by kernel_rfl))⟩
  f14 := ⟨Try.f193.name, by decide, Try.func193.trans (congrArg some (by kernel_rfl))⟩
  f15 := ⟨Try.f194.name, by decide, Try.func194.trans (congrArg some (by kernel_rfl))⟩
  f16 := ⟨Try.f195.name, by decide, Try.func195.trans (congrArg some (by kernel_rfl))⟩
  f17 := ⟨Try.f196.name, by decide, Try.func196.trans (congrArg some (by kernel_rfl))⟩
  f18 := ⟨Try.f197.name, by decide, Try.func197.trans (congrArg some (by kernel_rfl))⟩
  f19 := Try.func198.trans (congrArg some (by kernel_rfl))
  f20 := Try.func199.trans (congrArg some (by kernel_rfl))
  f30 := ⟨Try.f209.name, by decide, Try.func209.trans (congrArg some (by kernel_rfl))⟩
  f31 := Try.func210.trans (congrArg some (by kernel_rfl))
  f32 := Try.func211.trans (congrArg some (by kernel_rfl))
  f33 := ⟨Try.f212.name, by decide, Try.func212.trans (congrArg some (by kernel_rfl))⟩
  f34 := ⟨Try.f213.name, by decide, Try.func213.trans (congrArg some (by kernel_rfl))⟩
  f35 := ⟨Try.f214.name, by decide, Try.func214.trans (congrArg some (by kernel_rfl))⟩
  f40 := ⟨Try.f218.name, by decide, Try.func218.trans (congrArg some (by kernel_rfl))⟩
  t0 := Try.underlying0
  a0 := Try.isAgg0
  z0 := Try.sizeOf0
  v0 := Try.zeroValue0
  t3 := Try.underlying3
  a3 := Try.isAgg3
  z3 := Try.sizeOf3
  v3 := Try.zeroValue3
  t4 := Try.underlying4
  a4 := Try.isAgg4
  z4 := Try.sizeOf4
  v4 := Try.zeroValue4
  t5 := Try.underlying5
  a5 := Try.isAgg5
  z5 := Try.sizeOf5
  v5 := Try.zeroValue5
  t9 := Try.underlying9
  a9 := Try.isAgg9
  z9 := Try.sizeOf9
  v9 := Try.zeroValue9
  t22 := Try.underlying44
  a22 := Try.isAgg44
  z22 := Try.sizeOf44
  v22 := Try.zeroValue44
  t23 := Try.underlying44
  a23 := Try.isAgg44
  z23 := Try.sizeOf44
  v23 := Try.zeroValue44
  t25 := Try.underlying3
  a25 := Try.isAgg3
  z25 := Try.sizeOf3
  v25 := Try.zeroValue3
  t32 := Try.underlying241
  a32 := Try.isAgg241
  z32 := Try.sizeOf241
  v32 := Try.zeroValue241
  t35 := Try.underlying273
  a35 := Try.isAgg273
  z35 := Try.sizeOf273
  v35 := Try.zeroValue273
  t36 := Try.underlying274
  a36 := Try.isAgg274
  z36 := Try.sizeOf274
  v36 := Try.zeroValue274
  t41 := Try.underlying278
  a41 := Try.isAgg278
  z41 := Try.sizeOf278
  v41 := Try.zeroValue278
  t44 := Try.underlying281
  a44 := Try.isAgg281
  z44 := Try.sizeOf281
  v44 := Try.zeroValue281
  t46 := Try.underlying283
  a46 := Try.isAgg283
  z46 := Try.sizeOf283
  v46 := Try.zeroValue283
  t53 := Try.underlying294
  a53 := Try.isAgg294
  z53 := Try.sizeOf294
  v53 := Try.zeroValue294
  t57 := Try.underlying298
  a57 := Try.isAgg298
  z57 := Try.sizeOf298
  v57 := Try.zeroValue298
  t63 := Try.underlying301
  a63 := Try.isAgg301
  z63 := Try.sizeOf301
  v63 := Try.zeroValue301
  t64 := Try.underlying302
  a64 := Try.isAgg302
  z64 := Try.sizeOf302
  v64 := Try.zeroValue302 }
def slices_Sort_int_int.f (l0 : List Int) : Option (List Int) := if l0.length < 4611686018427387904 then some (l0.mergeSort fun x y => decide (x ≤ y)) else none
theorem slices_Sort_int_int.calls (P0_ : Nat → Prop) (u9000_ : Value) (l0 : List Int) (r1 : List Int) (w0 w : World) (hB : Below w0.heap.size w0 w) (ho0 : Kd.R (Kd.int .i64) 3 w w0.heap.size P0_ u9000_ l0) (h : slices_Sort_int_int.f l0 = some r1) :
    Calls Try.prog 123 #[u9000_] w fun e w' => e = .returned (.tuple #[]) ∧ Kd.R (Kd.int .i64) 3 w' w0.heap.size (fun k_ => (P0_ k_ ∨ w.heap.size ≤ k_)) u9000_ r1 ∧ Below w0.heap.size w0 w' ∧ Kept w w' (fun k_ => P0_ k_) := by
  unfold slices_Sort_int_int.f at h
  split at h <;> rename_i hsz
  case isFalse => cases h
  obtain rfl := Option.some.inj h
  by_cases hn : l0.length = 0
  · obtain rfl := List.eq_nil_of_length_eq_zero hn
    obtain ⟨A, c, rfl⟩ := Kd.R_slice ho0
    refine (Go.Proofs.AnyM.slices_Sort_int_none slices_Sort_int_int.lays A c w).mono ?_
    rintro e w' ⟨rfl, rfl⟩
    exact ⟨rfl, by rw [List.mergeSort_nil]; exact Kd.R_mono ho0 (fun _ hk => .inl hk), hB, Kept.refl _ _⟩
  · have hown := Kd.own_of_R ho0
    obtain ⟨hlen, hv | ⟨g, cap, cur, rfl, hbase, hb, h1, h2, h3, h4⟩⟩ := hown
    · obtain ⟨g, cap, he, _⟩ := Kd.R_form ho0 (by omega)
      rw [he] at hv
      cases hv.1
    · have hH := holds_of_blockI (ss := l0) hb (by simpa [encs] using h4)
      refine (Go.Proofs.AnyM.slices_Sort_int slices_Sort_int_int.lays g 0 cap l0 w hH (blk_lt hb) hsz).mono ?_
      rintro e w' ⟨rfl, q, os, rfl⟩
      have hts : (l0.mergeSort fun x y => decide (x ≤ y)).length = l0.length := List.length_mergeSort _
      generalize (l0.mergeSort fun x y => decide (x ≤ y)) = ts at hts
      have hg := grownBy_sortedI (w := w) (g := g) (n := q) (os := os) ts.toArray
      have hrow := ownsRow_sortedI (w := w) (base := w0.heap.size) (g := g) (cap := cap) (n := q) (e := 3) (os := os) (ss := l0) hts hbase hb h1 h2 (by simpa using h3)
      have hR : Kd.R (Kd.int .i64) 3 _ w0.heap.size (fun k_ => P0_ k_ ∨ w.heap.size ≤ k_) (.slice (some ⟨g, 0, none⟩) l0.length cap) ts := Kd.R_of_own (enc := Value.int .i64) (h1 := fun _ => rfl) (by rw [hts]; exact hrow) (fun k hk => .inl (ho0.1 k hk))
      exact ⟨rfl, hR, hB.trans ⟨hg.os, hg.tape, hg.output, hg.size, fun k hk => hg.block k (Nat.lt_of_lt_of_le hk hB.size) (fun e => by injection e with e; omega)⟩, Kept.of_grown hg (Kept.refl _ _) (fun k e => .inl (ho0.1 k e))⟩

/-! ### slices_Compact_int_int: function 124 -/
def slices_Compact_int_int.ren : Go.Shelf.Ren := ⟨fun | 20 => 124 | n => n, fun | 22 => 44 | 3 => 3 | 4 => 4 | 0 => 0 | n => n, fun | n => n⟩
theorem slices_Compact_int_int.lays : Go.Proofs.Lays2.n20 Try.prog slices_Compact_int_int.ren := {
  mixed := by kernel_rfl
  f20 := Try.func124.trans (congrArg some (by kernel_rfl))
  t0 := Try.underlying0
  a0 := Try.isAgg0
  z0 := Try.sizeOf0
  v0 := Try.zeroValue0
  t3 := Try.underlying3
  a3 := Try.isAgg3
  z3 := Try.sizeOf3
  v3 := Try.zeroValue3
  t4 := Try.underlying4
  a4 := Try.isAgg4
  z4 := Try.sizeOf4
  v4 := Try.zeroValue4
  t22 := Try.underlying44
  a22 := Try.isAgg44
  z22 := Try.sizeOf44
  v22 := Try.zeroValue44
  i3 := by kernel_rfl }
def slices_Compact_int_int.f (l0 : List Int) : Option (List Int) := some (Lib.compact l0)
theorem compact_le (l : List Int) : (Lib.compact l).length ≤ l.length := by
  unfold Lib.compact Lib.compactUpTo
  rw [List.length_map]
  exact Nat.le_trans (List.length_filter_le _ _) (by simp)
theorem slices_Compact_int_int.calls (P0_ : Nat → Prop) (u9000_ : Value) (l0 : List Int) (r1 : List Int) (w0 w : World) (hB : Below w0.heap.size w0 w) (ho0 : Kd.R (Kd.int .i64) 3 w w0.heap.size P0_ u9000_ l0) (h : slices_Compact_int_int.f l0 = some r1) :
    Calls Try.prog 124 #[u9000_] w fun e w' => ∃ v1, e = .returned v1 ∧ Kd.R (Kd.int .i64) 3 w' w0.heap.size (fun k_ => (P0_ k_ ∨ w.heap.size ≤ k_)) v1 r1 ∧ Below w0.heap.size w0 w' ∧ Kept w w' (fun k_ => P0_ k_) := by
  obtain rfl := Option.some.inj h
  by_cases hn : l0.length = 0
  · obtain rfl := List.eq_nil_of_length_eq_zero hn
    obtain ⟨A, c, rfl⟩ := Kd.R_slice ho0
    refine (Go.Proofs.Any.slices_Compact_int_empty slices_Compact_int_int.lays A c w).mono ?_
    rintro e w' ⟨rfl, rfl⟩
    exact ⟨_, rfl, Kd.R_mono ho0 (fun _ hk => .inl hk), hB, Kept.refl _ _⟩
  · have hown := Kd.own_of_R ho0
    obtain ⟨hlen, hv | ⟨g, cap, cur, rfl, hbase, hb, h1, h2, h3, h4⟩⟩ := hown
    · obtain ⟨g, cap, he, _⟩ := Kd.R_form ho0 (by omega)
      rw [he] at hv
      cases hv.1
    · have hH := holds_of_blockI (ss := l0) hb (by simpa [encs] using h4)
      have hc := compact_le l0
      refine (Go.Proofs.Any.slices_Compact_int slices_Compact_int_int.lays g 0 cap l0 w hH (by unfold maxLen at h2; omega) h1).mono ?_
      rintro e w' ⟨rfl, q, rfl⟩
      have hts : (Lib.compact l0 ++ List.replicate (l0.length - (Lib.compact l0).length) 0).length = l0.length := by rw [List.length_append, List.length_replicate]; omega
      have htk : (Lib.compact l0 ++ List.replicate (l0.length - (Lib.compact l0).length) 0).take (Lib.compact l0).length = Lib.compact l0 := List.take_left' rfl
      generalize Lib.compact l0 ++ List.replicate (l0.length - (Lib.compact l0).length) 0 = ts at hts htk
      have hg := grownBy_sortedI (w := w) (g := g) (n := q) (os := #[]) ts.toArray
      have hrow := ownsRow_sortedI (w := w) (base := w0.heap.size) (g := g) (cap := cap) (n := q) (e := 3) (os := #[]) (ss := l0) hts hbase hb h1 h2 (by simpa using h3)
      have hgrow : ∀ W : World, Go.Sort.grow W #[] = W := fun W => by unfold Go.Sort.grow; simp
      rw [hgrow] at hg hrow
      have hR : Kd.R (Kd.int .i64) 3 _ w0.heap.size (fun k_ => P0_ k_ ∨ w.heap.size ≤ k_) (.slice (some ⟨g, 0, none⟩) l0.length cap) ts := Kd.R_of_own (enc := Value.int .i64) (h1 := fun _ => rfl) (by rw [hts]; exact hrow) (fun k hk => .inl (ho0.1 k hk))
      have hT := Kd.R_take hR (m := (Lib.compact l0).length) (by omega)
      rw [htk] at hT
      exact ⟨_, rfl, hT, hB.trans ⟨hg.os, hg.tape, hg.output, hg.size, fun k hk => hg.block k (Nat.lt_of_lt_of_le hk hB.size) (fun e => by injection e with e; omega)⟩, Kept.of_grown hg (Kept.refl _ _) (fun k e => .inl (ho0.1 k e))⟩

/-! ### impl_NeighborsIn: function 58 -/
def impl_NeighborsIn.l0 : Nat → Int → List Int → List (S166) → Int → Int → Option (List Int)
  | 0, _, _, _, _, _ => none
  | k + 1, x1, x5, x9, x10, x11 => if x11 < x10 then (if 0 ≤ x11 then (if x11 < (x9.length : Int) then (if ((rd_T166 x9 x11).f0) = x1 then (if x5.length < 17592186044416 then ((some (x5 ++ [(rd_T166 x9 x11).f1] : List Int)).bind fun y222 => (if ((rd_T166 x9 x11).f1) = x1 then (if y222.length < 17592186044416 then (impl_NeighborsIn.l0 k x1 (y222 ++ [(rd_T166 x9 x11).f0]) x9 x10 (wrap64 (x11 + 1))) else (none)) else (impl_NeighborsIn.l0 k x1 y222 x9 x10 (wrap64 (x11 + 1))))) else (none)) else (if ((rd_T166 x9 x11).f1) = x1 then (if x5.length < 17592186044416 then (impl_NeighborsIn.l0 k x1 (x5 ++ [(rd_T166 x9 x11).f0]) x9 x10 (wrap64 (x11 + 1))) else (none)) else (impl_NeighborsIn.l0 k x1 x5 x9 x10 (wrap64 (x11 + 1))))) else (none)) else (none)) else ((slices_Sort_int_int.f x5).bind fun t216 => ((slices_Compact_int_int.f t216).bind fun t217 => (some t217)))
def impl_NeighborsIn.f (k : Nat) (l0 : List (S166)) (a1 : Int) : Option (List Int) := impl_NeighborsIn.l0 k a1 (([] : List Int)) l0 (l0.length : Int) 0
set_option maxHeartbeats 8000000 in
set_option maxRecDepth 100000 in
theorem impl_NeighborsIn.calls (k : Nat) (A0 : Option Addr) (c0 : Nat) (l0 : List (S166)) (a1 : Int) (r : List Int) (w : World) (hr0 : Kd.C k166 w A0 l0.length l0) (hc0 : l0.length ≤ c0) (h : impl_NeighborsIn.f k l0 a1 = some r) :
    Calls Try.prog 58 #[.slice A0 l0.length c0, .int .i64 a1] w fun e w' => ∃ v0_ : Value, e = .returned (v0_) ∧ Kd.R (Kd.int .i64) 3 w' w.heap.size (fun _ => True) v0_ r ∧ Below w.heap.size w w' := by
  have hu166 := Try.underlying166
  have HR0 := Aside0.mk hr0
  have HC0 := Aside0.mk hc0
  clear hr0 hc0
  have HB := Aside0.mk (Below.refl w.heap.size w)
  have H : (impl_NeighborsIn.l0 k a1 (([] : List Int)) l0 (l0.length : Int) 0) = some r := h
  clear h
  obtain ⟨y213, hy213⟩ : ∃ y_ : List Int, y_ = (([] : List Int)) := ⟨_, rfl⟩
  replace H : (impl_NeighborsIn.l0 k a1 y213 l0 (l0.length : Int) 0) = some r := by first | (rw [hy213]; with_reducible exact H) | (have H2_ := (Option.bind_some _ _).symm.trans H; rw [hy213]; with_reducible exact H2_) | (have H2_ := (Option.bind_some _ _).symm.trans H; with_reducible exact H2_) | with_reducible exact H | (rw [hy213]; exact H) | exact H
  have Ny213 := Aside0.mk hy213
  clear hy213
  have H' := Aside0.mk H
  clear H
  go_enter Try.func58, Try.ntmps58
  go_wp2_with (first | ((with_reducible refine gate_dst (N := 8) rfl ?_); refine Kd.R_lit (Kd.int .i64) _ 3 ?hg (N := 8) ?hd (xs := ([] : List Int)) (inner := []) (ok := fun _ => True) (okp := fun _ => True) ?hr ?hp (fun _ hk => hk) trivial (Below.refl _ _) (Nat.le_refl _) (by simp) ?_; (case hd => rfl); (case hg => rfl); (case hr => first | (go_simp; done) | (go_simp; rfl)); (case hp => exact (Reps.none _ _)); intro v214 w3 ho4 hb hg_ hnew_; clear hg_ hnew_; (first | rw [← Ny213.out] at ho4 | (simp only [Int.reduceToNat] at ho4; rw [← Ny213.out] at ho4)); have n0_ := Aside0.mk (Kd.R_lower ho4 (below_size (by repeat (first | (with_reducible first | exact HB.out | apply below_alloc | apply pw_below_drewN | apply below_drew1) | exact HB.out)))); have n1_ := Aside0.mk (below_step (by repeat (first | (with_reducible first | exact HB.out | apply below_alloc | apply pw_below_drewN | apply below_drew1) | exact HB.out)) hb); clear HB; have HO215 := n0_; have HB := n1_; clear n0_ n1_; clear hb ho4))
  go_loopg [5, 11] k (fun kq v5 v11 w' => ∃ (x5_1 : List Int) (x11_1 : Int), v11 = .int .i64 x11_1 ∧ Aside0 (impl_NeighborsIn.l0 kq a1 x5_1 l0 (l0.length : Int) x11_1 = some r) ∧ Aside0 (kq ≤ k) ∧ Aside0 (Kd.R (Kd.int .i64) 3 w' w.heap.size (fun _ => True) v5 x5_1) ∧ Aside0 (Below w.heap.size w w'))
  case atStart => exact ⟨(y213), (0), (by first | rfl | (simp; done) | (simp [*]; done)), H', ⟨Nat.le_refl _⟩, ⟨by (with_reducible repeat (first | apply Kd.R_alloc | apply Kd.R_drewN | apply Kd.R_drew)); exact HO215.out⟩, ⟨by repeat (first | (with_reducible first | exact HB.out | apply below_alloc | apply pw_below_drewN | apply below_drew1) | exact HB.out)⟩⟩
  case round =>
    clear H'
    try clear p2
    obtain ⟨x5_1, x11_1, rfl, HA, HK1, HO_5, HB⟩ := hrel
    cases gk with
    | zero => exact absurd HA.out (by simp [impl_NeighborsIn.l0])
    | succ k1 =>
      have H := HA.out
      clear HA
      simp only [impl_NeighborsIn.l0] at H
      by_cases c5 : x11_1 < (l0.length : Int)
      · rw [if_pos c5] at H
        have c5b0 : decide (x11_1 < (l0.length : Int)) = true := decide_eq_true c5
        clear c5
        by_cases c6 : 0 ≤ x11_1
        · rw [if_pos c6] at H
          have c6b0 : decide (0 ≤ x11_1) = true := decide_eq_true c6
          clear c6
          by_cases c7 : x11_1 < (l0.length : Int)
          · rw [if_pos c7] at H
            have c7b0 : decide (x11_1 < (l0.length : Int)) = true := decide_eq_true c7
            clear c7
            by_cases c8 : ((rd_T166 l0 x11_1).f0) = a1
            · rw [if_pos c8] at H
              have c8b0 : (((rd_T166 l0 x11_1).f0) == a1) = true := beq_iff_eq.mpr c8
              have c8b1 : (((rd_T166 l0 x11_1).f0) != a1) = false := bne_eq_false_iff_eq.mpr c8
              clear c8
              by_cases c9 : x5_1.length < 17592186044416
              · rw [if_pos c9] at H
                have LMc9 := Aside0.mk c9
                clear c9
                obtain ⟨y222, hy222⟩ : ∃ y_ : List Int, y_ = (x5_1 ++ [(rd_T166 l0 x11_1).f1]) := ⟨_, rfl⟩
                replace H : (if ((rd_T166 l0 x11_1).f1) = a1 then (if y222.length < 17592186044416 then (impl_NeighborsIn.l0 k1 a1 (y222 ++ [(rd_T166 l0 x11_1).f0]) l0 (l0.length : Int) (wrap64 (x11_1 + 1))) else (none)) else (impl_NeighborsIn.l0 k1 a1 y222 l0 (l0.length : Int) (wrap64 (x11_1 + 1)))) = some r := by first | (rw [hy222]; with_reducible exact H) | (have H2_ := (Option.bind_some _ _).symm.trans H; rw [hy222]; with_reducible exact H2_) | (have H2_ := (Option.bind_some _ _).symm.trans H; with_reducible exact H2_) | with_reducible exact H | (rw [hy222]; exact H) | exact H
                have Ny222 := Aside0.mk hy222
                clear hy222
                by_cases c10 : ((rd_T166 l0 x11_1).f1) = a1
                · rw [if_pos c10] at H
                  have c10b0 : (((rd_T166 l0 x11_1).f1) == a1) = true := beq_iff_eq.mpr c10
                  have c10b1 : (((rd_T166 l0 x11_1).f1) != a1) = false := bne_eq_false_iff_eq.mpr c10
                  clear c10
                  by_cases c11 : y222.length < 17592186044416
                  · rw [if_pos c11] at H
                    have LMc11 := Aside0.mk c11
                    clear c11
                    obtain ⟨y225, hy225⟩ : ∃ y_ : List Int, y_ = (y222 ++ [(rd_T166 l0 x11_1).f0]) := ⟨_, rfl⟩
                    replace H : (impl_NeighborsIn.l0 k1 a1 y225 l0 (l0.length : Int) (wrap64 (x11_1 + 1))) = some r := by first | (rw [hy225]; with_reducible exact H) | (have H2_ := (Option.bind_some _ _).symm.trans H; rw [hy225]; with_reducible exact H2_) | (have H2_ := (Option.bind_some _ _).symm.trans H; with_reducible exact H2_) | with_reducible exact H | (rw [hy225]; exact H) | exact H
                    have Ny225 := Aside0.mk hy225
                    clear hy225
                    have H' := Aside0.mk H
                    clear H
                    have p220 : 0 ≤ (x11_1 : Int) := of_decide_eq_true (by first | (with_reducible assumption) | assumption)
                    have q220 : x11_1 < (l0.length : Int) := of_decide_eq_true (by first | (with_reducible assumption) | assumption)
                    obtain ⟨ad220, e220, hx220_0, hx220_1⟩ := at_T166 HR0.out x11_1 p220 q220
                    cases e220
                    replace hx220_0 := (HB.out.cell (World.block_lt_of_cell? w _ hx220_0)).trans hx220_0
                    replace hx220_1 := (HB.out.cell (World.block_lt_of_cell? w _ hx220_1)).trans hx220_1
                    replace p220 := eq_true p220
                    replace q220 := eq_true q220
                    go_wp2_with (first | ((with_reducible refine gate_dst (N := 7) rfl ?_); refine box_event ?hg (N := 7) ?hd (cs := #[.int .i64 0, .int .i64 0]) (t := 166) ?hr ?_; (case hd => rfl); (case hg => rfl); (case hr => first | (go_simp; done) | (go_simp; rfl)); intro gb221 hg w12 hbox hb; have n0_ := Aside0.mk (Kd.R_below (by (with_reducible repeat (first | apply Kd.R_alloc | apply Kd.R_drewN | apply Kd.R_drew)); exact HO_5.out) hb); have n1_ := Aside0.mk (below_step (by repeat (first | (with_reducible first | exact HB.out | apply below_alloc | apply pw_below_drewN | apply below_drew1) | exact HB.out)) hb); have n2_ := Aside0.mk (hbox); have n3_ := Aside0.mk ((by rw [hg]; exact (below_size (by repeat (first | (with_reducible first | exact HB.out | apply below_alloc | apply pw_below_drewN | apply below_drew1) | exact HB.out))) : w.heap.size ≤ gb221)); have n4_ := Aside0.mk ((by rw [hg]; exact (below_size (by repeat (first | (with_reducible first | exact HB.out | apply below_alloc | apply pw_below_drewN | apply below_drew1) | exact HB.out))) : w.heap.size ≤ gb221)); clear HO_5; clear HB; have HO_5 := n0_; have HB := n1_; have BK221 := n2_; have GW221 := n3_; have GE221 := n4_; clear n0_ n1_ n2_ n3_ n4_; clear hb hbox hg; have hcz13_0 : w12.cell? ⟨gb221, 0, none⟩ = some (.int .i64 0) := (blk_cell BK221.out 0).trans rfl; have hcz13_1 : w12.cell? ⟨gb221, 1, none⟩ = some (.int .i64 0) := (blk_cell BK221.out 1).trans rfl; have hfz13_0 := blk_frozen BK221.out 0; have hfz13_1 := blk_frozen BK221.out 1) | ((with_reducible refine gate_builtin (b := .append) (xs := #[.tmp 19, .tmp 22]) rfl ?_); at_builtin; refine Kd.R_append (Kd.int .i64) (w0 := w) w.heap.size rfl (.tmp 19) (.tmp 22) 44 3 (.int .i64 0) 8 rfl Try.underlying44 info3 rfl (by decide) (by omega) u5 x5_1 ((rd_T166 l0 x11_1).f1) [.int .i64 ((rd_T166 l0 x11_1).f1)] (fun _ => True) (fun _ => False) rfl (by first | (go_simp; done) | (go_simp; rfl)) ?aP (fun _ hk => hk.elim) ?aF ?aO ?aB ?aS ?aL ?_; (case aP => exact rfl); (case aB => exact (by repeat (first | (with_reducible first | exact HB.out | apply below_alloc | apply pw_below_drewN | apply below_drew1 | refine below_set ?_ GE221.out) | exact HB.out))); (case aF => exact (fun _ _ => trivial)); (case aO => exact (by (with_reducible repeat (first | apply Kd.R_alloc | apply Kd.R_drewN | apply Kd.R_drew)); exact Kd.R_mono (Kd.R_far (p := ⟨gb221, 1, none⟩) (Kd.R_far (p := ⟨gb221, 0, none⟩) (Kd.R_types HO_5.out BK221.out (by decide)) (fun _ hk => hk.2) (.int .i64 ((rd_T166 l0 x11_1).f0))) (fun _ hk => hk.2) (.int .i64 ((rd_T166 l0 x11_1).f1))) (fun _ hk => trivial))); (case aS => exact (below_size (by repeat (first | (with_reducible first | exact HB.out | apply below_alloc | apply pw_below_drewN | apply below_drew1 | refine below_set ?_ GE221.out) | exact HB.out)))); (case aL => have := LMc9.out; omega); intro v223 w14 ho hb hg hat; rw [← Ny222.out] at ho; have n0_ := Aside0.mk (blk_grown (g := gb221) (o := .cells #[.int .i64 ((rd_T166 l0 x11_1).f0), .int .i64 ((rd_T166 l0 x11_1).f1)] 166 (0, 0)) (by (with_reducible repeat (first | refine blk_drewN ?_ _ | refine blk_drew ?_ | refine blk_alloc ?_ _)); refine blk_put (cs := #[.int .i64 ((rd_T166 l0 x11_1).f0), .int .i64 0]) ?_ 1 _ rfl; (with_reducible repeat (first | refine blk_drewN ?_ _ | refine blk_drew ?_ | refine blk_alloc ?_ _)); refine blk_put (cs := #[.int .i64 0, .int .i64 0]) ?_ 0 _ rfl; (with_reducible repeat (first | refine blk_drewN ?_ _ | refine blk_drew ?_ | refine blk_alloc ?_ _)); exact BK221.out) hg (Kd.R_ne HO_5.out BK221.out (by decide))); have n1_ := Aside0.mk (hb); have n2_ := Aside0.mk (ho); clear BK221; clear HB; clear HO_5; have BK221 := n0_; have HB := n1_; have HO224 := n2_; clear n0_ n1_ n2_; clear ho hb hg hat; have hcz15_0 : w14.cell? ⟨gb221, 0, none⟩ = some (.int .i64 ((rd_T166 l0 x11_1).f0)) := (blk_cell BK221.out 0).trans rfl; have hcz15_1 : w14.cell? ⟨gb221, 1, none⟩ = some (.int .i64 ((rd_T166 l0 x11_1).f1)) := (blk_cell BK221.out 1).trans rfl; have hfz15_0 := blk_frozen BK221.out 0; have hfz15_1 := blk_frozen BK221.out 1) | ((with_reducible refine gate_builtin (b := .append) (xs := #[.tmp 28, .tmp 31]) rfl ?_); at_builtin; refine Kd.R_append (Kd.int .i64) (w0 := w) w.heap.size rfl (.tmp 28) (.tmp 31) 44 3 (.int .i64 0) 8 rfl Try.underlying44 info3 rfl (by decide) (by omega) v223 y222 ((rd_T166 l0 x11_1).f0) [.int .i64 ((rd_T166 l0 x11_1).f0)] (fun _ => True) (fun _ => False) rfl rfl ?aP (fun _ hk => hk.elim) ?aF ?aO ?aB ?aS ?aL ?_; (case aP => exact rfl); (case aB => exact (by repeat (first | (with_reducible first | exact HB.out | apply below_alloc | apply pw_below_drewN | apply below_drew1 | refine below_set ?_ GE221.out) | exact HB.out))); (case aF => exact (fun _ _ => trivial)); (case aO => exact (by (with_reducible repeat (first | apply Kd.R_alloc | apply Kd.R_drewN | apply Kd.R_drew)); exact HO224.out)); (case aS => exact (below_size (by repeat (first | (with_reducible first | exact HB.out | apply below_alloc | apply pw_below_drewN | apply below_drew1 | refine below_set ?_ GE221.out) | exact HB.out)))); (case aL => have := LMc11.out; omega); intro v226 w16 ho hb hg hat; rw [← Ny225.out] at ho; have n0_ := Aside0.mk (blk_grown (g := gb221) (o := .cells #[.int .i64 ((rd_T166 l0 x11_1).f0), .int .i64 ((rd_T166 l0 x11_1).f1)] 166 (0, 0)) (by (with_reducible repeat (first | refine blk_drewN ?_ _ | refine blk_drew ?_ | refine blk_alloc ?_ _)); exact BK221.out) hg (Kd.R_ne HO224.out BK221.out (by decide))); have n1_ := Aside0.mk (hb); have n2_ := Aside0.mk (ho); clear BK221; clear HB; clear HO224; have BK221 := n0_; have HB := n1_; have HO227 := n2_; clear n0_ n1_ n2_; clear ho hb hg hat))
                    go_roundg k1
                    case measure => have := HK1.out; omega
                    case rel => exact ⟨(y225), (wrap64 (x11_1 + 1)), (by first | rfl | (simp; done) | (simp [*]; done)), H', ⟨by have := HK1.out; omega⟩, ⟨by (with_reducible repeat (first | apply Kd.R_alloc | apply Kd.R_drewN | apply Kd.R_drew)); exact HO227.out⟩, ⟨by repeat (first | (with_reducible first | exact HB.out | apply below_alloc | apply pw_below_drewN | apply below_drew1 | refine below_set ?_ GE221.out) | exact HB.out)⟩⟩
                  · rw [if_neg c11] at H
                    exact absurd H (by simp)
                · rw [if_neg c10] at H
                  have c10b0 : (((rd_T166 l0 x11_1).f1) == a1) = false := beq_eq_false_iff_ne.mpr c10
                  have c10b1 : (((rd_T166 l0 x11_1).f1) != a1) = true := bne_iff_ne.mpr c10
                  have H' := Aside0.mk H
                  clear H
                  have p220 : 0 ≤ (x11_1 : Int) := of_decide_eq_true (by first | (with_reducible assumption) | assumption)
                  have q220 : x11_1 < (l0.length : Int) := of_decide_eq_true (by first | (with_reducible assumption) | assumption)
                  obtain ⟨ad220, e220, hx220_0, hx220_1⟩ := at_T166 HR0.out x11_1 p220 q220
                  cases e220
                  replace hx220_0 := (HB.out.cell (World.block_lt_of_cell? w _ hx220_0)).trans hx220_0
                  replace hx220_1 := (HB.out.cell (World.block_lt_of_cell? w _ hx220_1)).trans hx220_1
                  replace p220 := eq_true p220
                  replace q220 := eq_true q220
                  go_wp2_with (first | ((with_reducible refine gate_dst (N := 7) rfl ?_); refine box_event ?hg (N := 7) ?hd (cs := #[.int .i64 0, .int .i64 0]) (t := 166) ?hr ?_; (case hd => rfl); (case hg => rfl); (case hr => first | (go_simp; done) | (go_simp; rfl)); intro gb221 hg w17 hbox hb; have n0_ := Aside0.mk (Kd.R_below (by (with_reducible repeat (first | apply Kd.R_alloc | apply Kd.R_drewN | apply Kd.R_drew)); exact HO_5.out) hb); have n1_ := Aside0.mk (below_step (by repeat (first | (with_reducible first | exact HB.out | apply below_alloc | apply pw_below_drewN | apply below_drew1) | exact HB.out)) hb); have n2_ := Aside0.mk (hbox); have n3_ := Aside0.mk ((by rw [hg]; exact (below_size (by repeat (first | (with_reducible first | exact HB.out | apply below_alloc | apply pw_below_drewN | apply below_drew1) | exact HB.out))) : w.heap.size ≤ gb221)); have n4_ := Aside0.mk ((by rw [hg]; exact (below_size (by repeat (first | (with_reducible first | exact HB.out | apply below_alloc | apply pw_below_drewN | apply below_drew1) | exact HB.out))) : w.heap.size ≤ gb221)); clear HO_5; clear HB; have HO_5 := n0_; have HB := n1_; have BK221 := n2_; have GW221 := n3_; have GE221 := n4_; clear n0_ n1_ n2_ n3_ n4_; clear hb hbox hg; have hcz18_0 : w17.cell? ⟨gb221, 0, none⟩ = some (.int .i64 0) := (blk_cell BK221.out 0).trans rfl; have hcz18_1 : w17.cell? ⟨gb221, 1, none⟩ = some (.int .i64 0) := (blk_cell BK221.out 1).trans rfl; have hfz18_0 := blk_frozen BK221.out 0; have hfz18_1 := blk_frozen BK221.out 1) | ((with_reducible refine gate_builtin (b := .append) (xs := #[.tmp 19, .tmp 22]) rfl ?_); at_builtin; refine Kd.R_append (Kd.int .i64) (w0 := w) w.heap.size rfl (.tmp 19) (.tmp 22) 44 3 (.int .i64 0) 8 rfl Try.underlying44 info3 rfl (by decide) (by omega) u5 x5_1 ((rd_T166 l0 x11_1).f1) [.int .i64 ((rd_T166 l0 x11_1).f1)] (fun _ => True) (fun _ => False) rfl (by first | (go_simp; done) | (go_simp; rfl)) ?aP (fun _ hk => hk.elim) ?aF ?aO ?aB ?aS ?aL ?_; (case aP => exact rfl); (case aB => exact (by repeat (first | (with_reducible first | exact HB.out | apply below_alloc | apply pw_below_drewN | apply below_drew1 | refine below_set ?_ GE221.out) | exact HB.out))); (case aF => exact (fun _ _ => trivial)); (case aO => exact (by (with_reducible repeat (first | apply Kd.R_alloc | apply Kd.R_drewN | apply Kd.R_drew)); exact Kd.R_mono (Kd.R_far (p := ⟨gb221, 1, none⟩) (Kd.R_far (p := ⟨gb221, 0, none⟩) (Kd.R_types HO_5.out BK221.out (by decide)) (fun _ hk => hk.2) (.int .i64 ((rd_T166 l0 x11_1).f0))) (fun _ hk => hk.2) (.int .i64 ((rd_T166 l0 x11_1).f1))) (fun _ hk => trivial))); (case aS => exact (below_size (by repeat (first | (with_reducible first | exact HB.out | apply below_alloc | apply pw_below_drewN | apply below_drew1 | refine below_set ?_ GE221.out) | exact HB.out)))); (case aL => have := LMc9.out; omega); intro v223 w19 ho hb hg hat; rw [← Ny222.out] at ho; have n0_ := Aside0.mk (blk_grown (g := gb221) (o := .cells #[.int .i64 ((rd_T166 l0 x11_1).f0), .int .i64 ((rd_T166 l0 x11_1).f1)] 166 (0, 0)) (by (with_reducible repeat (first | refine blk_drewN ?_ _ | refine blk_drew ?_ | refine blk_alloc ?_ _)); refine blk_put (cs := #[.int .i64 ((rd_T166 l0 x11_1).f0), .int .i64 0]) ?_ 1 _ rfl; (with_reducible repeat (first | refine blk_drewN ?_ _ | refine blk_drew ?_ | refine blk_alloc ?_ _)); refine blk_put (cs := #[.int .i64 0, .int .i64 0]) ?_ 0 _ rfl; (with_reducible repeat (first | refine blk_drewN ?_ _ | refine blk_drew ?_ | refine blk_alloc ?_ _)); exact BK221.out) hg (Kd.R_ne HO_5.out BK221.out (by decide))); have n1_ := Aside0.mk (hb); have n2_ := Aside0.mk (ho); clear BK221; clear HB; clear HO_5; have BK221 := n0_; have HB := n1_; have HO224 := n2_; clear n0_ n1_ n2_; clear ho hb hg hat; have hcz20_0 : w19.cell? ⟨gb221, 0, none⟩ = some (.int .i64 ((rd_T166 l0 x11_1).f0)) := (blk_cell BK221.out 0).trans rfl; have hcz20_1 : w19.cell? ⟨gb221, 1, none⟩ = some (.int .i64 ((rd_T166 l0 x11_1).f1)) := (blk_cell BK221.out 1).trans rfl; have hfz20_0 := blk_frozen BK221.out 0; have hfz20_1 := blk_frozen BK221.out 1))
                  go_roundg k1
                  case measure => have := HK1.out; omega
                  case rel => exact ⟨(y222), (wrap64 (x11_1 + 1)), (by first | rfl | (simp; done) | (simp [*]; done)), H', ⟨by have := HK1.out; omega⟩, ⟨by (with_reducible repeat (first | apply Kd.R_alloc | apply Kd.R_drewN | apply Kd.R_drew)); exact HO224.out⟩, ⟨by repeat (first | (with_reducible first | exact HB.out | apply below_alloc | apply pw_below_drewN | apply below_drew1 | refine below_set ?_ GE221.out) | exact HB.out)⟩⟩
              · rw [if_neg c9] at H
                exact absurd H (by simp)
            · rw [if_neg c8] at H
              have c8b0 : (((rd_T166 l0 x11_1).f0) == a1) = false := beq_eq_false_iff_ne.mpr c8
              have c8b1 : (((rd_T166 l0 x11_1).f0) != a1) = true := bne_iff_ne.mpr c8
              by_cases c21 : ((rd_T166 l0 x11_1).f1) = a1
              · rw [if_pos c21] at H
                have c21b0 : (((rd_T166 l0 x11_1).f1) == a1) = true := beq_iff_eq.mpr c21
                have c21b1 : (((rd_T166 l0 x11_1).f1) != a1) = false := bne_eq_false_iff_eq.mpr c21
                clear c21
                by_cases c22 : x5_1.length < 17592186044416
                · rw [if_pos c22] at H
                  have LMc22 := Aside0.mk c22
                  clear c22
                  obtain ⟨y228, hy228⟩ : ∃ y_ : List Int, y_ = (x5_1 ++ [(rd_T166 l0 x11_1).f0]) := ⟨_, rfl⟩
                  replace H : (impl_NeighborsIn.l0 k1 a1 y228 l0 (l0.length : Int) (wrap64 (x11_1 + 1))) = some r := by first | (rw [hy228]; with_reducible exact H) | (have H2_ := (Option.bind_some _ _).symm.trans H; rw [hy228]; with_reducible exact H2_) | (have H2_ := (Option.bind_some _ _).symm.trans H; with_reducible exact H2_) | with_reducible exact H | (rw [hy228]; exact H) | exact H
                  have Ny228 := Aside0.mk hy228
                  clear hy228
                  have H' := Aside0.mk H
                  clear H
                  have p220 : 0 ≤ (x11_1 : Int) := of_decide_eq_true (by first | (with_reducible assumption) | assumption)
                  have q220 : x11_1 < (l0.length : Int) := of_decide_eq_true (by first | (with_reducible assumption) | assumption)
                  obtain ⟨ad220, e220, hx220_0, hx220_1⟩ := at_T166 HR0.out x11_1 p220 q220
                  cases e220
                  replace hx220_0 := (HB.out.cell (World.block_lt_of_cell? w _ hx220_0)).trans hx220_0
                  replace hx220_1 := (HB.out.cell (World.block_lt_of_cell? w _ hx220_1)).trans hx220_1
                  replace p220 := eq_true p220
                  replace q220 := eq_true q220
                  go_wp2_with (first | ((with_reducible refine gate_dst (N := 7) rfl ?_); refine box_event ?hg (N := 7) ?hd (cs := #[.int .i64 0, .int .i64 0]) (t := 166) ?hr ?_; (case hd => rfl); (case hg => rfl); (case hr => first | (go_simp; done) | (go_simp; rfl)); intro gb221 hg w23 hbox hb; have n0_ := Aside0.mk (Kd.R_below (by (with_reducible repeat (first | apply Kd.R_alloc | apply Kd.R_drewN | apply Kd.R_drew)); exact HO_5.out) hb); have n1_ := Aside0.mk (below_step (by repeat (first | (with_reducible first | exact HB.out | apply below_alloc | apply pw_below_drewN | apply below_drew1) | exact HB.out)) hb); have n2_ := Aside0.mk (hbox); have n3_ := Aside0.mk ((by rw [hg]; exact (below_size (by repeat (first | (with_reducible first | exact HB.out | apply below_alloc | apply pw_below_drewN | apply below_drew1) | exact HB.out))) : w.heap.size ≤ gb221)); have n4_ := Aside0.mk ((by rw [hg]; exact (below_size (by repeat (first | (with_reducible first | exact HB.out | apply below_alloc | apply pw_below_drewN | apply below_drew1) | exact HB.out))) : w.heap.size ≤ gb221)); clear HO_5; clear HB; have HO_5 := n0_; have HB := n1_; have BK221 := n2_; have GW221 := n3_; have GE221 := n4_; clear n0_ n1_ n2_ n3_ n4_; clear hb hbox hg; have hcz24_0 : w23.cell? ⟨gb221, 0, none⟩ = some (.int .i64 0) := (blk_cell BK221.out 0).trans rfl; have hcz24_1 : w23.cell? ⟨gb221, 1, none⟩ = some (.int .i64 0) := (blk_cell BK221.out 1).trans rfl; have hfz24_0 := blk_frozen BK221.out 0; have hfz24_1 := blk_frozen BK221.out 1) | ((with_reducible refine gate_builtin (b := .append) (xs := #[.tmp 28, .tmp 31]) rfl ?_); at_builtin; refine Kd.R_append (Kd.int .i64) (w0 := w) w.heap.size rfl (.tmp 28) (.tmp 31) 44 3 (.int .i64 0) 8 rfl Try.underlying44 info3 rfl (by decide) (by omega) u5 x5_1 ((rd_T166 l0 x11_1).f0) [.int .i64 ((rd_T166 l0 x11_1).f0)] (fun _ => True) (fun _ => False) rfl (by first | (go_simp; done) | (go_simp; rfl)) ?aP (fun _ hk => hk.elim) ?aF ?aO ?aB ?aS ?aL ?_; (case aP => exact rfl); (case aB => exact (by repeat (first | (with_reducible first | exact HB.out | apply below_alloc | apply pw_below_drewN | apply below_drew1 | refine below_set ?_ GE221.out) | exact HB.out))); (case aF => exact (fun _ _ => trivial)); (case aO => exact (by (with_reducible repeat (first | apply Kd.R_alloc | apply Kd.R_drewN | apply Kd.R_drew)); exact Kd.R_mono (Kd.R_far (p := ⟨gb221, 1, none⟩) (Kd.R_far (p := ⟨gb221, 0, none⟩) (Kd.R_types HO_5.out BK221.out (by decide)) (fun _ hk => hk.2) (.int .i64 ((rd_T166 l0 x11_1).f0))) (fun _ hk => hk.2) (.int .i64 ((rd_T166 l0 x11_1).f1))) (fun _ hk => trivial))); (case aS => exact (below_size (by repeat (first | (with_reducible first | exact HB.out | apply below_alloc | apply pw_below_drewN | apply below_drew1 | refine below_set ?_ GE221.out) | exact HB.out)))); (case aL => have := LMc22.out; omega); intro v229 w25 ho hb hg hat; rw [← Ny228.out] at ho; have n0_ := Aside0.mk (blk_grown (g := gb221) (o := .cells #[.int .i64 ((rd_T166 l0 x11_1).f0), .int .i64 ((rd_T166 l0 x11_1).f1)] 166 (0, 0)) (by (with_reducible repeat (first | refine blk_drewN ?_ _ | refine blk_drew ?_ | refine blk_alloc ?_ _)); refine blk_put (cs := #[.int .i64 ((rd_T166 l0 x11_1).f0), .int .i64 0]) ?_ 1 _ rfl; (with_reducible repeat (first | refine blk_drewN ?_ _ | refine blk_drew ?_ | refine blk_alloc ?_ _)); refine blk_put (cs := #[.int .i64 0, .int .i64 0]) ?_ 0 _ rfl; (with_reducible repeat (first | refine blk_drewN ?_ _ | refine blk_drew ?_ | refine blk_alloc ?_ _)); exact BK221.out) hg (Kd.R_ne HO_5.out BK221.out (by decide))); have n1_ := Aside0.mk (hb); have n2_ := Aside0.mk (ho); clear BK221; clear HB; clear HO_5; have BK221 := n0_; have HB := n1_; have HO230 := n2_; clear n0_ n1_ n2_; clear ho hb hg hat))
                  go_roundg k1
                  case measure => have := HK1.out; omega
                  case rel => exact ⟨(y228), (wrap64 (x11_1 + 1)), (by first | rfl | (simp; done) | (simp [*]; done)), H', ⟨by have := HK1.out; omega⟩, ⟨by (with_reducible repeat (first | apply Kd.R_alloc | apply Kd.R_drewN | apply Kd.R_drew)); exact HO230.out⟩, ⟨by repeat (first | (with_reducible first | exact HB.out | apply below_alloc | apply pw_below_drewN | apply below_drew1 | refine below_set ?_ GE221.out) | exact HB.out)⟩⟩
                · rw [if_neg c22] at H
                  exact absurd H (by simp)
              · rw [if_neg c21] at H
                have c21b0 : (((rd_T166 l0 x11_1).f1) == a1) = false := beq_eq_false_iff_ne.mpr c21
                have c21b1 : (((rd_T166 l0 x11_1).f1) != a1) = true := bne_iff_ne.mpr c21
                have H' := Aside0.mk H
                clear H
                have p220 : 0 ≤ (x11_1 : Int) := of_decide_eq_true (by first | (with_reducible assumption) | assumption)
                have q220 : x11_1 < (l0.length : Int) := of_decide_eq_true (by first | (with_reducible assumption) | assumption)
                obtain ⟨ad220, e220, hx220_0, hx220_1⟩ := at_T166 HR0.out x11_1 p220 q220
                cases e220
                replace hx220_0 := (HB.out.cell (World.block_lt_of_cell? w _ hx220_0)).trans hx220_0
                replace hx220_1 := (HB.out.cell (World.block_lt_of_cell? w _ hx220_1)).trans hx220_1
                replace p220 := eq_true p220
                replace q220 := eq_true q220
                go_wp2_with (first | ((with_reducible refine gate_dst (N := 7) rfl ?_); refine box_event ?hg (N := 7) ?hd (cs := #[.int .i64 0, .int .i64 0]) (t := 166) ?hr ?_; (case hd => rfl); (case hg => rfl); (case hr => first | (go_simp; done) | (go_simp; rfl)); intro gb221 hg w26 hbox hb; have n0_ := Aside0.mk (Kd.R_below (by (with_reducible repeat (first | apply Kd.R_alloc | apply Kd.R_drewN | apply Kd.R_drew)); exact HO_5.out) hb); have n1_ := Aside0.mk (below_step (by repeat (first | (with_reducible first | exact HB.out | apply below_alloc | apply pw_below_drewN | apply below_drew1) | exact HB.out)) hb); have n2_ := Aside0.mk (hbox); have n3_ := Aside0.mk ((by rw [hg]; exact (below_size (by repeat (first | (with_reducible first | exact HB.out | apply below_alloc | apply pw_below_drewN | apply below_drew1) | exact HB.out))) : w.heap.size ≤ gb221)); have n4_ := Aside0.mk ((by rw [hg]; exact (below_size (by repeat (first | (with_reducible first | exact HB.out | apply below_alloc | apply pw_below_drewN | apply below_drew1) | exact HB.out))) : w.heap.size ≤ gb221)); clear HO_5; clear HB; have HO_5 := n0_; have HB := n1_; have BK221 := n2_; have GW221 := n3_; have GE221 := n4_; clear n0_ n1_ n2_ n3_ n4_; clear hb hbox hg; have hcz27_0 : w26.cell? ⟨gb221, 0, none⟩ = some (.int .i64 0) := (blk_cell BK221.out 0).trans rfl; have hcz27_1 : w26.cell? ⟨gb221, 1, none⟩ = some (.int .i64 0) := (blk_cell BK221.out 1).trans rfl; have hfz27_0 := blk_frozen BK221.out 0; have hfz27_1 := blk_frozen BK221.out 1))
                go_roundg k1
                case measure => have := HK1.out; omega
                case rel => exact ⟨(x5_1), (wrap64 (x11_1 + 1)), (by first | rfl | (simp; done) | (simp [*]; done)), H', ⟨by have := HK1.out; omega⟩, ⟨by (with_reducible repeat (first | apply Kd.R_alloc | apply Kd.R_drewN | apply Kd.R_drew)); exact Kd.R_mono (Kd.R_far (p := ⟨gb221, 1, none⟩) (Kd.R_far (p := ⟨gb221, 0, none⟩) (Kd.R_types HO_5.out BK221.out (by decide)) (fun _ hk => hk.2) (.int .i64 ((rd_T166 l0 x11_1).f0))) (fun _ hk => hk.2) (.int .i64 ((rd_T166 l0 x11_1).f1))) (fun _ hk => trivial)⟩, ⟨by repeat (first | (with_reducible first | exact HB.out | apply below_alloc | apply pw_below_drewN | apply below_drew1 | refine below_set ?_ GE221.out) | exact HB.out)⟩⟩
          · rw [if_neg c7] at H
            exact absurd H (by simp)
        · rw [if_neg c6] at H
          exact absurd H (by simp)
      · rw [if_neg c5] at H
        have c5b0 : decide (x11_1 < (l0.length : Int)) = false := decide_eq_false c5
        clear c5
        replace H := Option.bind_eq_some_iff.mp H
        obtain ⟨t216, A280, H⟩ := H
        replace H : ((slices_Compact_int_int.f t216).bind fun t217 => (some t217)) = some r := H
        have A28 := Aside0.mk A280
        clear A280
        replace H := Option.bind_eq_some_iff.mp H
        obtain ⟨t217, A290, H⟩ := H
        replace H : (some t217) = some r := H
        have A29 := Aside0.mk A290
        clear A290
        obtain rfl := Option.some.inj H
        obtain ⟨Ao30, co30, eo30⟩ := Kd.R_slice HO_5.out
        subst eo30
        go_wp2_with (first | ((with_reducible refine gate_callee (f := 123) rfl ?_); refine goesL_ (some 35) rfl rfl Try.func123 (by kernel_rfl) rfl #[.slice Ao30 x5_1.length co30] rfl (by (try simp only [List.map_toArray, List.map_cons, List.map_nil]); first | done | rfl | (simp only [List.length_drop, List.length_take]; rfl)) ?_; (with_reducible refine (slices_Sort_int_int.calls (fun k_ => some k_ = (.slice Ao30 x5_1.length co30 : Value).ownBlock) (.slice Ao30 x5_1.length co30) x5_1 t216 w _ ?side1 ?side2 A28.out).mono ?_); (case side1 => repeat (first | (with_reducible first | exact HB.out | apply below_alloc | apply pw_below_drewN | apply below_drew1) | exact HB.out)); (case side2 => exact Kd.R_tight rfl HO_5.out); rintro e w31 ⟨rfl, hy0, hb, hkp⟩; refine ⟨_, rfl, ?_⟩; have n0_ := Aside0.mk (Kd.R_reok rfl hy0 (fun k_ e_ => HO_5.out.1 k_ e_)); have n1_ := Aside0.mk (hb); clear HO_5; clear HB; have HO_5 := n0_; have HB := n1_; clear n0_ n1_; (try clear hb); (try clear hkp); (try clear hy0)) | ((with_reducible refine gate_callee (f := 124) rfl ?_); refine goesL_ (some 37) rfl rfl Try.func124 (by kernel_rfl) rfl #[.slice Ao30 x5_1.length co30] rfl (by (try simp only [List.map_toArray, List.map_cons, List.map_nil]); first | done | rfl | (simp only [List.length_drop, List.length_take]; rfl)) ?_; (with_reducible refine (slices_Compact_int_int.calls (fun k_ => some k_ = (.slice Ao30 x5_1.length co30 : Value).ownBlock) (.slice Ao30 x5_1.length co30) t216 t217 w _ ?side1 ?side2 A29.out).mono ?_); (case side1 => repeat (first | (with_reducible first | exact HB.out | apply below_alloc | apply pw_below_drewN | apply below_drew1) | exact HB.out)); (case side2 => exact Kd.R_tight rfl HO_5.out); rintro e w32 ⟨v218, rfl, ho0, hb, hkp⟩; refine ⟨_, rfl, ?_⟩; have n0_ := Aside0.mk (Kd.R_mono (ok' := fun k_ => True) ho0 (fun k_ hk_ => trivial)); have n1_ := Aside0.mk (hb); clear HB; clear HO_5; have HO219 := n0_; have HB := n1_; clear n0_ n1_; (try clear hb); (try clear hkp); (try clear ho0)))
        go_ret
        exact ⟨_, by first | rfl | (simp [errW_none, errW_some] <;> rfl) | (simp [*, errW_none, errW_some] <;> rfl), by (with_reducible repeat (first | apply Kd.R_alloc | apply Kd.R_drewN | apply Kd.R_drew)); exact HO219.out, by repeat (first | (with_reducible first | exact HB.out | apply below_alloc | apply pw_below_drewN | apply below_drew1) | exact HB.out)⟩

/-! ### impl_isIndex: function 103 -/
def impl_isIndex.f (a0 : Int) (a1 : Int) : Option (Bool) := if a0 ≥ 0 then (some (decide (a0 < a1))) else (some false)
set_option maxHeartbeats 8000000 in
set_option maxRecDepth 100000 in
theorem impl_isIndex.calls (a0 : Int) (a1 : Int) (r : Bool) (w : World) (h : impl_isIndex.f a0 a1 = some r) :
    Calls Try.prog 103 #[.int .i64 a0, .int .i64 a1] w fun e w' => e = .returned (.bool r) ∧ Drawn0 w w' := by
  have H : (if a0 ≥ 0 then (some (decide (a0 < a1))) else (some false)) = some r := h
  clear h
  by_cases c3 : a0 ≥ 0
  · rw [if_pos c3] at H
    have c3b0 : decide (0 ≤ a0) = true := decide_eq_true c3
    clear c3
    obtain rfl := Option.some.inj H
    go_enter Try.func103, Try.ntmps103
    go_wp2
    go_ret
    exact ⟨by first | rfl | (simp; done) | (simp [*]; done), by repeat (first | exact Drawn0.refl _ | apply Drawn0.step)⟩
  · rw [if_neg c3] at H
    have c3b0 : decide (0 ≤ a0) = false := decide_eq_false c3
    clear c3
    obtain rfl := Option.some.inj H
    go_enter Try.func103, Try.ntmps103
    go_wp2
    go_ret
    exact ⟨by first | rfl | (simp; done) | (simp [*]; done), by repeat (first | exact Drawn0.refl _ | apply Drawn0.step)⟩

/-! ### impl_ServersIn: function 29 -/
def impl_ServersIn.f (k : Nat) (a0_0 : Int) (a0_1 : Int) (a0_2 : Int) (l0_3 : List (S112)) (a1 : Int) (a2 : Int) : Option (List Int) := (impl_isIndex.f a1 (l0_3.length : Int)).bind fun t232 => (if t232 = true then (if 0 ≤ a1 then (if a1 < (l0_3.length : Int) then ((impl_NeighborsIn.f k ((rd_T112 l0_3 a1).f1) a2).bind fun t234 => (some t234)) else (none)) else (none)) else (some (([] : List Int))))
set_option maxHeartbeats 8000000 in
set_option maxRecDepth 100000 in
theorem impl_ServersIn.calls (k : Nat) (a0_0 : Int) (a0_1 : Int) (a0_2 : Int) (A0_3 : Option Addr) (c0_3 : Nat) (l0_3 : List (S112)) (a1 : Int) (a2 : Int) (r : List Int) (w : World) (hr0_3 : Kd.C k112 w A0_3 l0_3.length l0_3) (hc0_3 : l0_3.length ≤ c0_3) (h : impl_ServersIn.f k a0_0 a0_1 a0_2 l0_3 a1 a2 = some r) :
    Calls Try.prog 29 #[.agg #[.int .i64 a0_0, .int .i64 a0_1, .int .i64 a0_2, .slice A0_3 l0_3.length c0_3], .int .i64 a1, .int .i64 a2] w fun e w' => ∃ v0_ : Value, e = .returned (v0_) ∧ Kd.R (Kd.int .i64) 3 w' w.heap.size (fun _ => True) v0_ r ∧ Below w.heap.size w w' := by
  have hu30 := Try.underlying30
  have HR0_3 := Aside0.mk hr0_3
  have HC0_3 := Aside0.mk hc0_3
  clear hr0_3 hc0_3
  have HB := Aside0.mk (Below.refl w.heap.size w)
  have H : ((impl_isIndex.f a1 (l0_3.length : Int)).bind fun t232 => (if t232 = true then (if 0 ≤ a1 then (if a1 < (l0_3.length : Int) then ((impl_NeighborsIn.f k ((rd_T112 l0_3 a1).f1) a2).bind fun t234 => (some t234)) else (none)) else (none)) else (some (([] : List Int))))) = some r := h
  clear h
  replace H := Option.bind_eq_some_iff.mp H
  obtain ⟨t232, A40, H⟩ := H
  replace H : (if t232 = true then (if 0 ≤ a1 then (if a1 < (l0_3.length : Int) then ((impl_NeighborsIn.f k ((rd_T112 l0_3 a1).f1) a2).bind fun t234 => (some t234)) else (none)) else (none)) else (some (([] : List Int)))) = some r := H
  have A4 := Aside0.mk A40
  clear A40
  by_cases c5 : t232 = true
  · subst c5
    have H1 : (if 0 ≤ a1 then (if a1 < (l0_3.length : Int) then ((impl_NeighborsIn.f k ((rd_T112 l0_3 a1).f1) a2).bind fun t234 => (some t234)) else (none)) else (none)) = some r := by rw [if_pos rfl] at H; exact H
    clear H
    have H := H1
    clear H1
    by_cases c6 : 0 ≤ a1
    · rw [if_pos c6] at H
      have c6b0 : decide (0 ≤ a1) = true := decide_eq_true c6
      clear c6
      by_cases c7 : a1 < (l0_3.length : Int)
      · rw [if_pos c7] at H
        have c7b0 : decide (a1 < (l0_3.length : Int)) = true := decide_eq_true c7
        clear c7
        replace H := Option.bind_eq_some_iff.mp H
        obtain ⟨t234, A80, H⟩ := H
        replace H : (some t234) = some r := H
        have A8 := Aside0.mk A80
        clear A80
        obtain rfl := Option.some.inj H
        go_enter Try.func29, Try.ntmps29
        go_wp2_with (first | ((with_reducible refine gate_dst (N := 3) rfl ?_); refine box_event ?hg (N := 3) ?hd (cs := #[.int .i64 a0_0, .int .i64 a0_1, .int .i64 a0_2, .slice A0_3 l0_3.length c0_3]) (t := 30) ?hr ?_; (case hd => rfl); (case hg => rfl); (case hr => first | (go_simp; done) | (go_simp; rfl)); intro gb231 hg w9 hbox hb; have n0_ := Aside0.mk (below_step (by repeat (first | (with_reducible first | exact HB.out | apply below_alloc | apply pw_below_drewN | apply below_drew1) | exact HB.out)) hb); have n1_ := Aside0.mk (hbox); have n2_ := Aside0.mk ((by rw [hg]; exact (below_size (by repeat (first | (with_reducible first | exact HB.out | apply below_alloc | apply pw_below_drewN | apply below_drew1) | exact HB.out))) : w.heap.size ≤ gb231)); have n3_ := Aside0.mk ((by rw [hg]; exact (below_size (by repeat (first | (with_reducible first | exact HB.out | apply below_alloc | apply pw_below_drewN | apply below_drew1) | exact HB.out))) : w.heap.size ≤ gb231)); clear HB; have HB := n0_; have BK231 := n1_; have GW231 := n2_; have GE231 := n3_; clear n0_ n1_ n2_ n3_; clear hb hbox hg; have hcz10_0 : w9.cell? ⟨gb231, 0, none⟩ = some (.int .i64 a0_0) := (blk_cell BK231.out 0).trans rfl; have hcz10_1 : w9.cell? ⟨gb231, 1, none⟩ = some (.int .i64 a0_1) := (blk_cell BK231.out 1).trans rfl; have hcz10_2 : w9.cell? ⟨gb231, 2, none⟩ = some (.int .i64 a0_2) := (blk_cell BK231.out 2).trans rfl; have hcz10_3 : w9.cell? ⟨gb231, 3, none⟩ = some (.slice A0_3 l0_3.length c0_3) := (blk_cell BK231.out 3).trans rfl; have hfz10_0 := blk_frozen BK231.out 0; have hfz10_1 := blk_frozen BK231.out 1; have hfz10_2 := blk_frozen BK231.out 2; have hfz10_3 := blk_frozen BK231.out 3) | ((with_reducible refine gate_callee (f := 103) rfl ?_); refine goesL_ (some 11) rfl rfl Try.func103 (by kernel_rfl) rfl #[.int .i64 a1, .int .i64 (l0_3.length : Int)] rfl (by (try simp only [List.map_toArray, List.map_cons, List.map_nil]); first | done | rfl | (simp only [List.length_drop, List.length_take]; rfl)) ?_; (with_reducible refine (impl_isIndex.calls a1 (l0_3.length : Int) true _ A4.out).mono ?_); rintro e w' ⟨rfl, ⟨nd, rfl⟩⟩; refine ⟨_, rfl, ?_⟩; have p233 : 0 ≤ (a1 : Int) := of_decide_eq_true (by first | (with_reducible assumption) | assumption); have q233 : a1 < (l0_3.length : Int) := of_decide_eq_true (by first | (with_reducible assumption) | assumption); obtain ⟨ad233, A233_2, c233_2, A233_3, c233_3, e233, hx233_0, hx233_1, hx233_2, hx233_3, hl233_2, hi233_2, hl233_3, hi233_3⟩ := at_T112 HR0_3.out a1 p233 q233; cases e233; replace hx233_0 := (HB.out.cell (World.block_lt_of_cell? w _ hx233_0)).trans hx233_0; replace hx233_1 := (HB.out.cell (World.block_lt_of_cell? w _ hx233_1)).trans hx233_1; replace hx233_2 := (HB.out.cell (World.block_lt_of_cell? w _ hx233_2)).trans hx233_2; replace hx233_3 := (HB.out.cell (World.block_lt_of_cell? w _ hx233_3)).trans hx233_3; have HR233_2 := Aside0.mk hi233_2; have HC233_2 := Aside0.mk hl233_2; clear hi233_2 hl233_2; have HR233_3 := Aside0.mk hi233_3; have HC233_3 := Aside0.mk hl233_3; clear hi233_3 hl233_3; replace p233 := eq_true p233; replace q233 := eq_true q233) | ((with_reducible refine gate_callee (f := 58) rfl ?_); refine goesL_ (some 21) rfl rfl Try.func58 (by kernel_rfl) rfl #[.slice A233_2 ((rd_T112 l0_3 a1).f1).length c233_2, .int .i64 a2] rfl (by (try simp only [List.map_toArray, List.map_cons, List.map_nil]); first | done | rfl | (simp only [List.length_drop, List.length_take]; rfl)) ?_; (with_reducible refine (impl_NeighborsIn.calls k _ _ ((rd_T112 l0_3 a1).f1) a2 t234 _ ?side1 ?side2 A8.out).mono ?_); (case side1 => repeat (first | exact (Kd.C_below HR233_2.out (by repeat (first | (with_reducible first | exact HB.out | apply below_alloc | apply pw_below_drewN | apply below_drew1 | refine below_set ?_ GE231.out) | exact HB.out))) | (with_reducible refine Kd.C_alloc ?_ _) | (with_reducible refine Kd.C_drewN ?_ _) | (with_reducible refine Kd.C_drew ?_))); (case side2 => exact HC233_2.out); rintro e w11 ⟨v235, rfl, ho0, hb⟩; refine ⟨_, rfl, ?_⟩; have n0_ := Aside0.mk (Kd.R_lower ho0 (below_size (by repeat (first | (with_reducible first | exact HB.out | apply below_alloc | apply pw_below_drewN | apply below_drew1 | refine below_set ?_ GE231.out) | exact HB.out)))); have n1_ := Aside0.mk (blk_below (g := gb231) (o := .cells #[.int .i64 a0_0, .int .i64 a0_1, .int .i64 a0_2, .slice (some ad233) l0_3.length c0_3] 30 (0, 0)) (by (with_reducible repeat (first | refine blk_drewN ?_ _ | refine blk_drew ?_ | refine blk_alloc ?_ _)); exact BK231.out) hb); have n2_ := Aside0.mk (below_step (by repeat (first | (with_reducible first | exact HB.out | apply below_alloc | apply pw_below_drewN | apply below_drew1 | refine below_set ?_ GE231.out) | exact HB.out)) hb); clear BK231; clear HB; have HO236 := n0_; have BK231 := n1_; have HB := n2_; clear n0_ n1_ n2_; (try clear hb); (try clear hb2); (try clear hk); (try clear hi); (try clear ho0)))
        go_ret
        exact ⟨_, by first | rfl | (simp [errW_none, errW_some] <;> rfl) | (simp [*, errW_none, errW_some] <;> rfl), by (with_reducible repeat (first | apply Kd.R_alloc | apply Kd.R_drewN | apply Kd.R_drew)); exact HO236.out, by repeat (first | (with_reducible first | exact HB.out | apply below_alloc | apply pw_below_drewN | apply below_drew1 | refine below_set ?_ GE231.out) | exact HB.out)⟩
      · rw [if_neg c7] at H
        exact absurd H (by simp)
    · rw [if_neg c6] at H
      exact absurd H (by simp)
  · replace c5 := Bool.eq_false_iff.mpr c5
    subst c5
    have H1 : (some (([] : List Int))) = some r := by rw [if_neg (show ¬ (false = true) by decide)] at H; exact H
    clear H
    have H := H1
    clear H1
    obtain ⟨y237, hy237⟩ : ∃ y_ : List Int, y_ = (([] : List Int)) := ⟨_, rfl⟩
    replace H : (some y237) = some r := by first | (rw [hy237]; with_reducible exact H) | (have H2_ := (Option.bind_some _ _).symm.trans H; rw [hy237]; with_reducible exact H2_) | (have H2_ := (Option.bind_some _ _).symm.trans H; with_reducible exact H2_) | with_reducible exact H | (rw [hy237]; exact H) | exact H
    have Ny237 := Aside0.mk hy237
    clear hy237
    obtain rfl := Option.some.inj H
    go_enter Try.func29, Try.ntmps29
    go_wp2_with (first | ((with_reducible refine gate_dst (N := 3) rfl ?_); refine box_event ?hg (N := 3) ?hd (cs := #[.int .i64 a0_0, .int .i64 a0_1, .int .i64 a0_2, .slice A0_3 l0_3.length c0_3]) (t := 30) ?hr ?_; (case hd => rfl); (case hg => rfl); (case hr => first | (go_simp; done) | (go_simp; rfl)); intro gb231 hg w12 hbox hb; have n0_ := Aside0.mk (below_step (by repeat (first | (with_reducible first | exact HB.out | apply below_alloc | apply pw_below_drewN | apply below_drew1) | exact HB.out)) hb); have n1_ := Aside0.mk (hbox); have n2_ := Aside0.mk ((by rw [hg]; exact (below_size (by repeat (first | (with_reducible first | exact HB.out | apply below_alloc | apply pw_below_drewN | apply below_drew1) | exact HB.out))) : w.heap.size ≤ gb231)); have n3_ := Aside0.mk ((by rw [hg]; exact (below_size (by repeat (first | (with_reducible first | exact HB.out | apply below_alloc | apply pw_below_drewN | apply below_drew1) | exact HB.out))) : w.heap.size ≤ gb231)); clear HB; have HB := n0_; have BK231 := n1_; have GW231 := n2_; have GE231 := n3_; clear n0_ n1_ n2_ n3_; clear hb hbox hg; have hcz13_0 : w12.cell? ⟨gb231, 0, none⟩ = some (.int .i64 a0_0) := (blk_cell BK231.out 0).trans rfl; have hcz13_1 : w12.cell? ⟨gb231, 1, none⟩ = some (.int .i64 a0_1) := (blk_cell BK231.out 1).trans rfl; have hcz13_2 : w12.cell? ⟨gb231, 2, none⟩ = some (.int .i64 a0_2) := (blk_cell BK231.out 2).trans rfl; have hcz13_3 : w12.cell? ⟨gb231, 3, none⟩ = some (.slice A0_3 l0_3.length c0_3) := (blk_cell BK231.out 3).trans rfl; have hfz13_0 := blk_frozen BK231.out 0; have hfz13_1 := blk_frozen BK231.out 1; have hfz13_2 := blk_frozen BK231.out 2; have hfz13_3 := blk_frozen BK231.out 3) | ((with_reducible refine gate_callee (f := 103) rfl ?_); refine goesL_ (some 11) rfl rfl Try.func103 (by kernel_rfl) rfl #[.int .i64 a1, .int .i64 (l0_3.length : Int)] rfl (by (try simp only [List.map_toArray, List.map_cons, List.map_nil]); first | done | rfl | (simp only [List.length_drop, List.length_take]; rfl)) ?_; (with_reducible refine (impl_isIndex.calls a1 (l0_3.length : Int) false _ A4.out).mono ?_); rintro e w' ⟨rfl, ⟨nd, rfl⟩⟩; refine ⟨_, rfl, ?_⟩) | ((with_reducible refine gate_dst (N := 13) rfl ?_); refine Kd.R_lit (Kd.int .i64) _ 3 ?hg (N := 13) ?hd (xs := ([] : List Int)) (inner := []) (ok := fun _ => True) (okp := fun _ => True) ?hr ?hp (fun _ hk => hk) trivial (Below.refl _ _) (Nat.le_refl _) (by simp) ?_; (case hd => rfl); (case hg => rfl); (case hr => first | (go_simp; done) | (go_simp; rfl)); (case hp => exact (Reps.none _ _)); intro v238 w14 ho15 hb hg_ hnew_; clear hg_ hnew_; (first | rw [← Ny237.out] at ho15 | (simp only [Int.reduceToNat] at ho15; rw [← Ny237.out] at ho15)); have n0_ := Aside0.mk (Kd.R_lower ho15 (below_size (by repeat (first | (with_reducible first | exact HB.out | apply below_alloc | apply pw_below_drewN | apply below_drew1 | refine below_set ?_ GE231.out) | exact HB.out)))); have n1_ := Aside0.mk (blk_below (g := gb231) (o := .cells #[.int .i64 a0_0, .int .i64 a0_1, .int .i64 a0_2, .slice A0_3 l0_3.length c0_3] 30 (0, 0)) (by (with_reducible repeat (first | refine blk_drewN ?_ _ | refine blk_drew ?_ | refine blk_alloc ?_ _)); exact BK231.out) hb); have n2_ := Aside0.mk (below_step (by repeat (first | (with_reducible first | exact HB.out | apply below_alloc | apply pw_below_drewN | apply below_drew1 | refine below_set ?_ GE231.out) | exact HB.out)) hb); clear BK231; clear HB; have HO239 := n0_; have BK231 := n1_; have HB := n2_; clear n0_ n1_ n2_; clear hb ho15))
    go_ret
    exact ⟨_, by first | rfl | (simp [errW_none, errW_some] <;> rfl) | (simp [*, errW_none, errW_some] <;> rfl), by (with_reducible repeat (first | apply Kd.R_alloc | apply Kd.R_drewN | apply Kd.R_drew)); exact HO239.out, by repeat (first | (with_reducible first | exact HB.out | apply below_alloc | apply pw_below_drewN | apply below_drew1 | refine below_set ?_ GE231.out) | exact HB.out)⟩

end Go.Proofs.Ytlogjmgghnifoaa.PFnExactHandoversOf
