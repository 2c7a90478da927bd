/- The functions that the law reaches, as plain Lean functions, each with the proof that the Go code comes to its answers; conditions: those that each theorem names. (printed by a program of this session) -/
import Derived.Test.YtlogjmgghnifoaaPFnExactServiceOfx0
namespace Go.Proofs.Ytlogjmgghnifoaa.PFnExactServiceOf
open Go.RowKit Go.Proofs.YtlogjmgghnifoaaW.PrintWords Go.Proofs.YtlogjmgghnifoaaW.PrintLast Go.Proofs.YtlogjmgghnifoaaW.PrintMore
attribute [local go_sem] max2_int min2_int max_two min_two max_three min_three max_four min_four   -- for this text's walks alone
set_option linter.unusedVariables false
set_option linter.unusedSimpArgs false

/-! ### laws_markProgram: function 18 -/
theorem not_types_ {w : World} {g t : Nat} {cs : Array Value} {L : List Nat} (h : w.heap[g]? = some (.cells cs t (0, 0))) (hs : ∃ q, q ∈ L ∧ ∃ cells, w.heap[g]? = some (.cells cells q (0, 0))) (hn : t ∉ L) : False := by
  obtain ⟨q, hq, cells, hc⟩ := hs
  rw [h] at hc
  injection hc with hc
  injection hc with _ ht _
  exact hn (ht ▸ hq)
def isI_ (v : Value) : Prop := ∃ z, v = .int .i64 z
/-- Numbers in P's blocks are turned to numbers; all else stays. -/
def Mk_ (P : Nat → Prop) (w w' : World) : Prop := Below 0 w w' ∧ (∀ b, b < w.heap.size → ¬ P b → w'.heap[b]? = w.heap[b]?) ∧
  ∀ (b : Nat) (cells : Array Value) (t : Nat), w.heap[b]? = some (.cells cells t (0, 0)) → ∃ cells' : Array Value, w'.heap[b]? = some (.cells cells' t (0, 0)) ∧ ∀ (j : Nat) (u : Value), cells[j]? = some u → ∃ u', cells'[j]? = some u' ∧ (u' = u ∨ isI_ u ∧ isI_ u')
theorem Mk_.refl (P : Nat → Prop) (w : World) : Mk_ P w w := ⟨Below.refl _ _, fun _ _ _ => rfl, fun _ cells _ h => ⟨cells, h, fun _ u hu => ⟨u, hu, .inl rfl⟩⟩⟩
theorem Mk_.then_ {P : Nat → Prop} {w W W2 : World} (h : Mk_ P w W) (k : Mk_ P W W2) : Mk_ P w W2 := by
  refine ⟨h.1.trans k.1, fun b hb hn => (k.2.1 b (Nat.lt_of_lt_of_le hb h.1.size) hn).trans (h.2.1 b hb hn), fun b cells t hc => ?_⟩
  obtain ⟨c1, h1, h2⟩ := h.2.2 b cells t hc
  obtain ⟨c2, h3, h4⟩ := k.2.2 b c1 t h1
  refine ⟨c2, h3, fun j u hu => ?_⟩
  obtain ⟨u1, e1, r1⟩ := h2 j u hu
  obtain ⟨u2, e2, r2⟩ := h4 j u1 e1
  refine ⟨u2, e2, ?_⟩
  rcases r1 with rfl | ⟨a1, a2⟩
  · exact r2
  · rcases r2 with rfl | ⟨b1, b2⟩
    · exact .inr ⟨a1, a2⟩
    · exact .inr ⟨a1, b2⟩
theorem Mk_.drewN {P : Nat → Prop} {w W : World} (h : Mk_ P w W) (n : Nat) : Mk_ P w (W.drewN n) := ⟨pw_below_drewN h.1 n, h.2⟩
theorem Mk_.set {P : Nat → Prop} {w W : World} (h : Mk_ P w W) {g o t : Nat} {cs : Array Value} {z z' : Int} (hP : P g) (hb : W.heap[g]? = some (.cells cs t (0, 0))) (hz : cs[o]? = some (.int .i64 z)) : Mk_ P w (W.setCell ⟨g, o, none⟩ (.int .i64 z')) := by
  refine h.then_ ⟨⟨rfl, rfl, rfl, by simp [World.setCell], fun k hk => absurd hk (Nat.not_lt_zero k)⟩, fun b _ hn => Below.heap_setCell W ⟨g, o, none⟩ _ b (fun e => hn (e ▸ hP)), fun b cells t' hc => ?_⟩
  by_cases e : b = g
  · subst e
    rw [hb] at hc
    injection hc with hc
    injection hc with e1 e2 _
    subst e1; subst e2
    refine ⟨_, blk_set hb o _, fun j u hu => ?_⟩
    by_cases ej : j = o
    · subst ej
      rw [hz] at hu
      injection hu with hu
      subst hu
      have hj : j < cs.size := (Array.getElem?_eq_some_iff.1 hz).1
      exact ⟨.int .i64 z', by simp [Array.getElem?_setIfInBounds, hj], .inr ⟨⟨_, rfl⟩, ⟨_, rfl⟩⟩⟩
    · exact ⟨u, by rw [Array.getElem?_setIfInBounds_ne (Ne.symm ej)]; exact hu, .inl rfl⟩
  · exact ⟨cells, (Below.heap_setCell W ⟨g, o, none⟩ _ b e).trans hc, fun _ u hu => ⟨u, hu, .inl rfl⟩⟩
def IntRow_ (P : Nat → Prop) (w : World) (A : Option Addr) (m : Nat) : Prop := m = 0 ∨ ∃ (g : Nat) (cells : Array Value) (t : Nat), A = some ⟨g, 0, none⟩ ∧ P g ∧ w.heap[g]? = some (.cells cells t (0, 0)) ∧ ∀ j, j < m → ∃ z, cells[j]? = some (.int .i64 z)
theorem IntRow_.mk_ {P : Nat → Prop} {w W : World} {A : Option Addr} {m : Nat} (h : IntRow_ P w A m) (k : Mk_ P w W) : IntRow_ P W A m := by
  rcases h with h | ⟨g, cells, t, hA, hP, hb, hz⟩
  · exact .inl h
  · obtain ⟨c1, h1, h2⟩ := k.2.2 g cells t hb
    refine .inr ⟨g, c1, t, hA, hP, h1, fun j hj => ?_⟩
    obtain ⟨z, hz⟩ := hz j hj
    obtain ⟨u, hu, e | ⟨_, z', e⟩⟩ := h2 j _ hz
    · exact ⟨z, e ▸ hu⟩
    · exact ⟨z', e ▸ hu⟩
theorem slice_stays {P : Nat → Prop} {w W : World} (k : Mk_ P w W) {g t j : Nat} {cells : Array Value} {A : Option Addr} {n c : Nat} (hb : w.heap[g]? = some (.cells cells t (0, 0))) (hj : cells[j]? = some (.slice A n c)) : ∃ cells', W.heap[g]? = some (.cells cells' t (0, 0)) ∧ cells'[j]? = some (.slice A n c) := by
  obtain ⟨c1, h1, h2⟩ := k.2.2 g cells t hb
  obtain ⟨u, hu, e | ⟨⟨_, e⟩, _⟩⟩ := h2 j _ hj
  · exact ⟨c1, h1, e ▸ hu⟩
  · cases e
def TabRow_ (P : Nat → Prop) (w : World) (A : Option Addr) (ns : List (Nat × Nat)) : Prop := ns = [] ∨ ∃ (g : Nat) (cells : Array Value) (t : Nat), A = some ⟨g, 0, none⟩ ∧ P g ∧ w.heap[g]? = some (.cells cells t (0, 0)) ∧
  ∀ (j : Nat) (p : Nat × Nat), ns[j]? = some p → (∃ z, cells[j * 3]? = some (.int .i64 z)) ∧ (∃ A1 c1, cells[j * 3 + 1]? = some (.slice A1 p.1 c1) ∧ IntRow_ P w A1 p.1) ∧ ∃ A2 c2, cells[j * 3 + 2]? = some (.slice A2 p.2 c2) ∧ IntRow_ P w A2 p.2
theorem keep_cells {P : Nat → Prop} {w W : World} (k : Mk_ P w W) {g t : Nat} {cells : Array Value} (hb : w.heap[g]? = some (.cells cells t (0, 0))) : ∃ cells' : Array Value, W.heap[g]? = some (.cells cells' t (0, 0)) ∧ (∀ (j : Nat) (z : Int), cells[j]? = some (Value.int .i64 z) → ∃ z', cells'[j]? = some (Value.int .i64 z')) ∧ ∀ (j : Nat) (A : Option Addr) (n c : Nat), cells[j]? = some (Value.slice A n c) → cells'[j]? = some (Value.slice A n c) := by
  obtain ⟨c1, h1, h2⟩ := k.2.2 g cells t hb
  refine ⟨c1, h1, fun j z hz => ?_, fun j A n c hc => ?_⟩
  · obtain ⟨u, hu, e | ⟨_, z', e⟩⟩ := h2 j _ hz
    · exact ⟨z, e ▸ hu⟩
    · exact ⟨z', e ▸ hu⟩
  · obtain ⟨u, hu, e | ⟨⟨_, e⟩, _⟩⟩ := h2 j _ hc
    · exact e ▸ hu
    · cases e
theorem TabRow_.mk_ {P : Nat → Prop} {w W : World} {A : Option Addr} {ns : List (Nat × Nat)} (h : TabRow_ P w A ns) (k : Mk_ P w W) : TabRow_ P W A ns := by
  rcases h with h | ⟨g, cells, t, hA, hP, hb, hz⟩
  · exact .inl h
  · obtain ⟨c1, h1, h2, h3⟩ := keep_cells k hb
    refine .inr ⟨g, c1, t, hA, hP, h1, fun j p hj => ?_⟩
    obtain ⟨⟨z, q0⟩, ⟨A1, d1, q1, i1⟩, ⟨A2, d2, q2, i2⟩⟩ := hz j p hj
    exact ⟨h2 _ _ q0, ⟨A1, d1, h3 _ _ _ _ q1, i1.mk_ k⟩, ⟨A2, d2, h3 _ _ _ _ q2, i2.mk_ k⟩⟩
def PieRow_ (P : Nat → Prop) (w : World) (A : Option Addr) (ns : List (Nat × List (Nat × Nat))) : Prop := ns = [] ∨ ∃ (g : Nat) (cells : Array Value) (t : Nat), A = some ⟨g, 0, none⟩ ∧ P g ∧ w.heap[g]? = some (.cells cells t (0, 0)) ∧
  ∀ (j : Nat) (p : Nat × List (Nat × Nat)), ns[j]? = some p → (∃ z, cells[j * 4]? = some (.int .i64 z)) ∧ (∃ z, cells[j * 4 + 1]? = some (.int .i64 z)) ∧ (∃ A1 c1, cells[j * 4 + 2]? = some (.slice A1 p.1 c1) ∧ IntRow_ P w A1 (p.1 * 2)) ∧ ∃ A2 c2, cells[j * 4 + 3]? = some (.slice A2 p.2.length c2) ∧ TabRow_ P w A2 p.2
theorem PieRow_.mk_ {P : Nat → Prop} {w W : World} {A : Option Addr} {ns : List (Nat × List (Nat × Nat))} (h : PieRow_ P w A ns) (k : Mk_ P w W) : PieRow_ P W A ns := by
  rcases h with h | ⟨g, cells, t, hA, hP, hb, hz⟩
  · exact .inl h
  · obtain ⟨c1, h1, h2, h3⟩ := keep_cells k hb
    refine .inr ⟨g, c1, t, hA, hP, h1, fun j p hj => ?_⟩
    obtain ⟨⟨z, q0⟩, ⟨z', q0'⟩, ⟨A1, d1, q1, i1⟩, ⟨A2, d2, q2, i2⟩⟩ := hz j p hj
    exact ⟨h2 _ _ q0, h2 _ _ q0', ⟨A1, d1, h3 _ _ _ _ q1, i1.mk_ k⟩, ⟨A2, d2, h3 _ _ _ _ q2, i2.mk_ k⟩⟩
def tabSize_ (ns : List (Nat × Nat)) : Nat := (ns.map fun p => 1 + p.1 + p.2).sum
def pieSize_ (ns : List (Nat × List (Nat × Nat))) : Nat := (ns.map fun p => 2 + p.1 * 2 + tabSize_ p.2).sum
theorem sum_take {α : Type} (f : α → Nat) (l : List α) {i : Nat} {x : α} (h : l[i]? = some x) : ((l.take (i + 1)).map f).sum = ((l.take i).map f).sum + f x := by
  rw [List.take_add_one, h]
  simp [List.map_append, List.sum_append]
theorem sum_le {α : Type} (f : α → Nat) (l : List α) (i : Nat) : ((l.take i).map f).sum ≤ (l.map f).sum := by
  have h := congrArg (fun q => (q.map f).sum) (List.take_append_drop i l)
  simp only [List.map_append, List.sum_append] at h
  omega
theorem tab_len : ∀ ns : List (Nat × Nat), ns.length ≤ tabSize_ ns
  | [] => Nat.le_refl _
  | p :: ns => by
    have := tab_len ns
    unfold tabSize_ at this ⊢
    rw [List.map_cons, List.sum_cons, List.length_cons]
    omega
theorem pie_len : ∀ ns : List (Nat × List (Nat × Nat)), ns.length ≤ pieSize_ ns
  | [] => Nat.le_refl _
  | p :: ns => by
    have := pie_len ns
    unfold pieSize_ at this ⊢
    rw [List.map_cons, List.sum_cons, List.length_cons]
    omega
set_option maxHeartbeats 2000000 in
set_option maxRecDepth 100000 in
theorem marks_ints (P : Nat → Prop) (A : Option Addr) (n c : Nat) (a : Int) (w : World) (h0 : 0 ≤ a) (hs : a + n ≤ 4000000000) (h : IntRow_ P w A n) :
    Calls Try.prog 31 #[.slice A n c, .int .i64 a] w fun e w' => e = .returned (.int .i64 (a + n)) ∧ Mk_ P w w' := by
  have HI := Aside0.mk h
  clear h
  go_enter Try.func31, Try.ntmps31
  go_wp2
  go_loopg [1, 5] n (fun gg v1 v5 wr => ∃ (i : Nat) (k : Int), i ≤ n ∧ n - i ≤ gg ∧ v1 = .int .i64 k ∧ v5 = .int .i64 i ∧ Aside0 (k = a + i) ∧ Aside0 (Mk_ P w wr))
  case atStart => exact ⟨0, a, Nat.zero_le _, by omega, rfl, rfl, ⟨by omega⟩, ⟨Mk_.refl _ _⟩⟩
  case round =>
    obtain ⟨i, k, hi, hg, rfl, rfl, HK, HM⟩ := hrel
    have hk := HK.out
    by_cases hlt : i < n
    · have hltz : (i : Int) < (n : Int) := by omega
      have hw : wrap64 (k + 1) = k + 1 := by unfold wrap64; omega
      have HW := Aside0.mk hw
      rcases HI.out.mk_ HM.out with h | ⟨g, cells, t, rfl, hP, hb, hz⟩
      · omega
      · obtain ⟨z, hz⟩ := hz i hlt
        have hx : wr.cell? ⟨g, i, none⟩ = some (.int .i64 z) := (blk_cell hb i).trans hz
        have hf : wr.frozen? ⟨g, i, none⟩ = false := blk_frozen hb i
        have HN := Aside0.mk (Mk_.set (z' := k) HM.out hP hb hz)
        clear hb hz hP hk hw
        go_wp2
        go_roundg (n - (i + 1))
        case measure => omega
        case rel => exact ⟨i + 1, k + 1, by omega, by omega, congrArg (Value.int .i64) (by first | exact HW.out | rw [i64_w]; exact HW.out), by go_num, ⟨by have := HK.out; omega⟩, ⟨HN.out⟩⟩
    · have hltz : ¬ (i : Int) < (n : Int) := by omega
      have : i = n := by omega
      subst this
      obtain rfl := hk
      go_wp2
      go_ret
      exact ⟨rfl, HM.out⟩
set_option maxHeartbeats 2000000 in
set_option maxRecDepth 100000 in
theorem marks_links (P : Nat → Prop) (A : Option Addr) (n c : Nat) (a : Int) (w : World) (h0 : 0 ≤ a) (hs : a + ((n * 2 : Nat) : Int) ≤ 4000000000) (h : IntRow_ P w A (n * 2)) :
    Calls Try.prog 52 #[.slice A n c, .int .i64 a] w fun e w' => e = .returned (.int .i64 (a + ((n * 2 : Nat) : Int))) ∧ Mk_ P w w' := by
  have HI := Aside0.mk h
  have HS := Aside0.mk hs
  have hnb : n ≤ 4000000000 := by omega
  clear h hs
  go_enter Try.func52, Try.ntmps52
  go_wp2
  go_loopg [1, 5] n (fun gg v1 v5 wr => ∃ (i : Nat) (k : Int), i ≤ n ∧ n - i ≤ gg ∧ v1 = .int .i64 k ∧ v5 = .int .i64 i ∧ Aside0 (k = a + ((i * 2 : Nat) : Int)) ∧ Aside0 (Mk_ P w wr))
  case atStart => exact ⟨0, a, Nat.zero_le _, by omega, rfl, rfl, ⟨by omega⟩, ⟨Mk_.refl _ _⟩⟩
  case round =>
    obtain ⟨i, k, hi, hg, rfl, rfl, HK, HM⟩ := hrel
    have hk := HK.out
    have hs := HS.out
    by_cases hlt : i < n
    · have hltz : (i : Int) < (n : Int) := by omega
      have HW := Aside0.mk (show wrap64 (k + 1) = k + 1 by unfold wrap64; omega)
      have HW2 := Aside0.mk (show wrap64 (wrap64 (k + 1) + 1) = k + 2 by unfold wrap64; omega)
      rcases HI.out.mk_ HM.out with h | ⟨g, cells, t, rfl, hP, hb, hz⟩
      · omega
      · obtain ⟨z, hz0⟩ := hz (i * 2) (by omega)
        obtain ⟨z', hz1⟩ := hz (i * 2 + 1) (by omega)
        have hx0 : wr.cell? ⟨g, i * 2, none⟩ = some (.int .i64 z) := (blk_cell hb _).trans hz0
        have hf0 : wr.frozen? ⟨g, i * 2, none⟩ = false := blk_frozen hb _
        have hx1 : wr.cell? ⟨g, i * 2 + 1, none⟩ = some (.int .i64 z') := (blk_cell hb _).trans hz1
        have hf1 : wr.frozen? ⟨g, i * 2 + 1, none⟩ = false := blk_frozen hb _
        have HN := Aside0.mk (Mk_.set (z' := wrap64 (k + 1)) (Mk_.set (z' := k) HM.out hP hb hz0) hP (blk_set hb (i * 2) (.int .i64 k)) (o := i * 2 + 1) (z := z') (by rw [Array.getElem?_setIfInBounds_ne (by omega)]; exact hz1))
        clear hb hz hP hk hz0 hz1 hs
        go_wp2
        go_roundg (n - (i + 1))
        case measure => omega
        case rel => exact ⟨i + 1, k + 2, by omega, by omega, congrArg (Value.int .i64) (by first | exact HW2.out | (simp only [i64_w]; exact HW2.out)), by go_num, ⟨by have := HK.out; omega⟩, ⟨by first | exact HN.out | (simp only [i64_w]; exact HN.out)⟩⟩
    · have hltz : ¬ (i : Int) < (n : Int) := by omega
      have : i = n := by omega
      subst this
      obtain rfl := hk
      clear hs
      go_wp2
      go_ret
      exact ⟨rfl, HM.out⟩
set_option maxHeartbeats 2000000 in
set_option maxRecDepth 100000 in
theorem marks_tabs (P : Nat → Prop) (A : Option Addr) (n c : Nat) (ns : List (Nat × Nat)) (hn : ns.length = n) (a : Int) (w : World) (h0 : 0 ≤ a) (hs : a + (tabSize_ ns : Int) ≤ 4000000000) (h : TabRow_ P w A ns) :
    Calls Try.prog 131 #[.slice A n c, .int .i64 a] w fun e w' => e = .returned (.int .i64 (a + (tabSize_ ns : Int))) ∧ Mk_ P w w' := by
  have HI := Aside0.mk h
  have HS := Aside0.mk hs
  have HL := Aside0.mk hn
  have hnb : n ≤ 4000000000 := by have := tab_len ns; omega
  clear h hs hn
  go_enter Try.func131, Try.ntmps131
  go_wp2
  go_loopg [1, 5] n (fun gg v1 v5 wr => ∃ (i : Nat) (k : Int), i ≤ n ∧ n - i ≤ gg ∧ v1 = .int .i64 k ∧ v5 = .int .i64 i ∧ Aside0 (k = a + (tabSize_ (ns.take i) : Int)) ∧ Aside0 (Mk_ P w wr))
  case atStart => exact ⟨0, a, Nat.zero_le _, by omega, rfl, rfl, ⟨by simp [tabSize_]⟩, ⟨Mk_.refl _ _⟩⟩
  case round =>
    obtain ⟨i, k, hi, hg, rfl, rfl, HK, HM⟩ := hrel
    have hk := HK.out
    have hs := HS.out
    have hl := HL.out
    by_cases hlt : i < n
    · have hltz : (i : Int) < (n : Int) := by omega
      obtain ⟨p, hp⟩ : ∃ p, ns[i]? = some p := ⟨_, List.getElem?_eq_getElem (by omega)⟩
      have ht : tabSize_ (ns.take (i + 1)) = tabSize_ (ns.take i) + (1 + p.1 + p.2) := sum_take _ ns hp
      have hle : tabSize_ (ns.take (i + 1)) ≤ tabSize_ ns := sum_le _ ns (i + 1)
      have HW := Aside0.mk (show wrap64 (k + 1) = k + 1 by unfold wrap64; omega)
      rcases HI.out.mk_ HM.out with h | ⟨g, cells, t, rfl, hP, hb, hz⟩
      · rw [h] at hp; cases hp
      · obtain ⟨⟨z, hz0⟩, ⟨A1, d1, hz1, i1⟩, ⟨A2, d2, hz2, i2⟩⟩ := hz i p hp
        have hx0 : wr.cell? ⟨g, i * 3, none⟩ = some (.int .i64 z) := (blk_cell hb _).trans hz0
        have hf0 : wr.frozen? ⟨g, i * 3, none⟩ = false := blk_frozen hb _
        have hx1 : wr.cell? ⟨g, i * 3 + 1, none⟩ = some (.slice A1 p.1 d1) := (blk_cell hb _).trans hz1
        have hf1 : wr.frozen? ⟨g, i * 3 + 1, none⟩ = false := blk_frozen hb _
        have hm1 : Mk_ P wr (wr.setCell ⟨g, i * 3, none⟩ (.int .i64 k)) := Mk_.set (Mk_.refl _ _) hP hb hz0
        obtain ⟨c1, hb1, _, hc1⟩ := keep_cells hm1 hb
        have hz2' := hc1 _ _ _ _ hz2
        have HC1 := Aside0.mk (marks_ints P A1 p.1 d1 (wrap64 (k + 1)) _ (by have := HW.out; omega) (by have := HW.out; omega) (i1.mk_ hm1))
        have HG := Aside0.mk (show ∀ W, Mk_ P (wr.setCell ⟨g, i * 3, none⟩ (.int .i64 k)) W → W.cell? ⟨g, i * 3 + 2, none⟩ = some (.slice A2 p.2 d2) ∧ W.frozen? ⟨g, i * 3 + 2, none⟩ = false ∧ (Calls Try.prog 31 #[.slice A2 p.2 d2, .int .i64 (wrap64 (k + 1) + p.1)] W fun e w' => e = .returned (.int .i64 (wrap64 (k + 1) + p.1 + p.2)) ∧ Mk_ P W w') from fun W hW => by
          obtain ⟨c2, hb2, _, hc2⟩ := keep_cells hW hb1
          exact ⟨(blk_cell hb2 _).trans (hc2 _ _ _ _ hz2'), blk_frozen hb2 _, marks_ints P A2 p.2 d2 (wrap64 (k + 1) + p.1) W (by have := HW.out; omega) (by have := HW.out; omega) ((i2.mk_ hm1).mk_ hW)⟩)
        have HM1 := Aside0.mk (HM.out.then_ hm1)
        have HT := Aside0.mk ht
        clear hb hz hP hk hz0 hz1 hs hl ht hle hm1 hb1 hc1 hz2' i1 i2 hz2 hp
        go_wp2_with (first | (go_at_call 31; refine HC1.out.mono ?_; rintro e w2 ⟨rfl, hm2⟩; obtain ⟨hx2, hf2, hc⟩ := HG.out w2 hm2; have HC2 := Aside0.mk hc; have HM2 := Aside0.mk hm2; clear hc hm2 HC1 HG) | (go_at_call 31; refine HC2.out.mono ?_; rintro e w3 ⟨rfl, hm3⟩; have HM3 := Aside0.mk hm3; clear hm3 HC2))
        go_roundg (n - (i + 1))
        case measure => omega
        case rel => exact ⟨i + 1, wrap64 (k + 1) + p.1 + p.2, by omega, by omega, rfl, by go_num, ⟨by have := HK.out; have := HT.out; have := HW.out; omega⟩, ⟨(HM1.out.then_ HM2.out).then_ HM3.out⟩⟩
    · have hltz : ¬ (i : Int) < (n : Int) := by omega
      have : i = n := by omega
      subst this
      rw [List.take_of_length_le (by omega)] at hk
      obtain rfl := hk
      clear hs hl
      go_wp2
      go_ret
      exact ⟨rfl, HM.out⟩
set_option maxHeartbeats 2000000 in
set_option maxRecDepth 100000 in
theorem marks_pieces (P : Nat → Prop) (A : Option Addr) (n c : Nat) (ns : List (Nat × List (Nat × Nat))) (hn : ns.length = n) (a : Int) (w : World) (h0 : 0 ≤ a) (hs : a + (pieSize_ ns : Int) ≤ 4000000000) (h : PieRow_ P w A ns) :
    Calls Try.prog 67 #[.slice A n c, .int .i64 a] w fun e w' => e = .returned (.int .i64 (a + (pieSize_ ns : Int))) ∧ Mk_ P w w' := by
  have HI := Aside0.mk h
  have HS := Aside0.mk hs
  have HL := Aside0.mk hn
  have hnb : n ≤ 4000000000 := by have := pie_len ns; omega
  clear h hs hn
  go_enter Try.func67, Try.ntmps67
  go_wp2
  go_loopg [1, 5] n (fun gg v1 v5 wr => ∃ (i : Nat) (k : Int), i ≤ n ∧ n - i ≤ gg ∧ v1 = .int .i64 k ∧ v5 = .int .i64 i ∧ Aside0 (k = a + (pieSize_ (ns.take i) : Int)) ∧ Aside0 (Mk_ P w wr))
  case atStart => exact ⟨0, a, Nat.zero_le _, by omega, rfl, rfl, ⟨by simp [pieSize_]⟩, ⟨Mk_.refl _ _⟩⟩
  case round =>
    obtain ⟨i, k, hi, hg, rfl, rfl, HK, HM⟩ := hrel
    have hk := HK.out
    have hs := HS.out
    have hl := HL.out
    by_cases hlt : i < n
    · have hltz : (i : Int) < (n : Int) := by omega
      obtain ⟨p, hp⟩ : ∃ p, ns[i]? = some p := ⟨_, List.getElem?_eq_getElem (by omega)⟩
      have ht : pieSize_ (ns.take (i + 1)) = pieSize_ (ns.take i) + (2 + p.1 * 2 + tabSize_ p.2) := sum_take _ ns hp
      have hle : pieSize_ (ns.take (i + 1)) ≤ pieSize_ ns := sum_le _ ns (i + 1)
      have HW := Aside0.mk (show wrap64 (k + 1) = k + 1 by unfold wrap64; omega)
      have HW2 := Aside0.mk (show wrap64 (wrap64 (k + 1) + 1) = k + 2 by unfold wrap64; omega)
      rcases HI.out.mk_ HM.out with h | ⟨g, cells, t, rfl, hP, hb, hz⟩
      · rw [h] at hp; cases hp
      · obtain ⟨⟨z, hz0⟩, ⟨z', hz0'⟩, ⟨A1, d1, hz1, i1⟩, ⟨A2, d2, hz2, i2⟩⟩ := hz i p hp
        have hx0 : wr.cell? ⟨g, i * 4, none⟩ = some (.int .i64 z) := (blk_cell hb _).trans hz0
        have hf0 : wr.frozen? ⟨g, i * 4, none⟩ = false := blk_frozen hb _
        have hx0' : wr.cell? ⟨g, i * 4 + 1, none⟩ = some (.int .i64 z') := (blk_cell hb _).trans hz0'
        have hf0' : wr.frozen? ⟨g, i * 4 + 1, none⟩ = false := blk_frozen hb _
        have hx1 : wr.cell? ⟨g, i * 4 + 2, none⟩ = some (.slice A1 p.1 d1) := (blk_cell hb _).trans hz1
        have hf1 : wr.frozen? ⟨g, i * 4 + 2, none⟩ = false := blk_frozen hb _
        have hm1 : Mk_ P wr ((wr.setCell ⟨g, i * 4, none⟩ (.int .i64 k)).setCell ⟨g, i * 4 + 1, none⟩ (.int .i64 (wrap64 (k + 1)))) := Mk_.set (Mk_.set (Mk_.refl _ _) hP hb hz0) hP (blk_set hb (i * 4) (.int .i64 k)) (z := z') (by rw [Array.getElem?_setIfInBounds_ne (by omega)]; exact hz0')
        obtain ⟨c1, hb1, _, hc1⟩ := keep_cells hm1 hb
        have hz2' := hc1 _ _ _ _ hz2
        have HC1 := Aside0.mk (marks_links P A1 p.1 d1 (wrap64 (wrap64 (k + 1) + 1)) _ (by have := HW2.out; omega) (by have := HW2.out; omega) (i1.mk_ hm1))
        have HG := Aside0.mk (show ∀ W, Mk_ P ((wr.setCell ⟨g, i * 4, none⟩ (.int .i64 k)).setCell ⟨g, i * 4 + 1, none⟩ (.int .i64 (wrap64 (k + 1)))) W → W.cell? ⟨g, i * 4 + 3, none⟩ = some (.slice A2 p.2.length d2) ∧ W.frozen? ⟨g, i * 4 + 3, none⟩ = false ∧ (Calls Try.prog 131 #[.slice A2 p.2.length d2, .int .i64 (wrap64 (wrap64 (k + 1) + 1) + ((p.1 * 2 : Nat) : Int))] W fun e w' => e = .returned (.int .i64 (wrap64 (wrap64 (k + 1) + 1) + ((p.1 * 2 : Nat) : Int) + (tabSize_ p.2 : Int))) ∧ Mk_ P W w') from fun W hW => by
          obtain ⟨c2, hb2, _, hc2⟩ := keep_cells hW hb1
          exact ⟨(blk_cell hb2 _).trans (hc2 _ _ _ _ hz2'), blk_frozen hb2 _, marks_tabs P A2 p.2.length d2 p.2 rfl (wrap64 (wrap64 (k + 1) + 1) + ((p.1 * 2 : Nat) : Int)) W (by have := HW2.out; omega) (by have := HW2.out; omega) ((i2.mk_ hm1).mk_ hW)⟩)
        have HM1 := Aside0.mk (HM.out.then_ hm1)
        have HT := Aside0.mk ht
        clear hb hz hP hk hz0 hz0' hz1 hs hl ht hle hm1 hb1 hc1 hz2' i1 i2 hz2 hp
        go_wp2_with (first | (go_at_call 52; refine HC1.out.mono ?_; rintro e w2 ⟨rfl, hm2⟩; obtain ⟨hx2, hf2, hc⟩ := HG.out w2 hm2; have HC2 := Aside0.mk hc; have HM2 := Aside0.mk hm2; clear hc hm2 HC1 HG) | (go_at_call 131; refine HC2.out.mono ?_; rintro e w3 ⟨rfl, hm3⟩; have HM3 := Aside0.mk hm3; clear hm3 HC2))
        go_roundg (n - (i + 1))
        case measure => omega
        case rel => exact ⟨i + 1, wrap64 (wrap64 (k + 1) + 1) + ((p.1 * 2 : Nat) : Int) + (tabSize_ p.2 : Int), by omega, by omega, rfl, by go_num, ⟨by have := HK.out; have := HT.out; have := HW2.out; omega⟩, ⟨(HM1.out.then_ HM2.out).then_ HM3.out⟩⟩
    · have hltz : ¬ (i : Int) < (n : Int) := by omega
      have : i = n := by omega
      subst this
      rw [List.take_of_length_le (by omega)] at hk
      obtain rfl := hk
      clear hs hl
      go_wp2
      go_ret
      exact ⟨rfl, HM.out⟩
/-- A row of numbers, as the marks ask for it. -/
theorem int_row {P : Nat → Prop} {w : World} {e base : Nat} {ok : Nat → Prop} {A : Option Addr} {n c : Nat} {l : List Int} (h : Kd.R (Kd.int .i64) e w base ok (.slice A n c) l) (hP : ∀ k, ok k → P k) : IntRow_ P w A n := by
  by_cases hn : n = 0
  · exact .inl hn
  · obtain ⟨hl, _, _⟩ := Kd.R_reads' h
    obtain ⟨g, cap, he, _, _, cells, hb⟩ := Kd.R_form h (by omega)
    injection he with hA _ _
    subst hA
    refine .inr ⟨g, cells, e, rfl, hP g (h.1 g rfl), hb, fun j hj => ?_⟩
    obtain ⟨cs, hcl, hM, hcc, _⟩ := Kd.R_elem h 0 (j : Int) (by omega) (by omega)
    have hK := (Kd.int .i64).K_of_M hM
    obtain rfl : cs = [.int .i64 (l.getD j 0)] := hK
    have h2 := hcc 0 _ rfl
    rw [blk_cell hb] at h2
    exact ⟨_, (by simpa [Kd.int, Kd.scalar] using h2)⟩
theorem link_row {P : Nat → Prop} {w : World} {e base : Nat} {ok : Nat → Prop} {A : Option Addr} {n c : Nat} {l : List (S166)} (h : Kd.R k166 e w base ok (.slice A n c) l) (hP : ∀ k, ok k → P k) : IntRow_ P w A (n * 2) := by
  by_cases hn : n = 0
  · exact .inl (by omega)
  · obtain ⟨hl, _, _⟩ := Kd.R_reads' h
    obtain ⟨g, cap, he, _, _, cells, hb⟩ := Kd.R_form h (by omega)
    injection he with hA _ _
    subst hA
    refine .inr ⟨g, cells, e, rfl, hP g (h.1 g rfl), hb, fun j hj => ?_⟩
    obtain ⟨cs, hcl, hM, hcc, _⟩ := Kd.R_elem h z166 ((j / 2 : Nat) : Int) (by omega) (by omega)
    obtain rfl := k166_open (k166.K_of_M hM)
    have e1 : ((j / 2 : Nat) : Int).toNat * k166.sz = j / 2 * 2 := rfl
    rcases Nat.mod_two_eq_zero_or_one j with h0 | h0
    · have h2 := hcc 0 _ rfl
      rw [blk_cell hb, e1, show j / 2 * 2 + 0 = j by omega] at h2
      exact ⟨_, h2⟩
    · have h2 := hcc 1 _ rfl
      rw [blk_cell hb, e1, show j / 2 * 2 + 1 = j by omega] at h2
      exact ⟨_, h2⟩
def tabShape_ (l : List (S247)) : List (Nat × Nat) := l.map fun x => (x.f1.length, x.f2.length)
theorem tab_row {P : Nat → Prop} {w : World} {e base : Nat} {ok : Nat → Prop} {A : Option Addr} {n c : Nat} {l : List (S247)} (h : Kd.R k247 e w base ok (.slice A n c) l) (hP : ∀ k, ok k → P k) : TabRow_ P w A (tabShape_ l) := by
  obtain ⟨hl, _, _⟩ := Kd.R_reads' h
  by_cases hn : n = 0
  · exact .inl (by unfold tabShape_; rw [List.eq_nil_of_length_eq_zero (by omega : l.length = 0)]; rfl)
  · obtain ⟨g, cap, he, _, _, cells, hb⟩ := Kd.R_form h (by omega)
    injection he with hA _ _
    subst hA
    refine .inr ⟨g, cells, e, rfl, hP g (h.1 g rfl), hb, fun j p hj => ?_⟩
    unfold tabShape_ at hj
    rw [List.getElem?_map] at hj
    obtain ⟨x, hx, rfl⟩ := Option.map_eq_some_iff.1 hj
    have hjl : j < l.length := (List.getElem?_eq_some_iff.1 hx).1
    obtain ⟨cs, hcl, hM, hcc, _⟩ := Kd.R_elem h z247 (j : Int) (by omega) (by omega)
    rw [show l.getD ((j : Int)).toNat z247 = x by rw [Int.toNat_natCast, List.getD_eq_getElem?_getD, hx]; rfl] at hM
    obtain ⟨v1, v2, rfl, g1, g2⟩ := k247_openM hM
    obtain ⟨A1, c1, rfl⟩ := Kd.R_slice g1
    obtain ⟨A2, c2, rfl⟩ := Kd.R_slice g2
    have e1 : ((j : Nat) : Int).toNat * k247.sz = j * 3 := rfl
    have h0 := hcc 0 _ rfl
    have h1 := hcc 1 _ rfl
    have h2 := hcc 2 _ rfl
    rw [blk_cell hb, e1] at h0 h1 h2
    exact ⟨⟨_, h0⟩, ⟨A1, c1, h1, int_row g1 (fun k hk => hP k hk.1)⟩, ⟨A2, c2, h2, int_row g2 (fun k hk => hP k hk.1)⟩⟩
def pieShape_ (l : List (S112)) : List (Nat × List (Nat × Nat)) := l.map fun x => (x.f1.length, tabShape_ x.f2)
theorem pie_row {P : Nat → Prop} {w : World} {e base : Nat} {ok : Nat → Prop} {A : Option Addr} {n c : Nat} {l : List (S112)} (h : Kd.R k112 e w base ok (.slice A n c) l) (hP : ∀ k, ok k → P k) : PieRow_ P w A (pieShape_ l) := by
  obtain ⟨hl, _, _⟩ := Kd.R_reads' h
  by_cases hn : n = 0
  · exact .inl (by unfold pieShape_; rw [List.eq_nil_of_length_eq_zero (by omega : l.length = 0)]; rfl)
  · obtain ⟨g, cap, he, _, _, cells, hb⟩ := Kd.R_form h (by omega)
    injection he with hA _ _
    subst hA
    refine .inr ⟨g, cells, e, rfl, hP g (h.1 g rfl), hb, fun j p hj => ?_⟩
    unfold pieShape_ at hj
    rw [List.getElem?_map] at hj
    obtain ⟨x, hx, rfl⟩ := Option.map_eq_some_iff.1 hj
    have hjl : j < l.length := (List.getElem?_eq_some_iff.1 hx).1
    obtain ⟨cs, hcl, hM, hcc, _⟩ := Kd.R_elem h z112 (j : Int) (by omega) (by omega)
    rw [show l.getD ((j : Int)).toNat z112 = x by rw [Int.toNat_natCast, List.getD_eq_getElem?_getD, hx]; rfl] at hM
    obtain ⟨v1, v2, rfl, g1, g2⟩ := k112_openM hM
    obtain ⟨A1, c1, rfl⟩ := Kd.R_slice g1
    obtain ⟨A2, c2, rfl⟩ := Kd.R_slice g2
    have e1 : ((j : Nat) : Int).toNat * k112.sz = j * 4 := rfl
    have h0 := hcc 0 _ rfl
    have h1 := hcc 1 _ rfl
    have h2 := hcc 2 _ rfl
    have h3 := hcc 3 _ rfl
    rw [blk_cell hb, e1] at h0 h1 h2 h3
    refine ⟨⟨_, h0⟩, ⟨_, h1⟩, ⟨A1, c1, h2, link_row g1 (fun k hk => hP k hk.1)⟩, ⟨A2, c2, ?_, tab_row g2 (fun k hk => hP k hk.1)⟩⟩
    rw [show (tabShape_ x.f2).length = x.f2.length from List.length_map _]
    exact h3
theorem Mk_.alloc {P : Nat → Prop} {w W : World} (h : Mk_ P w W) (o : Obj) : Mk_ P w (W.alloc o) := by
  have hb := below_alloc (Below.refl W.heap.size W) o
  exact h.then_ ⟨⟨hb.os, hb.tape, hb.output, hb.size, fun k hk => absurd hk (Nat.not_lt_zero k)⟩, fun b hlt _ => hb.block b hlt, fun b cells t hc => ⟨cells, (hb.block b (blk_lt hc)).trans hc, fun _ u hu => ⟨u, hu, .inl rfl⟩⟩⟩
def laws_markProgram.f (a0_0 : Int) (a0_1 : Int) (a0_2 : Int) (l0_3 : List (S112)) (a1 : Int) : Option (Int) := if 0 ≤ a1 ∧ a1 + (pieSize_ (pieShape_ l0_3) : Int) ≤ 4000000000 then some (a1 + (pieSize_ (pieShape_ l0_3) : Int)) else none
set_option maxHeartbeats 2000000 in
set_option maxRecDepth 100000 in
theorem laws_markProgram.calls (a0_0 : Int) (a0_1 : Int) (a0_2 : Int) (P0_ : Nat → Prop) (u9000_ : Value) (l0_3 : List (S112)) (a1 : Int) (r1 : Int) (w0 w : World) (hB : Below w0.heap.size w0 w) (ho0 : Kd.R k112 112 w w0.heap.size P0_ u9000_ l0_3) (h : laws_markProgram.f a0_0 a0_1 a0_2 l0_3 a1 = some r1) :
    Calls Try.prog 18 #[.agg #[.int .i64 a0_0, .int .i64 a0_1, .int .i64 a0_2, u9000_], .int .i64 a1] w fun e w' => e = .returned (.int .i64 r1) ∧ Below w0.heap.size w0 w' ∧ Kept w w' (fun k_ => P0_ k_) := by
  unfold laws_markProgram.f at h
  split at h
  · rename_i hs
    obtain rfl := Option.some.inj h
    obtain ⟨A, c, rfl⟩ := Kd.R_slice ho0
    have HP := Aside0.mk (pie_row (P := fun k => P0_ k ∧ w0.heap.size ≤ k) (Kd.R_bound ho0) (fun k hk => ⟨hk.1, hk.2.1⟩))
    have HS := Aside0.mk hs
    have HB := Aside0.mk hB
    have HL := Aside0.mk (show (pieShape_ l0_3).length = l0_3.length from List.length_map _)
    clear h hs ho0 hB
    generalize pieShape_ l0_3 = ns at HP HS HL
    generalize l0_3.length = n at HL
    go_enter Try.func18, Try.ntmps18
    go_wp2_with (go_at_call 67; refine (marks_pieces (fun k => P0_ k ∧ w0.heap.size ≤ k) A n c ns HL.out a1 _ HS.out.1 HS.out.2 (HP.out.mk_ (by repeat (first | exact Mk_.refl _ _ | apply Mk_.alloc | apply Mk_.drewN)))).mono ?_; rintro e w2 ⟨rfl, hm⟩)
    go_ret
    have hw : Mk_ (fun k => P0_ k ∧ w0.heap.size ≤ k) w w2 := Mk_.then_ (by repeat (first | exact Mk_.refl _ _ | apply Mk_.alloc | apply Mk_.drewN)) hm
    exact ⟨rfl, HB.out.trans ⟨hw.1.os, hw.1.tape, hw.1.output, hw.1.size, fun b hb => hw.2.1 b (Nat.lt_of_lt_of_le hb HB.out.size) (fun h => Nat.lt_irrefl _ (Nat.lt_of_lt_of_le hb h.2))⟩, hw.1.size, fun b hb hn => hw.2.1 b hb (fun h => hn h.1)⟩
  · cases h

/-! ### laws_markSpanS: function 19 -/
def laws_markSpanS.l0 : Nat → List (S109) → Int → Int → Option (Int × (List (S109)))
  | 0, _, _, _ => none
  | k + 1, x0, x1, x5 => if x5 < (x0.length : Int) then (if 0 ≤ x5 then ((some (x0.set (x5 : Int).toNat (⟨x1, (rd_T109 x0 x5).f1⟩ : S109) : List (S109))).bind fun y216 => (laws_markSpanS.l0 k (y216.set (x5 : Int).toNat (⟨(rd_T109 y216 x5).f0, wrap64 (x1 + 1)⟩ : S109)) (wrap64 ((wrap64 (x1 + 1)) + 1)) (wrap64 (x5 + 1)))) else (none)) else (some (x1, x0))
def laws_markSpanS.f (k : Nat) (l0 : List (S109)) (a1 : Int) : Option (Int × (List (S109))) := laws_markSpanS.l0 k l0 a1 0
set_option maxHeartbeats 8000000 in
set_option maxRecDepth 100000 in
theorem laws_markSpanS.calls (k : Nat) (P0_ : Nat → Prop) (u9000_ : Value) (l0 : List (S109)) (a1 : Int) (r1 : Int) (r2 : List (S109)) (w0 w : World) (hB : Below w0.heap.size w0 w) (ho0 : Kd.R k109 109 w w0.heap.size P0_ u9000_ l0) (h : laws_markSpanS.f k l0 a1 = some (r1, r2)) :
    Calls Try.prog 19 #[u9000_, .int .i64 a1] w fun e w' => e = .returned (.int .i64 r1) ∧ Kd.R k109 109 w' w0.heap.size (fun k_ => (P0_ k_ ∨ w.heap.size ≤ k_)) u9000_ r2 ∧ Below w0.heap.size w0 w' ∧ Kept w w' (fun k_ => P0_ k_) := by
  have HO0 := Aside0.mk (show Kd.R k109 109 w w0.heap.size (fun k_ => (P0_ k_ ∨ w.heap.size ≤ k_)) u9000_ l0 from Kd.R_mono ho0 (fun k_ hk => (.inl hk)))
  have HK := Aside0.mk (Kept.refl w (fun k_ => P0_ k_))
  have HW0 := Aside0.mk hB.size
  have HB := Aside0.mk hB
  clear hB
  have H : (laws_markSpanS.l0 k l0 a1 0) = some (r1, r2) := h
  clear h
  have H' := Aside0.mk H
  clear H
  go_enter Try.func19, Try.ntmps19
  go_wp2
  go_loopg [1, 5] k (fun kq v1 v5 w' => ∃ (x0_1 : List (S109)) (x1_1 : Int) (x5_1 : Int), v1 = .int .i64 x1_1 ∧ v5 = .int .i64 x5_1 ∧ Aside0 (laws_markSpanS.l0 kq x0_1 x1_1 x5_1 = some (r1, r2)) ∧ Aside0 (kq ≤ k) ∧ Aside0 (Kd.R k109 109 w' w0.heap.size (fun k_ => (P0_ k_ ∨ w.heap.size ≤ k_)) u9000_ x0_1) ∧ Aside0 (Kept w w' (fun k_ => P0_ k_)) ∧ Aside0 (Below w0.heap.size w0 w'))
  case atStart => exact ⟨(l0), (a1), (0), (by first | rfl | (simp; done) | (simp [*]; done)), (by first | rfl | (simp; done) | (simp [*]; done)), H', ⟨Nat.le_refl _⟩, ⟨by (with_reducible repeat (first | apply Kd.R_alloc | apply Kd.R_drewN | apply Kd.R_drew)); exact HO0.out⟩, ⟨by repeat (first | (with_reducible first | exact HK.out | apply Kept.alloc | apply Kept.drewN | apply Kept.drew) | exact HK.out)⟩, ⟨by repeat (first | (with_reducible first | exact HB.out | apply below_alloc | apply pw_below_drewN | apply below_drew1) | exact HB.out)⟩⟩
  case round =>
    clear H'
    try clear c1
    try clear p2
    obtain ⟨x0_1, x1_1, x5_1, rfl, rfl, HA, HK1, HO_0, HK, HB⟩ := hrel
    cases gk with
    | zero => exact absurd HA.out (by simp [laws_markSpanS.l0])
    | succ k1 =>
      have H := HA.out
      clear HA
      simp only [laws_markSpanS.l0] at H
      by_cases c3 : x5_1 < (x0_1.length : Int)
      · rw [if_pos c3] at H
        have c3b0 : decide (x5_1 < (x0_1.length : Int)) = true := decide_eq_true c3
        clear c3
        by_cases c4 : 0 ≤ x5_1
        · rw [if_pos c4] at H
          have c4b0 : decide (0 ≤ x5_1) = true := decide_eq_true c4
          clear c4
          obtain ⟨y216, hy216⟩ : ∃ y_ : List (S109), y_ = (x0_1.set (x5_1 : Int).toNat (⟨x1_1, (rd_T109 x0_1 x5_1).f1⟩ : S109)) := ⟨_, rfl⟩
          replace H : (laws_markSpanS.l0 k1 (y216.set (x5_1 : Int).toNat (⟨(rd_T109 y216 x5_1).f0, wrap64 (x1_1 + 1)⟩ : S109)) (wrap64 ((wrap64 (x1_1 + 1)) + 1)) (wrap64 (x5_1 + 1))) = some (r1, r2) := by first | (rw [hy216]; with_reducible exact H) | (have H2_ := (Option.bind_some _ _).symm.trans H; rw [hy216]; with_reducible exact H2_) | (have H2_ := (Option.bind_some _ _).symm.trans H; with_reducible exact H2_) | with_reducible exact H | (rw [hy216]; exact H) | exact H
          have Ny216 := Aside0.mk hy216
          clear hy216
          obtain ⟨y217, hy217⟩ : ∃ y_ : List (S109), y_ = (y216.set (x5_1 : Int).toNat (⟨(rd_T109 y216 x5_1).f0, wrap64 (x1_1 + 1)⟩ : S109)) := ⟨_, rfl⟩
          replace H : (laws_markSpanS.l0 k1 y217 (wrap64 ((wrap64 (x1_1 + 1)) + 1)) (wrap64 (x5_1 + 1))) = some (r1, r2) := by first | (rw [hy217]; with_reducible exact H) | (have H2_ := (Option.bind_some _ _).symm.trans H; rw [hy217]; with_reducible exact H2_) | (have H2_ := (Option.bind_some _ _).symm.trans H; with_reducible exact H2_) | with_reducible exact H | (rw [hy217]; exact H) | exact H
          have Ny217 := Aside0.mk hy217
          clear hy217
          have H' := Aside0.mk H
          clear H
          obtain ⟨Ao7, co7, eo7⟩ := Kd.R_slice HO_0.out
          subst eo7
          have p5 : 0 ≤ (x5_1 : Int) := of_decide_eq_true (by first | (with_reducible assumption) | assumption)
          have q5 : (x5_1 : Int) < ((x0_1.length : Int) : Int) := of_decide_eq_true (by first | (with_reducible assumption) | assumption)
          obtain ⟨go5, co5, eo5, gb5, gl5, cl5, HG5⟩ := Kd.R_form HO_0.out (by omega)
          (first | cases eo5 | (injection eo5 with ea_ en_ ec_; (first | subst ea_ | (injection ea_ with ea_; subst ea_)); subst ec_; clear en_))
          have GB5 := Aside0.mk gb5
          have GG5 := Aside0.mk HG5
          clear gb5 gl5 HG5
          have HMgo5 := Aside0.mk (show (P0_ go5 ∨ w.heap.size ≤ go5) from (HO_0.out.1 _ rfl))
          obtain ⟨ce5, hcl5, hM5, hcc5, hfr5⟩ := Kd.R_elem HO_0.out z109 (x5_1 : Int) p5 q5
          obtain rfl := k109_openM hM5
          have hx5_0 : wr.cell? ⟨go5, (x5_1 : Int).toNat * 2, none⟩ = some (.int .i64 ((rd_T109 x0_1 x5_1).f0)) := hcc5 0 _ rfl
          have hx5_1 : wr.cell? ⟨go5, (x5_1 : Int).toNat * 2 + 1, none⟩ = some (.int .i64 ((rd_T109 x0_1 x5_1).f1)) := hcc5 1 _ rfl
          have hf5_0 : wr.frozen? ⟨go5, (x5_1 : Int).toNat * 2, none⟩ = false := hfr5 0
          have hf5_1 : wr.frozen? ⟨go5, (x5_1 : Int).toNat * 2 + 1, none⟩ = false := hfr5 1
          clear hcl5 hcc5 hfr5 hM5
          replace p5 := eq_true p5
          replace q5 := eq_true q5
          have HX8 := Aside0.mk (show Kd.R k109 109 wr w0.heap.size (fun k_ => (P0_ k_ ∨ w.heap.size ≤ k_)) (.slice (some ⟨go5, 0, none⟩) x0_1.length co7) x0_1 from (by (with_reducible repeat (first | apply Kd.R_alloc | apply Kd.R_drewN | apply Kd.R_drew)); exact HO_0.out))
          obtain ⟨ce8, hcl8, hM8, hcc8, hfr8⟩ := Kd.R_elem HX8.out z109 (x5_1 : Int) (of_decide_eq_true (by first | (with_reducible assumption) | assumption)) (by have h_ : (x5_1 : Int) < ((x0_1.length : Int) : Int) := of_decide_eq_true (by first | (with_reducible assumption) | assumption); first | exact h_ | (have e_ := (Kd.R_reads' HO_0.out).1; omega) | simpa using h_)
          obtain rfl := k109_openM hM8
          have HP8 := Kd.R_seg HX8.out (x5_1 : Int) (of_decide_eq_true (by first | (with_reducible assumption) | assumption)) (by have h_ : (x5_1 : Int) < ((x0_1.length : Int) : Int) := of_decide_eq_true (by first | (with_reducible assumption) | assumption); first | exact h_ | (have e_ := (Kd.R_reads' HO_0.out).1; omega) | simpa using h_) (seg := [.int .i64 x1_1]) (j := 0) hcl8 hcc8 (show 1 ≤ 2 from by decide) (x' := (⟨x1_1, (rd_T109 x0_1 x5_1).f1⟩ : S109)) (k109_mkM _ _ _ (⟨x1_1, (rd_T109 x0_1 x5_1).f1⟩ : S109) ) (fun _ hk => hk)
          have hx8_0 := hcc8 0 _ rfl
          (try simp only [show (k109).sz = 2 from rfl, Nat.mul_one, Nat.add_zero] at hx8_0)
          have hf8_0 := hfr8 0
          (try simp only [show (k109).sz = 2 from rfl, Nat.mul_one, Nat.add_zero] at hf8_0)
          clear hcl8 hcc8 hfr8 hM8
          go_wp2_with (first | ((with_reducible refine gate_store (t := 3) (p := 16) rfl ?_); refine store_event (t := 3) (p := 16) (v := ?vo_w9) (w1 := (wr.setCell ⟨go5, (x5_1 : Int).toNat * 2, none⟩ (.int .i64 x1_1))) ?hg ?ho ?hn ?hr ?_; (case ho => rfl); (case hg => rfl); (case hn => rfl); (case hr => first | (go_simp; done) | (go_simp; rfl)); intro w9 hw; have hg : wr.grownBy w9 (some go5) := (by rw [hw]; exact HP8.2); have hp_ : Kd.R k109 109 w9 w0.heap.size (fun k_ => (P0_ k_ ∨ w.heap.size ≤ k_)) (.slice (some ⟨go5, 0, none⟩) x0_1.length co7) y216 := (by rw [hw, Ny216.out]; exact HP8.1); clear HP8; have n0_ := Aside0.mk (hp_); have n1_ := Aside0.mk ((by rw [hw]; exact below_set (HB.out) GB5.out : Below w0.heap.size w0 w9)); have n2_ := Aside0.mk (Kept.of_grown (S := (fun k_ => P0_ k_)) hg (by repeat (first | (with_reducible first | exact HK.out | apply Kept.alloc | apply Kept.drewN | apply Kept.drew) | exact HK.out)) (fun k_ e_ => (HO_0.out.1 k_ e_))); clear HO_0; clear HB; clear HK; have HO_0 := n0_; have HB := n1_; have HK := n2_; clear n0_ n1_ n2_; clear hg hw hp_; have p6 : 0 ≤ (x5_1 : Int) := of_decide_eq_true (by first | (with_reducible assumption) | assumption); have q6 : (x5_1 : Int) < ((x0_1.length : Int) : Int) := of_decide_eq_true (by first | (with_reducible assumption) | assumption); obtain ⟨ce6, hcl6, hM6, hcc6, hfr6⟩ := Kd.R_elem HO_0.out z109 (x5_1 : Int) p6 q6; obtain rfl := k109_openM hM6; have hx6_0 : w9.cell? ⟨go5, (x5_1 : Int).toNat * 2, none⟩ = some (.int .i64 ((rd_T109 y216 x5_1).f0)) := hcc6 0 _ rfl; have hx6_1 : w9.cell? ⟨go5, (x5_1 : Int).toNat * 2 + 1, none⟩ = some (.int .i64 ((rd_T109 y216 x5_1).f1)) := hcc6 1 _ rfl; have hf6_0 : w9.frozen? ⟨go5, (x5_1 : Int).toNat * 2, none⟩ = false := hfr6 0; have hf6_1 : w9.frozen? ⟨go5, (x5_1 : Int).toNat * 2 + 1, none⟩ = false := hfr6 1; clear hcl6 hcc6 hfr6 hM6; replace p6 := eq_true p6; replace q6 := eq_true q6; have HX10 := Aside0.mk (show Kd.R k109 109 w9 w0.heap.size (fun k_ => (P0_ k_ ∨ w.heap.size ≤ k_)) (.slice (some ⟨go5, 0, none⟩) x0_1.length co7) y216 from (by (with_reducible repeat (first | apply Kd.R_alloc | apply Kd.R_drewN | apply Kd.R_drew)); exact HO_0.out)); obtain ⟨ce10, hcl10, hM10, hcc10, hfr10⟩ := Kd.R_elem HX10.out z109 (x5_1 : Int) (of_decide_eq_true (by first | (with_reducible assumption) | assumption)) (by have h_ : (x5_1 : Int) < ((x0_1.length : Int) : Int) := of_decide_eq_true (by first | (with_reducible assumption) | assumption); first | exact h_ | (have e_ := (Kd.R_reads' HO_0.out).1; omega) | simpa using h_); obtain rfl := k109_openM hM10; have HP10 := Kd.R_seg HX10.out (x5_1 : Int) (of_decide_eq_true (by first | (with_reducible assumption) | assumption)) (by have h_ : (x5_1 : Int) < ((x0_1.length : Int) : Int) := of_decide_eq_true (by first | (with_reducible assumption) | assumption); first | exact h_ | (have e_ := (Kd.R_reads' HO_0.out).1; omega) | simpa using h_) (seg := [.int .i64 (wrap64 (x1_1 + 1))]) (j := 1) hcl10 hcc10 (show 2 ≤ 2 from by decide) (x' := (⟨(rd_T109 y216 x5_1).f0, wrap64 (x1_1 + 1)⟩ : S109)) (k109_mkM _ _ _ (⟨(rd_T109 y216 x5_1).f0, wrap64 (x1_1 + 1)⟩ : S109) ) (fun _ hk => hk); have hx10_1 := hcc10 1 _ rfl; (try simp only [show (k109).sz = 2 from rfl, Nat.mul_one, Nat.add_zero] at hx10_1); have hf10_1 := hfr10 1; (try simp only [show (k109).sz = 2 from rfl, Nat.mul_one, Nat.add_zero] at hf10_1); clear hcl10 hcc10 hfr10 hM10) | ((with_reducible refine gate_store (t := 3) (p := 23) rfl ?_); refine store_event (t := 3) (p := 23) (v := ?vo_w11) (w1 := (w9.setCell ⟨go5, (x5_1 : Int).toNat * 2 + 1, none⟩ (.int .i64 (wrap64 (x1_1 + 1))))) ?hg ?ho ?hn ?hr ?_; (case ho => rfl); (case hg => rfl); (case hn => rfl); (case hr => first | (go_simp; done) | (go_simp; rfl)); intro w11 hw; have hg : w9.grownBy w11 (some go5) := (by rw [hw]; exact HP10.2); have hp_ : Kd.R k109 109 w11 w0.heap.size (fun k_ => (P0_ k_ ∨ w.heap.size ≤ k_)) (.slice (some ⟨go5, 0, none⟩) x0_1.length co7) y217 := (by rw [hw, Ny217.out]; exact HP10.1); clear HP10; have n0_ := Aside0.mk (hp_); have n1_ := Aside0.mk ((by rw [hw]; exact below_set (HB.out) GB5.out : Below w0.heap.size w0 w11)); have n2_ := Aside0.mk (Kept.of_grown (S := (fun k_ => P0_ k_)) hg (by repeat (first | (with_reducible first | exact HK.out | apply Kept.alloc | apply Kept.drewN | apply Kept.drew) | exact HK.out)) (fun k_ e_ => (HO_0.out.1 k_ e_))); clear HO_0; clear HB; clear HK; have HO_0 := n0_; have HB := n1_; have HK := n2_; clear n0_ n1_ n2_; clear hg hw hp_))
          go_roundg k1
          case measure => have := HK1.out; omega
          case rel => exact ⟨(y217), (wrap64 ((wrap64 (x1_1 + 1)) + 1)), (wrap64 (x5_1 + 1)), (by first | rfl | (simp; done) | (simp [*]; done)), (by first | rfl | (simp; done) | (simp [*]; done)), H', ⟨by have := HK1.out; omega⟩, ⟨by (with_reducible repeat (first | apply Kd.R_alloc | apply Kd.R_drewN | apply Kd.R_drew)); exact HO_0.out⟩, ⟨by repeat (first | (with_reducible first | exact HK.out | apply Kept.alloc | apply Kept.drewN | apply Kept.drew) | exact HK.out)⟩, ⟨by repeat (first | (with_reducible first | exact HB.out | apply below_alloc | apply pw_below_drewN | apply below_drew1) | exact HB.out)⟩⟩
        · rw [if_neg c4] at H
          exact absurd H (by simp)
      · rw [if_neg c3] at H
        have c3b0 : decide (x5_1 < (x0_1.length : Int)) = false := decide_eq_false c3
        clear c3
        simp only [Option.some.injEq, Prod.mk.injEq] at H
        obtain ⟨rfl, rfl⟩ := H
        obtain ⟨Ao12, co12, eo12⟩ := Kd.R_slice HO_0.out
        subst eo12
        go_wp2
        go_ret
        exact ⟨by first | rfl | (simp [errW_none, errW_some] <;> rfl) | (simp [*, errW_none, errW_some] <;> rfl), by (with_reducible repeat (first | apply Kd.R_alloc | apply Kd.R_drewN | apply Kd.R_drew)); exact HO_0.out, by repeat (first | (with_reducible first | exact HB.out | apply below_alloc | apply pw_below_drewN | apply below_drew1) | exact HB.out), by repeat (first | (with_reducible first | exact HK.out | apply Kept.alloc | apply Kept.drewN | apply Kept.drew) | exact HK.out)⟩

/-! ### laws_heldSpanS: function 20 -/
def laws_heldSpanS.l0 : Nat → List (S109) → Int → Int → Option (Int)
  | 0, _, _, _ => none
  | k + 1, x0, x1, x5 => if x5 < (x0.length : Int) then (if 0 ≤ x5 then (if ((rd_T109 x0 x5).f0) = x1 then (if ((rd_T109 x0 x5).f1) = (wrap64 (x1 + 1)) then (laws_heldSpanS.l0 k x0 (wrap64 ((wrap64 (x1 + 1)) + 1)) (wrap64 (x5 + 1))) else (some (-1))) else (some (-1))) else (none)) else (some x1)
def laws_heldSpanS.f (k : Nat) (l0 : List (S109)) (a1 : Int) : Option (Int) := laws_heldSpanS.l0 k l0 a1 0
set_option maxHeartbeats 8000000 in
set_option maxRecDepth 100000 in
theorem laws_heldSpanS.calls (k : Nat) (A0 : Option Addr) (c0 : Nat) (l0 : List (S109)) (a1 : Int) (r : Int) (w : World) (hr0 : Kd.C k109 w A0 l0.length l0) (hc0 : l0.length ≤ c0) (h : laws_heldSpanS.f k l0 a1 = some r) :
    Calls Try.prog 20 #[.slice A0 l0.length c0, .int .i64 a1] w fun e w' => e = .returned (.int .i64 r) ∧ Drawn0 w w' := by
  have HR0 := Aside0.mk hr0
  have HC0 := Aside0.mk hc0
  clear hr0 hc0
  have H : (laws_heldSpanS.l0 k l0 a1 0) = some r := h
  clear h
  have H' := Aside0.mk H
  clear H
  go_enter Try.func20, Try.ntmps20
  go_wp2
  go_loopg [1, 5] k (fun kq v1 v5 w' => ∃ (x1_1 : Int) (x5_1 : Int), v1 = .int .i64 x1_1 ∧ v5 = .int .i64 x5_1 ∧ Aside0 (laws_heldSpanS.l0 kq l0 x1_1 x5_1 = some r) ∧ Aside0 (kq ≤ k) ∧ Drawn0 w w')
  case atStart => exact ⟨(a1), (0), (by first | rfl | (simp; done) | (simp [*]; done)), (by first | rfl | (simp; done) | (simp [*]; done)), H', ⟨Nat.le_refl _⟩, by repeat (first | exact Drawn0.refl _ | apply Drawn0.step)⟩
  case round =>
    clear H'
    try clear c2
    try clear p2
    obtain ⟨x1_1, x5_1, rfl, rfl, HA, HK1, ⟨m1, rfl⟩⟩ := hrel
    cases gk with
    | zero => exact absurd HA.out (by simp [laws_heldSpanS.l0])
    | succ k1 =>
      have H := HA.out
      clear HA
      simp only [laws_heldSpanS.l0] at H
      by_cases c3 : x5_1 < (l0.length : Int)
      · rw [if_pos c3] at H
        have c3b0 : decide (x5_1 < (l0.length : Int)) = true := decide_eq_true c3
        clear c3
        by_cases c4 : 0 ≤ x5_1
        · rw [if_pos c4] at H
          have c4b0 : decide (0 ≤ x5_1) = true := decide_eq_true c4
          clear c4
          by_cases c5 : ((rd_T109 l0 x5_1).f0) = x1_1
          · rw [if_pos c5] at H
            have c5b0 : (((rd_T109 l0 x5_1).f0) == x1_1) = true := beq_iff_eq.mpr c5
            have c5b1 : (((rd_T109 l0 x5_1).f0) != x1_1) = false := bne_eq_false_iff_eq.mpr c5
            clear c5
            by_cases c6 : ((rd_T109 l0 x5_1).f1) = (wrap64 (x1_1 + 1))
            · rw [if_pos c6] at H
              have c6b0 : (((rd_T109 l0 x5_1).f1) == (wrap64 (x1_1 + 1))) = true := beq_iff_eq.mpr c6
              have c6b1 : (((rd_T109 l0 x5_1).f1) != (wrap64 (x1_1 + 1))) = false := bne_eq_false_iff_eq.mpr c6
              clear c6
              have H' := Aside0.mk H
              clear H
              have p218 : 0 ≤ (x5_1 : Int) := of_decide_eq_true (by first | (with_reducible assumption) | assumption)
              have q218 : x5_1 < (l0.length : Int) := of_decide_eq_true (by first | (with_reducible assumption) | assumption)
              obtain ⟨ad218, e218, hx218_0, hx218_1⟩ := at_T109 HR0.out x5_1 p218 q218
              cases e218
              replace p218 := eq_true p218
              replace q218 := eq_true q218
              have p219 : 0 ≤ (x5_1 : Int) := of_decide_eq_true (by first | (with_reducible assumption) | assumption)
              have q219 : x5_1 < (l0.length : Int) := of_decide_eq_true (by first | (with_reducible assumption) | assumption)
              obtain ⟨ad219, e219, hx219_0, hx219_1⟩ := at_T109 HR0.out x5_1 p219 q219
              obtain rfl : ad218 = ad219 := (by injection e219)
              replace p219 := eq_true p219
              replace q219 := eq_true q219
              go_wp2
              go_roundg k1
              case measure => have := HK1.out; omega
              case rel => exact ⟨(wrap64 ((wrap64 (x1_1 + 1)) + 1)), (wrap64 (x5_1 + 1)), (by first | rfl | (simp; done) | (simp [*]; done)), (by first | rfl | (simp; done) | (simp [*]; done)), H', ⟨by have := HK1.out; omega⟩, by repeat (first | exact Drawn0.refl _ | apply Drawn0.step)⟩
            · rw [if_neg c6] at H
              have c6b0 : (((rd_T109 l0 x5_1).f1) == (wrap64 (x1_1 + 1))) = false := beq_eq_false_iff_ne.mpr c6
              have c6b1 : (((rd_T109 l0 x5_1).f1) != (wrap64 (x1_1 + 1))) = true := bne_iff_ne.mpr c6
              obtain rfl := Option.some.inj H
              have p218 : 0 ≤ (x5_1 : Int) := of_decide_eq_true (by first | (with_reducible assumption) | assumption)
              have q218 : x5_1 < (l0.length : Int) := of_decide_eq_true (by first | (with_reducible assumption) | assumption)
              obtain ⟨ad218, e218, hx218_0, hx218_1⟩ := at_T109 HR0.out x5_1 p218 q218
              cases e218
              replace p218 := eq_true p218
              replace q218 := eq_true q218
              have p219 : 0 ≤ (x5_1 : Int) := of_decide_eq_true (by first | (with_reducible assumption) | assumption)
              have q219 : x5_1 < (l0.length : Int) := of_decide_eq_true (by first | (with_reducible assumption) | assumption)
              obtain ⟨ad219, e219, hx219_0, hx219_1⟩ := at_T109 HR0.out x5_1 p219 q219
              obtain rfl : ad218 = ad219 := (by injection e219)
              replace p219 := eq_true p219
              replace q219 := eq_true q219
              go_wp2
              go_ret
              exact ⟨by first | rfl | (simp; done) | (simp [*]; done), by repeat (first | exact Drawn0.refl _ | apply Drawn0.step)⟩
          · rw [if_neg c5] at H
            have c5b0 : (((rd_T109 l0 x5_1).f0) == x1_1) = false := beq_eq_false_iff_ne.mpr c5
            have c5b1 : (((rd_T109 l0 x5_1).f0) != x1_1) = true := bne_iff_ne.mpr c5
            obtain rfl := Option.some.inj H
            have p218 : 0 ≤ (x5_1 : Int) := of_decide_eq_true (by first | (with_reducible assumption) | assumption)
            have q218 : x5_1 < (l0.length : Int) := of_decide_eq_true (by first | (with_reducible assumption) | assumption)
            obtain ⟨ad218, e218, hx218_0, hx218_1⟩ := at_T109 HR0.out x5_1 p218 q218
            cases e218
            replace p218 := eq_true p218
            replace q218 := eq_true q218
            go_wp2
            go_ret
            exact ⟨by first | rfl | (simp; done) | (simp [*]; done), by repeat (first | exact Drawn0.refl _ | apply Drawn0.step)⟩
        · rw [if_neg c4] at H
          exact absurd H (by simp)
      · rw [if_neg c3] at H
        have c3b0 : decide (x5_1 < (l0.length : Int)) = false := decide_eq_false c3
        clear c3
        obtain rfl := Option.some.inj H
        go_wp2
        go_ret
        exact ⟨by first | rfl | (simp; done) | (simp [*]; done), by repeat (first | exact Drawn0.refl _ | apply Drawn0.step)⟩

/-! ### spec_l1In: function 101 -/
def spec_l1In.f (a0 : Int) (a1 : Int) (a2 : Int) : Option (Bool) := if a0 ≥ a1 then (some (decide (a0 ≤ a2))) else (some false)
set_option maxHeartbeats 8000000 in
set_option maxRecDepth 100000 in
theorem spec_l1In.calls (a0 : Int) (a1 : Int) (a2 : Int) (r : Bool) (w : World) (h : spec_l1In.f a0 a1 a2 = some r) :
    Calls Try.prog 101 #[.int .i64 a0, .int .i64 a1, .int .i64 a2] w fun e w' => e = .returned (.bool r) ∧ Drawn0 w w' := by
  have H : (if a0 ≥ a1 then (some (decide (a0 ≤ a2))) else (some false)) = some r := h
  clear h
  by_cases c4 : a0 ≥ a1
  · rw [if_pos c4] at H
    have c4b0 : decide (a1 ≤ a0) = true := decide_eq_true c4
    clear c4
    obtain rfl := Option.some.inj H
    go_enter Try.func101, Try.ntmps101
    go_wp2
    go_ret
    exact ⟨by first | rfl | (simp; done) | (simp [*]; done), by repeat (first | exact Drawn0.refl _ | apply Drawn0.step)⟩
  · rw [if_neg c4] at H
    have c4b0 : decide (a1 ≤ a0) = false := decide_eq_false c4
    clear c4
    obtain rfl := Option.some.inj H
    go_enter Try.func101, Try.ntmps101
    go_wp2
    go_ret
    exact ⟨by first | rfl | (simp; done) | (simp [*]; done), by repeat (first | exact Drawn0.refl _ | apply Drawn0.step)⟩

end Go.Proofs.Ytlogjmgghnifoaa.PFnExactServiceOf
