/- The functions that the law reaches, as plain Lean functions, each with the proof that the Go code comes to its answers; conditions: those that each theorem names. (printed by a program of this session) -/
import Derived.Test.YtindlpkkapelhaaPFnSharedx0
import Derived.Test.YtindlpkkapelhaaPFnSharedx1
namespace Go.Proofs.Ytindlpkkapelhaa.PFnShared
open Go.RowKit Go.Proofs.YtindlpkkapelhaaW.PrintWords Go.Proofs.YtindlpkkapelhaaW.PrintLast Go.Proofs.YtindlpkkapelhaaW.PrintMore
attribute [local go_sem] max2_int min2_int max_two min_two max_three min_three max_four min_four   -- for this text's walks alone
set_option linter.unusedVariables false
set_option linter.unusedSimpArgs false

/-! ### slices_SortStableFunc_int_int: function 102 -/
def slices_SortStableFunc_int_int.ren : Go.Shelf.Ren := ⟨fun | 20 => 139 | n => n, fun | 22 => 23 | 24 => 3 | 25 => 127 | 0 => 0 | 3 => 3 | 4 => 4 | n => n, fun | n => n⟩
theorem slices_SortStableFunc_int_int.lays : Go.Proofs.SlLaysF.n20 Try.prog slices_SortStableFunc_int_int.ren := {
  mixed := by kernel_rfl
  f20 := ⟨Try.f139.name, by decide, Try.func139.trans (congrArg some (by kernel_rfl))⟩
  t0 := Try.underlying0
  a0 := Try.isAgg0
  z0 := Try.sizeOf0
  v0 := Try.zeroValue0
  t3 := Try.underlying3
  a3 := Try.isAgg3
  z3 := Try.sizeOf3
  v3 := Try.zeroValue3
  t4 := Try.underlying4
  a4 := Try.isAgg4
  z4 := Try.sizeOf4
  v4 := Try.zeroValue4
  t22 := Try.underlying23
  a22 := Try.isAgg23
  z22 := Try.sizeOf23
  v22 := Try.zeroValue23
  a24 := Try.isAgg3
  z24 := Try.sizeOf3
  t25 := Try.underlying127
  a25 := Try.isAgg127
  z25 := Try.sizeOf127
  v25 := Try.zeroValue127 }
theorem slices_SortStableFunc_int_int.isNaN (x : Int) (w : World) : Calls Try.prog 131 #[.int .i64 x] w fun e w' => e = .returned (.bool false) ∧ w' = w := by
  go_enter Try.func131, Try.ntmps131
  go_wp2
  go_ret
  exact ⟨by first | rfl | (simp; done), rfl⟩
def slices_SortStableFunc_int_int.cmp (x y : Int) : Int := if x < y then -1 else if x > y then 1 else 0
set_option maxHeartbeats 2000000 in
theorem slices_SortStableFunc_int_int.compare (x y : Int) (w : World) : Calls Try.prog 104 #[.int .i64 x, .int .i64 y] w fun e w' => e = .returned (.int .i64 (slices_SortStableFunc_int_int.cmp x y)) ∧ w' = w := by
  unfold slices_SortStableFunc_int_int.cmp
  by_cases h1 : x < y
  · have d1 : decide (x < y) = true := decide_eq_true h1
    rw [if_pos h1]
    go_enter Try.func104, Try.ntmps104
    go_wp2_with ((go_at_call 131; refine (slices_SortStableFunc_int_int.isNaN _ _).mono ?_; rintro e w' ⟨rfl, rfl⟩))
    go_ret
    exact ⟨rfl, rfl⟩
  · rw [if_neg h1]
    have d1 : decide (x < y) = false := decide_eq_false h1
    by_cases h2 : x > y
    · rw [if_pos h2]
      have d2 : decide (x > y) = true := decide_eq_true h2
      go_enter Try.func104, Try.ntmps104
      go_wp2_with ((go_at_call 131; refine (slices_SortStableFunc_int_int.isNaN _ _).mono ?_; rintro e w' ⟨rfl, rfl⟩))
      go_ret
      exact ⟨rfl, rfl⟩
    · rw [if_neg h2]
      have d2 : decide (x > y) = false := decide_eq_false h2
      go_enter Try.func104, Try.ntmps104
      go_wp2_with ((go_at_call 131; refine (slices_SortStableFunc_int_int.isNaN _ _).mono ?_; rintro e w' ⟨rfl, rfl⟩))
      go_ret
      exact ⟨rfl, rfl⟩
def slices_SortStableFunc_int_int.rr (l1 : List Int) (a2 a3 i : Int) : Int := Int.tmod (wrap64 (a2 * (rd l1 i))) a3
set_option maxHeartbeats 2000000 in
set_option maxRecDepth 100000 in
theorem slices_SortStableFunc_int_int.closure (l1 : List Int) (A1 : Option Addr) (c1 : Nat) (a2 a3 : Int) (g2 g3 g4 : Nat) (i j : Int) (p1 : 0 ≤ i) (q1 : i < (l1.length : Int)) (p2 : 0 ≤ j) (q2 : j < (l1.length : Int)) (h3 : a3 ≠ 0) (W : World) (hr : Kd.C (Kd.int .i64) W A1 l1.length l1) (hb2 : W.cell? ⟨g2, 0, none⟩ = some (.slice A1 l1.length c1)) (hb3 : W.cell? ⟨g3, 0, none⟩ = some (.int .i64 a2)) (hb4 : W.cell? ⟨g4, 0, none⟩ = some (.int .i64 a3)) :
    Calls Try.prog 103 (#[.int .i64 i, .int .i64 j] ++ #[.pointer (some ⟨g3, 0, none⟩), .pointer (some ⟨g2, 0, none⟩), .pointer (some ⟨g4, 0, none⟩)]) W fun e w' => e = .returned (.int .i64 (slices_SortStableFunc_int_int.cmp (slices_SortStableFunc_int_int.rr l1 a2 a3 j) (slices_SortStableFunc_int_int.rr l1 a2 a3 i))) ∧ ∃ q, w' = W.drewN q := by
  have hu35 := Try.underlying35
  have z0 : (a3 == 0) = false := beq_eq_false_iff_ne.mpr h3
  have z1 : (a3 != 0) = true := bne_iff_ne.mpr h3
  obtain ⟨ad1, e1, hx1⟩ := Kd.at_int hr i p1 q1
  cases e1
  obtain ⟨ad2, e2, hx2⟩ := Kd.at_int hr j p2 q2
  cases e2
  replace p1 := eq_true p1
  replace q1 := eq_true q1
  replace p2 := eq_true p2
  replace q2 := eq_true q2
  clear hr
  unfold slices_SortStableFunc_int_int.rr
  go_enter Try.func103, Try.ntmps103
  go_wp2
  go_quiet (first | (go_at_call 104; exact Calls.quiet_of_same (slices_SortStableFunc_int_int.compare _ _ _)))
  go_wp2
  go_ret
  exact ⟨rfl, _, rfl⟩
theorem slices_SortStableFunc_int_int.putRow_val {n : Nat} [Inhabited (Fin n)] (w : World) (blk : Nat) (d : Array (Fin n)) : Go.Sort.putRow (fun i : Fin n => Value.int .i64 ((i.val : Nat) : Int)) w blk 0 d = Go.Sort.putRow (Value.int .i64) w blk 0 (d.map fun i => ((i.val : Nat) : Int)) := by
  unfold Go.Sort.putRow
  congr 1
  funext c
  unfold Go.Sort.putCells
  congr 1
  funext k x
  rw [Array.size_map]
  split
  · rename_i h
    have hk : k - 0 < d.size := by omega
    rw [getElem!_pos d _ hk, getElem!_pos _ _ (by rw [Array.size_map]; exact hk), Array.getElem_map]
  · rfl
theorem slices_SortStableFunc_int_int.holds_val {n : Nat} [Inhabited (Fin n)] {w : World} {blk : Nat} {d : Array (Fin n)} (h : Go.Sort.Holds (Value.int .i64) w blk 0 (d.map fun i => ((i.val : Nat) : Int))) : Go.Sort.Holds (fun i : Fin n => Value.int .i64 ((i.val : Nat) : Int)) w blk 0 d := by
  intro j hj
  obtain ⟨h1, h2⟩ := h j (by rw [Array.size_map]; exact hj)
  refine ⟨?_, h2⟩
  rw [h1, getElem!_pos d _ hj, getElem!_pos _ _ (by rw [Array.size_map]; exact hj), Array.getElem_map]
set_option maxHeartbeats 2000000 in
set_option maxRecDepth 100000 in
theorem slices_SortStableFunc_int_int.stable {n : Nat} [Inhabited (Fin n)] (cf : Fin n → Fin n → Int) (g : Nat) (cb : Array Value) (eg : ∀ args w, (callFunc g args).run Try.prog w = .ok (.enter g args) w) (blk cap : Nat) (d : Array (Fin n)) (w : World) (hs : d.size < 20)
    (hcmp : Go.Proofs.CmpReads Try.prog g cb (fun i : Fin n => Value.int .i64 ((i.val : Nat) : Int)) cf blk 0 d.size w) (hH : Go.Sort.Holds (fun i : Fin n => Value.int .i64 ((i.val : Nat) : Int)) w blk 0 d) :
    Calls Try.prog 130 #[.slice (some ⟨blk, 0, none⟩) d.size cap, .int .i64 d.size, .func (.func g) #[] cb] w fun e w' => e = .returned (.tuple #[]) ∧ ∃ m, w' = (Go.Sort.putRow (fun i : Fin n => Value.int .i64 ((i.val : Nat) : Int)) w blk 0 (Go.Sort.insertionSort (Go.Proofs.ltOf cf) d 0 d.size)).drewN m := by
  have HI := Aside0.mk (Go.Proofs.Any.insertionSortCmpFunc_one slices_SortStableFunc_int_int.lays (fun i : Fin n => Value.int .i64 ((i.val : Nat) : Int)) (fun _ => rfl) cf g cb blk 0 cap 0 d.size d w eg hcmp hH (Nat.zero_le _) (Nat.le_refl _) (by omega))
  clear hcmp hH
  have d1 : decide ((20 : Int) ≤ (d.size : Int)) = false := decide_eq_false (by omega)
  have d2 : decide ((20 : Int) < (d.size : Int)) = false := decide_eq_false (by omega)
  go_enter Try.func130, Try.ntmps130
  go_wp2
  refine wp_loop_rounds 1 ?_
  rw [rounds_succ]
  go_wp2_with (first | (go_at_call 139; refine HI.out.mono ?_; rintro e w' ⟨rfl, m, rfl⟩))
  refine wp_loop_rounds 1 ?_
  rw [rounds_succ]
  go_wp2
  go_end0
  exact ⟨rfl, m, rfl⟩
set_option maxHeartbeats 2000000 in
set_option maxRecDepth 100000 in
theorem slices_SortStableFunc_int_int.sort {n : Nat} [Inhabited (Fin n)] (cf : Fin n → Fin n → Int) (g : Nat) (cb : Array Value) (eg : ∀ args w, (callFunc g args).run Try.prog w = .ok (.enter g args) w) (blk cap : Nat) (d : Array (Fin n)) (w : World) (hs : d.size < 20)
    (hcmp : Go.Proofs.CmpReads Try.prog g cb (fun i : Fin n => Value.int .i64 ((i.val : Nat) : Int)) cf blk 0 d.size w) (hH : Go.Sort.Holds (fun i : Fin n => Value.int .i64 ((i.val : Nat) : Int)) w blk 0 d) :
    Calls Try.prog 102 #[.slice (some ⟨blk, 0, none⟩) d.size cap, .func (.func g) #[] cb] w fun e w' => e = .returned (.tuple #[]) ∧ ∃ m, w' = (Go.Sort.putRow (fun i : Fin n => Value.int .i64 ((i.val : Nat) : Int)) w blk 0 (Go.Sort.insertionSort (Go.Proofs.ltOf cf) d 0 d.size)).drewN m := by
  have HI := Aside0.mk (slices_SortStableFunc_int_int.stable cf g cb eg blk cap d w hs hcmp hH)
  clear hcmp hH
  go_enter Try.func102, Try.ntmps102
  go_wp2_with (first | (go_at_call 130; refine HI.out.mono ?_; rintro e w' ⟨rfl, m, rfl⟩))
  go_end0
  exact ⟨rfl, m, rfl⟩
theorem slices_SortStableFunc_int_int.insInner_size {α : Type} [Inhabited α] (lt : α → α → Bool) (a : Nat) : ∀ (j : Nat) (d : Array α), (Go.Sort.insInner lt a j d).size = d.size
  | 0, d => rfl
  | j + 1, d => by
    unfold Go.Sort.insInner
    split
    · rw [slices_SortStableFunc_int_int.insInner_size lt a j, Go.Sort.swp_size]
    · rfl
theorem slices_SortStableFunc_int_int.insOuter_size {α : Type} [Inhabited α] (lt : α → α → Bool) (a b : Nat) : ∀ (n i : Nat) (d : Array α), b - i = n → (Go.Sort.insOuter lt a b i d).size = d.size
  | 0, i, d, hn => by rw [Go.Sort.insOuter, if_neg (by omega)]
  | n + 1, i, d, hn => by
    rw [Go.Sort.insOuter, if_pos (by omega), slices_SortStableFunc_int_int.insOuter_size lt a b n (i + 1) _ (by omega), slices_SortStableFunc_int_int.insInner_size]
theorem slices_SortStableFunc_int_int.ins_size {α : Type} [Inhabited α] (lt : α → α → Bool) (d : Array α) (a b : Nat) : (Go.Sort.insertionSort lt d a b).size = d.size := slices_SortStableFunc_int_int.insOuter_size lt a b _ _ d rfl

def slices_SortStableFunc_int_int.srt (t : List Int) (x a2 a3 : Int) : Array (Fin (t.length + 1)) := Go.Sort.insertionSort (fun i j => decide (slices_SortStableFunc_int_int.rr (x :: t) a2 a3 ((j.val : Nat) : Int) < slices_SortStableFunc_int_int.rr (x :: t) a2 a3 ((i.val : Nat) : Int))) (Array.ofFn fun i : Fin (t.length + 1) => i) 0 (t.length + 1)
def slices_SortStableFunc_int_int.fs (l1 : List Int) (a2 a3 : Int) : List Int := match l1 with
  | [] => []
  | x :: t => (slices_SortStableFunc_int_int.srt t x a2 a3).toList.map fun i => ((i.val : Nat) : Int)
def slices_SortStableFunc_int_int.f (l0 : List Int) (l1 : List Int) (a2 : Int) (a3 : Int) : Option (List Int) := if l0 = (List.range l1.length).map (fun i => ((i : Nat) : Int)) ∧ 0 < l1.length ∧ l1.length < 20 ∧ a3 ≠ 0 then some (slices_SortStableFunc_int_int.fs l1 a2 a3) else none
theorem slices_SortStableFunc_int_int.ofFn_val (n : Nat) : (Array.ofFn fun i : Fin n => i).map (fun i => ((i.val : Nat) : Int)) = ((List.range n).map fun i => ((i : Nat) : Int)).toArray := by
  apply Array.ext
  · simp
  · intro i h1 h2
    simp
theorem slices_SortStableFunc_int_int.calls (P0_ : Nat → Prop) (u9000_ : Value) (l0 : List Int) (A1 : Option Addr) (c1 : Nat) (l1 : List Int) (a2 a3 : Int) (g2 g3 g4 : Nat) (r1 : List Int) (w0 w : World) (hB : Below w0.heap.size w0 w) (ho0 : Kd.R (Kd.int .i64) 3 w w0.heap.size P0_ u9000_ l0) (hr1 : Kd.C (Kd.int .i64) w0 A1 l1.length l1)
    (hb2 : w0.heap[g2]? = some (.cells #[.slice A1 l1.length c1] 35 (0, 0))) (hb3 : w0.cell? ⟨g3, 0, none⟩ = some (.int .i64 a2)) (hb4 : w.heap[g4]? = some (.cells #[.int .i64 a3] 3 (0, 0))) (hn4 : some g4 ≠ u9000_.ownBlock) (h : slices_SortStableFunc_int_int.f l0 l1 a2 a3 = some r1) :
    Calls Try.prog 102 #[u9000_, .func (.func 103) #[] #[.pointer (some ⟨g3, 0, none⟩), .pointer (some ⟨g2, 0, none⟩), .pointer (some ⟨g4, 0, none⟩)]] w fun e w' => e = .returned (.tuple #[]) ∧ Kd.R (Kd.int .i64) 3 w' w0.heap.size (fun k_ => (P0_ k_ ∨ w.heap.size ≤ k_)) u9000_ r1 ∧ Below w0.heap.size w0 w' ∧ Kept w w' (fun k_ => P0_ k_) := by
  unfold slices_SortStableFunc_int_int.f at h
  split at h <;> rename_i hc
  case isFalse => cases h
  obtain rfl := Option.some.inj h
  obtain ⟨hl0, hpos, h20, h3⟩ := hc
  cases l1 with
  | nil => simp at hpos
  | cons x t =>
    have hlen : l0.length = t.length + 1 := by rw [hl0]; simp
    have hown := Kd.own_of_R ho0
    obtain ⟨hle0, hv | ⟨g, cap, cur, rfl, hbase, hb, h1, h2, h3', h4⟩⟩ := hown
    · obtain ⟨g, cap, he, _⟩ := Kd.R_form ho0 (by omega)
      rw [he] at hv
      cases hv.1
    · have hH0 := holds_of_blockI (ss := l0) hb (by simpa [encs] using h4)
      have hd0 : (Array.ofFn fun i : Fin (t.length + 1) => i).map (fun i => ((i.val : Nat) : Int)) = l0.toArray := by rw [slices_SortStableFunc_int_int.ofFn_val, hl0]; rfl
      rw [← hd0] at hH0
      have hH := slices_SortStableFunc_int_int.holds_val hH0
      have hsz : (Array.ofFn fun i : Fin (t.length + 1) => i).size = t.length + 1 := Array.size_ofFn
      have hne : g4 ≠ g := fun e => hn4 (by rw [e]; rfl)
      have hC : Go.Proofs.CmpReads Try.prog 103 #[.pointer (some ⟨g3, 0, none⟩), .pointer (some ⟨g2, 0, none⟩), .pointer (some ⟨g4, 0, none⟩)] (fun i : Fin (t.length + 1) => Value.int .i64 ((i.val : Nat) : Int)) (fun i j => slices_SortStableFunc_int_int.cmp (slices_SortStableFunc_int_int.rr (x :: t) a2 a3 ((j.val : Nat) : Int)) (slices_SortStableFunc_int_int.rr (x :: t) a2 a3 ((i.val : Nat) : Int))) g 0 (t.length + 1) w := by
        intro m os dk hdk i j
        have hg : w.grownBy (Go.Proofs.sortWorld (fun i : Fin (t.length + 1) => Value.int .i64 ((i.val : Nat) : Int)) w g 0 m dk os) (some g) := by
          unfold Go.Proofs.sortWorld
          rw [slices_SortStableFunc_int_int.putRow_val]
          exact grownBy_sortedI _
        generalize Go.Proofs.sortWorld (fun i : Fin (t.length + 1) => Value.int .i64 ((i.val : Nat) : Int)) w g 0 m dk os = W at hg
        have hBW : Below w0.heap.size w0 W := hB.trans ⟨hg.os, hg.tape, hg.output, hg.size, fun k hk => hg.block k (Nat.lt_of_lt_of_le hk hB.size) (fun e => by injection e with e; omega)⟩
        have i1 := i.isLt
        have j1 := j.isLt
        exact slices_SortStableFunc_int_int.closure (x :: t) A1 c1 a2 a3 g2 g3 g4 ((i.val : Nat) : Int) ((j.val : Nat) : Int) (by omega) (by rw [List.length_cons]; omega) (by omega) (by rw [List.length_cons]; omega) h3 W (Kd.C_below hr1 hBW) ((blk_cell (blk_below hb2 hBW) 0).trans rfl) ((hBW.cell (World.block_lt_of_cell? w0 _ hb3)).trans hb3) ((blk_cell (blk_grown hb4 hg (fun e => hne (by injection e))) 0).trans rfl)
      have hS := slices_SortStableFunc_int_int.sort (n := t.length + 1) (fun i j => slices_SortStableFunc_int_int.cmp (slices_SortStableFunc_int_int.rr (x :: t) a2 a3 ((j.val : Nat) : Int)) (slices_SortStableFunc_int_int.rr (x :: t) a2 a3 ((i.val : Nat) : Int))) 103 #[.pointer (some ⟨g3, 0, none⟩), .pointer (some ⟨g2, 0, none⟩), .pointer (some ⟨g4, 0, none⟩)] (enters_of Try.func103 (by kernel_rfl) rfl) g cap (Array.ofFn fun i : Fin (t.length + 1) => i) w (by rw [hsz]; simpa using h20) (by rw [hsz]; exact hC) hH
      have hlt : Go.Proofs.ltOf (fun i j : Fin (t.length + 1) => slices_SortStableFunc_int_int.cmp (slices_SortStableFunc_int_int.rr (x :: t) a2 a3 ((j.val : Nat) : Int)) (slices_SortStableFunc_int_int.rr (x :: t) a2 a3 ((i.val : Nat) : Int))) = fun i j => decide (slices_SortStableFunc_int_int.rr (x :: t) a2 a3 ((j.val : Nat) : Int) < slices_SortStableFunc_int_int.rr (x :: t) a2 a3 ((i.val : Nat) : Int)) := by
        funext i j
        show decide (slices_SortStableFunc_int_int.cmp (slices_SortStableFunc_int_int.rr (x :: t) a2 a3 ((j.val : Nat) : Int)) (slices_SortStableFunc_int_int.rr (x :: t) a2 a3 ((i.val : Nat) : Int)) < 0) = decide _
        rw [decide_eq_decide]
        unfold slices_SortStableFunc_int_int.cmp
        split
        · rename_i h; exact ⟨fun _ => h, fun _ => by omega⟩
        · rename_i h; split <;> exact ⟨fun h' => by omega, fun h' => absurd h' h⟩
      rw [hlt, hsz] at hS
      have hS' : Calls Try.prog 102 #[.slice (some ⟨g, 0, none⟩) l0.length cap, .func (.func 103) #[] #[.pointer (some ⟨g3, 0, none⟩), .pointer (some ⟨g2, 0, none⟩), .pointer (some ⟨g4, 0, none⟩)]] w (fun e w' => e = .returned (.tuple #[]) ∧ ∃ m, w' = (Go.Sort.putRow (fun i : Fin (t.length + 1) => Value.int .i64 ((i.val : Nat) : Int)) w g 0 (slices_SortStableFunc_int_int.srt t x a2 a3)).drewN m) := by rw [hlen]; exact hS
      refine hS'.mono ?_
      rintro e w' ⟨rfl, q, rfl⟩
      have hD : (slices_SortStableFunc_int_int.srt t x a2 a3).size = t.length + 1 := by
        unfold slices_SortStableFunc_int_int.srt
        rw [slices_SortStableFunc_int_int.ins_size, Array.size_ofFn]
      rw [← Go.Proofs.sortWorld_none]
      unfold Go.Proofs.sortWorld
      rw [slices_SortStableFunc_int_int.putRow_val]
      have hts : ((slices_SortStableFunc_int_int.srt t x a2 a3).map fun i => ((i.val : Nat) : Int)) = (slices_SortStableFunc_int_int.fs (x :: t) a2 a3).toArray := by
        show _ = ((slices_SortStableFunc_int_int.srt t x a2 a3).toList.map fun i => ((i.val : Nat) : Int)).toArray
        rw [← Array.toList_map, Array.toArray_toList]
      have htl : (slices_SortStableFunc_int_int.fs (x :: t) a2 a3).length = l0.length := by
        show ((slices_SortStableFunc_int_int.srt t x a2 a3).toList.map fun i => ((i.val : Nat) : Int)).length = _
        rw [List.length_map, Array.length_toList, hD, hlen]
      rw [hts]
      generalize slices_SortStableFunc_int_int.fs (x :: t) a2 a3 = ts at htl
      have hg := grownBy_sortedI (w := w) (g := g) (n := q) (os := #[]) ts.toArray
      have hrow := ownsRow_sortedI (w := w) (base := w0.heap.size) (g := g) (cap := cap) (n := q) (e := 3) (os := #[]) (ss := l0) htl hbase hb h1 h2 (by simpa using h3')
      have hR : Kd.R (Kd.int .i64) 3 _ w0.heap.size (fun k_ => P0_ k_ ∨ w.heap.size ≤ k_) (.slice (some ⟨g, 0, none⟩) l0.length cap) ts := Kd.R_of_own (enc := Value.int .i64) (h1 := fun _ => rfl) (by rw [htl]; exact hrow) (fun k hk => .inl (ho0.1 k hk))
      exact ⟨rfl, hR, hB.trans ⟨hg.os, hg.tape, hg.output, hg.size, fun k hk => hg.block k (Nat.lt_of_lt_of_le hk hB.size) (fun e => by injection e with e; omega)⟩, Kept.of_grown hg (Kept.refl _ _) (fun k e => .inl (ho0.1 k e))⟩

/-! ### impl_SplitTotal: function 55 -/
mutual
def impl_SplitTotal.j0 : Nat → Int → List Int → Bool → List Int → Option (List Int)
  | 0, _, _, _, _ => none
  | k + 1, x3, x5, x19, x158000 => if x19 = true then (some x5) else ((impl_sumOf.f k x158000).bind fun t163 => (impl_SplitTotal.l0 k x3 x5 t163 (([] : List Int)) x158000 (x158000.length : Int) 0))
def impl_SplitTotal.l0 : Nat → Int → List Int → Int → List Int → List Int → Int → Int → Option (List Int)
  | 0, _, _, _, _, _, _, _ => none
  | k + 1, x3, x5, x6, x7, x26, x27, x28 => if x28 < x27 then (if 0 ≤ x28 then (if x28 < (x26.length : Int) then (if x6 = 0 then (none) else (if x5.length < 17592186044416 then (if x7.length < 17592186044416 then (impl_SplitTotal.l0 k x3 (x5 ++ [wrap64 (Int.tdiv (wrap64 (x3 * (rd x26 x28))) x6)]) x6 (x7 ++ [x28]) x26 x27 (wrap64 (x28 + 1))) else (none)) else (none))) else (none)) else (none)) else ((slices_SortStableFunc_int_int.f x7 x26 x3 x6).bind fun t174 => ((impl_sumOf.f k x5).bind fun t175 => (impl_SplitTotal.l1 k x5 t174 (wrap64 (x3 - t175)) 0)))
def impl_SplitTotal.l1 : Nat → List Int → List Int → Int → Int → Option (List Int)
  | 0, _, _, _, _ => none
  | k + 1, x5, x7, x52, x53 => if x53 < x52 then (if 0 ≤ x53 then (if x53 < (x7.length : Int) then (if 0 ≤ (rd x7 x53) then (if (rd x7 x53) < (x5.length : Int) then (impl_SplitTotal.l1 k (x5.set ((rd x7 x53) : Int).toNat (wrap64 ((rd x5 (rd x7 x53)) + 1))) x7 x52 (wrap64 (x53 + 1))) else (none)) else (none)) else (none)) else (none)) else (some x5)
end
def impl_SplitTotal.f (k : Nat) (l0_0 : List Int) (a1 : Int) : Option (List Int) := (some (([] : List Int) : List Int)).bind fun y158 => ((impl_IsContract.f k l0_0).bind fun t161 => (if t161 = true then ((impl_InRange.f a1 0 10000).bind fun t162 => (impl_SplitTotal.j0 k a1 y158 (!t162) l0_0)) else (impl_SplitTotal.j0 k a1 y158 true l0_0)))
theorem impl_SplitTotal.mono_l : ∀ k, (∀ y0 y1 y2 y3, LeO (impl_SplitTotal.j0 k y0 y1 y2 y3) (impl_SplitTotal.j0 (k + 1) y0 y1 y2 y3)) ∧ (∀ y0 y1 y2 y3 y4 y5 y6, LeO (impl_SplitTotal.l0 k y0 y1 y2 y3 y4 y5 y6) (impl_SplitTotal.l0 (k + 1) y0 y1 y2 y3 y4 y5 y6)) ∧ (∀ y0 y1 y2 y3, LeO (impl_SplitTotal.l1 k y0 y1 y2 y3) (impl_SplitTotal.l1 (k + 1) y0 y1 y2 y3))
  | 0 => ⟨fun _ _ _ _ r h => by simp [impl_SplitTotal.j0] at h, fun _ _ _ _ _ _ _ r h => by simp [impl_SplitTotal.l0] at h, fun _ _ _ _ r h => by simp [impl_SplitTotal.l1] at h⟩
  | k + 1 => by
    obtain ⟨ih0, ih1, ih2⟩ := impl_SplitTotal.mono_l k
    refine ⟨?_, ?_, ?_⟩
    · intro y0 y1 y2 y3
      unfold impl_SplitTotal.j0
      repeat' first
      | (with_reducible exact ih0 _ _ _ _)
      | (with_reducible exact ih1 _ _ _ _ _ _ _)
      | (with_reducible exact ih2 _ _ _ _)
      | (with_reducible exact impl_IsContract.mono _ _)
      | (with_reducible exact impl_sumOf.mono _ _)
      | (with_reducible exact LeO.refl _)
      | (with_reducible exact LeO.none _)
      | (with_reducible refine LeO.ite ?_ ?_)
      | (with_reducible refine LeO.bind ?_ (fun _ => ?_))
      | exact ih0 _ _ _ _
      | exact ih1 _ _ _ _ _ _ _
      | exact ih2 _ _ _ _
      | exact impl_IsContract.mono _ _
      | exact impl_sumOf.mono _ _
      | exact LeO.none _
      | refine LeO.ite ?_ ?_
      | refine LeO.bind ?_ (fun _ => ?_)
    · intro y0 y1 y2 y3 y4 y5 y6
      unfold impl_SplitTotal.l0
      repeat' first
      | (with_reducible exact ih0 _ _ _ _)
      | (with_reducible exact ih1 _ _ _ _ _ _ _)
      | (with_reducible exact ih2 _ _ _ _)
      | (with_reducible exact impl_IsContract.mono _ _)
      | (with_reducible exact impl_sumOf.mono _ _)
      | (with_reducible exact LeO.refl _)
      | (with_reducible exact LeO.none _)
      | (with_reducible refine LeO.ite ?_ ?_)
      | (with_reducible refine LeO.bind ?_ (fun _ => ?_))
      | exact ih0 _ _ _ _
      | exact ih1 _ _ _ _ _ _ _
      | exact ih2 _ _ _ _
      | exact impl_IsContract.mono _ _
      | exact impl_sumOf.mono _ _
      | exact LeO.none _
      | refine LeO.ite ?_ ?_
      | refine LeO.bind ?_ (fun _ => ?_)
    · intro y0 y1 y2 y3
      unfold impl_SplitTotal.l1
      repeat' first
      | (with_reducible exact ih0 _ _ _ _)
      | (with_reducible exact ih1 _ _ _ _ _ _ _)
      | (with_reducible exact ih2 _ _ _ _)
      | (with_reducible exact impl_IsContract.mono _ _)
      | (with_reducible exact impl_sumOf.mono _ _)
      | (with_reducible exact LeO.refl _)
      | (with_reducible exact LeO.none _)
      | (with_reducible refine LeO.ite ?_ ?_)
      | (with_reducible refine LeO.bind ?_ (fun _ => ?_))
      | exact ih0 _ _ _ _
      | exact ih1 _ _ _ _ _ _ _
      | exact ih2 _ _ _ _
      | exact impl_IsContract.mono _ _
      | exact impl_sumOf.mono _ _
      | exact LeO.none _
      | refine LeO.ite ?_ ?_
      | refine LeO.bind ?_ (fun _ => ?_)
theorem impl_SplitTotal.mono : ∀ a0 a1 k, LeO (impl_SplitTotal.f k a0 a1) (impl_SplitTotal.f (k + 1) a0 a1) := by
  intro a0 a1 k
  obtain ⟨ih0, ih1, ih2⟩ := impl_SplitTotal.mono_l k
  unfold impl_SplitTotal.f
  repeat' first
      | (with_reducible exact ih0 _ _ _ _)
      | (with_reducible exact ih1 _ _ _ _ _ _ _)
      | (with_reducible exact ih2 _ _ _ _)
      | (with_reducible exact impl_IsContract.mono _ _)
      | (with_reducible exact impl_sumOf.mono _ _)
      | (with_reducible exact LeO.refl _)
      | (with_reducible exact LeO.none _)
      | (with_reducible refine LeO.ite ?_ ?_)
      | (with_reducible refine LeO.bind ?_ (fun _ => ?_))
      | exact ih0 _ _ _ _
      | exact ih1 _ _ _ _ _ _ _
      | exact ih2 _ _ _ _
      | exact impl_IsContract.mono _ _
      | exact impl_sumOf.mono _ _
      | exact LeO.none _
      | refine LeO.ite ?_ ?_
      | refine LeO.bind ?_ (fun _ => ?_)
set_option maxHeartbeats 8000000 in
set_option maxRecDepth 100000 in
theorem impl_SplitTotal.calls (k : Nat) (A0_0 : Option Addr) (c0_0 : Nat) (l0_0 : List Int) (a1 : Int) (r : List Int) (w : World) (hr0_0 : Kd.C (Kd.int .i64) w A0_0 l0_0.length l0_0) (hc0_0 : l0_0.length ≤ c0_0) (h : impl_SplitTotal.f k l0_0 a1 = some r) :
    Calls Try.prog 55 #[.agg #[.slice A0_0 l0_0.length c0_0], .int .i64 a1] w fun e w' => ∃ v0_ : Value, e = .returned (v0_) ∧ Kd.R (Kd.int .i64) 3 w' w.heap.size (fun _ => True) v0_ r ∧ Below w.heap.size w w' := by
  have hu35 := Try.underlying35
  have HR0_0 := Aside0.mk hr0_0
  have HC0_0 := Aside0.mk hc0_0
  clear hr0_0 hc0_0
  have H : ((some (([] : List Int) : List Int)).bind fun y158 => ((impl_IsContract.f k l0_0).bind fun t161 => (if t161 = true then ((impl_InRange.f a1 0 10000).bind fun t162 => (impl_SplitTotal.j0 k a1 y158 (!t162) l0_0)) else (impl_SplitTotal.j0 k a1 y158 true l0_0)))) = some r := h
  clear h
  obtain ⟨y158, hy158⟩ : ∃ y_ : List Int, y_ = (([] : List Int)) := ⟨_, rfl⟩
  replace H : ((impl_IsContract.f k l0_0).bind fun t161 => (if t161 = true then ((impl_InRange.f a1 0 10000).bind fun t162 => (impl_SplitTotal.j0 k a1 y158 (!t162) l0_0)) else (impl_SplitTotal.j0 k a1 y158 true l0_0))) = some r := by first | (rw [hy158]; with_reducible exact H) | (have H2_ := (Option.bind_some _ _).symm.trans H; rw [hy158]; with_reducible exact H2_) | (have H2_ := (Option.bind_some _ _).symm.trans H; with_reducible exact H2_) | with_reducible exact H | (rw [hy158]; exact H) | exact H
  have Ny158 := Aside0.mk hy158
  clear hy158
  have HC3 := Aside0.mk H
  clear H
  go_enter Try.func55, Try.ntmps55
  go_upto_region 1 with (first | ((with_reducible refine gate_dst (N := 2) rfl ?_); refine box_event ?hg (N := 2) ?hd (cs := #[.slice A0_0 l0_0.length c0_0]) (t := 35) ?hr ?_; (case hd => rfl); (case hg => rfl); (case hr => first | (go_simp; done) | (go_simp; rfl)); intro gb157 hg2 w3 hbox2 hb2; clear hg2) | ((with_reducible refine gate_dst (N := 3) rfl ?_); refine box_event ?hg (N := 3) ?hd (cs := #[.int .i64 a1]) (t := 3) ?hr ?_; (case hd => rfl); (case hg => rfl); (case hr => first | (go_simp; done) | (go_simp; rfl)); intro gT hg3 w4 hbox3 hb3; clear hg3))
  have HX4 := Aside0.mk (blk_below hbox2 hb3)
  have HB4 := Aside0.mk (below_step (w := w) hb2 hb3)
  have BK157 := Aside0.mk (blk_below hbox2 hb3)
  have BKT := Aside0.mk hbox3
  have BKL := Aside0.mk (blk_lt BKT.out)
  have BKC := Aside0.mk (show w4.cell? ⟨gT, 0, none⟩ = some (.int .i64 a1) from (blk_cell BKT.out 0).trans rfl)
  clear BKT
  have hr4 := Kd.C_below HR0_0.out HB4.out
  clear HR0_0
  have HR0_0 := Aside0.mk hr4
  clear hr4 hbox2 hbox3 hb2 hb3
  have HB := Aside0.mk (Below.refl w4.heap.size w4)
  go_upto_region 2 with (first | ((with_reducible refine gate_dst (N := 11) rfl ?_); refine Kd.R_lit (Kd.int .i64) _ 3 ?hg (N := 11) ?hd (xs := ([] : List Int)) (inner := []) (ok := fun _ => True) (okp := fun _ => True) ?hr ?hp (fun _ hk => hk) trivial (Below.refl _ _) (Nat.le_refl _) (by simp) ?_; (case hd => rfl); (case hg => rfl); (case hr => first | (go_simp; done) | (go_simp; rfl)); (case hp => exact (Reps.none _ _)); intro v159 w5 ho6 hb hg_ hnew_; clear hg_ hnew_; (first | rw [← Ny158.out] at ho6 | (simp only [Int.reduceToNat] at ho6; rw [← Ny158.out] at ho6)); have n0_ := Aside0.mk (Kd.R_lower ho6 (below_size (by repeat (first | (with_reducible first | exact HB.out | apply below_alloc | apply pw_below_drewN | apply below_drew1) | exact HB.out)))); have n1_ := Aside0.mk (blk_below (g := gb157) (o := .cells #[.slice A0_0 l0_0.length c0_0] 35 (0, 0)) (by (with_reducible repeat (first | refine blk_drewN ?_ _ | refine blk_drew ?_ | refine blk_alloc ?_ _)); exact BK157.out) hb); have n2_ := Aside0.mk (below_step (by repeat (first | (with_reducible first | exact HB.out | apply below_alloc | apply pw_below_drewN | apply below_drew1) | exact HB.out)) hb); clear BK157; clear HB; have HO160 := n0_; have BK157 := n1_; have HB := n2_; (try clear hczT); have hczT := (HB.out.cell (p := ⟨gT, 0, none⟩) BKL.out).trans BKC.out; clear n0_ n1_ n2_; clear hb ho6))
  repeat (go_quiet (first | ((with_reducible refine gate_dst (N := 11) rfl ?_); refine Kd.R_lit (Kd.int .i64) _ 3 ?hg (N := 11) ?hd (xs := ([] : List Int)) (inner := []) (ok := fun _ => True) (okp := fun _ => True) ?hr ?hp (fun _ hk => hk) trivial (Below.refl _ _) (Nat.le_refl _) (by simp) ?_; (case hd => rfl); (case hg => rfl); (case hr => first | (go_simp; done) | (go_simp; rfl)); (case hp => exact (Reps.none _ _)); intro v159 w5 ho6 hb hg_ hnew_; clear hg_ hnew_; (first | rw [← Ny158.out] at ho6 | (simp only [Int.reduceToNat] at ho6; rw [← Ny158.out] at ho6)); have n0_ := Aside0.mk (Kd.R_lower ho6 (below_size (by repeat (first | (with_reducible first | exact HB.out | apply below_alloc | apply pw_below_drewN | apply below_drew1) | exact HB.out)))); have n1_ := Aside0.mk (blk_below (g := gb157) (o := .cells #[.slice A0_0 l0_0.length c0_0] 35 (0, 0)) (by (with_reducible repeat (first | refine blk_drewN ?_ _ | refine blk_drew ?_ | refine blk_alloc ?_ _)); exact BK157.out) hb); have n2_ := Aside0.mk (below_step (by repeat (first | (with_reducible first | exact HB.out | apply below_alloc | apply pw_below_drewN | apply below_drew1) | exact HB.out)) hb); clear BK157; clear HB; have HO160 := n0_; have BK157 := n1_; have HB := n2_; (try clear hczT); have hczT := (HB.out.cell (p := ⟨gT, 0, none⟩) BKL.out).trans BKC.out; clear n0_ n1_ n2_; clear hb ho6)); go_upto_region 2 with (first | ((with_reducible refine gate_dst (N := 11) rfl ?_); refine Kd.R_lit (Kd.int .i64) _ 3 ?hg (N := 11) ?hd (xs := ([] : List Int)) (inner := []) (ok := fun _ => True) (okp := fun _ => True) ?hr ?hp (fun _ hk => hk) trivial (Below.refl _ _) (Nat.le_refl _) (by simp) ?_; (case hd => rfl); (case hg => rfl); (case hr => first | (go_simp; done) | (go_simp; rfl)); (case hp => exact (Reps.none _ _)); intro v159 w5 ho6 hb hg_ hnew_; clear hg_ hnew_; (first | rw [← Ny158.out] at ho6 | (simp only [Int.reduceToNat] at ho6; rw [← Ny158.out] at ho6)); have n0_ := Aside0.mk (Kd.R_lower ho6 (below_size (by repeat (first | (with_reducible first | exact HB.out | apply below_alloc | apply pw_below_drewN | apply below_drew1) | exact HB.out)))); have n1_ := Aside0.mk (blk_below (g := gb157) (o := .cells #[.slice A0_0 l0_0.length c0_0] 35 (0, 0)) (by (with_reducible repeat (first | refine blk_drewN ?_ _ | refine blk_drew ?_ | refine blk_alloc ?_ _)); exact BK157.out) hb); have n2_ := Aside0.mk (below_step (by repeat (first | (with_reducible first | exact HB.out | apply below_alloc | apply pw_below_drewN | apply below_drew1) | exact HB.out)) hb); clear BK157; clear HB; have HO160 := n0_; have BK157 := n1_; have HB := n2_; (try clear hczT); have hczT := (HB.out.cell (p := ⟨gT, 0, none⟩) BKL.out).trans BKC.out; clear n0_ n1_ n2_; clear hb ho6)))
  (try simp only [Act.put, List.setIfInBounds_toArray, List.set_cons_zero, List.set_cons_succ])
  go_cut [19] (fun v19 wc => ∃ (kq : Nat) (x19_2 : Bool), v19 = .bool x19_2 ∧ Aside0 (impl_SplitTotal.j0 kq a1 y158 x19_2 l0_0 = some r) ∧ Aside0 (kq ≤ k) ∧ Aside0 (Kd.R (Kd.int .i64) 3 wc w4.heap.size (fun _ => True) v159 y158) ∧ Aside0 (wc.heap[gb157]? = some (.cells #[(.slice A0_0 l0_0.length c0_0)] 35 (0, 0))) ∧ Aside0 (Below w4.heap.size w4 wc))
  case first =>
    have H := HC3.out
    clear HC3
    replace H := Option.bind_eq_some_iff.mp H
    obtain ⟨t161, A70, H⟩ := H
    replace H : (if t161 = true then ((impl_InRange.f a1 0 10000).bind fun t162 => (impl_SplitTotal.j0 k a1 y158 (!t162) l0_0)) else (impl_SplitTotal.j0 k a1 y158 true l0_0)) = some r := H
    have A7 := Aside0.mk A70
    clear A70
    by_cases c8 : t161 = true
    · subst c8
      have H1 : ((impl_InRange.f a1 0 10000).bind fun t162 => (impl_SplitTotal.j0 k a1 y158 (!t162) l0_0)) = some r := by rw [if_pos rfl] at H; exact H
      clear H
      have H := H1
      clear H1
      replace H := Option.bind_eq_some_iff.mp H
      obtain ⟨t162, A90, H⟩ := H
      replace H : (impl_SplitTotal.j0 k a1 y158 (!t162) l0_0) = some r := H
      have A9 := Aside0.mk A90
      clear A90
      have H' := Aside0.mk H
      clear H
      (try clear hczT); have hczT := (HB.out.cell (p := ⟨gT, 0, none⟩) BKL.out).trans BKC.out
      have hcz10_0 : w5.cell? ⟨gb157, 0, none⟩ = some (.slice A0_0 l0_0.length c0_0) := (blk_cell BK157.out 0).trans rfl
      have hfz10_0 := blk_frozen BK157.out 0
      go_wp2_with (first | (go_at_call 68; (with_reducible refine (impl_IsContract.calls k _ _ l0_0 true _ ?side1 ?side2 A7.out).mono ?_); (case side1 => repeat (first | exact (Kd.C_below HR0_0.out HB.out) | (with_reducible refine Kd.C_alloc ?_ _) | (with_reducible refine Kd.C_drewN ?_ _) | (with_reducible refine Kd.C_drew ?_))); (case side2 => exact HC0_0.out); rintro e w11 ⟨rfl, hb⟩; have n0_ := Aside0.mk (Kd.R_below (by (with_reducible repeat (first | apply Kd.R_alloc | apply Kd.R_drewN | apply Kd.R_drew)); exact HO160.out) hb); have n1_ := Aside0.mk (blk_below (g := gb157) (o := .cells #[.slice A0_0 l0_0.length c0_0] 35 (0, 0)) (by (with_reducible repeat (first | refine blk_drewN ?_ _ | refine blk_drew ?_ | refine blk_alloc ?_ _)); exact BK157.out) hb); have n2_ := Aside0.mk (below_step (by repeat (first | (with_reducible first | exact HB.out | apply below_alloc | apply pw_below_drewN | apply below_drew1) | exact HB.out)) hb); clear HO160; clear BK157; clear HB; have HO160 := n0_; have BK157 := n1_; have HB := n2_; (try clear hczT); have hczT := (HB.out.cell (p := ⟨gT, 0, none⟩) BKL.out).trans BKC.out; clear n0_ n1_ n2_; (try clear hb); (try clear hb2); (try clear hk); (try clear hi)) | (go_at_call 100; (with_reducible refine (impl_InRange.calls a1 0 10000 t162 _ A9.out).mono ?_); rintro e w' ⟨rfl, ⟨nd, rfl⟩⟩; (try first | exact ⟨rfl, _, World.drewN_drewN _ _ _⟩ | exact ⟨rfl, _, Eq.trans (World.drewN_drewN _ _ _) (congrArg (World.drewN _) (Nat.add_assoc _ _ _))⟩)))
      repeat (go_quiet (first | (go_at_call 68; (with_reducible refine (impl_IsContract.calls k _ _ l0_0 true _ ?side1 ?side2 A7.out).mono ?_); (case side1 => repeat (first | exact (Kd.C_below HR0_0.out HB.out) | (with_reducible refine Kd.C_alloc ?_ _) | (with_reducible refine Kd.C_drewN ?_ _) | (with_reducible refine Kd.C_drew ?_))); (case side2 => exact HC0_0.out); rintro e w11 ⟨rfl, hb⟩; have n0_ := Aside0.mk (Kd.R_below (by (with_reducible repeat (first | apply Kd.R_alloc | apply Kd.R_drewN | apply Kd.R_drew)); exact HO160.out) hb); have n1_ := Aside0.mk (blk_below (g := gb157) (o := .cells #[.slice A0_0 l0_0.length c0_0] 35 (0, 0)) (by (with_reducible repeat (first | refine blk_drewN ?_ _ | refine blk_drew ?_ | refine blk_alloc ?_ _)); exact BK157.out) hb); have n2_ := Aside0.mk (below_step (by repeat (first | (with_reducible first | exact HB.out | apply below_alloc | apply pw_below_drewN | apply below_drew1) | exact HB.out)) hb); clear HO160; clear BK157; clear HB; have HO160 := n0_; have BK157 := n1_; have HB := n2_; (try clear hczT); have hczT := (HB.out.cell (p := ⟨gT, 0, none⟩) BKL.out).trans BKC.out; clear n0_ n1_ n2_; (try clear hb); (try clear hb2); (try clear hk); (try clear hi)) | (go_at_call 100; (with_reducible refine (impl_InRange.calls a1 0 10000 t162 _ A9.out).mono ?_); rintro e w' ⟨rfl, ⟨nd, rfl⟩⟩; (try first | exact ⟨rfl, _, World.drewN_drewN _ _ _⟩ | exact ⟨rfl, _, Eq.trans (World.drewN_drewN _ _ _) (congrArg (World.drewN _) (Nat.add_assoc _ _ _))⟩))); try go_wp2_with (first | (go_at_call 68; (with_reducible refine (impl_IsContract.calls k _ _ l0_0 true _ ?side1 ?side2 A7.out).mono ?_); (case side1 => repeat (first | exact (Kd.C_below HR0_0.out HB.out) | (with_reducible refine Kd.C_alloc ?_ _) | (with_reducible refine Kd.C_drewN ?_ _) | (with_reducible refine Kd.C_drew ?_))); (case side2 => exact HC0_0.out); rintro e w11 ⟨rfl, hb⟩; have n0_ := Aside0.mk (Kd.R_below (by (with_reducible repeat (first | apply Kd.R_alloc | apply Kd.R_drewN | apply Kd.R_drew)); exact HO160.out) hb); have n1_ := Aside0.mk (blk_below (g := gb157) (o := .cells #[.slice A0_0 l0_0.length c0_0] 35 (0, 0)) (by (with_reducible repeat (first | refine blk_drewN ?_ _ | refine blk_drew ?_ | refine blk_alloc ?_ _)); exact BK157.out) hb); have n2_ := Aside0.mk (below_step (by repeat (first | (with_reducible first | exact HB.out | apply below_alloc | apply pw_below_drewN | apply below_drew1) | exact HB.out)) hb); clear HO160; clear BK157; clear HB; have HO160 := n0_; have BK157 := n1_; have HB := n2_; (try clear hczT); have hczT := (HB.out.cell (p := ⟨gT, 0, none⟩) BKL.out).trans BKC.out; clear n0_ n1_ n2_; (try clear hb); (try clear hb2); (try clear hk); (try clear hi)) | (go_at_call 100; (with_reducible refine (impl_InRange.calls a1 0 10000 t162 _ A9.out).mono ?_); rintro e w' ⟨rfl, ⟨nd, rfl⟩⟩; (try first | exact ⟨rfl, _, World.drewN_drewN _ _ _⟩ | exact ⟨rfl, _, Eq.trans (World.drewN_drewN _ _ _) (congrArg (World.drewN _) (Nat.add_assoc _ _ _))⟩))))
      go_meet
      case rel => exact ⟨_, (!t162), (by first | rfl | (simp; done) | (simp [*]; done)), H', ⟨by first | omega | exact Nat.le_refl _⟩, ⟨by (with_reducible repeat (first | apply Kd.R_alloc | apply Kd.R_drewN | apply Kd.R_drew)); exact HO160.out⟩, ⟨by (with_reducible repeat (first | refine blk_drewN ?_ _ | refine blk_drew ?_ | refine blk_alloc ?_ _)); exact BK157.out⟩, ⟨by repeat (first | (with_reducible first | exact HB.out | apply below_alloc | apply pw_below_drewN | apply below_drew1) | exact HB.out)⟩⟩
    · replace c8 := Bool.eq_false_iff.mpr c8
      subst c8
      have H1 : (impl_SplitTotal.j0 k a1 y158 true l0_0) = some r := by rw [if_neg (show ¬ (false = true) by decide)] at H; exact H
      clear H
      have H := H1
      clear H1
      have H' := Aside0.mk H
      clear H
      (try clear hczT); have hczT := (HB.out.cell (p := ⟨gT, 0, none⟩) BKL.out).trans BKC.out
      have hcz12_0 : w5.cell? ⟨gb157, 0, none⟩ = some (.slice A0_0 l0_0.length c0_0) := (blk_cell BK157.out 0).trans rfl
      have hfz12_0 := blk_frozen BK157.out 0
      go_wp2_with (first | (go_at_call 68; (with_reducible refine (impl_IsContract.calls k _ _ l0_0 false _ ?side1 ?side2 A7.out).mono ?_); (case side1 => repeat (first | exact (Kd.C_below HR0_0.out HB.out) | (with_reducible refine Kd.C_alloc ?_ _) | (with_reducible refine Kd.C_drewN ?_ _) | (with_reducible refine Kd.C_drew ?_))); (case side2 => exact HC0_0.out); rintro e w13 ⟨rfl, hb⟩; have n0_ := Aside0.mk (Kd.R_below (by (with_reducible repeat (first | apply Kd.R_alloc | apply Kd.R_drewN | apply Kd.R_drew)); exact HO160.out) hb); have n1_ := Aside0.mk (blk_below (g := gb157) (o := .cells #[.slice A0_0 l0_0.length c0_0] 35 (0, 0)) (by (with_reducible repeat (first | refine blk_drewN ?_ _ | refine blk_drew ?_ | refine blk_alloc ?_ _)); exact BK157.out) hb); have n2_ := Aside0.mk (below_step (by repeat (first | (with_reducible first | exact HB.out | apply below_alloc | apply pw_below_drewN | apply below_drew1) | exact HB.out)) hb); clear HO160; clear BK157; clear HB; have HO160 := n0_; have BK157 := n1_; have HB := n2_; (try clear hczT); have hczT := (HB.out.cell (p := ⟨gT, 0, none⟩) BKL.out).trans BKC.out; clear n0_ n1_ n2_; (try clear hb); (try clear hb2); (try clear hk); (try clear hi)))
      repeat (go_quiet (first | (go_at_call 68; (with_reducible refine (impl_IsContract.calls k _ _ l0_0 false _ ?side1 ?side2 A7.out).mono ?_); (case side1 => repeat (first | exact (Kd.C_below HR0_0.out HB.out) | (with_reducible refine Kd.C_alloc ?_ _) | (with_reducible refine Kd.C_drewN ?_ _) | (with_reducible refine Kd.C_drew ?_))); (case side2 => exact HC0_0.out); rintro e w13 ⟨rfl, hb⟩; have n0_ := Aside0.mk (Kd.R_below (by (with_reducible repeat (first | apply Kd.R_alloc | apply Kd.R_drewN | apply Kd.R_drew)); exact HO160.out) hb); have n1_ := Aside0.mk (blk_below (g := gb157) (o := .cells #[.slice A0_0 l0_0.length c0_0] 35 (0, 0)) (by (with_reducible repeat (first | refine blk_drewN ?_ _ | refine blk_drew ?_ | refine blk_alloc ?_ _)); exact BK157.out) hb); have n2_ := Aside0.mk (below_step (by repeat (first | (with_reducible first | exact HB.out | apply below_alloc | apply pw_below_drewN | apply below_drew1) | exact HB.out)) hb); clear HO160; clear BK157; clear HB; have HO160 := n0_; have BK157 := n1_; have HB := n2_; (try clear hczT); have hczT := (HB.out.cell (p := ⟨gT, 0, none⟩) BKL.out).trans BKC.out; clear n0_ n1_ n2_; (try clear hb); (try clear hb2); (try clear hk); (try clear hi))); try go_wp2_with (first | (go_at_call 68; (with_reducible refine (impl_IsContract.calls k _ _ l0_0 false _ ?side1 ?side2 A7.out).mono ?_); (case side1 => repeat (first | exact (Kd.C_below HR0_0.out HB.out) | (with_reducible refine Kd.C_alloc ?_ _) | (with_reducible refine Kd.C_drewN ?_ _) | (with_reducible refine Kd.C_drew ?_))); (case side2 => exact HC0_0.out); rintro e w13 ⟨rfl, hb⟩; have n0_ := Aside0.mk (Kd.R_below (by (with_reducible repeat (first | apply Kd.R_alloc | apply Kd.R_drewN | apply Kd.R_drew)); exact HO160.out) hb); have n1_ := Aside0.mk (blk_below (g := gb157) (o := .cells #[.slice A0_0 l0_0.length c0_0] 35 (0, 0)) (by (with_reducible repeat (first | refine blk_drewN ?_ _ | refine blk_drew ?_ | refine blk_alloc ?_ _)); exact BK157.out) hb); have n2_ := Aside0.mk (below_step (by repeat (first | (with_reducible first | exact HB.out | apply below_alloc | apply pw_below_drewN | apply below_drew1) | exact HB.out)) hb); clear HO160; clear BK157; clear HB; have HO160 := n0_; have BK157 := n1_; have HB := n2_; (try clear hczT); have hczT := (HB.out.cell (p := ⟨gT, 0, none⟩) BKL.out).trans BKC.out; clear n0_ n1_ n2_; (try clear hb); (try clear hb2); (try clear hk); (try clear hi))))
      go_meet
      case rel => exact ⟨_, (true), (by first | rfl | (simp; done) | (simp [*]; done)), H', ⟨by first | omega | exact Nat.le_refl _⟩, ⟨by (with_reducible repeat (first | apply Kd.R_alloc | apply Kd.R_drewN | apply Kd.R_drew)); exact HO160.out⟩, ⟨by (with_reducible repeat (first | refine blk_drewN ?_ _ | refine blk_drew ?_ | refine blk_alloc ?_ _)); exact BK157.out⟩, ⟨by repeat (first | (with_reducible first | exact HB.out | apply below_alloc | apply pw_below_drewN | apply below_drew1) | exact HB.out)⟩⟩
  case rest =>
    clear HC3
    try clear p2
    try clear c5
    try clear c8
    try clear hczT
    try clear hcz10_0
    try clear hcz12_0
    try clear hfz10_0
    try clear hfz12_0
    obtain ⟨kq, x19_2, rfl, HA, HJ2, HO_5, BK157, HB⟩ := hcut
    cases kq with
    | zero => exact absurd HA.out (by simp [impl_SplitTotal.j0])
    | succ kj2 =>
      have H := HA.out
      clear HA
      simp only [impl_SplitTotal.j0] at H
      by_cases c14 : x19_2 = true
      · subst c14
        have H1 : (some y158) = some r := by rw [if_pos rfl] at H; exact H
        clear H
        have H := H1
        clear H1
        obtain rfl := Option.some.inj H
        go_wp2
        repeat (go_quiet (fail); try go_wp2)
        go_ret
        exact ⟨_, by first | rfl | (simp [errW_none, errW_some] <;> rfl) | (simp [*, errW_none, errW_some] <;> rfl), Kd.R_lower (by (with_reducible repeat (first | apply Kd.R_alloc | apply Kd.R_drewN | apply Kd.R_drew)); exact HO_5.out) (below_size HB4.out), below_step HB4.out (by repeat (first | (with_reducible first | exact HB.out | apply below_alloc | apply pw_below_drewN | apply below_drew1) | exact HB.out))⟩
      · replace c14 := Bool.eq_false_iff.mpr c14
        subst c14
        have H1 : ((impl_sumOf.f kj2 l0_0).bind fun t163 => (impl_SplitTotal.l0 kj2 a1 y158 t163 (([] : List Int)) l0_0 (l0_0.length : Int) 0)) = some r := by rw [if_neg (show ¬ (false = true) by decide)] at H; exact H
        clear H
        have H := H1
        clear H1
        replace H := Option.bind_eq_some_iff.mp H
        obtain ⟨t163, A150, H⟩ := H
        replace H : (impl_SplitTotal.l0 kj2 a1 y158 t163 (([] : List Int)) l0_0 (l0_0.length : Int) 0) = some r := H
        have A15 := Aside0.mk A150
        clear A150
        obtain ⟨y164, hy164⟩ : ∃ y_ : List Int, y_ = (([] : List Int)) := ⟨_, rfl⟩
        replace H : (impl_SplitTotal.l0 kj2 a1 y158 t163 y164 l0_0 (l0_0.length : Int) 0) = some r := by first | (rw [hy164]; with_reducible exact H) | (have H2_ := (Option.bind_some _ _).symm.trans H; rw [hy164]; with_reducible exact H2_) | (have H2_ := (Option.bind_some _ _).symm.trans H; with_reducible exact H2_) | with_reducible exact H | (rw [hy164]; exact H) | exact H
        have Ny164 := Aside0.mk hy164
        clear hy164
        have H' := Aside0.mk H
        clear H
        (try clear hczT); have hczT := (HB.out.cell (p := ⟨gT, 0, none⟩) BKL.out).trans BKC.out
        have hcz16_0 : wc.cell? ⟨gb157, 0, none⟩ = some (.slice A0_0 l0_0.length c0_0) := (blk_cell BK157.out 0).trans rfl
        have hfz16_0 := blk_frozen BK157.out 0
        go_upto_region 5 with (first | (go_at_call 101; (with_reducible refine (impl_sumOf.calls kj2 _ _ l0_0 t163 _ ?side1 ?side2 A15.out).mono ?_); (case side1 => repeat (first | exact (Kd.C_below HR0_0.out HB.out) | (with_reducible refine Kd.C_alloc ?_ _) | (with_reducible refine Kd.C_drewN ?_ _) | (with_reducible refine Kd.C_drew ?_))); (case side2 => exact HC0_0.out); rintro e w' ⟨rfl, ⟨nd, rfl⟩⟩; (try first | exact ⟨rfl, _, World.drewN_drewN _ _ _⟩ | exact ⟨rfl, _, Eq.trans (World.drewN_drewN _ _ _) (congrArg (World.drewN _) (Nat.add_assoc _ _ _))⟩)) | ((with_reducible refine gate_dst (N := 24) rfl ?_); refine Kd.R_lit (Kd.int .i64) _ 3 ?hg (N := 24) ?hd (xs := ([] : List Int)) (inner := []) (ok := fun _ => True) (okp := fun _ => True) ?hr ?hp (fun _ hk => hk) trivial (Below.refl _ _) (Nat.le_refl _) (by simp) ?_; (case hd => rfl); (case hg => rfl); (case hr => first | (go_simp; done) | (go_simp; rfl)); (case hp => exact (Reps.none _ _)); intro v165 w17 ho18 hb hg_ hnew_; clear hg_ hnew_; (first | rw [← Ny164.out] at ho18 | (simp only [Int.reduceToNat] at ho18; rw [← Ny164.out] at ho18)); have n0_ := Aside0.mk (Kd.R_elder' (by (with_reducible repeat (first | apply Kd.R_alloc | apply Kd.R_drewN | apply Kd.R_drew)); exact HO_5.out) (Kd.R_base ho18) hb); have n1_ := Aside0.mk (Kd.R_lower (Kd.R_new' ho18 (Kd.R_lt (by (with_reducible repeat (first | apply Kd.R_alloc | apply Kd.R_drewN | apply Kd.R_drew)); exact HO_5.out))) (below_size (by repeat (first | (with_reducible first | exact HB.out | apply below_alloc | apply pw_below_drewN | apply below_drew1) | exact HB.out)))); have n2_ := Aside0.mk (blk_below (g := gb157) (o := .cells #[.slice A0_0 l0_0.length c0_0] 35 (0, 0)) (by (with_reducible repeat (first | refine blk_drewN ?_ _ | refine blk_drew ?_ | refine blk_alloc ?_ _)); exact BK157.out) hb); have n3_ := Aside0.mk (below_step (by repeat (first | (with_reducible first | exact HB.out | apply below_alloc | apply pw_below_drewN | apply below_drew1) | exact HB.out)) hb); clear HO_5; clear BK157; clear HB; have HO_5 := n0_; have HO166 := n1_; have BK157 := n2_; have HB := n3_; (try clear hczT); have hczT := (HB.out.cell (p := ⟨gT, 0, none⟩) BKL.out).trans BKC.out; clear n0_ n1_ n2_ n3_; clear hb ho18; have hcz19_0 : w17.cell? ⟨gb157, 0, none⟩ = some (.slice A0_0 l0_0.length c0_0) := (blk_cell BK157.out 0).trans rfl; have hfz19_0 := blk_frozen BK157.out 0))
        have nA_ := Aside0.mk (Kd.R_mono (Kd.R_bound HO_5.out) (fun k hk => (⟨hk.1.2, Nat.ne_of_lt hk.2.2.1⟩ : some k ≠ v165.ownBlock ∧ k ≠ w17.heap.size)))
        have nB_ := Aside0.mk (Kd.R_mono (Kd.R_bound HO166.out) (fun k hk => (⟨hk.1.2, Nat.ne_of_lt hk.2.2.1⟩ : some k ≠ v159.ownBlock ∧ k ≠ w17.heap.size)))
        have nC_ := Aside0.mk (show (w17.alloc (.cells #[.int .i64 t163] 3 (0, 0))).heap[w17.heap.size]? = some (.cells #[.int .i64 t163] 3 (0, 0)) from by show (w17.heap.push _)[w17.heap.size]? = _; exact Array.getElem?_push_size)
        have nD_ := Aside0.mk (Kd.R_alloc nA_.out (.cells #[.int .i64 t163] 3 (0, 0)))
        have nE_ := Aside0.mk (Kd.R_alloc nB_.out (.cells #[.int .i64 t163] 3 (0, 0)))
        have nF_ := Aside0.mk (blk_alloc BK157.out (.cells #[.int .i64 t163] 3 (0, 0)))
        have nG_ := Aside0.mk (below_alloc HB.out (.cells #[.int .i64 t163] 3 (0, 0)))
        clear nA_ nB_ HO_5 HO166 BK157 HB
        (try clear hczT)
        (try clear hcz19_0)
        (try clear hfz19_0)
        obtain ⟨gA, hgA_⟩ : ∃ g_, g_ = w17.heap.size := ⟨_, rfl⟩
        rw [← hgA_] at nC_ nD_ nE_
        rw [← hgA_]
        clear hgA_
        generalize w17.alloc (.cells #[.int .i64 t163] 3 (0, 0)) = w18 at nC_ nD_ nE_ nF_ nG_ ⊢
        have BKA := nC_
        have HO_5 := nD_
        have HO166 := nE_
        have BK157 := nF_
        have HB := nG_
        clear nC_ nD_ nE_ nF_ nG_
        have hcz18 : w18.cell? ⟨gb157, 0, none⟩ = some (.slice A0_0 l0_0.length c0_0) := (blk_cell BK157.out 0).trans rfl
        go_wp2
        clear hcz18
        go_loopg [5, 7, 28] kj2 (fun kq v5 v7 v28 w' => ∃ (x5_2 : List Int) (x7_2 : List Int) (x28_2 : Int), v28 = .int .i64 x28_2 ∧ Aside0 (impl_SplitTotal.l0 kq a1 x5_2 t163 x7_2 l0_0 (l0_0.length : Int) x28_2 = some r) ∧ Aside0 (kq ≤ kj2) ∧ Aside0 (Kd.R (Kd.int .i64) 3 w' w4.heap.size (fun k_ => some k_ ≠ (v7 : Value).ownBlock ∧ k_ ≠ gA) v5 x5_2) ∧ Aside0 (Kd.R (Kd.int .i64) 3 w' w4.heap.size (fun k_ => some k_ ≠ (v5 : Value).ownBlock ∧ k_ ≠ gA) v7 x7_2) ∧ Aside0 (w'.heap[gb157]? = some (.cells #[(.slice A0_0 l0_0.length c0_0)] 35 (0, 0))) ∧ Aside0 (w'.heap[gA]? = some (.cells #[(.int .i64 t163)] 3 (0, 0))) ∧ Aside0 (Below w4.heap.size w4 w'))
        case atStart => exact ⟨(y158), (y164), (0), (by first | rfl | (simp; done) | (simp [*]; done)), H', ⟨Nat.le_refl _⟩, ⟨by (with_reducible repeat (first | apply Kd.R_alloc | apply Kd.R_drewN | apply Kd.R_drew)); exact HO_5.out⟩, ⟨by (with_reducible repeat (first | apply Kd.R_alloc | apply Kd.R_drewN | apply Kd.R_drew)); exact HO166.out⟩, ⟨by (with_reducible repeat (first | refine blk_drewN ?_ _ | refine blk_drew ?_ | refine blk_alloc ?_ _)); exact BK157.out⟩, ⟨(by (with_reducible repeat (first | refine blk_drewN ?_ _ | refine blk_drew ?_ | refine blk_alloc ?_ _)); exact BKA.out)⟩, ⟨by repeat (first | (with_reducible first | exact HB.out | apply below_alloc | apply pw_below_drewN | apply below_drew1) | exact HB.out)⟩⟩
        case round =>
          clear H'
          try clear c1
          try clear p2
          try clear c5
          try clear c8
          try clear c14
          try clear hczT
          try clear hcz10_0
          try clear hcz12_0
          try clear hcz16_0
          try clear hcz19_0
          try clear hfz10_0
          try clear hfz12_0
          try clear hfz16_0
          try clear hfz19_0
          try clear p2
          obtain ⟨x5_2, x7_2, x28_2, rfl, HA, HK2, HO_5, HO_7, BK157, BKA, HB⟩ := hrel
          cases gk with
          | zero => exact absurd HA.out (by simp [impl_SplitTotal.l0])
          | succ k2 =>
            have H := HA.out
            clear HA
            simp only [impl_SplitTotal.l0] at H
            by_cases c20 : x28_2 < (l0_0.length : Int)
            · rw [if_pos c20] at H
              have c20b0 : decide (x28_2 < (l0_0.length : Int)) = true := decide_eq_true c20
              clear c20
              by_cases c21 : 0 ≤ x28_2
              · rw [if_pos c21] at H
                have c21b0 : decide (0 ≤ x28_2) = true := decide_eq_true c21
                clear c21
                by_cases c22 : x28_2 < (l0_0.length : Int)
                · rw [if_pos c22] at H
                  have c22b0 : decide (x28_2 < (l0_0.length : Int)) = true := decide_eq_true c22
                  clear c22
                  by_cases c23 : t163 = 0
                  · rw [if_pos c23] at H
                    exact absurd H (by simp)
                  · rw [if_neg c23] at H
                    have c23b0 : (t163 == 0) = false := beq_eq_false_iff_ne.mpr c23
                    have c23b1 : (t163 != 0) = true := bne_iff_ne.mpr c23
                    by_cases c24 : x5_2.length < 17592186044416
                    · rw [if_pos c24] at H
                      have LMc24 := Aside0.mk c24
                      clear c24
                      obtain ⟨y168, hy168⟩ : ∃ y_ : List Int, y_ = (x5_2 ++ [wrap64 (Int.tdiv (wrap64 (a1 * (rd l0_0 x28_2))) t163)]) := ⟨_, rfl⟩
                      replace H : (if x7_2.length < 17592186044416 then (impl_SplitTotal.l0 k2 a1 y168 t163 (x7_2 ++ [x28_2]) l0_0 (l0_0.length : Int) (wrap64 (x28_2 + 1))) else (none)) = some r := by first | (rw [hy168]; with_reducible exact H) | (have H2_ := (Option.bind_some _ _).symm.trans H; rw [hy168]; with_reducible exact H2_) | (have H2_ := (Option.bind_some _ _).symm.trans H; with_reducible exact H2_) | with_reducible exact H | (rw [hy168]; exact H) | exact H
                      have Ny168 := Aside0.mk hy168
                      clear hy168
                      by_cases c25 : x7_2.length < 17592186044416
                      · rw [if_pos c25] at H
                        have LMc25 := Aside0.mk c25
                        clear c25
                        obtain ⟨y171, hy171⟩ : ∃ y_ : List Int, y_ = (x7_2 ++ [x28_2]) := ⟨_, rfl⟩
                        replace H : (impl_SplitTotal.l0 k2 a1 y168 t163 y171 l0_0 (l0_0.length : Int) (wrap64 (x28_2 + 1))) = some r := by first | (rw [hy171]; with_reducible exact H) | (have H2_ := (Option.bind_some _ _).symm.trans H; rw [hy171]; with_reducible exact H2_) | (have H2_ := (Option.bind_some _ _).symm.trans H; with_reducible exact H2_) | with_reducible exact H | (rw [hy171]; exact H) | exact H
                        have Ny171 := Aside0.mk hy171
                        clear hy171
                        have H' := Aside0.mk H
                        clear H
                        have p167 : 0 ≤ (x28_2 : Int) := of_decide_eq_true (by first | (with_reducible assumption) | assumption)
                        have q167 : x28_2 < (l0_0.length : Int) := of_decide_eq_true (by first | (with_reducible assumption) | assumption)
                        obtain ⟨ad167, e167, hx167_0⟩ := Kd.at_int HR0_0.out x28_2 p167 q167
                        cases e167
                        replace hx167_0 := (HB.out.cell (World.block_lt_of_cell? w4 _ hx167_0)).trans hx167_0
                        replace p167 := eq_true p167
                        replace q167 := eq_true q167
                        have hczT := (HB.out.cell (p := ⟨gT, 0, none⟩) BKL.out).trans BKC.out
                        have hczA : wr.cell? ⟨gA, 0, none⟩ = some (.int .i64 t163) := (blk_cell BKA.out 0).trans rfl
                        go_wp2_with (first | ((with_reducible refine gate_builtin (b := .append) (xs := #[.tmp 33, .tmp 39]) rfl ?_); at_builtin; refine Kd.R_append (Kd.int .i64) (w0 := w4) w4.heap.size rfl (.tmp 33) (.tmp 39) 23 3 (.int .i64 0) 8 rfl Try.underlying23 info3 rfl (by decide) (by omega) u5 x5_2 (wrap64 (Int.tdiv (wrap64 (a1 * (rd l0_0 x28_2))) t163)) [.int .i64 (wrap64 (Int.tdiv (wrap64 (a1 * (rd l0_0 x28_2))) t163))] (fun k_ => some k_ ≠ (u7 : Value).ownBlock ∧ k_ ≠ gA) (fun _ => False) rfl rfl ?aP (fun _ hk => hk.elim) ?aF ?aO ?aB ?aS ?aL ?_; (case aP => exact rfl); (case aB => exact (by repeat (first | (with_reducible first | exact HB.out | apply below_alloc | apply pw_below_drewN | apply below_drew1) | exact HB.out))); (case aF => exact (fun k_ hk => ⟨Kd.fresh' (Kd.R_lt (by (with_reducible repeat (first | apply Kd.R_alloc | apply Kd.R_drewN | apply Kd.R_drew)); exact HO_7.out)) k_ hk, Nat.ne_of_gt (Nat.lt_of_lt_of_le ((blk_lt (by (with_reducible repeat (first | refine blk_drewN ?_ _ | refine blk_drew ?_ | refine blk_alloc ?_ _)); exact BKA.out))) hk)⟩)); (case aO => exact (by (with_reducible repeat (first | apply Kd.R_alloc | apply Kd.R_drewN | apply Kd.R_drew)); exact HO_5.out)); (case aS => exact (below_size (by repeat (first | (with_reducible first | exact HB.out | apply below_alloc | apply pw_below_drewN | apply below_drew1) | exact HB.out)))); (case aL => have := LMc24.out; omega); intro v169 w26 ho hb hg hat; rw [← Ny168.out] at ho; have n0_ := Aside0.mk (Kd.R_after (ok := (fun k_ => k_ ≠ gA)) (by (with_reducible repeat (first | apply Kd.R_alloc | apply Kd.R_drewN | apply Kd.R_drew)); exact Kd.R_mono HO_7.out (fun _ hk => ⟨hk.2, hk.1⟩)) hg hat); have n1_ := Aside0.mk (blk_grown (g := gb157) (o := .cells #[.slice (some ad167) l0_0.length c0_0] 35 (0, 0)) (by (with_reducible repeat (first | refine blk_drewN ?_ _ | refine blk_drew ?_ | refine blk_alloc ?_ _)); exact BK157.out) hg (Kd.R_ne HO_5.out BK157.out (by decide))); have nA_ := Aside0.mk (blk_grown (g := gA) (o := .cells #[.int .i64 t163] 3 (0, 0)) (by (with_reducible repeat (first | refine blk_drewN ?_ _ | refine blk_drew ?_ | refine blk_alloc ?_ _)); exact BKA.out) hg (fun e_ => (HO_5.out.1 gA e_.symm).2 rfl)); clear BKA; have BKA := nA_; clear nA_; have n2_ := Aside0.mk (hb); have n3_ := Aside0.mk (ho); clear HO_7; clear BK157; clear HB; clear HO_5; have HO_7 := n0_; have BK157 := n1_; have HB := n2_; (try clear hczT); have hczT := (HB.out.cell (p := ⟨gT, 0, none⟩) BKL.out).trans BKC.out; have HO170 := n3_; clear n0_ n1_ n2_ n3_; clear ho hb hg hat) | ((with_reducible refine gate_builtin (b := .append) (xs := #[.tmp 41, .tmp 43]) rfl ?_); at_builtin; refine Kd.R_append (Kd.int .i64) (w0 := w4) w4.heap.size rfl (.tmp 41) (.tmp 43) 23 3 (.int .i64 0) 8 rfl Try.underlying23 info3 rfl (by decide) (by omega) u7 x7_2 x28_2 [.int .i64 x28_2] (fun k_ => some k_ ≠ (v169 : Value).ownBlock ∧ k_ ≠ gA) (fun _ => False) rfl rfl ?aP (fun _ hk => hk.elim) ?aF ?aO ?aB ?aS ?aL ?_; (case aP => exact rfl); (case aB => exact (by repeat (first | (with_reducible first | exact HB.out | apply below_alloc | apply pw_below_drewN | apply below_drew1) | exact HB.out))); (case aF => exact (fun k_ hk => ⟨Kd.fresh' (Kd.R_lt (by (with_reducible repeat (first | apply Kd.R_alloc | apply Kd.R_drewN | apply Kd.R_drew)); exact HO170.out)) k_ hk, Nat.ne_of_gt (Nat.lt_of_lt_of_le ((blk_lt (by (with_reducible repeat (first | refine blk_drewN ?_ _ | refine blk_drew ?_ | refine blk_alloc ?_ _)); exact BKA.out))) hk)⟩)); (case aO => exact (by (with_reducible repeat (first | apply Kd.R_alloc | apply Kd.R_drewN | apply Kd.R_drew)); exact Kd.R_mono HO_7.out (fun _ hk => ⟨hk.2, hk.1⟩))); (case aS => exact (below_size (by repeat (first | (with_reducible first | exact HB.out | apply below_alloc | apply pw_below_drewN | apply below_drew1) | exact HB.out)))); (case aL => have := LMc25.out; omega); intro v172 w27 ho hb hg hat; rw [← Ny171.out] at ho; have n0_ := Aside0.mk (blk_grown (g := gb157) (o := .cells #[.slice (some ad167) l0_0.length c0_0] 35 (0, 0)) (by (with_reducible repeat (first | refine blk_drewN ?_ _ | refine blk_drew ?_ | refine blk_alloc ?_ _)); exact BK157.out) hg (Kd.R_ne HO_7.out BK157.out (by decide))); have n1_ := Aside0.mk (Kd.R_after (ok := (fun k_ => k_ ≠ gA)) (by (with_reducible repeat (first | apply Kd.R_alloc | apply Kd.R_drewN | apply Kd.R_drew)); exact Kd.R_mono HO170.out (fun _ hk => ⟨hk.2, hk.1⟩)) hg hat); have nA_ := Aside0.mk (blk_grown (g := gA) (o := .cells #[.int .i64 t163] 3 (0, 0)) (by (with_reducible repeat (first | refine blk_drewN ?_ _ | refine blk_drew ?_ | refine blk_alloc ?_ _)); exact BKA.out) hg (fun e_ => (HO_7.out.1 gA e_.symm).1 rfl)); clear BKA; have BKA := nA_; clear nA_; have n2_ := Aside0.mk (hb); have n3_ := Aside0.mk (ho); clear BK157; clear HO170; clear HB; clear HO_7; have BK157 := n0_; have HO170 := n1_; have HB := n2_; (try clear hczT); have hczT := (HB.out.cell (p := ⟨gT, 0, none⟩) BKL.out).trans BKC.out; have HO173 := n3_; clear n0_ n1_ n2_ n3_; clear ho hb hg hat))

                        go_roundg k2
                        case measure => have := HJ2.out; have := HK2.out; omega
                        case rel => exact ⟨(y168), (y171), (wrap64 (x28_2 + 1)), (by first | rfl | (simp; done) | (simp [*]; done)), H', ⟨by have := HJ2.out; have := HK2.out; omega⟩, ⟨by (with_reducible repeat (first | apply Kd.R_alloc | apply Kd.R_drewN | apply Kd.R_drew)); exact Kd.R_mono HO170.out (fun _ hk => ⟨hk.2, hk.1⟩)⟩, ⟨by (with_reducible repeat (first | apply Kd.R_alloc | apply Kd.R_drewN | apply Kd.R_drew)); exact HO173.out⟩, ⟨by (with_reducible repeat (first | refine blk_drewN ?_ _ | refine blk_drew ?_ | refine blk_alloc ?_ _)); exact BK157.out⟩, ⟨(by (with_reducible repeat (first | refine blk_drewN ?_ _ | refine blk_drew ?_ | refine blk_alloc ?_ _)); exact BKA.out)⟩, ⟨by repeat (first | (with_reducible first | exact HB.out | apply below_alloc | apply pw_below_drewN | apply below_drew1) | exact HB.out)⟩⟩
                      · rw [if_neg c25] at H
                        exact absurd H (by simp)
                    · rw [if_neg c24] at H
                      exact absurd H (by simp)
                · rw [if_neg c22] at H
                  exact absurd H (by simp)
              · rw [if_neg c21] at H
                exact absurd H (by simp)
            · rw [if_neg c20] at H
              have c20b0 : decide (x28_2 < (l0_0.length : Int)) = false := decide_eq_false c20
              clear c20
              replace H := Option.bind_eq_some_iff.mp H
              obtain ⟨t174, A280, H⟩ := H
              replace H : ((impl_sumOf.f k2 x5_2).bind fun t175 => (impl_SplitTotal.l1 k2 x5_2 t174 (wrap64 (a1 - t175)) 0)) = some r := H
              have A28 := Aside0.mk A280
              clear A280
              replace H := Option.bind_eq_some_iff.mp H
              obtain ⟨t175, A290, H⟩ := H
              replace H : (impl_SplitTotal.l1 k2 x5_2 t174 (wrap64 (a1 - t175)) 0) = some r := H
              have A29 := Aside0.mk A290
              clear A290
              have H' := Aside0.mk H
              clear H
              (try clear hczT); have hczT := (HB.out.cell (p := ⟨gT, 0, none⟩) BKL.out).trans BKC.out
              have hcz30_0 : wr.cell? ⟨gb157, 0, none⟩ = some (.slice A0_0 l0_0.length c0_0) := (blk_cell BK157.out 0).trans rfl
              have hfz30_0 := blk_frozen BK157.out 0
              obtain ⟨Ao31, co31, eo31⟩ := Kd.R_slice HO_7.out
              subst eo31
              (try clear hczT); have hczT := (HB.out.cell (p := ⟨gT, 0, none⟩) BKL.out).trans BKC.out
              have HNA := Aside0.mk (show some gA ≠ (.slice Ao31 x7_2.length co31 : Value).ownBlock from (fun e_ => (HO_7.out.1 gA e_.symm).2 rfl))
              go_wp2_with (first | (go_at_call 102; (with_reducible refine (slices_SortStableFunc_int_int.calls (fun k_ => some k_ = (.slice Ao31 x7_2.length co31 : Value).ownBlock) (.slice Ao31 x7_2.length co31) x7_2 A0_0 c0_0 l0_0 a1 t163 gb157 gT gA t174 w4 _ ?side1 ?side2 HR0_0.out HX4.out BKC.out BKA.out HNA.out A28.out).mono ?_); (case side1 => repeat (first | (with_reducible first | exact HB.out | apply below_alloc | apply pw_below_drewN | apply below_drew1) | exact HB.out)); (case side2 => exact Kd.R_tight rfl HO_7.out); rintro e w32 ⟨rfl, hy0, hb, hkp⟩; have n0_ := Aside0.mk (Kd.R_mono (ok' := fun k_ => some k_ ≠ (.slice Ao31 x7_2.length co31 : Value).ownBlock ∧ k_ ≠ gA) (Kd.R_keptB (HO_5.out) hkp (fun k_ hk_ hs_ => (hk_.1) hs_)) (fun k_ hk_ => hk_.1)); have n1_ := Aside0.mk (Kd.R_reok rfl hy0 (fun k_ e_ => HO_7.out.1 k_ e_)); have n2_ := Aside0.mk (blk_kept (by (with_reducible repeat (first | refine blk_drewN ?_ _ | refine blk_drew ?_ | refine blk_alloc ?_ _)); exact BK157.out) hkp (fun hs_ => (fun e_ => (Kd.R_ne HO_7.out BK157.out (by decide)) e_) hs_)); have n3_ := Aside0.mk (hb); clear HO_5; clear HO_7; clear BK157; clear HB; have HO_5 := n0_; have HO_7 := n1_; have BK157 := n2_; have HB := n3_; (try clear hczT); have hczT := (HB.out.cell (p := ⟨gT, 0, none⟩) BKL.out).trans BKC.out; clear n0_ n1_ n2_ n3_; (try clear hb); (try clear hkp); (try clear hy0); obtain ⟨Ao33, co33, eo33⟩ := Kd.R_slice HO_5.out; subst eo33) | (go_at_call 101; (with_reducible refine (impl_sumOf.calls k2 _ _ x5_2 t175 _ ?side1 ?side2 A29.out).mono ?_); (case side1 => repeat (first | exact (Kd.R_reads' HO_5.out).2.2 | (with_reducible refine Kd.C_alloc ?_ _) | (with_reducible refine Kd.C_drewN ?_ _) | (with_reducible refine Kd.C_drew ?_))); (case side2 => exact (Kd.R_reads' HO_5.out).2.1); rintro e w' ⟨rfl, ⟨nd, rfl⟩⟩; (try first | exact ⟨rfl, _, World.drewN_drewN _ _ _⟩ | exact ⟨rfl, _, Eq.trans (World.drewN_drewN _ _ _) (congrArg (World.drewN _) (Nat.add_assoc _ _ _))⟩)))
              have HNA := Aside0.mk (show some gA ≠ (.slice Ao31 x7_2.length co31 : Value).ownBlock from (fun e_ => (HO_7.out.1 gA e_.symm).2 rfl))
              repeat (go_quiet (first | (go_at_call 102; (with_reducible refine (slices_SortStableFunc_int_int.calls (fun k_ => some k_ = (.slice Ao31 x7_2.length co31 : Value).ownBlock) (.slice Ao31 x7_2.length co31) x7_2 A0_0 c0_0 l0_0 a1 t163 gb157 gT gA t174 w4 _ ?side1 ?side2 HR0_0.out HX4.out BKC.out BKA.out HNA.out A28.out).mono ?_); (case side1 => repeat (first | (with_reducible first | exact HB.out | apply below_alloc | apply pw_below_drewN | apply below_drew1) | exact HB.out)); (case side2 => exact Kd.R_tight rfl HO_7.out); rintro e w32 ⟨rfl, hy0, hb, hkp⟩; have n0_ := Aside0.mk (Kd.R_mono (ok' := fun k_ => some k_ ≠ (.slice Ao31 x7_2.length co31 : Value).ownBlock ∧ k_ ≠ gA) (Kd.R_keptB (HO_5.out) hkp (fun k_ hk_ hs_ => (hk_.1) hs_)) (fun k_ hk_ => hk_.1)); have n1_ := Aside0.mk (Kd.R_reok rfl hy0 (fun k_ e_ => HO_7.out.1 k_ e_)); have n2_ := Aside0.mk (blk_kept (by (with_reducible repeat (first | refine blk_drewN ?_ _ | refine blk_drew ?_ | refine blk_alloc ?_ _)); exact BK157.out) hkp (fun hs_ => (fun e_ => (Kd.R_ne HO_7.out BK157.out (by decide)) e_) hs_)); have n3_ := Aside0.mk (hb); clear HO_5; clear HO_7; clear BK157; clear HB; have HO_5 := n0_; have HO_7 := n1_; have BK157 := n2_; have HB := n3_; (try clear hczT); have hczT := (HB.out.cell (p := ⟨gT, 0, none⟩) BKL.out).trans BKC.out; clear n0_ n1_ n2_ n3_; (try clear hb); (try clear hkp); (try clear hy0); obtain ⟨Ao33, co33, eo33⟩ := Kd.R_slice HO_5.out; subst eo33) | (go_at_call 101; (with_reducible refine (impl_sumOf.calls k2 _ _ x5_2 t175 _ ?side1 ?side2 A29.out).mono ?_); (case side1 => repeat (first | exact (Kd.R_reads' HO_5.out).2.2 | (with_reducible refine Kd.C_alloc ?_ _) | (with_reducible refine Kd.C_drewN ?_ _) | (with_reducible refine Kd.C_drew ?_))); (case side2 => exact (Kd.R_reads' HO_5.out).2.1); rintro e w' ⟨rfl, ⟨nd, rfl⟩⟩; (try first | exact ⟨rfl, _, World.drewN_drewN _ _ _⟩ | exact ⟨rfl, _, Eq.trans (World.drewN_drewN _ _ _) (congrArg (World.drewN _) (Nat.add_assoc _ _ _))⟩))); try go_wp2_with (first | (go_at_call 102; (with_reducible refine (slices_SortStableFunc_int_int.calls (fun k_ => some k_ = (.slice Ao31 x7_2.length co31 : Value).ownBlock) (.slice Ao31 x7_2.length co31) x7_2 A0_0 c0_0 l0_0 a1 t163 gb157 gT gA t174 w4 _ ?side1 ?side2 HR0_0.out HX4.out BKC.out BKA.out HNA.out A28.out).mono ?_); (case side1 => repeat (first | (with_reducible first | exact HB.out | apply below_alloc | apply pw_below_drewN | apply below_drew1) | exact HB.out)); (case side2 => exact Kd.R_tight rfl HO_7.out); rintro e w32 ⟨rfl, hy0, hb, hkp⟩; have n0_ := Aside0.mk (Kd.R_mono (ok' := fun k_ => some k_ ≠ (.slice Ao31 x7_2.length co31 : Value).ownBlock ∧ k_ ≠ gA) (Kd.R_keptB (HO_5.out) hkp (fun k_ hk_ hs_ => (hk_.1) hs_)) (fun k_ hk_ => hk_.1)); have n1_ := Aside0.mk (Kd.R_reok rfl hy0 (fun k_ e_ => HO_7.out.1 k_ e_)); have n2_ := Aside0.mk (blk_kept (by (with_reducible repeat (first | refine blk_drewN ?_ _ | refine blk_drew ?_ | refine blk_alloc ?_ _)); exact BK157.out) hkp (fun hs_ => (fun e_ => (Kd.R_ne HO_7.out BK157.out (by decide)) e_) hs_)); have n3_ := Aside0.mk (hb); clear HO_5; clear HO_7; clear BK157; clear HB; have HO_5 := n0_; have HO_7 := n1_; have BK157 := n2_; have HB := n3_; (try clear hczT); have hczT := (HB.out.cell (p := ⟨gT, 0, none⟩) BKL.out).trans BKC.out; clear n0_ n1_ n2_ n3_; (try clear hb); (try clear hkp); (try clear hy0); obtain ⟨Ao33, co33, eo33⟩ := Kd.R_slice HO_5.out; subst eo33) | (go_at_call 101; (with_reducible refine (impl_sumOf.calls k2 _ _ x5_2 t175 _ ?side1 ?side2 A29.out).mono ?_); (case side1 => repeat (first | exact (Kd.R_reads' HO_5.out).2.2 | (with_reducible refine Kd.C_alloc ?_ _) | (with_reducible refine Kd.C_drewN ?_ _) | (with_reducible refine Kd.C_drew ?_))); (case side2 => exact (Kd.R_reads' HO_5.out).2.1); rintro e w' ⟨rfl, ⟨nd, rfl⟩⟩; (try first | exact ⟨rfl, _, World.drewN_drewN _ _ _⟩ | exact ⟨rfl, _, Eq.trans (World.drewN_drewN _ _ _) (congrArg (World.drewN _) (Nat.add_assoc _ _ _))⟩))))
              go_loopg [53] k2 (fun kq v53 w' => ∃ (x5_3 : List Int) (x53_3 : Int), v53 = .int .i64 x53_3 ∧ Aside0 (impl_SplitTotal.l1 kq x5_3 t174 (wrap64 (a1 - t175)) x53_3 = some r) ∧ Aside0 (kq ≤ k2) ∧ Aside0 (Kd.R (Kd.int .i64) 3 w' w4.heap.size (fun k_ => some k_ ≠ ((.slice Ao31 x7_2.length co31) : Value).ownBlock) (.slice Ao33 x5_2.length co33) x5_3) ∧ Aside0 (Kd.R (Kd.int .i64) 3 w' w4.heap.size (fun k_ => some k_ ≠ ((.slice Ao33 x5_2.length co33) : Value).ownBlock) (.slice Ao31 x7_2.length co31) t174) ∧ Aside0 (w'.heap[gb157]? = some (.cells #[(.slice A0_0 l0_0.length c0_0)] 35 (0, 0))) ∧ Aside0 (Below w4.heap.size w4 w'))
              case atStart => exact ⟨(x5_2), (0), (by first | rfl | (simp; done) | (simp [*]; done)), H', ⟨Nat.le_refl _⟩, ⟨by (with_reducible repeat (first | apply Kd.R_alloc | apply Kd.R_drewN | apply Kd.R_drew)); exact Kd.R_mono HO_5.out (fun _ hk => hk.1)⟩, ⟨by (with_reducible repeat (first | apply Kd.R_alloc | apply Kd.R_drewN | apply Kd.R_drew)); exact Kd.R_mono HO_7.out (fun _ hk => hk.1)⟩, ⟨by (with_reducible repeat (first | refine blk_drewN ?_ _ | refine blk_drew ?_ | refine blk_alloc ?_ _)); exact BK157.out⟩, ⟨by repeat (first | (with_reducible first | exact HB.out | apply below_alloc | apply pw_below_drewN | apply below_drew1) | exact HB.out)⟩⟩
              case round =>
                clear H'
                try clear c1
                try clear p1
                try clear q1
                try clear hx1
                try clear c2
                try clear p2
                try clear c5
                try clear p6
                try clear c8
                try clear c14
                try clear p16
                try clear q16
                try clear hx16
                try clear c20
                try clear c20b0
                try clear c21
                try clear c21b0
                try clear c22
                try clear c22b0
                try clear c23
                try clear c23b0
                try clear c23b1
                try clear c24
                try clear c25
                try clear hczT
                try clear hcz10_0
                try clear hcz12_0
                try clear hcz16_0
                try clear hcz19_0
                try clear hcz30_0
                try clear hfz10_0
                try clear hfz12_0
                try clear hfz16_0
                try clear hfz19_0
                try clear hfz30_0
                try clear hx167_0
                try clear p167
                try clear p2
                try clear q167
                obtain ⟨x5_3, x53_3, rfl, HA, HK3, HO_5, HO_7, BK157, HB⟩ := hrel
                have hl5_3 := (Kd.R_reads' HO_5.out).1
                rw [hl5_3] at HO_5
                (try simp only [hl5_3])
                (try simp only [hl5_3] at BK157)
                (try simp only [hl5_3] at HO_7)
                have hl7_3 := (Kd.R_reads' HO_7.out).1
                rw [hl7_3] at HO_7
                (try simp only [hl7_3])
                (try simp only [hl7_3] at BK157)
                (try simp only [hl7_3] at HO_5)
                cases gk with
                | zero => exact absurd HA.out (by simp [impl_SplitTotal.l1])
                | succ k3 =>
                  have H := HA.out
                  clear HA
                  simp only [impl_SplitTotal.l1] at H
                  by_cases c34 : x53_3 < (wrap64 (a1 - t175))
                  · rw [if_pos c34] at H
                    have c34b0 : decide (x53_3 < (wrap64 (a1 - t175))) = true := decide_eq_true c34
                    clear c34
                    by_cases c35 : 0 ≤ x53_3
                    · rw [if_pos c35] at H
                      have c35b0 : decide (0 ≤ x53_3) = true := decide_eq_true c35
                      clear c35
                      by_cases c36 : x53_3 < (t174.length : Int)
                      · rw [if_pos c36] at H
                        have c36b0 : decide (x53_3 < (t174.length : Int)) = true := decide_eq_true c36
                        clear c36
                        by_cases c37 : 0 ≤ (rd t174 x53_3)
                        · rw [if_pos c37] at H
                          have c37b0 : decide (0 ≤ (rd t174 x53_3)) = true := decide_eq_true c37
                          clear c37
                          by_cases c38 : (rd t174 x53_3) < (x5_3.length : Int)
                          · rw [if_pos c38] at H
                            have c38b0 : decide ((rd t174 x53_3) < (x5_3.length : Int)) = true := decide_eq_true c38
                            clear c38
                            obtain ⟨y178, hy178⟩ : ∃ y_ : List Int, y_ = (x5_3.set ((rd t174 x53_3) : Int).toNat (wrap64 ((rd x5_3 (rd t174 x53_3)) + 1))) := ⟨_, rfl⟩
                            replace H : (impl_SplitTotal.l1 k3 y178 t174 (wrap64 (a1 - t175)) (wrap64 (x53_3 + 1))) = some r := by first | (rw [hy178]; with_reducible exact H) | (have H2_ := (Option.bind_some _ _).symm.trans H; rw [hy178]; with_reducible exact H2_) | (have H2_ := (Option.bind_some _ _).symm.trans H; with_reducible exact H2_) | with_reducible exact H | (rw [hy178]; exact H) | exact H
                            have Ny178 := Aside0.mk hy178
                            clear hy178
                            have H' := Aside0.mk H
                            clear H
                            have p176 : 0 ≤ (x53_3 : Int) := of_decide_eq_true (by first | (with_reducible assumption) | assumption)
                            have q176 : x53_3 < (t174.length : Int) := of_decide_eq_true (by first | (with_reducible assumption) | assumption)
                            obtain ⟨ad176, e176, hx176_0⟩ := Kd.at_int (Kd.R_reads' HO_7.out).2.2 x53_3 p176 q176
                            cases e176
                            replace p176 := eq_true p176
                            replace q176 := eq_true q176
                            have p177 : 0 ≤ ((rd t174 x53_3) : Int) := of_decide_eq_true (by first | (with_reducible assumption) | assumption)
                            have q177 : (rd t174 x53_3) < (x5_3.length : Int) := of_decide_eq_true (by first | (with_reducible assumption) | assumption)
                            obtain ⟨ad177, e177, hx177_0⟩ := Kd.at_int (Kd.R_reads' HO_5.out).2.2 (rd t174 x53_3) p177 q177
                            cases e177
                            replace p177 := eq_true p177
                            replace q177 := eq_true q177
                            have p39 : 0 ≤ ((rd t174 x53_3) : Int) := of_decide_eq_true (by first | (with_reducible assumption) | assumption)
                            have q39 : ((rd t174 x53_3) : Int) < ((x5_3.length : Int) : Int) := of_decide_eq_true (by first | (with_reducible assumption) | assumption)
                            obtain ⟨go39, co39, eo39, gb39, gl39, cl39, HG39⟩ := Kd.R_form HO_5.out (by omega)
                            (first | cases eo39 | (injection eo39 with ea_ en_ ec_; (first | subst ea_ | (injection ea_ with ea_; subst ea_)); subst ec_; clear en_))
                            have GB39 := Aside0.mk gb39
                            have GG39 := Aside0.mk HG39
                            clear gb39 gl39 HG39
                            (first | simp only [add_plain] at hx177_0 | skip)
                            obtain ⟨hx39_0, hf39_0⟩ := Kd.R_celln 0 HO_5.out ((rd t174 x53_3) : Int) p39 q39
                            replace p39 := eq_true p39
                            replace q39 := eq_true q39
                            have HP40 := Kd.R_putg HO_5.out ((rd t174 x53_3) : Int) (wrap64 ((rd x5_3 (rd t174 x53_3)) + 1))
                            go_wp2_with (first | ((with_reducible refine gate_store (t := 3) (p := 64) rfl ?_); (try (rw [drewN_self wr]; generalize hq_ : World.drewN wr _ = wr; have n0_ := Aside0.mk (Kd.R_at hq_ HO_5.out); have n1_ := Aside0.mk (Kd.R_at hq_ HO_7.out); have n2_ := Aside0.mk (blk_at hq_ BK157.out); have n3_ := Aside0.mk (below_at hq_ HB.out); clear hq_ HO_5 HO_7 BK157 HB; have HO_5 := n0_; have HO_7 := n1_; have BK157 := n2_; have HB := n3_; (try clear hczT); have hczT := (HB.out.cell (p := ⟨gT, 0, none⟩) BKL.out).trans BKC.out; clear n0_ n1_ n2_ n3_; (try (have HP40 := Kd.R_putg HO_5.out ((rd t174 x53_3) : Int) (wrap64 ((rd x5_3 (rd t174 x53_3)) + 1)))))); refine store_event (t := 3) (p := 64) (v := ?vo_w41) (w1 := (wr.setCell ⟨go39, ((rd t174 x53_3) : Int).toNat, none⟩ (.int .i64 (wrap64 ((rd x5_3 (rd t174 x53_3)) + 1))))) ?hg ?ho ?hn ?hr ?_; (case ho => rfl); (case hg => rfl); (case hn => rfl); (case hr => first | (go_simp; done) | (go_simp; rfl)); intro w41 hw; have hg : wr.grownBy w41 (some go39) := (by rw [hw]; exact HP40.2); have hp_ : Kd.R (Kd.int .i64) 3 w41 w4.heap.size (fun k_ => some k_ ≠ (.slice (some ad176) t174.length co31 : Value).ownBlock) (.slice (some ⟨go39, 0, none⟩) x5_3.length co33) y178 := (by rw [hw, Ny178.out]; exact HP40.1); clear HP40; have n0_ := Aside0.mk (hp_); have n1_ := Aside0.mk (Kd.R_after (v := (.slice (some ⟨go39, 0, none⟩) x5_3.length co33)) (v1 := (.slice (some ⟨go39, 0, none⟩) x5_3.length co33)) (ok := (fun _ => True)) (by (with_reducible repeat (first | apply Kd.R_alloc | apply Kd.R_drewN | apply Kd.R_drew)); exact Kd.R_mono HO_7.out (fun _ hk => ⟨trivial, hk⟩)) hg (.inl rfl)); have n2_ := Aside0.mk (blk_grown (g := gb157) (o := .cells #[.slice A0_0 l0_0.length c0_0] 35 (0, 0)) (by (with_reducible repeat (first | refine blk_drewN ?_ _ | refine blk_drew ?_ | refine blk_alloc ?_ _)); exact BK157.out) hg (Kd.R_ne HO_5.out BK157.out (by decide))); have n3_ := Aside0.mk ((by rw [hw]; exact below_set (HB.out) GB39.out : Below w4.heap.size w4 w41)); clear HO_5; clear HO_7; clear BK157; clear HB; have HO_5 := n0_; have HO_7 := n1_; have BK157 := n2_; have HB := n3_; (try clear hczT); have hczT := (HB.out.cell (p := ⟨gT, 0, none⟩) BKL.out).trans BKC.out; clear n0_ n1_ n2_ n3_; clear hg hw hp_))
                            repeat (go_quiet (first | ((with_reducible refine gate_store (t := 3) (p := 64) rfl ?_); (try (rw [drewN_self wr]; generalize hq_ : World.drewN wr _ = wr; have n0_ := Aside0.mk (Kd.R_at hq_ HO_5.out); have n1_ := Aside0.mk (Kd.R_at hq_ HO_7.out); have n2_ := Aside0.mk (blk_at hq_ BK157.out); have n3_ := Aside0.mk (below_at hq_ HB.out); clear hq_ HO_5 HO_7 BK157 HB; have HO_5 := n0_; have HO_7 := n1_; have BK157 := n2_; have HB := n3_; (try clear hczT); have hczT := (HB.out.cell (p := ⟨gT, 0, none⟩) BKL.out).trans BKC.out; clear n0_ n1_ n2_ n3_; (try (have HP40 := Kd.R_putg HO_5.out ((rd t174 x53_3) : Int) (wrap64 ((rd x5_3 (rd t174 x53_3)) + 1)))))); refine store_event (t := 3) (p := 64) (v := ?vo_w41) (w1 := (wr.setCell ⟨go39, ((rd t174 x53_3) : Int).toNat, none⟩ (.int .i64 (wrap64 ((rd x5_3 (rd t174 x53_3)) + 1))))) ?hg ?ho ?hn ?hr ?_; (case ho => rfl); (case hg => rfl); (case hn => rfl); (case hr => first | (go_simp; done) | (go_simp; rfl)); intro w41 hw; have hg : wr.grownBy w41 (some go39) := (by rw [hw]; exact HP40.2); have hp_ : Kd.R (Kd.int .i64) 3 w41 w4.heap.size (fun k_ => some k_ ≠ (.slice (some ad176) t174.length co31 : Value).ownBlock) (.slice (some ⟨go39, 0, none⟩) x5_3.length co33) y178 := (by rw [hw, Ny178.out]; exact HP40.1); clear HP40; have n0_ := Aside0.mk (hp_); have n1_ := Aside0.mk (Kd.R_after (v := (.slice (some ⟨go39, 0, none⟩) x5_3.length co33)) (v1 := (.slice (some ⟨go39, 0, none⟩) x5_3.length co33)) (ok := (fun _ => True)) (by (with_reducible repeat (first | apply Kd.R_alloc | apply Kd.R_drewN | apply Kd.R_drew)); exact Kd.R_mono HO_7.out (fun _ hk => ⟨trivial, hk⟩)) hg (.inl rfl)); have n2_ := Aside0.mk (blk_grown (g := gb157) (o := .cells #[.slice A0_0 l0_0.length c0_0] 35 (0, 0)) (by (with_reducible repeat (first | refine blk_drewN ?_ _ | refine blk_drew ?_ | refine blk_alloc ?_ _)); exact BK157.out) hg (Kd.R_ne HO_5.out BK157.out (by decide))); have n3_ := Aside0.mk ((by rw [hw]; exact below_set (HB.out) GB39.out : Below w4.heap.size w4 w41)); clear HO_5; clear HO_7; clear BK157; clear HB; have HO_5 := n0_; have HO_7 := n1_; have BK157 := n2_; have HB := n3_; (try clear hczT); have hczT := (HB.out.cell (p := ⟨gT, 0, none⟩) BKL.out).trans BKC.out; clear n0_ n1_ n2_ n3_; clear hg hw hp_)); try go_wp2_with (first | ((with_reducible refine gate_store (t := 3) (p := 64) rfl ?_); (try (rw [drewN_self wr]; generalize hq_ : World.drewN wr _ = wr; have n0_ := Aside0.mk (Kd.R_at hq_ HO_5.out); have n1_ := Aside0.mk (Kd.R_at hq_ HO_7.out); have n2_ := Aside0.mk (blk_at hq_ BK157.out); have n3_ := Aside0.mk (below_at hq_ HB.out); clear hq_ HO_5 HO_7 BK157 HB; have HO_5 := n0_; have HO_7 := n1_; have BK157 := n2_; have HB := n3_; (try clear hczT); have hczT := (HB.out.cell (p := ⟨gT, 0, none⟩) BKL.out).trans BKC.out; clear n0_ n1_ n2_ n3_; (try (have HP40 := Kd.R_putg HO_5.out ((rd t174 x53_3) : Int) (wrap64 ((rd x5_3 (rd t174 x53_3)) + 1)))))); refine store_event (t := 3) (p := 64) (v := ?vo_w41) (w1 := (wr.setCell ⟨go39, ((rd t174 x53_3) : Int).toNat, none⟩ (.int .i64 (wrap64 ((rd x5_3 (rd t174 x53_3)) + 1))))) ?hg ?ho ?hn ?hr ?_; (case ho => rfl); (case hg => rfl); (case hn => rfl); (case hr => first | (go_simp; done) | (go_simp; rfl)); intro w41 hw; have hg : wr.grownBy w41 (some go39) := (by rw [hw]; exact HP40.2); have hp_ : Kd.R (Kd.int .i64) 3 w41 w4.heap.size (fun k_ => some k_ ≠ (.slice (some ad176) t174.length co31 : Value).ownBlock) (.slice (some ⟨go39, 0, none⟩) x5_3.length co33) y178 := (by rw [hw, Ny178.out]; exact HP40.1); clear HP40; have n0_ := Aside0.mk (hp_); have n1_ := Aside0.mk (Kd.R_after (v := (.slice (some ⟨go39, 0, none⟩) x5_3.length co33)) (v1 := (.slice (some ⟨go39, 0, none⟩) x5_3.length co33)) (ok := (fun _ => True)) (by (with_reducible repeat (first | apply Kd.R_alloc | apply Kd.R_drewN | apply Kd.R_drew)); exact Kd.R_mono HO_7.out (fun _ hk => ⟨trivial, hk⟩)) hg (.inl rfl)); have n2_ := Aside0.mk (blk_grown (g := gb157) (o := .cells #[.slice A0_0 l0_0.length c0_0] 35 (0, 0)) (by (with_reducible repeat (first | refine blk_drewN ?_ _ | refine blk_drew ?_ | refine blk_alloc ?_ _)); exact BK157.out) hg (Kd.R_ne HO_5.out BK157.out (by decide))); have n3_ := Aside0.mk ((by rw [hw]; exact below_set (HB.out) GB39.out : Below w4.heap.size w4 w41)); clear HO_5; clear HO_7; clear BK157; clear HB; have HO_5 := n0_; have HO_7 := n1_; have BK157 := n2_; have HB := n3_; (try clear hczT); have hczT := (HB.out.cell (p := ⟨gT, 0, none⟩) BKL.out).trans BKC.out; clear n0_ n1_ n2_ n3_; clear hg hw hp_)))
                            (try simp only [← hl5_3, ← hl7_3])
                            go_roundg k3
                            case measure => have := HJ2.out; have := HK2.out; have := HK3.out; omega
                            case rel => exact ⟨(y178), (wrap64 (x53_3 + 1)), (by first | rfl | (simp; done) | (simp [*]; done)), H', ⟨by have := HJ2.out; have := HK2.out; have := HK3.out; omega⟩, ⟨by (try simp only [hl5_3]); (try simp only [hl7_3]); (with_reducible repeat (first | apply Kd.R_alloc | apply Kd.R_drewN | apply Kd.R_drew)); exact HO_5.out⟩, ⟨by (try simp only [hl5_3]); (try simp only [hl7_3]); (with_reducible repeat (first | apply Kd.R_alloc | apply Kd.R_drewN | apply Kd.R_drew)); exact Kd.R_mono HO_7.out (fun _ hk => hk.2)⟩, ⟨by (try simp only [hl5_3]); (try simp only [hl7_3]); (with_reducible repeat (first | refine blk_drewN ?_ _ | refine blk_drew ?_ | refine blk_alloc ?_ _)); exact BK157.out⟩, ⟨by repeat (first | (with_reducible first | exact HB.out | apply below_alloc | apply pw_below_drewN | apply below_drew1) | exact HB.out)⟩⟩
                          · rw [if_neg c38] at H
                            exact absurd H (by simp)
                        · rw [if_neg c37] at H
                          exact absurd H (by simp)
                      · rw [if_neg c36] at H
                        exact absurd H (by simp)
                    · rw [if_neg c35] at H
                      exact absurd H (by simp)
                  · rw [if_neg c34] at H
                    have c34b0 : decide (x53_3 < (wrap64 (a1 - t175))) = false := decide_eq_false c34
                    clear c34
                    obtain rfl := Option.some.inj H
                    go_wp2
                    repeat (go_quiet (fail); try go_wp2)
                    go_ret
                    exact ⟨_, by first | rfl | (simp [errW_none, errW_some] <;> rfl) | (simp [*, errW_none, errW_some] <;> rfl), Kd.R_lower (by (with_reducible repeat (first | apply Kd.R_alloc | apply Kd.R_drewN | apply Kd.R_drew)); exact Kd.R_mono HO_5.out (fun _ hk => trivial)) (below_size HB4.out), below_step HB4.out (by repeat (first | (with_reducible first | exact HB.out | apply below_alloc | apply pw_below_drewN | apply below_drew1) | exact HB.out))⟩

/-! ### impl_ShareOf: function 53 -/
def impl_ShareOf.f (k : Nat) (l0_0 : List Int) (a1 : Int) (a2 : Int) : Option (Int) := (impl_SplitTotal.f k l0_0 a1).bind fun t125 => ((impl_isIndex.f a2 (t125.length : Int)).bind fun t128 => (if t128 = true then (if 0 ≤ a2 then (if a2 < (t125.length : Int) then (some (rd t125 a2)) else (none)) else (none)) else (some 0)))
theorem impl_ShareOf.mono : ∀ a0 a1 a2 k, LeO (impl_ShareOf.f k a0 a1 a2) (impl_ShareOf.f (k + 1) a0 a1 a2) := by
  intro a0 a1 a2 k
  unfold impl_ShareOf.f
  repeat' first
      | (with_reducible exact impl_SplitTotal.mono _ _ _)
      | (with_reducible exact LeO.refl _)
      | (with_reducible exact LeO.none _)
      | (with_reducible refine LeO.ite ?_ ?_)
      | (with_reducible refine LeO.bind ?_ (fun _ => ?_))
      | exact impl_SplitTotal.mono _ _ _
      | exact LeO.none _
      | refine LeO.ite ?_ ?_
      | refine LeO.bind ?_ (fun _ => ?_)
set_option maxHeartbeats 8000000 in
set_option maxRecDepth 100000 in
theorem impl_ShareOf.calls (k : Nat) (A0_0 : Option Addr) (c0_0 : Nat) (l0_0 : List Int) (a1 : Int) (a2 : Int) (r : Int) (w : World) (hr0_0 : Kd.C (Kd.int .i64) w A0_0 l0_0.length l0_0) (hc0_0 : l0_0.length ≤ c0_0) (h : impl_ShareOf.f k l0_0 a1 a2 = some r) :
    Calls Try.prog 53 #[.agg #[.slice A0_0 l0_0.length c0_0], .int .i64 a1, .int .i64 a2] w fun e w' => e = .returned (.int .i64 r) ∧ Below w.heap.size w w' := by
  have hu35 := Try.underlying35
  have HR0_0 := Aside0.mk hr0_0
  have HC0_0 := Aside0.mk hc0_0
  clear hr0_0 hc0_0
  have HB := Aside0.mk (Below.refl w.heap.size w)
  have H : ((impl_SplitTotal.f k l0_0 a1).bind fun t125 => ((impl_isIndex.f a2 (t125.length : Int)).bind fun t128 => (if t128 = true then (if 0 ≤ a2 then (if a2 < (t125.length : Int) then (some (rd t125 a2)) else (none)) else (none)) else (some 0)))) = some r := h
  clear h
  replace H := Option.bind_eq_some_iff.mp H
  obtain ⟨t125, A40, H⟩ := H
  replace H : ((impl_isIndex.f a2 (t125.length : Int)).bind fun t128 => (if t128 = true then (if 0 ≤ a2 then (if a2 < (t125.length : Int) then (some (rd t125 a2)) else (none)) else (none)) else (some 0))) = some r := H
  have A4 := Aside0.mk A40
  clear A40
  replace H := Option.bind_eq_some_iff.mp H
  obtain ⟨t128, A50, H⟩ := H
  replace H : (if t128 = true then (if 0 ≤ a2 then (if a2 < (t125.length : Int) then (some (rd t125 a2)) else (none)) else (none)) else (some 0)) = some r := H
  have A5 := Aside0.mk A50
  clear A50
  by_cases c6 : t128 = true
  · subst c6
    have H1 : (if 0 ≤ a2 then (if a2 < (t125.length : Int) then (some (rd t125 a2)) else (none)) else (none)) = some r := by rw [if_pos rfl] at H; exact H
    clear H
    have H := H1
    clear H1
    by_cases c7 : 0 ≤ a2
    · rw [if_pos c7] at H
      have c7b0 : decide (0 ≤ a2) = true := decide_eq_true c7
      clear c7
      by_cases c8 : a2 < (t125.length : Int)
      · rw [if_pos c8] at H
        have c8b0 : decide (a2 < (t125.length : Int)) = true := decide_eq_true c8
        clear c8
        obtain rfl := Option.some.inj H
        go_enter Try.func53, Try.ntmps53
        go_wp2_with (first | ((with_reducible refine gate_dst (N := 3) rfl ?_); refine box_event ?hg (N := 3) ?hd (cs := #[.slice A0_0 l0_0.length c0_0]) (t := 35) ?hr ?_; (case hd => rfl); (case hg => rfl); (case hr => first | (go_simp; done) | (go_simp; rfl)); intro gb124 hg w9 hbox hb; have n0_ := Aside0.mk (below_step (by repeat (first | (with_reducible first | exact HB.out | apply below_alloc | apply pw_below_drewN | apply below_drew1) | exact HB.out)) hb); have n1_ := Aside0.mk (hbox); have n2_ := Aside0.mk ((by rw [hg]; exact (below_size (by repeat (first | (with_reducible first | exact HB.out | apply below_alloc | apply pw_below_drewN | apply below_drew1) | exact HB.out))) : w.heap.size ≤ gb124)); have n3_ := Aside0.mk ((by rw [hg]; exact (below_size (by repeat (first | (with_reducible first | exact HB.out | apply below_alloc | apply pw_below_drewN | apply below_drew1) | exact HB.out))) : w.heap.size ≤ gb124)); clear HB; have HB := n0_; have BK124 := n1_; have GW124 := n2_; have GE124 := n3_; clear n0_ n1_ n2_ n3_; clear hb hbox hg; have hcz10_0 : w9.cell? ⟨gb124, 0, none⟩ = some (.slice A0_0 l0_0.length c0_0) := (blk_cell BK124.out 0).trans rfl; have hfz10_0 := blk_frozen BK124.out 0) | ((with_reducible refine gate_callee (f := 55) rfl ?_); refine goesL_ (some 10) rfl rfl Try.func55 (by kernel_rfl) rfl #[.agg #[.slice A0_0 l0_0.length c0_0], .int .i64 a1] rfl (by (try simp only [List.map_toArray, List.map_cons, List.map_nil]); first | done | rfl | (simp only [List.length_drop, List.length_take]; rfl)) ?_; (with_reducible refine (impl_SplitTotal.calls k _ _ l0_0 a1 t125 _ ?side1 ?side2 A4.out).mono ?_); (case side1 => repeat (first | exact (Kd.C_below HR0_0.out HB.out) | (with_reducible refine Kd.C_alloc ?_ _) | (with_reducible refine Kd.C_drewN ?_ _) | (with_reducible refine Kd.C_drew ?_))); (case side2 => exact HC0_0.out); rintro e w11 ⟨v126, rfl, ho0, hb⟩; refine ⟨_, rfl, ?_⟩; have n0_ := Aside0.mk (Kd.R_lower ho0 (below_size (by repeat (first | (with_reducible first | exact HB.out | apply below_alloc | apply pw_below_drewN | apply below_drew1 | refine below_set ?_ GE124.out) | exact HB.out)))); have n1_ := Aside0.mk (blk_below (g := gb124) (o := .cells #[.slice A0_0 l0_0.length c0_0] 35 (0, 0)) (by (with_reducible repeat (first | refine blk_drewN ?_ _ | refine blk_drew ?_ | refine blk_alloc ?_ _)); exact BK124.out) hb); have n2_ := Aside0.mk (below_step (by repeat (first | (with_reducible first | exact HB.out | apply below_alloc | apply pw_below_drewN | apply below_drew1 | refine below_set ?_ GE124.out) | exact HB.out)) hb); clear BK124; clear HB; have HO127 := n0_; have BK124 := n1_; have HB := n2_; clear n0_ n1_ n2_; (try clear hb); (try clear hb2); (try clear hk); (try clear hi); (try clear ho0); obtain ⟨Ao12, co12, eo12⟩ := Kd.R_slice HO127.out; subst eo12) | ((with_reducible refine gate_callee (f := 84) rfl ?_); refine goesL_ (some 14) rfl rfl Try.func84 (by kernel_rfl) rfl #[.int .i64 a2, .int .i64 (t125.length : Int)] rfl (by (try simp only [List.map_toArray, List.map_cons, List.map_nil]); first | done | rfl | (simp only [List.length_drop, List.length_take]; rfl)) ?_; (with_reducible refine (impl_isIndex.calls a2 (t125.length : Int) true _ A5.out).mono ?_); rintro e w' ⟨rfl, ⟨nd, rfl⟩⟩; refine ⟨_, rfl, ?_⟩; have p129 : 0 ≤ (a2 : Int) := of_decide_eq_true (by first | (with_reducible assumption) | assumption); have q129 : a2 < (t125.length : Int) := of_decide_eq_true (by first | (with_reducible assumption) | assumption); obtain ⟨ad129, e129, hx129_0⟩ := Kd.at_int (Kd.R_reads' HO127.out).2.2 a2 p129 q129; cases e129; replace p129 := eq_true p129; replace q129 := eq_true q129))
        go_ret
        exact ⟨by first | rfl | (simp [errW_none, errW_some] <;> rfl) | (simp [*, errW_none, errW_some] <;> rfl), by repeat (first | (with_reducible first | exact HB.out | apply below_alloc | apply pw_below_drewN | apply below_drew1 | refine below_set ?_ GE124.out) | exact HB.out)⟩
      · rw [if_neg c8] at H
        exact absurd H (by simp)
    · rw [if_neg c7] at H
      exact absurd H (by simp)
  · replace c6 := Bool.eq_false_iff.mpr c6
    subst c6
    have H1 : (some 0) = some r := by rw [if_neg (show ¬ (false = true) by decide)] at H; exact H
    clear H
    have H := H1
    clear H1
    obtain rfl := Option.some.inj H
    go_enter Try.func53, Try.ntmps53
    go_wp2_with (first | ((with_reducible refine gate_dst (N := 3) rfl ?_); refine box_event ?hg (N := 3) ?hd (cs := #[.slice A0_0 l0_0.length c0_0]) (t := 35) ?hr ?_; (case hd => rfl); (case hg => rfl); (case hr => first | (go_simp; done) | (go_simp; rfl)); intro gb124 hg w13 hbox hb; have n0_ := Aside0.mk (below_step (by repeat (first | (with_reducible first | exact HB.out | apply below_alloc | apply pw_below_drewN | apply below_drew1) | exact HB.out)) hb); have n1_ := Aside0.mk (hbox); have n2_ := Aside0.mk ((by rw [hg]; exact (below_size (by repeat (first | (with_reducible first | exact HB.out | apply below_alloc | apply pw_below_drewN | apply below_drew1) | exact HB.out))) : w.heap.size ≤ gb124)); have n3_ := Aside0.mk ((by rw [hg]; exact (below_size (by repeat (first | (with_reducible first | exact HB.out | apply below_alloc | apply pw_below_drewN | apply below_drew1) | exact HB.out))) : w.heap.size ≤ gb124)); clear HB; have HB := n0_; have BK124 := n1_; have GW124 := n2_; have GE124 := n3_; clear n0_ n1_ n2_ n3_; clear hb hbox hg; have hcz14_0 : w13.cell? ⟨gb124, 0, none⟩ = some (.slice A0_0 l0_0.length c0_0) := (blk_cell BK124.out 0).trans rfl; have hfz14_0 := blk_frozen BK124.out 0) | ((with_reducible refine gate_callee (f := 55) rfl ?_); refine goesL_ (some 10) rfl rfl Try.func55 (by kernel_rfl) rfl #[.agg #[.slice A0_0 l0_0.length c0_0], .int .i64 a1] rfl (by (try simp only [List.map_toArray, List.map_cons, List.map_nil]); first | done | rfl | (simp only [List.length_drop, List.length_take]; rfl)) ?_; (with_reducible refine (impl_SplitTotal.calls k _ _ l0_0 a1 t125 _ ?side1 ?side2 A4.out).mono ?_); (case side1 => repeat (first | exact (Kd.C_below HR0_0.out HB.out) | (with_reducible refine Kd.C_alloc ?_ _) | (with_reducible refine Kd.C_drewN ?_ _) | (with_reducible refine Kd.C_drew ?_))); (case side2 => exact HC0_0.out); rintro e w15 ⟨v126, rfl, ho0, hb⟩; refine ⟨_, rfl, ?_⟩; have n0_ := Aside0.mk (Kd.R_lower ho0 (below_size (by repeat (first | (with_reducible first | exact HB.out | apply below_alloc | apply pw_below_drewN | apply below_drew1 | refine below_set ?_ GE124.out) | exact HB.out)))); have n1_ := Aside0.mk (blk_below (g := gb124) (o := .cells #[.slice A0_0 l0_0.length c0_0] 35 (0, 0)) (by (with_reducible repeat (first | refine blk_drewN ?_ _ | refine blk_drew ?_ | refine blk_alloc ?_ _)); exact BK124.out) hb); have n2_ := Aside0.mk (below_step (by repeat (first | (with_reducible first | exact HB.out | apply below_alloc | apply pw_below_drewN | apply below_drew1 | refine below_set ?_ GE124.out) | exact HB.out)) hb); clear BK124; clear HB; have HO127 := n0_; have BK124 := n1_; have HB := n2_; clear n0_ n1_ n2_; (try clear hb); (try clear hb2); (try clear hk); (try clear hi); (try clear ho0); obtain ⟨Ao16, co16, eo16⟩ := Kd.R_slice HO127.out; subst eo16) | ((with_reducible refine gate_callee (f := 84) rfl ?_); refine goesL_ (some 14) rfl rfl Try.func84 (by kernel_rfl) rfl #[.int .i64 a2, .int .i64 (t125.length : Int)] rfl (by (try simp only [List.map_toArray, List.map_cons, List.map_nil]); first | done | rfl | (simp only [List.length_drop, List.length_take]; rfl)) ?_; (with_reducible refine (impl_isIndex.calls a2 (t125.length : Int) false _ A5.out).mono ?_); rintro e w' ⟨rfl, ⟨nd, rfl⟩⟩; refine ⟨_, rfl, ?_⟩))
    go_ret
    exact ⟨by first | rfl | (simp [errW_none, errW_some] <;> rfl) | (simp [*, errW_none, errW_some] <;> rfl), by repeat (first | (with_reducible first | exact HB.out | apply below_alloc | apply pw_below_drewN | apply below_drew1 | refine below_set ?_ GE124.out) | exact HB.out)⟩

/-! ### spec_l1In: function 81 -/
def spec_l1In.f (a0 : Int) (a1 : Int) (a2 : Int) : Option (Bool) := if a0 ≥ a1 then (some (decide (a0 ≤ a2))) else (some false)
set_option maxHeartbeats 8000000 in
set_option maxRecDepth 100000 in
theorem spec_l1In.calls (a0 : Int) (a1 : Int) (a2 : Int) (r : Bool) (w : World) (h : spec_l1In.f a0 a1 a2 = some r) :
    Calls Try.prog 81 #[.int .i64 a0, .int .i64 a1, .int .i64 a2] w fun e w' => e = .returned (.bool r) ∧ Drawn0 w w' := by
  have H : (if a0 ≥ a1 then (some (decide (a0 ≤ a2))) else (some false)) = some r := h
  clear h
  by_cases c4 : a0 ≥ a1
  · rw [if_pos c4] at H
    have c4b0 : decide (a1 ≤ a0) = true := decide_eq_true c4
    clear c4
    obtain rfl := Option.some.inj H
    go_enter Try.func81, Try.ntmps81
    go_wp2
    go_ret
    exact ⟨by first | rfl | (simp; done) | (simp [*]; done), by repeat (first | exact Drawn0.refl _ | apply Drawn0.step)⟩
  · rw [if_neg c4] at H
    have c4b0 : decide (a1 ≤ a0) = false := decide_eq_false c4
    clear c4
    obtain rfl := Option.some.inj H
    go_enter Try.func81, Try.ntmps81
    go_wp2
    go_ret
    exact ⟨by first | rfl | (simp; done) | (simp [*]; done), by repeat (first | exact Drawn0.refl _ | apply Drawn0.step)⟩

end Go.Proofs.Ytindlpkkapelhaa.PFnShared
