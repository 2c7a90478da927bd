/- The functions that the law reaches, as plain Lean functions, each with the proof that the Go code comes to its answers; conditions: those that each theorem names. (printed by a program of this session) -/
import Derived.Test.YtdodogkgmpaioaaPFnReachx0
namespace Go.Proofs.Ytdodogkgmpaioaa.PFnReach
open Go.RowKit Go.Proofs.YtdodogkgmpaioaaW.PrintWords Go.Proofs.YtdodogkgmpaioaaW.PrintLast Go.Proofs.YtdodogkgmpaioaaW.PrintMore
attribute [local go_sem] max2_int min2_int max_two min_two max_three min_three max_four min_four   -- for this text's walks alone
set_option linter.unusedVariables false
set_option linter.unusedSimpArgs false

/-! ### laws_big: function 25 -/
def laws_big.f (l0 : List Int) : Option (Bool) := some (decide ((l0.length : Int) > 1048576))
set_option maxHeartbeats 8000000 in
set_option maxRecDepth 100000 in
theorem laws_big.calls (A0 : Option Addr) (c0 : Nat) (l0 : List Int) (r : Bool) (w : World) (hr0 : Kd.C (Kd.int .u8) w A0 l0.length l0) (hc0 : l0.length ≤ c0) (h : laws_big.f l0 = some r) :
    Calls Try.prog 25 #[.slice A0 l0.length c0] w fun e w' => e = .returned (.bool r) ∧ Drawn0 w w' := by
  have HR0 := aM_ hr0
  have HC0 := aM_ hc0
  clear hr0 hc0
  have H : (some (decide ((l0.length : Int) > 1048576))) = some r := h
  clear h
  obtain rfl := Option.some.inj H
  go_enter Try.func25, Try.ntmps25
  go_wp2
  go_ret
  exact ⟨by first | rfl | (simp; done) | (simp [*]; done), by repeat (first | exact Drawn0.refl _ | apply Drawn0.step)⟩

/-! ### slices_IndexFunc_impl_Link_impl_Link: function 118 -/
def slices_IndexFunc_impl_Link_impl_Link.idxAt (p : S123 → Bool) : List S123 → Nat → Int
  | [], _ => -1
  | x :: l, i => if p x = true then ((i : Nat) : Int) else slices_IndexFunc_impl_Link_impl_Link.idxAt p l (i + 1)
def slices_IndexFunc_impl_Link_impl_Link.idx (p : S123 → Bool) (l : List S123) : Int := slices_IndexFunc_impl_Link_impl_Link.idxAt p l 0
theorem slices_IndexFunc_impl_Link_impl_Link.drop_cons (l : List S123) {i : Nat} (h : i < l.length) : l.drop i = l.getD i z123 :: l.drop (i + 1) := by
  rw [List.drop_eq_getElem_cons h, List.getD_eq_getElem?_getD, List.getElem?_eq_getElem h]
  rfl
theorem slices_IndexFunc_impl_Link_impl_Link.spot_of {w : World} {b off n : Nat} {spot : Option Nat} {l : List S123} (h : Kd.C k123 w (some ⟨b, off, spot⟩) n l) (hn : 0 < n) : spot = none ∧ b < w.heap.size := by
  obtain ⟨ad, cs, e0, hlen, hK, hcell⟩ := Kd.C_get h z123 0 (by omega) (by omega)
  obtain rfl := Option.some.inj e0
  have hl : 0 < cs.length := by rw [hlen]; exact (by decide : 0 < 2)
  have h1 : w.cell? (⟨b, off, spot⟩ : Addr) = some cs[0] := hcell 0 cs[0] (List.getElem?_eq_getElem hl)
  exact ⟨World.cell?_spot h1, World.block_lt_of_cell? w _ h1⟩
set_option maxHeartbeats 2000000 in
set_option maxRecDepth 100000 in
theorem slices_IndexFunc_impl_Link_impl_Link.walk (A0 : Option Addr) (c0 : Nat) (l0 : List S123) (p : S123 → Bool) (g : Nat) (lb : Array Value) (eg : ∀ args w, (callFunc g args).run Try.prog w = .ok (.enter g args) w) (w : World)
    (hr0 : Kd.C k123 w A0 l0.length l0)
    (hp : ∀ (W : World) (x : S123) (cs : List Value), Below w.heap.size w W → (k123).K w x cs → Calls Try.prog g (#[.agg cs.toArray] ++ lb) W fun e w' => e = .returned (.bool (p x)) ∧ Below w.heap.size w w') :
    Calls Try.prog 118 #[.slice A0 l0.length c0, .func (.func g) #[] lb] w fun e w' => e = .returned (.int .i64 (slices_IndexFunc_impl_Link_impl_Link.idx p l0)) ∧ Below w.heap.size w w' := by
  have hmax : l0.length ≤ 9223372036854775807 := hr0.2.1
  have HR0 := aM_ hr0
  have HP := aM_ hp
  clear hr0 hp
  go_enter Try.func118, Try.ntmps118
  go_wp2
  go_loopg [5, 8] l0.length (fun gg _ s8 wr => ∃ kk : Nat, kk ≤ l0.length ∧ l0.length - kk ≤ gg ∧ s8 = .int .i64 kk ∧ Aside0 (Below w.heap.size w wr) ∧ Aside0 (slices_IndexFunc_impl_Link_impl_Link.idx p l0 = slices_IndexFunc_impl_Link_impl_Link.idxAt p (l0.drop kk) kk))
  case atStart => exact ⟨0, Nat.zero_le _, by omega, rfl, ⟨Below.refl _ w⟩, ⟨rfl⟩⟩
  case round =>
    obtain ⟨kk, hkk, hg, rfl, BW, IX⟩ := hrel
    by_cases hlt : kk < l0.length
    · have hltz : (kk : Int) < (l0.length : Int) := by omega
      obtain ⟨ad, cs, e0, hlen, hK, hcell⟩ := Kd.C_get HR0.out z123 (kk : Int) (by omega) (by omega)
      subst e0
      obtain ⟨b, off, spot⟩ := ad
      obtain ⟨c0, c1, rfl⟩ : ∃ c0 c1, cs = [c0, c1] := by
        match cs, (show cs.length = 2 from hlen) with
        | [c0, c1], _ => exact ⟨c0, c1, rfl⟩
      obtain ⟨rfl, hbk⟩ := slices_IndexFunc_impl_Link_impl_Link.spot_of HR0.out (by omega)
      have hx0 : wr.cell? ⟨b, off + kk * 2, none⟩ = some c0 := by
        have h2 : w.cell? ((⟨b, off, none⟩ : Addr).add (kk * 2 + 0)) = some c0 := hcell 0 c0 rfl
        rw [Go.WideShapes.add_plain] at h2
        exact (BW.out.cell (p := ⟨b, off + kk * 2, none⟩) hbk).trans (by rw [show off + kk * 2 = off + (kk * 2 + 0) from rfl]; exact h2)
      have hx1 : wr.cell? ⟨b, off + kk * 2 + 1, none⟩ = some c1 := by
        have h2 : w.cell? ((⟨b, off, none⟩ : Addr).add (kk * 2 + 1)) = some c1 := hcell 1 c1 rfl
        rw [Go.WideShapes.add_plain] at h2
        exact (BW.out.cell (p := ⟨b, off + kk * 2 + 1, none⟩) hbk).trans (by rw [Nat.add_assoc]; exact h2)
      have hcall := HP.out wr (l0.getD kk z123) [c0, c1] BW.out hK
      have hnext := aM_ (slices_IndexFunc_impl_Link_impl_Link.drop_cons l0 hlt)
      have HH := aM_ hcall
      clear hcall hcell hlen
      generalize hy : l0.getD kk z123 = y at HH hnext
      clear hK
      have HY := aM_ hy
      clear hy
      cases hq : p y with
      | true =>
        have HC := aM_ (show Calls Try.prog g (#[.agg #[c0, c1]] ++ lb) wr fun e w' => e = .returned (.bool true) ∧ Below w.heap.size w w' by rw [← hq]; exact HH.out)
        have HQ := aM_ hq
        clear HH hq
        go_wp2_with (go_at_fn g; refine HC.out.mono ?_; rintro e w' ⟨rfl, hb'⟩)
        go_ret
        refine ⟨?_, hb'⟩
        rw [IX.out, hnext.out, slices_IndexFunc_impl_Link_impl_Link.idxAt, if_pos HQ.out]
        rfl
      | false =>
        have HC := aM_ (show Calls Try.prog g (#[.agg #[c0, c1]] ++ lb) wr fun e w' => e = .returned (.bool false) ∧ Below w.heap.size w w' by rw [← hq]; exact HH.out)
        have HQ := aM_ hq
        clear HH hq
        go_wp2_with (go_at_fn g; refine HC.out.mono ?_; rintro e w' ⟨rfl, hb'⟩)
        go_roundg (l0.length - (kk + 1))
        case measure => omega
        case rel =>
          refine ⟨kk + 1, by omega, by omega, by go_num, ⟨hb'⟩, ⟨?_⟩⟩
          rw [IX.out, hnext.out, slices_IndexFunc_impl_Link_impl_Link.idxAt, if_neg (by rw [HQ.out]; simp)]
    · have hltz : ¬ (kk : Int) < (l0.length : Int) := by omega
      have : kk = l0.length := by omega
      subst this
      go_wp2
      go_ret
      refine ⟨?_, BW.out⟩
      rw [IX.out, List.drop_length]
      rfl

/-! ### slices_ContainsFunc_impl_Link_impl_Link: function 93 -/
set_option maxHeartbeats 2000000 in
set_option maxRecDepth 100000 in
theorem slices_ContainsFunc_impl_Link_impl_Link.walk (A0 : Option Addr) (c0 : Nat) (l0 : List S123) (p : S123 → Bool) (g : Nat) (lb : Array Value) (eg : ∀ args w, (callFunc g args).run Try.prog w = .ok (.enter g args) w) (w : World)
    (hr0 : Kd.C k123 w A0 l0.length l0)
    (hp : ∀ (W : World) (x : S123) (cs : List Value), Below w.heap.size w W → (k123).K w x cs → Calls Try.prog g (#[.agg cs.toArray] ++ lb) W fun e w' => e = .returned (.bool (p x)) ∧ Below w.heap.size w w') :
    Calls Try.prog 93 #[.slice A0 l0.length c0, .func (.func g) #[] lb] w fun e w' => e = .returned (.bool (decide (slices_IndexFunc_impl_Link_impl_Link.idx p l0 ≥ 0))) ∧ Below w.heap.size w w' := by
  have HC := aM_ (slices_IndexFunc_impl_Link_impl_Link.walk A0 c0 l0 p g lb eg w hr0 hp)
  clear hr0 hp
  generalize slices_IndexFunc_impl_Link_impl_Link.idx p l0 = q at HC
  cases hq : decide (q ≥ 0)
  all_goals
    go_enter Try.func93, Try.ntmps93
    go_wp2_with (go_at_call 118; refine HC.out.mono ?_; rintro e w' ⟨rfl, hb⟩)
    go_ret
    exact ⟨rfl, hb⟩

/-! ### impl_HasLink: function 71 -/
def impl_HasLink.has (a b : Int) (x : S123) : Bool := (x.f0 == a) && (x.f1 == b) || (x.f0 == b) && (x.f1 == a)
set_option maxHeartbeats 2000000 in
set_option maxRecDepth 100000 in
theorem impl_HasLink.closure (x0 x1 a b : Int) (g g' : Nat) (W : World) (hc : W.cell? ⟨g, 0, none⟩ = some (.int .i64 a)) (hc' : W.cell? ⟨g', 0, none⟩ = some (.int .i64 b)) :
    Calls Try.prog 94 #[.agg #[.int .i64 x0, .int .i64 x1], .pointer (some ⟨g, 0, none⟩), .pointer (some ⟨g', 0, none⟩)] W fun e w' => e = .returned (.bool (impl_HasLink.has a b ⟨x0, x1⟩)) ∧ Below W.heap.size W w' := by
  have hlt := World.block_lt_of_cell? W _ hc
  have hlt' := World.block_lt_of_cell? W _ hc'
  unfold impl_HasLink.has
  dsimp only
  cases h1 : x0 == a <;> cases h2 : x1 == b <;> cases h3 : x0 == b <;> cases h4 : x1 == a
  all_goals
    go_enter Try.func94, Try.ntmps94
    go_wp2
    repeat (go_quiet (fail); try go_wp2)
    go_ret
    exact ⟨rfl, by repeat (first | exact Below.refl _ _ | apply wA_ | apply wN_ | apply wD_)⟩
def impl_HasLink.f (a0_0 : Int) (a0_1 : Int) (a0_2 : Int) (l0_3 : List (S103)) (a1 : Int) (a2 : Int) (a3 : Int) : Option (Bool) := some (decide (a1 ≥ 0) && decide (a1 < (l0_3.length : Int)) && decide (slices_IndexFunc_impl_Link_impl_Link.idx (impl_HasLink.has a2 a3) (rd_T103 l0_3 a1).f1 ≥ 0))
set_option maxHeartbeats 2000000 in
set_option maxRecDepth 100000 in
theorem impl_HasLink.calls (a0_0 : Int) (a0_1 : Int) (a0_2 : Int) (A0_3 : Option Addr) (c0_3 : Nat) (l0_3 : List (S103)) (a1 : Int) (a2 : Int) (a3 : Int) (r : Bool) (w : World) (hr0_3 : Kd.C k103 w A0_3 l0_3.length l0_3) (hc0_3 : l0_3.length ≤ c0_3) (h : impl_HasLink.f a0_0 a0_1 a0_2 l0_3 a1 a2 a3 = some r) :
    Calls Try.prog 71 #[.agg #[.int .i64 a0_0, .int .i64 a0_1, .int .i64 a0_2, .slice A0_3 l0_3.length c0_3], .int .i64 a1, .int .i64 a2, .int .i64 a3] w fun e w' => e = .returned (.bool r) ∧ Below w.heap.size w w' := by
  obtain rfl := Option.some.inj h
  clear h
  cases h1 : decide (a1 ≥ 0) with
  | false =>
    go_enter Try.func71, Try.ntmps71
    go_wp2
    repeat (go_quiet (fail); try go_wp2)
    go_ret
    exact ⟨rfl, by repeat (first | exact Below.refl _ _ | apply wA_ | apply wN_ | apply wD_)⟩
  | true =>
    cases h2 : decide (a1 < (l0_3.length : Int)) with
    | false =>
      go_enter Try.func71, Try.ntmps71
      go_wp2
      repeat (go_quiet (fail); try go_wp2)
      go_ret
      exact ⟨rfl, by repeat (first | exact Below.refl _ _ | apply wA_ | apply wN_ | apply wD_)⟩
    | true =>
      have hsz : ∀ o o' o2 : Obj, (((w.alloc o).alloc o').alloc o2).heap.size = w.heap.size + 3 := fun o o' o2 => by simp
      have hR : ∀ o o' o2 : Obj, Kd.C k103 (((w.alloc o).alloc o').alloc o2) A0_3 l0_3.length l0_3 := fun o o' o2 => cA_ (cA_ (cA_ hr0_3 o) o') o2
      have hca : ∀ o o2 : Obj, (((w.alloc o).alloc (.cells #[.int .i64 a2] 3)).alloc o2).cell? ⟨w.heap.size + 1, 0, none⟩ = some (.int .i64 a2) := fun o o2 => ((wA_ (Below.refl _ _) o2).cell (p := ⟨w.heap.size + 1, 0, none⟩) (by simp)).trans (by simp)
      have hcb : ∀ o o' : Obj, (((w.alloc o).alloc o').alloc (.cells #[.int .i64 a3] 3)).cell? ⟨w.heap.size + 1 + 1, 0, none⟩ = some (.int .i64 a3) := fun o o' => by
        have hX : ∀ X : World, (X.alloc (.cells #[.int .i64 a3] 3)).cell? ⟨X.heap.size, 0, none⟩ = some (.int .i64 a3) := fun X => by simp
        have h := hX ((w.alloc o).alloc o')
        rwa [show ((w.alloc o).alloc o').heap.size = w.heap.size + 1 + 1 from by simp] at h
      obtain ⟨ad, A2, c2, A3, c3, rfl, hx0, hx1, hx2, hx3, hl2, hk2, _, _⟩ := at_T103 (hR (.cells #[.int .i64 a0_0, .int .i64 a0_1, .int .i64 a0_2, .slice A0_3 l0_3.length c0_3] 31) (.cells #[.int .i64 a2] 3) (.cells #[.int .i64 a3] 3)) a1 (of_decide_eq_true h1) (of_decide_eq_true h2)
      have HS := aM_ (hsz (.cells #[.int .i64 a0_0, .int .i64 a0_1, .int .i64 a0_2, .slice (some ad) l0_3.length c0_3] 31) (.cells #[.int .i64 a2] 3) (.cells #[.int .i64 a3] 3))
      have HK := aM_ hk2
      have HCA := aM_ (hca (.cells #[.int .i64 a0_0, .int .i64 a0_1, .int .i64 a0_2, .slice (some ad) l0_3.length c0_3] 31) (.cells #[.int .i64 a3] 3))
      have HCB := aM_ (hcb (.cells #[.int .i64 a0_0, .int .i64 a0_1, .int .i64 a0_2, .slice (some ad) l0_3.length c0_3] 31) (.cells #[.int .i64 a2] 3))
      clear hr0_3 hsz hR hca hcb hx0 hx1 hx3 hk2
      have HW := aM_ (slices_ContainsFunc_impl_Link_impl_Link.walk A2 c2 (rd_T103 l0_3 a1).f1 (impl_HasLink.has a2 a3) 94 #[.pointer (some ⟨w.heap.size + 1, 0, none⟩), .pointer (some ⟨w.heap.size + 1 + 1, 0, none⟩)] (enters_of Try.func94 (by kernel_rfl) rfl) _ HK.out (fun W x cs hb hK => by
        obtain rfl := k123_open hK
        refine (impl_HasLink.closure x.f0 x.f1 a2 a3 (w.heap.size + 1) (w.heap.size + 1 + 1) W ((hb.cell (p := ⟨w.heap.size + 1, 0, none⟩) (by rw [HS.out]; show w.heap.size + 1 < w.heap.size + 3; omega)).trans HCA.out) ((hb.cell (p := ⟨w.heap.size + 1 + 1, 0, none⟩) (by rw [HS.out]; show w.heap.size + 1 + 1 < w.heap.size + 3; omega)).trans HCB.out)).mono ?_
        rintro e w' ⟨he, hb'⟩
        exact ⟨he, wS_ hb hb'⟩))
      clear HK HCA HCB HS
      generalize slices_IndexFunc_impl_Link_impl_Link.idx (impl_HasLink.has a2 a3) (rd_T103 l0_3 a1).f1 = q at HW
      have p1 : 0 ≤ a1 := of_decide_eq_true h1
      have q1 : a1 < (l0_3.length : Int) := of_decide_eq_true h2
      replace p1 := eq_true p1
      replace q1 := eq_true q1
      cases hq : decide (q ≥ 0)
      all_goals
        rw [hq] at HW
        clear hq
        go_enter Try.func71, Try.ntmps71
        go_wp2_with (first | (go_at_call 93; refine HW.out.mono ?_; rintro e w' ⟨rfl, hb⟩) | (go_at_call 62; go_in))
        go_ret
        exact ⟨rfl, wS_ (wA_ (wA_ (wA_ (Below.refl _ _) _) _) _) hb⟩

/-! ### slices_IndexFunc_impl_Piece_impl_Piece: function 95 -/
def slices_IndexFunc_impl_Piece_impl_Piece.idxAt (p : S103 → Bool) : List S103 → Nat → Int
  | [], _ => -1
  | x :: l, i => if p x = true then ((i : Nat) : Int) else slices_IndexFunc_impl_Piece_impl_Piece.idxAt p l (i + 1)
def slices_IndexFunc_impl_Piece_impl_Piece.idx (p : S103 → Bool) (l : List S103) : Int := slices_IndexFunc_impl_Piece_impl_Piece.idxAt p l 0
theorem slices_IndexFunc_impl_Piece_impl_Piece.drop_cons (l : List S103) {i : Nat} (h : i < l.length) : l.drop i = l.getD i z103 :: l.drop (i + 1) := by
  rw [List.drop_eq_getElem_cons h, List.getD_eq_getElem?_getD, List.getElem?_eq_getElem h]
  rfl
theorem slices_IndexFunc_impl_Piece_impl_Piece.spot_of {w : World} {b off n : Nat} {spot : Option Nat} {l : List S103} (h : Kd.C k103 w (some ⟨b, off, spot⟩) n l) (hn : 0 < n) : spot = none ∧ b < w.heap.size := by
  obtain ⟨ad, cs, e0, hlen, hK, hcell⟩ := Kd.C_get h z103 0 (by omega) (by omega)
  obtain rfl := Option.some.inj e0
  have hl : 0 < cs.length := by rw [hlen]; exact (by decide : 0 < 4)
  have h1 : w.cell? (⟨b, off, spot⟩ : Addr) = some cs[0] := hcell 0 cs[0] (List.getElem?_eq_getElem hl)
  exact ⟨World.cell?_spot h1, World.block_lt_of_cell? w _ h1⟩
set_option maxHeartbeats 2000000 in
set_option maxRecDepth 100000 in
theorem slices_IndexFunc_impl_Piece_impl_Piece.walk (A0 : Option Addr) (c0 : Nat) (l0 : List S103) (p : S103 → Bool) (g : Nat) (lb : Array Value) (eg : ∀ args w, (callFunc g args).run Try.prog w = .ok (.enter g args) w) (w : World)
    (hr0 : Kd.C k103 w A0 l0.length l0)
    (hp : ∀ (W : World) (x : S103) (cs : List Value), Below w.heap.size w W → (k103).K w x cs → Calls Try.prog g (#[.agg cs.toArray] ++ lb) W fun e w' => e = .returned (.bool (p x)) ∧ Below w.heap.size w w') :
    Calls Try.prog 95 #[.slice A0 l0.length c0, .func (.func g) #[] lb] w fun e w' => e = .returned (.int .i64 (slices_IndexFunc_impl_Piece_impl_Piece.idx p l0)) ∧ Below w.heap.size w w' := by
  have hmax : l0.length ≤ 9223372036854775807 := hr0.2.1
  have HR0 := aM_ hr0
  have HP := aM_ hp
  clear hr0 hp
  go_enter Try.func95, Try.ntmps95
  go_wp2
  go_loopg [5, 8] l0.length (fun gg _ s8 wr => ∃ kk : Nat, kk ≤ l0.length ∧ l0.length - kk ≤ gg ∧ s8 = .int .i64 kk ∧ Aside0 (Below w.heap.size w wr) ∧ Aside0 (slices_IndexFunc_impl_Piece_impl_Piece.idx p l0 = slices_IndexFunc_impl_Piece_impl_Piece.idxAt p (l0.drop kk) kk))
  case atStart => exact ⟨0, Nat.zero_le _, by omega, rfl, ⟨Below.refl _ w⟩, ⟨rfl⟩⟩
  case round =>
    obtain ⟨kk, hkk, hg, rfl, BW, IX⟩ := hrel
    by_cases hlt : kk < l0.length
    · have hltz : (kk : Int) < (l0.length : Int) := by omega
      obtain ⟨ad, cs, e0, hlen, hK, hcell⟩ := Kd.C_get HR0.out z103 (kk : Int) (by omega) (by omega)
      subst e0
      obtain ⟨b, off, spot⟩ := ad
      obtain ⟨c0, c1, c2, c3, rfl⟩ : ∃ c0 c1 c2 c3, cs = [c0, c1, c2, c3] := by
        match cs, (show cs.length = 4 from hlen) with
        | [c0, c1, c2, c3], _ => exact ⟨c0, c1, c2, c3, rfl⟩
      obtain ⟨rfl, hbk⟩ := slices_IndexFunc_impl_Piece_impl_Piece.spot_of HR0.out (by omega)
      have hx0 : wr.cell? ⟨b, off + kk * 4, none⟩ = some c0 := by
        have h2 : w.cell? ((⟨b, off, none⟩ : Addr).add (kk * 4 + 0)) = some c0 := hcell 0 c0 rfl
        rw [Go.WideShapes.add_plain] at h2
        exact (BW.out.cell (p := ⟨b, off + kk * 4, none⟩) hbk).trans (by rw [show off + kk * 4 = off + (kk * 4 + 0) from rfl]; exact h2)
      have hx1 : wr.cell? ⟨b, off + kk * 4 + 1, none⟩ = some c1 := by
        have h2 : w.cell? ((⟨b, off, none⟩ : Addr).add (kk * 4 + 1)) = some c1 := hcell 1 c1 rfl
        rw [Go.WideShapes.add_plain] at h2
        exact (BW.out.cell (p := ⟨b, off + kk * 4 + 1, none⟩) hbk).trans (by rw [Nat.add_assoc]; exact h2)
      have hx2 : wr.cell? ⟨b, off + kk * 4 + 2, none⟩ = some c2 := by
        have h2 : w.cell? ((⟨b, off, none⟩ : Addr).add (kk * 4 + 2)) = some c2 := hcell 2 c2 rfl
        rw [Go.WideShapes.add_plain] at h2
        exact (BW.out.cell (p := ⟨b, off + kk * 4 + 2, none⟩) hbk).trans (by rw [Nat.add_assoc]; exact h2)
      have hx3 : wr.cell? ⟨b, off + kk * 4 + 3, none⟩ = some c3 := by
        have h2 : w.cell? ((⟨b, off, none⟩ : Addr).add (kk * 4 + 3)) = some c3 := hcell 3 c3 rfl
        rw [Go.WideShapes.add_plain] at h2
        exact (BW.out.cell (p := ⟨b, off + kk * 4 + 3, none⟩) hbk).trans (by rw [Nat.add_assoc]; exact h2)
      have hcall := HP.out wr (l0.getD kk z103) [c0, c1, c2, c3] BW.out hK
      have hnext := aM_ (slices_IndexFunc_impl_Piece_impl_Piece.drop_cons l0 hlt)
      have HH := aM_ hcall
      clear hcall hcell hlen
      generalize hy : l0.getD kk z103 = y at HH hnext
      clear hK
      have HY := aM_ hy
      clear hy
      cases hq : p y with
      | true =>
        have HC := aM_ (show Calls Try.prog g (#[.agg #[c0, c1, c2, c3]] ++ lb) wr fun e w' => e = .returned (.bool true) ∧ Below w.heap.size w w' by rw [← hq]; exact HH.out)
        have HQ := aM_ hq
        clear HH hq
        go_wp2_with (go_at_fn g; refine HC.out.mono ?_; rintro e w' ⟨rfl, hb'⟩)
        go_ret
        refine ⟨?_, hb'⟩
        rw [IX.out, hnext.out, slices_IndexFunc_impl_Piece_impl_Piece.idxAt, if_pos HQ.out]
        rfl
      | false =>
        have HC := aM_ (show Calls Try.prog g (#[.agg #[c0, c1, c2, c3]] ++ lb) wr fun e w' => e = .returned (.bool false) ∧ Below w.heap.size w w' by rw [← hq]; exact HH.out)
        have HQ := aM_ hq
        clear HH hq
        go_wp2_with (go_at_fn g; refine HC.out.mono ?_; rintro e w' ⟨rfl, hb'⟩)
        go_roundg (l0.length - (kk + 1))
        case measure => omega
        case rel =>
          refine ⟨kk + 1, by omega, by omega, by go_num, ⟨hb'⟩, ⟨?_⟩⟩
          rw [IX.out, hnext.out, slices_IndexFunc_impl_Piece_impl_Piece.idxAt, if_neg (by rw [HQ.out]; simp)]
    · have hltz : ¬ (kk : Int) < (l0.length : Int) := by omega
      have : kk = l0.length := by omega
      subst this
      go_wp2
      go_ret
      refine ⟨?_, BW.out⟩
      rw [IX.out, List.drop_length]
      rfl

/-! ### impl_PieceAt: function 72 -/
def impl_PieceAt.has (a b t : Int) : Bool := decide (a ≥ 0) && decide (b ≤ 1000) && decide (a < b) && decide (a ≤ t) && decide (t < b)
set_option maxHeartbeats 2000000 in
set_option maxRecDepth 100000 in
theorem impl_PieceAt.closure (x0 x1 t : Int) (v2 v3 : Value) (g : Nat) (W : World) (hc : W.cell? ⟨g, 0, none⟩ = some (.int .i64 t)) :
    Calls Try.prog 96 #[.agg #[.int .i64 x0, .int .i64 x1, v2, v3], .pointer (some ⟨g, 0, none⟩)] W fun e w' => e = .returned (.bool (impl_PieceAt.has x0 x1 t)) ∧ Below W.heap.size W w' := by
  have hlt := World.block_lt_of_cell? W _ hc
  go_enter Try.func96, Try.ntmps96
  unfold impl_PieceAt.has
  cases h1 : decide (x0 ≥ 0) <;> cases h2 : decide (x1 ≤ 1000) <;> cases h3 : decide (x0 < x1) <;> cases h4 : decide (x0 ≤ t) <;> cases h5 : decide (t < x1)
  all_goals first
    | (go_wp2; go_ret; exact ⟨rfl, by repeat (first | exact Below.refl _ _ | apply wA_ | apply wN_ | apply wD_)⟩)
def impl_PieceAt.f (a0_0 : Int) (a0_1 : Int) (a0_2 : Int) (l0_3 : List (S103)) (a1 : Int) : Option (Int) := some (slices_IndexFunc_impl_Piece_impl_Piece.idx (fun x => impl_PieceAt.has x.f0.f0 x.f0.f1 a1) l0_3)
set_option maxHeartbeats 2000000 in
set_option maxRecDepth 100000 in
theorem impl_PieceAt.calls (a0_0 : Int) (a0_1 : Int) (a0_2 : Int) (A0_3 : Option Addr) (c0_3 : Nat) (l0_3 : List (S103)) (a1 : Int) (r : Int) (w : World) (hr0_3 : Kd.C k103 w A0_3 l0_3.length l0_3) (hc0_3 : l0_3.length ≤ c0_3) (h : impl_PieceAt.f a0_0 a0_1 a0_2 l0_3 a1 = some r) :
    Calls Try.prog 72 #[.agg #[.int .i64 a0_0, .int .i64 a0_1, .int .i64 a0_2, .slice A0_3 l0_3.length c0_3], .int .i64 a1] w fun e w' => e = .returned (.int .i64 r) ∧ Below w.heap.size w w' := by
  obtain rfl := Option.some.inj h
  have HR := aM_ hr0_3
  clear hr0_3 h
  go_enter Try.func72, Try.ntmps72
  have hsz : ∀ o o' : Obj, ((w.alloc o).alloc o').heap.size = w.heap.size + 2 := fun o o' => by simp
  have hR : ∀ o o' : Obj, Kd.C k103 ((w.alloc o).alloc o') A0_3 l0_3.length l0_3 := fun o o' => cA_ (cA_ HR.out o) o'
  have hcell : ∀ o : Obj, ((w.alloc o).alloc (.cells #[.int .i64 a1] 3)).cell? ⟨w.heap.size + 1, 0, none⟩ = some (.int .i64 a1) := fun o => by simp
  have HS := aM_ hsz
  have HR2 := aM_ hR
  have HC2 := aM_ hcell
  clear hsz hR hcell
  go_wp2_with (go_at_call 95; refine (slices_IndexFunc_impl_Piece_impl_Piece.walk A0_3 c0_3 l0_3 (fun x => impl_PieceAt.has x.f0.f0 x.f0.f1 a1) 96 #[.pointer (some ⟨w.heap.size + 1, 0, none⟩)] (enters_of Try.func96 (by kernel_rfl) rfl) _ (HR2.out _ _) ?hp).mono ?_; (case hp => (intro W x cs hb hK; obtain ⟨A2, c2, A3, c3, rfl, _, _, _, _⟩ := k103_open hK; refine (impl_PieceAt.closure x.f0.f0 x.f0.f1 a1 (.slice A2 x.f1.length c2) (.slice A3 x.f2.length c3) (w.heap.size + 1) W ((hb.cell (p := ⟨w.heap.size + 1, 0, none⟩) (by rw [HS.out]; show w.heap.size + 1 < w.heap.size + 2; omega)).trans (HC2.out _))).mono ?_; rintro e w' ⟨he, hb'⟩; exact ⟨he, wS_ hb hb'⟩)); rintro e w' ⟨rfl, hb⟩)
  go_ret
  exact ⟨rfl, wS_ (wA_ (wA_ (Below.refl _ _) _) _) hb⟩

/-! ### impl_IsLinked: function 41 -/
def impl_IsLinked.f (a0_0 : Int) (a0_1 : Int) (a0_2 : Int) (l0_3 : List (S103)) (a1 : Int) (a2 : Int) (a3 : Int) : Option (Bool) := (impl_PieceAt.f a0_0 a0_1 a0_2 l0_3 a3).bind fun t102 => ((impl_HasLink.f a0_0 a0_1 a0_2 l0_3 t102 a1 a2).bind fun t103 => (some t103))
def impl_IsLinked.T1 : Bool × List (List Nat × List Nat) := (true, [([], []), ([], []), ([], []), ([1, 2], [1, 2]), ([], []), ([], []), ([0, 3, 4, 5, 3], [0, 3, 4, 5]), ([6, 6, 0, 1, 2, 3, 4, 5, 6], [6])])
def impl_IsLinked.B1 : List Nat := [0, 0, 0, 6, 0, 0, 63, 127]
theorem impl_IsLinked.tab1 : rtab .any (opsOf Try.f41 1) = impl_IsLinked.T1 := by kernel_rfl
theorem impl_IsLinked.bits1 : waitsOk impl_IsLinked.T1.2 impl_IsLinked.B1 = true := by kernel_rfl
set_option maxHeartbeats 8000000 in
set_option maxRecDepth 100000 in
theorem impl_IsLinked.calls (a0_0 : Int) (a0_1 : Int) (a0_2 : Int) (A0_3 : Option Addr) (c0_3 : Nat) (l0_3 : List (S103)) (a1 : Int) (a2 : Int) (a3 : Int) (r : Bool) (w : World) (hr0_3 : Kd.C k103 w A0_3 l0_3.length l0_3) (hc0_3 : l0_3.length ≤ c0_3) (h : impl_IsLinked.f a0_0 a0_1 a0_2 l0_3 a1 a2 a3 = some r) :
    Calls Try.prog 41 #[.agg #[.int .i64 a0_0, .int .i64 a0_1, .int .i64 a0_2, .slice A0_3 l0_3.length c0_3], .int .i64 a1, .int .i64 a2, .int .i64 a3] w fun e w' => e = .returned (.bool r) ∧ Below w.heap.size w w' := by
  have hu31 := Try.underlying31
  have HR0_3 := aM_ hr0_3
  have HC0_3 := aM_ hc0_3
  clear hr0_3 hc0_3
  have HB := aM_ (Below.refl w.heap.size w)
  have H : ((impl_PieceAt.f a0_0 a0_1 a0_2 l0_3 a3).bind fun t102 => ((impl_HasLink.f a0_0 a0_1 a0_2 l0_3 t102 a1 a2).bind fun t103 => (some t103))) = some r := h
  clear h
  replace H := Option.bind_eq_some_iff.mp H
  obtain ⟨t102, A50, H⟩ := H
  replace H : ((impl_HasLink.f a0_0 a0_1 a0_2 l0_3 t102 a1 a2).bind fun t103 => (some t103)) = some r := H
  have A5 := aM_ A50
  clear A50
  replace H := Option.bind_eq_some_iff.mp H
  obtain ⟨t103, A60, H⟩ := H
  replace H : (some t103) = some r := H
  have A6 := aM_ A60
  clear A60
  obtain rfl := Option.some.inj H
  go_enter Try.func41, Try.ntmps41
  try go_wp2_with (first | ((with_reducible refine gate_dst (N := 4) rfl ?_); refine box_event ?hg (N := 4) ?hd (cs := #[.int .i64 a0_0, .int .i64 a0_1, .int .i64 a0_2, .slice A0_3 l0_3.length c0_3]) (t := 31) ?hr ?_; (case hd => rfl); (case hg => rfl); (case hr => first | (go_simp; done) | (go_simp; rfl)); intro gb101 hg w7 hbox hb; have n0_ := aM_ (wS_ (bw_) hb); have n1_ := aM_ (hbox); have n2_ := aM_ ((by rw [hg]; exact (sZ_ (bw_)) : w.heap.size ≤ gb101)); have n3_ := aM_ ((by rw [hg]; exact (sZ_ (bw_)) : w.heap.size ≤ gb101)); clear HB; have HB := n0_; have BK101 := n1_; have GW101 := n2_; have GE101 := n3_; clear n0_ n1_ n2_ n3_ hb hbox hg))
  have n0_ := aM_ (bD_ BK101.out)
  have n1_ := aM_ (wD_ HB.out)
  clear BK101
  clear HB
  have BK101 := n0_
  have HB := n1_
  clear n0_ n1_
  refine start_ (n := 8) (S := fun w' => w'.cell? ⟨gb101, 0, none⟩ = some (.int .i64 a0_0) ∧ w'.cell? ⟨gb101, 1, none⟩ = some (.int .i64 a0_1) ∧ w'.cell? ⟨gb101, 2, none⟩ = some (.int .i64 a0_2) ∧ w'.cell? ⟨gb101, 3, none⟩ = some (.slice A0_3 l0_3.length c0_3)) (ds := []) #[false, false, false, false, false, false, false, false] (by kernel_rfl) rfl rfl ⟨(blk_cell BK101.out 0).trans rfl, (blk_cell BK101.out 1).trans rfl, (blk_cell BK101.out 2).trans rfl, (blk_cell BK101.out 3).trans rfl⟩ (fun hHeld => ?_); refine with_tabW impl_IsLinked.tab1 impl_IsLinked.bits1 (fun HT_ HW_ => ?_)
  generalize w7.drew = w8 at BK101 HB hHeld ⊢
  refine pure_ (i := 2) (N := some 11) (v := ?_) (a' := ?_) #[false, false, true, false, false, false, false, false] rfl rfl (any_of HT_.out (by kernel_rfl)) (fun _ _ _ h => h) (Or.inl ⟨by rfl, ?_⟩) ?_ ?_
  rotate_left
  · intro w'
    go_simp
    with_reducible rfl
  rotate_left
  · simp only [Act.put, List.setIfInBounds_toArray, List.set_cons_zero, List.set_cons_succ, i64_w, i32_w]
    rfl
  refine pure_ (i := 4) (N := some 13) (v := ?_) (a' := ?_) #[false, false, true, false, true, false, false, false] rfl rfl (any_of HT_.out (by kernel_rfl)) (fun _ _ _ h => h) (Or.inl ⟨by rfl, ?_⟩) ?_ ?_
  rotate_left
  · intro w'
    go_simp
    with_reducible rfl
  rotate_left
  · simp only [Act.put, List.setIfInBounds_toArray, List.set_cons_zero, List.set_cons_succ, i64_w, i32_w]
    rfl
  refine pure_ (i := 5) (N := some 14) (v := ?_) (a' := ?_) #[false, false, true, false, true, true, false, false] rfl rfl (any_of HT_.out (by kernel_rfl)) (fun _ _ _ h => h) (Or.inl ⟨by rfl, ?_⟩) ?_ ?_
  rotate_left
  · intro w'
    go_simp
    with_reducible rfl
  rotate_left
  · simp only [Act.put, List.setIfInBounds_toArray, List.set_cons_zero, List.set_cons_succ, i64_w, i32_w]
    rfl
  refine take_ (i := 0) (N := some 9) (v := ?_) (a' := ?_) #[true, false, true, false, true, true, false, false] rfl rfl (take_ofW HT_.out HW_.out (by kernel_rfl)) (fun _ _ _ h => h) (Or.inl ⟨by rfl, ?_⟩) hHeld ?_ ?_
  rotate_left
  · rintro w' ⟨s0, s1, s2, s3⟩
    go_simp
    with_reducible rfl
  rotate_left
  · simp only [Act.put, List.setIfInBounds_toArray, List.set_cons_zero, List.set_cons_succ, i64_w, i32_w]
    rfl
  refine take_ (i := 1) (N := some 10) (v := ?_) (a' := ?_) #[true, true, true, false, true, true, false, false] rfl rfl (take_ofW HT_.out HW_.out (by kernel_rfl)) (fun _ _ _ h => h) (Or.inl ⟨by rfl, ?_⟩) hHeld ?_ ?_
  rotate_left
  · rintro w' ⟨s0, s1, s2, s3⟩
    go_simp
    with_reducible rfl
  rotate_left
  · simp only [Act.put, List.setIfInBounds_toArray, List.set_cons_zero, List.set_cons_succ, i64_w, i32_w]
    rfl
  refine one_ (i := 3) (N := some 12) #[true, true, true, true, true, true, false, false] rfl rfl (one_of HT_.out (by kernel_rfl)) (by decide) (fun K hK => ?_)
  refine goes_ Try.func72 (by kernel_rfl) rfl #[.agg #[.int .i64 a0_0, .int .i64 a0_1, .int .i64 a0_2, .slice A0_3 l0_3.length c0_3], .int .i64 a3] (by rfl) rfl rfl (by (try simp only [List.map_toArray, List.map_cons, List.map_nil]); first | done | rfl | (simp only [List.length_drop, List.length_take]; rfl)) ?_
  with_reducible refine (impl_PieceAt.calls a0_0 a0_1 a0_2 _ _ l0_3 a3 t102 _ ?side1 ?side2 A5.out).mono ?_
  (case side1 => repeat (first | exact (Kd.C_below HR0_3.out HB.out) | (with_reducible refine cA_ ?_ _) | (with_reducible refine cN_ ?_ _) | (with_reducible refine cD_ ?_)))
  (case side2 => exact HC0_3.out)
  rintro e w9 ⟨rfl, hb⟩
  refine ⟨_, rfl, ?_⟩
  have n0_ := aM_ (bB_ (kb_ BK101.out) hb)
  have n1_ := aM_ (wS_ (bw_) hb)
  clear BK101
  clear HB
  have BK101 := n0_
  have HB := n1_
  clear n0_ n1_
  (try clear hb)
  (try clear hb2)
  (try clear hk)
  (try clear hi)
  refine hK.out _ _ ⟨(blk_cell BK101.out 0).trans rfl, (blk_cell BK101.out 1).trans rfl, (blk_cell BK101.out 2).trans rfl, (blk_cell BK101.out 3).trans rfl⟩ (fun hHeld => ?_)
  clear hK K
  refine norm_ (a' := ?_) ?_ ?_
  rotate_left
  · show Act.put _ (some 12) _ = _
    simp only [Act.put, List.setIfInBounds_toArray, List.set_cons_zero, List.set_cons_succ, i64_w, i32_w]
    rfl
  refine one_ (i := 6) (N := some 15) #[true, true, true, true, true, true, true, false] rfl rfl (one_of HT_.out (by kernel_rfl)) (by decide) (fun K hK => ?_)
  refine goes_ Try.func71 (by kernel_rfl) rfl #[.agg #[.int .i64 a0_0, .int .i64 a0_1, .int .i64 a0_2, .slice A0_3 l0_3.length c0_3], .int .i64 t102, .int .i64 a1, .int .i64 a2] (by rfl) rfl rfl (by (try simp only [List.map_toArray, List.map_cons, List.map_nil]); first | done | rfl | (simp only [List.length_drop, List.length_take]; rfl)) ?_
  with_reducible refine (impl_HasLink.calls a0_0 a0_1 a0_2 _ _ l0_3 t102 a1 a2 t103 _ ?side1 ?side2 A6.out).mono ?_
  (case side1 => repeat (first | exact (Kd.C_below HR0_3.out HB.out) | (with_reducible refine cA_ ?_ _) | (with_reducible refine cN_ ?_ _) | (with_reducible refine cD_ ?_)))
  (case side2 => exact HC0_3.out)
  rintro e w10 ⟨rfl, hb⟩
  refine ⟨_, rfl, ?_⟩
  have n0_ := aM_ (bB_ (kb_ BK101.out) hb)
  have n1_ := aM_ (wS_ (bw_) hb)
  clear BK101
  clear HB
  have BK101 := n0_
  have HB := n1_
  clear n0_ n1_
  (try clear hb)
  (try clear hb2)
  (try clear hk)
  (try clear hi)
  refine hK.out _ _ ⟨(blk_cell BK101.out 0).trans rfl, (blk_cell BK101.out 1).trans rfl, (blk_cell BK101.out 2).trans rfl, (blk_cell BK101.out 3).trans rfl⟩ (fun hHeld => ?_)
  clear hK K
  refine norm_ (a' := ?_) ?_ ?_
  rotate_left
  · show Act.put _ (some 15) _ = _
    simp only [Act.put, List.setIfInBounds_toArray, List.set_cons_zero, List.set_cons_succ, i64_w, i32_w]
    rfl
  refine pure_ (i := 7) (N := some 8) (v := ?_) (a' := ?_) #[true, true, true, true, true, true, true, true] rfl rfl (any_of HT_.out (by kernel_rfl)) (fun _ _ _ h => h) (Or.inl ⟨by rfl, ?_⟩) ?_ ?_
  rotate_left
  · intro w'
    go_simp
    with_reducible rfl
  rotate_left
  · simp only [Act.put, List.setIfInBounds_toArray, List.set_cons_zero, List.set_cons_succ, i64_w, i32_w]
    rfl
  refine done_ (done_of HT_.out (by kernel_rfl)) ?_
  try go_wp2
  go_ret
  exact ⟨by first | rfl | (simp [errW_none, errW_some] <;> rfl) | (simp [*, errW_none, errW_some] <;> rfl), bw_⟩

/-! ### impl_InRange: function 76 -/
def impl_InRange.f (a0 : Int) (a1 : Int) (a2 : Int) : Option (Bool) := if a1 ≤ a0 then (some (decide (a0 ≤ a2))) else (some false)
set_option maxHeartbeats 8000000 in
set_option maxRecDepth 100000 in
theorem impl_InRange.calls (a0 : Int) (a1 : Int) (a2 : Int) (r : Bool) (w : World) (h : impl_InRange.f a0 a1 a2 = some r) :
    Calls Try.prog 76 #[.int .i64 a0, .int .i64 a1, .int .i64 a2] w fun e w' => e = .returned (.bool r) ∧ Drawn0 w w' := by
  have H : (if a1 ≤ a0 then (some (decide (a0 ≤ a2))) else (some false)) = some r := h
  clear h
  by_cases c4 : a1 ≤ a0
  · rw [if_pos c4] at H
    have c4b0 : decide (a1 ≤ a0) = true := decide_eq_true c4
    clear c4
    obtain rfl := Option.some.inj H
    go_enter Try.func76, Try.ntmps76
    go_wp2
    go_ret
    exact ⟨by first | rfl | (simp; done) | (simp [*]; done), by repeat (first | exact Drawn0.refl _ | apply Drawn0.step)⟩
  · rw [if_neg c4] at H
    have c4b0 : decide (a1 ≤ a0) = false := decide_eq_false c4
    clear c4
    obtain rfl := Option.some.inj H
    go_enter Try.func76, Try.ntmps76
    go_wp2
    go_ret
    exact ⟨by first | rfl | (simp; done) | (simp [*]; done), by repeat (first | exact Drawn0.refl _ | apply Drawn0.step)⟩

/-! ### impl_isNumber: function 47 -/
def impl_isNumber.f (a0 : Int) : Option (Bool) := (impl_InRange.f a0 1 12).bind fun t104 => (some t104)
set_option maxHeartbeats 8000000 in
set_option maxRecDepth 100000 in
theorem impl_isNumber.calls (a0 : Int) (r : Bool) (w : World) (h : impl_isNumber.f a0 = some r) :
    Calls Try.prog 47 #[.int .i64 a0] w fun e w' => e = .returned (.bool r) ∧ Drawn0 w w' := by
  have H : ((impl_InRange.f a0 1 12).bind fun t104 => (some t104)) = some r := h
  clear h
  replace H := Option.bind_eq_some_iff.mp H
  obtain ⟨t104, A20, H⟩ := H
  replace H : (some t104) = some r := H
  have A2 := aM_ A20
  clear A20
  obtain rfl := Option.some.inj H
  go_enter Try.func47, Try.ntmps47
  go_wp2_with (first | ((with_reducible refine gate_callee (f := 76) rfl ?_); refine goesL_ (some 4) rfl rfl Try.func76 (by kernel_rfl) rfl #[.int .i64 a0, .int .i64 1, .int .i64 12] rfl (by (try simp only [List.map_toArray, List.map_cons, List.map_nil]); first | done | rfl | (simp only [List.length_drop, List.length_take]; rfl)) ?_; (with_reducible refine (impl_InRange.calls a0 1 12 t104 _ A2.out).mono ?_); rintro e w' ⟨rfl, ⟨nd, rfl⟩⟩; refine ⟨_, rfl, ?_⟩))
  go_ret
  exact ⟨by first | rfl | (simp; done) | (simp [*]; done), by repeat (first | exact Drawn0.refl _ | apply Drawn0.step)⟩

/-! ### impl_isIndex: function 62 -/
def impl_isIndex.f (a0 : Int) (a1 : Int) : Option (Bool) := if a0 ≥ 0 then (some (decide (a0 < a1))) else (some false)
set_option maxHeartbeats 8000000 in
set_option maxRecDepth 100000 in
theorem impl_isIndex.calls (a0 : Int) (a1 : Int) (r : Bool) (w : World) (h : impl_isIndex.f a0 a1 = some r) :
    Calls Try.prog 62 #[.int .i64 a0, .int .i64 a1] w fun e w' => e = .returned (.bool r) ∧ Drawn0 w w' := by
  have H : (if a0 ≥ 0 then (some (decide (a0 < a1))) else (some false)) = some r := h
  clear h
  by_cases c3 : a0 ≥ 0
  · rw [if_pos c3] at H
    have c3b0 : decide (0 ≤ a0) = true := decide_eq_true c3
    clear c3
    obtain rfl := Option.some.inj H
    go_enter Try.func62, Try.ntmps62
    go_wp2
    go_ret
    exact ⟨by first | rfl | (simp; done) | (simp [*]; done), by repeat (first | exact Drawn0.refl _ | apply Drawn0.step)⟩
  · rw [if_neg c3] at H
    have c3b0 : decide (0 ≤ a0) = false := decide_eq_false c3
    clear c3
    obtain rfl := Option.some.inj H
    go_enter Try.func62, Try.ntmps62
    go_wp2
    go_ret
    exact ⟨by first | rfl | (simp; done) | (simp [*]; done), by repeat (first | exact Drawn0.refl _ | apply Drawn0.step)⟩

end Go.Proofs.Ytdodogkgmpaioaa.PFnReach
