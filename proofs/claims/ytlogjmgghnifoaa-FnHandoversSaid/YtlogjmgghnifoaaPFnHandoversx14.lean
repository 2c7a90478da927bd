/- The functions that the law reaches, as plain Lean functions, each with the proof that the Go code comes to its answers; conditions: those that each theorem names. (printed by a program of this session) -/
import Derived.Test.YtlogjmgghnifoaaPFnHandoversx0
import Derived.Test.YtlogjmgghnifoaaPFnHandoversx2
import Derived.Test.YtlogjmgghnifoaaPFnHandoversx3
import Derived.Test.YtlogjmgghnifoaaPFnHandoversx13
namespace Go.Proofs.Ytlogjmgghnifoaa.PFnHandovers
open Go.RowKit Go.Proofs.YtlogjmgghnifoaaW.PrintWords Go.Proofs.YtlogjmgghnifoaaW.PrintLast Go.Proofs.YtlogjmgghnifoaaW.PrintMore
attribute [local go_sem] max2_int min2_int max_two min_two max_three min_three max_four min_four   -- for this text's walks alone
set_option linter.unusedVariables false
set_option linter.unusedSimpArgs false

/-! ### slices_IndexFunc_impl_Piece_impl_Piece: function 108 -/
def slices_IndexFunc_impl_Piece_impl_Piece.idxAt (p : S112 → Bool) : List S112 → Nat → Int
  | [], _ => -1
  | x :: l, i => if p x = true then ((i : Nat) : Int) else slices_IndexFunc_impl_Piece_impl_Piece.idxAt p l (i + 1)
def slices_IndexFunc_impl_Piece_impl_Piece.idx (p : S112 → Bool) (l : List S112) : Int := slices_IndexFunc_impl_Piece_impl_Piece.idxAt p l 0
theorem slices_IndexFunc_impl_Piece_impl_Piece.drop_cons (l : List S112) {i : Nat} (h : i < l.length) : l.drop i = l.getD i z112 :: l.drop (i + 1) := by
  rw [List.drop_eq_getElem_cons h, List.getD_eq_getElem?_getD, List.getElem?_eq_getElem h]
  rfl
theorem slices_IndexFunc_impl_Piece_impl_Piece.spot_of {w : World} {b off n : Nat} {spot : Option Nat} {l : List S112} (h : Kd.C k112 w (some ⟨b, off, spot⟩) n l) (hn : 0 < n) : spot = none ∧ b < w.heap.size := by
  obtain ⟨ad, cs, e0, hlen, hK, hcell⟩ := Kd.C_get h z112 0 (by omega) (by omega)
  obtain rfl := Option.some.inj e0
  have hl : 0 < cs.length := by rw [hlen]; exact (by decide : 0 < 4)
  have h1 : w.cell? (⟨b, off, spot⟩ : Addr) = some cs[0] := hcell 0 cs[0] (List.getElem?_eq_getElem hl)
  exact ⟨World.cell?_spot h1, World.block_lt_of_cell? w _ h1⟩
set_option maxHeartbeats 2000000 in
set_option maxRecDepth 100000 in
theorem slices_IndexFunc_impl_Piece_impl_Piece.walk (A0 : Option Addr) (c0 : Nat) (l0 : List S112) (p : S112 → Bool) (g : Nat) (lb : Array Value) (eg : ∀ args w, (callFunc g args).run Try.prog w = .ok (.enter g args) w) (w : World)
    (hr0 : Kd.C k112 w A0 l0.length l0)
    (hp : ∀ (W : World) (x : S112) (cs : List Value), Below w.heap.size w W → (k112).K w x cs → Calls Try.prog g (#[.agg cs.toArray] ++ lb) W fun e w' => e = .returned (.bool (p x)) ∧ Below w.heap.size w w') :
    Calls Try.prog 108 #[.slice A0 l0.length c0, .func (.func g) #[] lb] w fun e w' => e = .returned (.int .i64 (slices_IndexFunc_impl_Piece_impl_Piece.idx p l0)) ∧ Below w.heap.size w w' := by
  have hmax : l0.length ≤ 9223372036854775807 := hr0.2.1
  have HR0 := aM_ hr0
  have HP := aM_ hp
  clear hr0 hp
  go_enter Try.func108, Try.ntmps108
  go_wp2
  go_loopg [5, 8] l0.length (fun gg _ s8 wr => ∃ kk : Nat, kk ≤ l0.length ∧ l0.length - kk ≤ gg ∧ s8 = .int .i64 kk ∧ Aside0 (Below w.heap.size w wr) ∧ Aside0 (slices_IndexFunc_impl_Piece_impl_Piece.idx p l0 = slices_IndexFunc_impl_Piece_impl_Piece.idxAt p (l0.drop kk) kk))
  case atStart => exact ⟨0, Nat.zero_le _, by omega, rfl, ⟨Below.refl _ w⟩, ⟨rfl⟩⟩
  case round =>
    obtain ⟨kk, hkk, hg, rfl, BW, IX⟩ := hrel
    by_cases hlt : kk < l0.length
    · have hltz : (kk : Int) < (l0.length : Int) := by omega
      obtain ⟨ad, cs, e0, hlen, hK, hcell⟩ := Kd.C_get HR0.out z112 (kk : Int) (by omega) (by omega)
      subst e0
      obtain ⟨b, off, spot⟩ := ad
      obtain ⟨c0, c1, c2, c3, rfl⟩ : ∃ c0 c1 c2 c3, cs = [c0, c1, c2, c3] := by
        match cs, (show cs.length = 4 from hlen) with
        | [c0, c1, c2, c3], _ => exact ⟨c0, c1, c2, c3, rfl⟩
      obtain ⟨rfl, hbk⟩ := slices_IndexFunc_impl_Piece_impl_Piece.spot_of HR0.out (by omega)
      have hx0 : wr.cell? ⟨b, off + kk * 4, none⟩ = some c0 := by
        have h2 : w.cell? ((⟨b, off, none⟩ : Addr).add (kk * 4 + 0)) = some c0 := hcell 0 c0 rfl
        rw [Go.WideShapes.add_plain] at h2
        exact (BW.out.cell (p := ⟨b, off + kk * 4, none⟩) hbk).trans (by rw [show off + kk * 4 = off + (kk * 4 + 0) from rfl]; exact h2)
      have hx1 : wr.cell? ⟨b, off + kk * 4 + 1, none⟩ = some c1 := by
        have h2 : w.cell? ((⟨b, off, none⟩ : Addr).add (kk * 4 + 1)) = some c1 := hcell 1 c1 rfl
        rw [Go.WideShapes.add_plain] at h2
        exact (BW.out.cell (p := ⟨b, off + kk * 4 + 1, none⟩) hbk).trans (by rw [Nat.add_assoc]; exact h2)
      have hx2 : wr.cell? ⟨b, off + kk * 4 + 2, none⟩ = some c2 := by
        have h2 : w.cell? ((⟨b, off, none⟩ : Addr).add (kk * 4 + 2)) = some c2 := hcell 2 c2 rfl
        rw [Go.WideShapes.add_plain] at h2
        exact (BW.out.cell (p := ⟨b, off + kk * 4 + 2, none⟩) hbk).trans (by rw [Nat.add_assoc]; exact h2)
      have hx3 : wr.cell? ⟨b, off + kk * 4 + 3, none⟩ = some c3 := by
        have h2 : w.cell? ((⟨b, off, none⟩ : Addr).add (kk * 4 + 3)) = some c3 := hcell 3 c3 rfl
        rw [Go.WideShapes.add_plain] at h2
        exact (BW.out.cell (p := ⟨b, off + kk * 4 + 3, none⟩) hbk).trans (by rw [Nat.add_assoc]; exact h2)
      have hcall := HP.out wr (l0.getD kk z112) [c0, c1, c2, c3] BW.out hK
      have hnext := aM_ (slices_IndexFunc_impl_Piece_impl_Piece.drop_cons l0 hlt)
      have HH := aM_ hcall
      clear hcall hcell hlen
      generalize hy : l0.getD kk z112 = y at HH hnext
      clear hK
      have HY := aM_ hy
      clear hy
      cases hq : p y with
      | true =>
        have HC := aM_ (show Calls Try.prog g (#[.agg #[c0, c1, c2, c3]] ++ lb) wr fun e w' => e = .returned (.bool true) ∧ Below w.heap.size w w' by rw [← hq]; exact HH.out)
        have HQ := aM_ hq
        clear HH hq
        go_wp2_with (go_at_fn g; refine HC.out.mono ?_; rintro e w' ⟨rfl, hb'⟩)
        go_ret
        refine ⟨?_, hb'⟩
        rw [IX.out, hnext.out, slices_IndexFunc_impl_Piece_impl_Piece.idxAt, if_pos HQ.out]
        rfl
      | false =>
        have HC := aM_ (show Calls Try.prog g (#[.agg #[c0, c1, c2, c3]] ++ lb) wr fun e w' => e = .returned (.bool false) ∧ Below w.heap.size w w' by rw [← hq]; exact HH.out)
        have HQ := aM_ hq
        clear HH hq
        go_wp2_with (go_at_fn g; refine HC.out.mono ?_; rintro e w' ⟨rfl, hb'⟩)
        go_roundg (l0.length - (kk + 1))
        case measure => omega
        case rel =>
          refine ⟨kk + 1, by omega, by omega, by go_num, ⟨hb'⟩, ⟨?_⟩⟩
          rw [IX.out, hnext.out, slices_IndexFunc_impl_Piece_impl_Piece.idxAt, if_neg (by rw [HQ.out]; simp)]
    · have hltz : ¬ (kk : Int) < (l0.length : Int) := by omega
      have : kk = l0.length := by omega
      subst this
      go_wp2
      go_ret
      refine ⟨?_, BW.out⟩
      rw [IX.out, List.drop_length]
      rfl

/-! ### impl_PieceAt: function 36 -/
def impl_PieceAt.has (a b t : Int) : Bool := decide (a ≥ 0) && decide (b ≤ 1000) && decide (a < b) && decide (a ≤ t) && decide (t < b)
set_option maxHeartbeats 2000000 in
set_option maxRecDepth 100000 in
theorem impl_PieceAt.closure (x0 x1 t : Int) (v2 v3 : Value) (g : Nat) (W : World) (hc : W.cell? ⟨g, 0, none⟩ = some (.int .i64 t)) :
    Calls Try.prog 109 #[.agg #[.int .i64 x0, .int .i64 x1, v2, v3], .pointer (some ⟨g, 0, none⟩)] W fun e w' => e = .returned (.bool (impl_PieceAt.has x0 x1 t)) ∧ Below W.heap.size W w' := by
  have hlt := World.block_lt_of_cell? W _ hc
  go_enter Try.func109, Try.ntmps109
  unfold impl_PieceAt.has
  cases h1 : decide (x0 ≥ 0) <;> cases h2 : decide (x1 ≤ 1000) <;> cases h3 : decide (x0 < x1) <;> cases h4 : decide (x0 ≤ t) <;> cases h5 : decide (t < x1)
  all_goals first
    | (go_wp2; go_ret; exact ⟨rfl, by repeat (first | exact Below.refl _ _ | apply wA_ | apply wN_ | apply wD_)⟩)
def impl_PieceAt.f (a0_0 : Int) (a0_1 : Int) (a0_2 : Int) (l0_3 : List (S112)) (a1 : Int) : Option (Int) := some (slices_IndexFunc_impl_Piece_impl_Piece.idx (fun x => impl_PieceAt.has x.f0.f0 x.f0.f1 a1) l0_3)
set_option maxHeartbeats 2000000 in
set_option maxRecDepth 100000 in
theorem impl_PieceAt.calls (a0_0 : Int) (a0_1 : Int) (a0_2 : Int) (A0_3 : Option Addr) (c0_3 : Nat) (l0_3 : List (S112)) (a1 : Int) (r : Int) (w : World) (hr0_3 : Kd.C k112 w A0_3 l0_3.length l0_3) (hc0_3 : l0_3.length ≤ c0_3) (h : impl_PieceAt.f a0_0 a0_1 a0_2 l0_3 a1 = some r) :
    Calls Try.prog 36 #[.agg #[.int .i64 a0_0, .int .i64 a0_1, .int .i64 a0_2, .slice A0_3 l0_3.length c0_3], .int .i64 a1] w fun e w' => e = .returned (.int .i64 r) ∧ Below w.heap.size w w' := by
  obtain rfl := Option.some.inj h
  have HR := aM_ hr0_3
  clear hr0_3 h
  go_enter Try.func36, Try.ntmps36
  have hsz : ∀ o o' : Obj, ((w.alloc o).alloc o').heap.size = w.heap.size + 2 := fun o o' => by simp
  have hR : ∀ o o' : Obj, Kd.C k112 ((w.alloc o).alloc o') A0_3 l0_3.length l0_3 := fun o o' => cA_ (cA_ HR.out o) o'
  have hcell : ∀ o : Obj, ((w.alloc o).alloc (.cells #[.int .i64 a1] 3)).cell? ⟨w.heap.size + 1, 0, none⟩ = some (.int .i64 a1) := fun o => by simp
  have HS := aM_ hsz
  have HR2 := aM_ hR
  have HC2 := aM_ hcell
  clear hsz hR hcell
  go_wp2_with (go_at_call 108; refine (slices_IndexFunc_impl_Piece_impl_Piece.walk A0_3 c0_3 l0_3 (fun x => impl_PieceAt.has x.f0.f0 x.f0.f1 a1) 109 #[.pointer (some ⟨w.heap.size + 1, 0, none⟩)] (enters_of Try.func109 (by kernel_rfl) rfl) _ (HR2.out _ _) ?hp).mono ?_; (case hp => (intro W x cs hb hK; obtain ⟨A2, c2, A3, c3, rfl, _, _, _, _⟩ := k112_open hK; refine (impl_PieceAt.closure x.f0.f0 x.f0.f1 a1 (.slice A2 x.f1.length c2) (.slice A3 x.f2.length c3) (w.heap.size + 1) W ((hb.cell (p := ⟨w.heap.size + 1, 0, none⟩) (by rw [HS.out]; show w.heap.size + 1 < w.heap.size + 2; omega)).trans (HC2.out _))).mono ?_; rintro e w' ⟨he, hb'⟩; exact ⟨he, wS_ hb hb'⟩)); rintro e w' ⟨rfl, hb⟩)
  go_ret
  exact ⟨rfl, wS_ (wA_ (wA_ (Below.refl _ _) _) _) hb⟩

/-! ### impl_InSpan: function 110 -/
def impl_InSpan.f (a0_0 : Int) (a0_1 : Int) (a1 : Int) : Option (Bool) := (impl_IsSpan.f a0_0 a0_1).bind fun t406 => (if t406 = true then (if a0_0 ≤ a1 then (some (decide (a1 < a0_1))) else (some false)) else (some false))
set_option maxHeartbeats 8000000 in
set_option maxRecDepth 100000 in
theorem impl_InSpan.calls (a0_0 : Int) (a0_1 : Int) (a1 : Int) (r : Bool) (w : World) (h : impl_InSpan.f a0_0 a0_1 a1 = some r) :
    Calls Try.prog 110 #[.agg #[.int .i64 a0_0, .int .i64 a0_1], .int .i64 a1] w fun e w' => e = .returned (.bool r) ∧ Below w.heap.size w w' := by
  have hu109 := Try.underlying109
  have HB := aM_ (Below.refl w.heap.size w)
  have H : ((impl_IsSpan.f a0_0 a0_1).bind fun t406 => (if t406 = true then (if a0_0 ≤ a1 then (some (decide (a1 < a0_1))) else (some false)) else (some false))) = some r := h
  clear h
  replace H := Option.bind_eq_some_iff.mp H
  obtain ⟨t406, A30, H⟩ := H
  replace H : (if t406 = true then (if a0_0 ≤ a1 then (some (decide (a1 < a0_1))) else (some false)) else (some false)) = some r := H
  have A3 := aM_ A30
  clear A30
  by_cases c4 : t406 = true
  · subst c4
    have H1 : (if a0_0 ≤ a1 then (some (decide (a1 < a0_1))) else (some false)) = some r := by rw [if_pos rfl] at H; exact H
    clear H
    have H := H1
    clear H1
    by_cases c5 : a0_0 ≤ a1
    · rw [if_pos c5] at H
      have c5b0 : decide (a0_0 ≤ a1) = true := decide_eq_true c5
      clear c5
      obtain rfl := Option.some.inj H
      go_enter Try.func110, Try.ntmps110
      go_wp2_with (first | ((with_reducible refine gate_dst (N := 2) rfl ?_); refine box_event ?hg (N := 2) ?hd (cs := #[.int .i64 a0_0, .int .i64 a0_1]) (t := 109) ?hr ?_; (case hd => rfl); (case hg => rfl); (case hr => first | (go_simp; done) | (go_simp; rfl)); intro gb405 hg w6 hbox hb; have n0_ := aM_ (wS_ (bw_) hb); have n1_ := aM_ (hbox); have n2_ := aM_ ((by rw [hg]; exact (sZ_ (bw_)) : w.heap.size ≤ gb405)); have n3_ := aM_ ((by rw [hg]; exact (sZ_ (bw_)) : w.heap.size ≤ gb405)); clear HB; have HB := n0_; have BK405 := n1_; have GW405 := n2_; have GE405 := n3_; clear n0_ n1_ n2_ n3_ hb hbox hg; obtain ⟨hcz7_0, hcz7_1, hfz7_0, hfz7_1⟩ := bk2_ BK405.out) | ((with_reducible refine gate_callee (f := 162) rfl ?_); refine goesL_ (some 6) rfl rfl Try.func162 (by kernel_rfl) rfl #[.agg #[.int .i64 a0_0, .int .i64 a0_1]] rfl (by (try simp only [List.map_toArray, List.map_cons, List.map_nil]); first | done | rfl | (simp only [List.length_drop, List.length_take]; rfl)) ?_; (with_reducible refine (impl_IsSpan.calls a0_0 a0_1 true _ A3.out).mono ?_); rintro e w8 ⟨rfl, hb⟩; refine ⟨_, rfl, ?_⟩; have n0_ := aM_ (bB_ (kb_ BK405.out) hb); have n1_ := aM_ (wS_ (bw_) hb); clear BK405 HB; have BK405 := n0_; have HB := n1_; clear n0_ n1_; (try clear hb); (try clear hb2); (try clear hk); (try clear hi); obtain ⟨hcz9_0, hcz9_1, hfz9_0, hfz9_1⟩ := bk2_ BK405.out))
      go_ret
      exact ⟨by first | rfl | (simp [errW_none, errW_some] <;> rfl) | (simp [*, errW_none, errW_some] <;> rfl), bw_⟩
    · rw [if_neg c5] at H
      have c5b0 : decide (a0_0 ≤ a1) = false := decide_eq_false c5
      clear c5
      obtain rfl := Option.some.inj H
      go_enter Try.func110, Try.ntmps110
      go_wp2_with (first | ((with_reducible refine gate_dst (N := 2) rfl ?_); refine box_event ?hg (N := 2) ?hd (cs := #[.int .i64 a0_0, .int .i64 a0_1]) (t := 109) ?hr ?_; (case hd => rfl); (case hg => rfl); (case hr => first | (go_simp; done) | (go_simp; rfl)); intro gb405 hg w10 hbox hb; have n0_ := aM_ (wS_ (bw_) hb); have n1_ := aM_ (hbox); have n2_ := aM_ ((by rw [hg]; exact (sZ_ (bw_)) : w.heap.size ≤ gb405)); have n3_ := aM_ ((by rw [hg]; exact (sZ_ (bw_)) : w.heap.size ≤ gb405)); clear HB; have HB := n0_; have BK405 := n1_; have GW405 := n2_; have GE405 := n3_; clear n0_ n1_ n2_ n3_ hb hbox hg; obtain ⟨hcz11_0, hcz11_1, hfz11_0, hfz11_1⟩ := bk2_ BK405.out) | ((with_reducible refine gate_callee (f := 162) rfl ?_); refine goesL_ (some 6) rfl rfl Try.func162 (by kernel_rfl) rfl #[.agg #[.int .i64 a0_0, .int .i64 a0_1]] rfl (by (try simp only [List.map_toArray, List.map_cons, List.map_nil]); first | done | rfl | (simp only [List.length_drop, List.length_take]; rfl)) ?_; (with_reducible refine (impl_IsSpan.calls a0_0 a0_1 true _ A3.out).mono ?_); rintro e w12 ⟨rfl, hb⟩; refine ⟨_, rfl, ?_⟩; have n0_ := aM_ (bB_ (kb_ BK405.out) hb); have n1_ := aM_ (wS_ (bw_) hb); clear BK405 HB; have BK405 := n0_; have HB := n1_; clear n0_ n1_; (try clear hb); (try clear hb2); (try clear hk); (try clear hi); obtain ⟨hcz13_0, hcz13_1, hfz13_0, hfz13_1⟩ := bk2_ BK405.out))
      go_ret
      exact ⟨by first | rfl | (simp [errW_none, errW_some] <;> rfl) | (simp [*, errW_none, errW_some] <;> rfl), bw_⟩
  · replace c4 := Bool.eq_false_iff.mpr c4
    subst c4
    have H1 : (some false) = some r := by rw [if_neg (show ¬ (false = true) by decide)] at H; exact H
    clear H
    have H := H1
    clear H1
    obtain rfl := Option.some.inj H
    go_enter Try.func110, Try.ntmps110
    go_wp2_with (first | ((with_reducible refine gate_dst (N := 2) rfl ?_); refine box_event ?hg (N := 2) ?hd (cs := #[.int .i64 a0_0, .int .i64 a0_1]) (t := 109) ?hr ?_; (case hd => rfl); (case hg => rfl); (case hr => first | (go_simp; done) | (go_simp; rfl)); intro gb405 hg w14 hbox hb; have n0_ := aM_ (wS_ (bw_) hb); have n1_ := aM_ (hbox); have n2_ := aM_ ((by rw [hg]; exact (sZ_ (bw_)) : w.heap.size ≤ gb405)); have n3_ := aM_ ((by rw [hg]; exact (sZ_ (bw_)) : w.heap.size ≤ gb405)); clear HB; have HB := n0_; have BK405 := n1_; have GW405 := n2_; have GE405 := n3_; clear n0_ n1_ n2_ n3_ hb hbox hg; obtain ⟨hcz15_0, hcz15_1, hfz15_0, hfz15_1⟩ := bk2_ BK405.out) | ((with_reducible refine gate_callee (f := 162) rfl ?_); refine goesL_ (some 6) rfl rfl Try.func162 (by kernel_rfl) rfl #[.agg #[.int .i64 a0_0, .int .i64 a0_1]] rfl (by (try simp only [List.map_toArray, List.map_cons, List.map_nil]); first | done | rfl | (simp only [List.length_drop, List.length_take]; rfl)) ?_; (with_reducible refine (impl_IsSpan.calls a0_0 a0_1 false _ A3.out).mono ?_); rintro e w16 ⟨rfl, hb⟩; refine ⟨_, rfl, ?_⟩; have n0_ := aM_ (bB_ (kb_ BK405.out) hb); have n1_ := aM_ (wS_ (bw_) hb); clear BK405 HB; have BK405 := n0_; have HB := n1_; clear n0_ n1_; (try clear hb); (try clear hb2); (try clear hk); (try clear hi)))
    go_ret
    exact ⟨by first | rfl | (simp [errW_none, errW_some] <;> rfl) | (simp [*, errW_none, errW_some] <;> rfl), bw_⟩

/-! ### impl_InSpans: function 37 -/
def impl_InSpans.l0 : Nat → Int → List (S109) → Int → Int → Option (Bool)
  | 0, _, _, _, _ => none
  | k + 1, x1, x7, x8, x9 => if x9 < x8 then (if 0 ≤ x9 then (if x9 < (x7.length : Int) then ((impl_InSpan.f ((rd_T109 x7 x9).f0) ((rd_T109 x7 x9).f1) x1).bind fun t409 => (if t409 = true then (some true) else (impl_InSpans.l0 k x1 x7 x8 (wrap64 (x9 + 1))))) else (none)) else (none)) else (some false)
def impl_InSpans.f (k : Nat) (l0 : List (S109)) (a1 : Int) : Option (Bool) := impl_InSpans.l0 k a1 l0 (l0.length : Int) 0
set_option maxHeartbeats 8000000 in
set_option maxRecDepth 100000 in
theorem impl_InSpans.calls (k : Nat) (A0 : Option Addr) (c0 : Nat) (l0 : List (S109)) (a1 : Int) (r : Bool) (w : World) (hr0 : Kd.C k109 w A0 l0.length l0) (hc0 : l0.length ≤ c0) (h : impl_InSpans.f k l0 a1 = some r) :
    Calls Try.prog 37 #[.slice A0 l0.length c0, .int .i64 a1] w fun e w' => e = .returned (.bool r) ∧ Below w.heap.size w w' := by
  have hu109 := Try.underlying109
  have HR0 := aM_ hr0
  have HC0 := aM_ hc0
  clear hr0 hc0
  have HB := aM_ (Below.refl w.heap.size w)
  have H : (impl_InSpans.l0 k a1 l0 (l0.length : Int) 0) = some r := h
  clear h
  have H' := aM_ H
  clear H
  go_enter Try.func37, Try.ntmps37
  go_wp2
  go_loopg [9] k (fun kq v9 w' => ∃ (x9_1 : Int), v9 = .int .i64 x9_1 ∧ Aside0 (impl_InSpans.l0 kq a1 l0 (l0.length : Int) x9_1 = some r) ∧ Aside0 (kq ≤ k) ∧ Aside0 (Below w.heap.size w w'))
  case atStart => exact ⟨(0), (by first | rfl | (simp; done) | (simp [*]; done)), H', ⟨Nat.le_refl _⟩, ⟨bw_⟩⟩
  case round =>
    clear H'
    obtain ⟨x9_1, rfl, HA, HK1, HB⟩ := hrel
    cases gk with
    | zero => exact absurd HA.out (by simp [impl_InSpans.l0])
    | succ k1 =>
      have H := HA.out
      clear HA
      simp only [impl_InSpans.l0] at H
      by_cases c3 : x9_1 < (l0.length : Int)
      · rw [if_pos c3] at H
        have c3b0 : decide (x9_1 < (l0.length : Int)) = true := decide_eq_true c3
        clear c3
        by_cases c4 : 0 ≤ x9_1
        · rw [if_pos c4] at H
          have c4b0 : decide (0 ≤ x9_1) = true := decide_eq_true c4
          clear c4
          by_cases c5 : x9_1 < (l0.length : Int)
          · rw [if_pos c5] at H
            have c5b0 : decide (x9_1 < (l0.length : Int)) = true := decide_eq_true c5
            clear c5
            replace H := Option.bind_eq_some_iff.mp H
            obtain ⟨t409, A60, H⟩ := H
            replace H : (if t409 = true then (some true) else (impl_InSpans.l0 k1 a1 l0 (l0.length : Int) (wrap64 (x9_1 + 1)))) = some r := H
            have A6 := aM_ A60
            clear A60
            by_cases c7 : t409 = true
            · subst c7
              have H1 : (some true) = some r := by rw [if_pos rfl] at H; exact H
              clear H
              have H := H1
              clear H1
              obtain rfl := Option.some.inj H
              have p407 : 0 ≤ (x9_1 : Int) := dT_
              have q407 : x9_1 < (l0.length : Int) := dT_
              obtain ⟨ad407, e407, hx407_0, hx407_1⟩ := at_T109 HR0.out x9_1 p407 q407
              cases e407
              replace hx407_0 := (HB.out.cell (World.block_lt_of_cell? w _ hx407_0)).trans hx407_0
              replace hx407_1 := (HB.out.cell (World.block_lt_of_cell? w _ hx407_1)).trans hx407_1
              replace p407 := eq_true p407
              replace q407 := eq_true q407
              go_wp2_with (first | ((with_reducible refine gate_dst (N := 6) rfl ?_); refine box_event ?hg (N := 6) ?hd (cs := #[.int .i64 0, .int .i64 0]) (t := 109) ?hr ?_; (case hd => rfl); (case hg => rfl); (case hr => first | (go_simp; done) | (go_simp; rfl)); intro gb408 hg w8 hbox hb; have n0_ := aM_ (wS_ (bw_) hb); have n1_ := aM_ (hbox); have n2_ := aM_ ((by rw [hg]; exact (sZ_ (bw_)) : w.heap.size ≤ gb408)); have n3_ := aM_ ((by rw [hg]; exact (sZ_ (bw_)) : w.heap.size ≤ gb408)); clear HB; have HB := n0_; have BK408 := n1_; have GW408 := n2_; have GE408 := n3_; clear n0_ n1_ n2_ n3_ hb hbox hg; obtain ⟨hcz9_0, hcz9_1, hfz9_0, hfz9_1⟩ := bk2_ BK408.out) | ((with_reducible refine gate_callee (f := 110) rfl ?_); refine goesL_ (some 15) rfl rfl Try.func110 (by kernel_rfl) rfl #[.agg #[.int .i64 ((rd_T109 l0 x9_1).f0), .int .i64 ((rd_T109 l0 x9_1).f1)], .int .i64 a1] rfl (by (try simp only [List.map_toArray, List.map_cons, List.map_nil]); first | done | rfl | (simp only [List.length_drop, List.length_take]; rfl)) ?_; (with_reducible refine (impl_InSpan.calls ((rd_T109 l0 x9_1).f0) ((rd_T109 l0 x9_1).f1) a1 true _ A6.out).mono ?_); rintro e w10 ⟨rfl, hb⟩; refine ⟨_, rfl, ?_⟩; have n0_ := aM_ (bB_ (g := gb408) (o := .cells #[.int .i64 ((rd_T109 l0 x9_1).f0), .int .i64 ((rd_T109 l0 x9_1).f1)] 109 (0, 0)) (by (with_reducible repeat (first | refine bN_ ?_ _ | refine bD_ ?_ | refine bA_ ?_ _)); refine blk_put (cs := #[.int .i64 ((rd_T109 l0 x9_1).f0), .int .i64 0]) ?_ 1 _ rfl; (with_reducible repeat (first | refine bN_ ?_ _ | refine bD_ ?_ | refine bA_ ?_ _)); refine blk_put (cs := #[.int .i64 0, .int .i64 0]) ?_ 0 _ rfl; (with_reducible repeat (first | refine bN_ ?_ _ | refine bD_ ?_ | refine bA_ ?_ _)); exact BK408.out) hb); have n1_ := aM_ (wS_ (bw_) hb); clear BK408 HB; have BK408 := n0_; have HB := n1_; clear n0_ n1_; (try clear hb); (try clear hb2); (try clear hk); (try clear hi)))
              go_ret
              exact ⟨by first | rfl | (simp [errW_none, errW_some] <;> rfl) | (simp [*, errW_none, errW_some] <;> rfl), bw_⟩
            · replace c7 := Bool.eq_false_iff.mpr c7
              subst c7
              have H1 : (impl_InSpans.l0 k1 a1 l0 (l0.length : Int) (wrap64 (x9_1 + 1))) = some r := by rw [if_neg (show ¬ (false = true) by decide)] at H; exact H
              clear H
              have H := H1
              clear H1
              have H' := aM_ H
              clear H
              have p407 : 0 ≤ (x9_1 : Int) := dT_
              have q407 : x9_1 < (l0.length : Int) := dT_
              obtain ⟨ad407, e407, hx407_0, hx407_1⟩ := at_T109 HR0.out x9_1 p407 q407
              cases e407
              replace hx407_0 := (HB.out.cell (World.block_lt_of_cell? w _ hx407_0)).trans hx407_0
              replace hx407_1 := (HB.out.cell (World.block_lt_of_cell? w _ hx407_1)).trans hx407_1
              replace p407 := eq_true p407
              replace q407 := eq_true q407
              go_wp2_with (first | ((with_reducible refine gate_dst (N := 6) rfl ?_); refine box_event ?hg (N := 6) ?hd (cs := #[.int .i64 0, .int .i64 0]) (t := 109) ?hr ?_; (case hd => rfl); (case hg => rfl); (case hr => first | (go_simp; done) | (go_simp; rfl)); intro gb408 hg w11 hbox hb; have n0_ := aM_ (wS_ (bw_) hb); have n1_ := aM_ (hbox); have n2_ := aM_ ((by rw [hg]; exact (sZ_ (bw_)) : w.heap.size ≤ gb408)); have n3_ := aM_ ((by rw [hg]; exact (sZ_ (bw_)) : w.heap.size ≤ gb408)); clear HB; have HB := n0_; have BK408 := n1_; have GW408 := n2_; have GE408 := n3_; clear n0_ n1_ n2_ n3_ hb hbox hg; obtain ⟨hcz12_0, hcz12_1, hfz12_0, hfz12_1⟩ := bk2_ BK408.out) | ((with_reducible refine gate_callee (f := 110) rfl ?_); refine goesL_ (some 15) rfl rfl Try.func110 (by kernel_rfl) rfl #[.agg #[.int .i64 ((rd_T109 l0 x9_1).f0), .int .i64 ((rd_T109 l0 x9_1).f1)], .int .i64 a1] rfl (by (try simp only [List.map_toArray, List.map_cons, List.map_nil]); first | done | rfl | (simp only [List.length_drop, List.length_take]; rfl)) ?_; (with_reducible refine (impl_InSpan.calls ((rd_T109 l0 x9_1).f0) ((rd_T109 l0 x9_1).f1) a1 false _ A6.out).mono ?_); rintro e w13 ⟨rfl, hb⟩; refine ⟨_, rfl, ?_⟩; have n0_ := aM_ (bB_ (g := gb408) (o := .cells #[.int .i64 ((rd_T109 l0 x9_1).f0), .int .i64 ((rd_T109 l0 x9_1).f1)] 109 (0, 0)) (by (with_reducible repeat (first | refine bN_ ?_ _ | refine bD_ ?_ | refine bA_ ?_ _)); refine blk_put (cs := #[.int .i64 ((rd_T109 l0 x9_1).f0), .int .i64 0]) ?_ 1 _ rfl; (with_reducible repeat (first | refine bN_ ?_ _ | refine bD_ ?_ | refine bA_ ?_ _)); refine blk_put (cs := #[.int .i64 0, .int .i64 0]) ?_ 0 _ rfl; (with_reducible repeat (first | refine bN_ ?_ _ | refine bD_ ?_ | refine bA_ ?_ _)); exact BK408.out) hb); have n1_ := aM_ (wS_ (bw_) hb); clear BK408 HB; have BK408 := n0_; have HB := n1_; clear n0_ n1_; (try clear hb); (try clear hb2); (try clear hk); (try clear hi)))
              go_roundg k1
              case measure => have := HK1.out; omega
              case rel => exact ⟨(wrap64 (x9_1 + 1)), (by first | rfl | (simp; done) | (simp [*]; done)), H', ⟨by have := HK1.out; omega⟩, ⟨bw_⟩⟩
          · rw [if_neg c5] at H
            exact absurd H (by simp)
        · rw [if_neg c4] at H
          exact absurd H (by simp)
      · rw [if_neg c3] at H
        have c3b0 : decide (x9_1 < (l0.length : Int)) = false := decide_eq_false c3
        clear c3
        obtain rfl := Option.some.inj H
        go_wp2
        go_ret
        exact ⟨by first | rfl | (simp [errW_none, errW_some] <;> rfl) | (simp [*, errW_none, errW_some] <;> rfl), bw_⟩

/-! ### impl_EqualInts: function 38 -/
def impl_EqualInts.f (k : Nat) (l0 : List Int) (l1 : List Int) : Option (Bool) := (slices_Equal_int_int.f k l0 l1).bind fun t410 => (some t410)
set_option maxHeartbeats 8000000 in
set_option maxRecDepth 100000 in
theorem impl_EqualInts.calls (k : Nat) (A0 : Option Addr) (c0 : Nat) (l0 : List Int) (A1 : Option Addr) (c1 : Nat) (l1 : List Int) (r : Bool) (w : World) (hr0 : Kd.C (Kd.int .i64) w A0 l0.length l0) (hc0 : l0.length ≤ c0) (hr1 : Kd.C (Kd.int .i64) w A1 l1.length l1) (hc1 : l1.length ≤ c1) (h : impl_EqualInts.f k l0 l1 = some r) :
    Calls Try.prog 38 #[.slice A0 l0.length c0, .slice A1 l1.length c1] w fun e w' => e = .returned (.bool r) ∧ Drawn0 w w' := by
  have HR0 := aM_ hr0
  have HC0 := aM_ hc0
  clear hr0 hc0
  have HR1 := aM_ hr1
  have HC1 := aM_ hc1
  clear hr1 hc1
  have H : ((slices_Equal_int_int.f k l0 l1).bind fun t410 => (some t410)) = some r := h
  clear h
  replace H := Option.bind_eq_some_iff.mp H
  obtain ⟨t410, A30, H⟩ := H
  replace H : (some t410) = some r := H
  have A3 := aM_ A30
  clear A30
  obtain rfl := Option.some.inj H
  go_enter Try.func38, Try.ntmps38
  go_wp2_with (first | ((with_reducible refine gate_callee (f := 107) rfl ?_); refine goesL_ (some 7) rfl rfl Try.func107 (by kernel_rfl) rfl #[.slice A0 l0.length c0, .slice A1 l1.length c1] rfl (by (try simp only [List.map_toArray, List.map_cons, List.map_nil]); first | done | rfl | (simp only [List.length_drop, List.length_take]; rfl)) ?_; (with_reducible refine (slices_Equal_int_int.calls k _ _ l0 _ _ l1 t410 _ ?side1 ?side2 ?side3 ?side4 A3.out).mono ?_); (case side1 => repeat (first | exact HR0.out | (with_reducible refine cA_ ?_ _) | (with_reducible refine cN_ ?_ _) | (with_reducible refine cD_ ?_))); (case side2 => exact HC0.out); (case side3 => repeat (first | exact HR1.out | (with_reducible refine cA_ ?_ _) | (with_reducible refine cN_ ?_ _) | (with_reducible refine cD_ ?_))); (case side4 => exact HC1.out); rintro e w' ⟨rfl, ⟨nd, rfl⟩⟩; refine ⟨_, rfl, ?_⟩))
  go_ret
  exact ⟨by first | rfl | (simp; done) | (simp [*]; done), by repeat (first | exact Drawn0.refl _ | apply Drawn0.step)⟩

/-! ### slices_IndexFunc_int_int: function 163 -/
def slices_IndexFunc_int_int.idxAt (p : Int → Bool) : List Int → Nat → Int
  | [], _ => -1
  | x :: l, i => if p x = true then ((i : Nat) : Int) else slices_IndexFunc_int_int.idxAt p l (i + 1)
def slices_IndexFunc_int_int.idx (p : Int → Bool) (l : List Int) : Int := slices_IndexFunc_int_int.idxAt p l 0
theorem slices_IndexFunc_int_int.drop_cons (l : List Int) {i : Nat} (h : i < l.length) : l.drop i = l.getD i 0 :: l.drop (i + 1) := by
  rw [List.drop_eq_getElem_cons h, List.getD_eq_getElem?_getD, List.getElem?_eq_getElem h]
  rfl
set_option maxHeartbeats 2000000 in
set_option maxRecDepth 100000 in
theorem slices_IndexFunc_int_int.walk (A0 : Option Addr) (c0 : Nat) (l0 : List Int) (p : Int → Bool) (g : Nat) (lb : Array Value) (eg : ∀ args w, (callFunc g args).run Try.prog w = .ok (.enter g args) w) (w : World)
    (hr0 : Kd.C (Kd.int .i64) w A0 l0.length l0)
    (hp : ∀ (W : World) (x : Int), Below w.heap.size w W → Calls Try.prog g (#[.int .i64 x] ++ lb) W fun e w' => e = .returned (.bool (p x)) ∧ Below w.heap.size w w') :
    Calls Try.prog 163 #[.slice A0 l0.length c0, .func (.func g) #[] lb] w fun e w' => e = .returned (.int .i64 (slices_IndexFunc_int_int.idx p l0)) ∧ Below w.heap.size w w' := by
  have hmax : l0.length ≤ 9223372036854775807 := hr0.2.1
  have HR0 := aM_ hr0
  have HP := aM_ hp
  clear hr0 hp
  go_enter Try.func163, Try.ntmps163
  go_wp2
  go_loopg [5, 8] l0.length (fun gg _ s8 wr => ∃ kk : Nat, kk ≤ l0.length ∧ l0.length - kk ≤ gg ∧ s8 = .int .i64 kk ∧ Aside0 (Below w.heap.size w wr) ∧ Aside0 (slices_IndexFunc_int_int.idx p l0 = slices_IndexFunc_int_int.idxAt p (l0.drop kk) kk))
  case atStart => exact ⟨0, Nat.zero_le _, by omega, rfl, ⟨Below.refl _ w⟩, ⟨rfl⟩⟩
  case round =>
    obtain ⟨kk, hkk, hg, rfl, BW, IX⟩ := hrel
    by_cases hlt : kk < l0.length
    · have hltz : (kk : Int) < (l0.length : Int) := by omega
      obtain ⟨ad, e0, hx⟩ := Kd.at_int HR0.out (kk : Int) (by omega) (by omega)
      subst e0
      replace hx := (BW.out.cell (World.block_lt_of_cell? w _ hx)).trans hx
      rw [Int.toNat_natCast] at hx
      have hnext := aM_ (slices_IndexFunc_int_int.drop_cons l0 hlt)
      have hcall := HP.out wr (rd l0 (kk : Int)) BW.out
      have HY := aM_ (show rd l0 (kk : Int) = l0.getD kk 0 from rfl)
      have HH := aM_ hcall
      clear hcall
      generalize rd l0 (kk : Int) = y at HH HY hx
      cases hq : p y with
      | true =>
        have HC := aM_ (show Calls Try.prog g (#[.int .i64 y] ++ lb) wr fun e w' => e = .returned (.bool true) ∧ Below w.heap.size w w' by rw [← hq]; exact HH.out)
        have HQ := aM_ hq
        clear HH hq
        go_wp2_with (go_at_fn g; refine HC.out.mono ?_; rintro e w' ⟨rfl, hb'⟩)
        go_ret
        refine ⟨?_, hb'⟩
        rw [IX.out, hnext.out, slices_IndexFunc_int_int.idxAt, ← HY.out, if_pos HQ.out]
        rfl
      | false =>
        have HC := aM_ (show Calls Try.prog g (#[.int .i64 y] ++ lb) wr fun e w' => e = .returned (.bool false) ∧ Below w.heap.size w w' by rw [← hq]; exact HH.out)
        have HQ := aM_ hq
        clear HH hq
        go_wp2_with (go_at_fn g; refine HC.out.mono ?_; rintro e w' ⟨rfl, hb'⟩)
        go_roundg (l0.length - (kk + 1))
        case measure => omega
        case rel =>
          refine ⟨kk + 1, by omega, by omega, by go_num, ⟨hb'⟩, ⟨?_⟩⟩
          rw [IX.out, hnext.out, slices_IndexFunc_int_int.idxAt, ← HY.out, if_neg (by rw [HQ.out]; simp)]
    · have hltz : ¬ (kk : Int) < (l0.length : Int) := by omega
      have : kk = l0.length := by omega
      subst this
      go_wp2
      go_ret
      refine ⟨?_, BW.out⟩
      rw [IX.out, List.drop_length]
      rfl

/-! ### slices_ContainsFunc_int_int: function 111 -/
set_option maxHeartbeats 2000000 in
set_option maxRecDepth 100000 in
theorem slices_ContainsFunc_int_int.walk (A0 : Option Addr) (c0 : Nat) (l0 : List Int) (p : Int → Bool) (g : Nat) (lb : Array Value) (eg : ∀ args w, (callFunc g args).run Try.prog w = .ok (.enter g args) w) (w : World)
    (hr0 : Kd.C (Kd.int .i64) w A0 l0.length l0)
    (hp : ∀ (W : World) (x : Int), Below w.heap.size w W → Calls Try.prog g (#[.int .i64 x] ++ lb) W fun e w' => e = .returned (.bool (p x)) ∧ Below w.heap.size w w') :
    Calls Try.prog 111 #[.slice A0 l0.length c0, .func (.func g) #[] lb] w fun e w' => e = .returned (.bool (decide (slices_IndexFunc_int_int.idx p l0 ≥ 0))) ∧ Below w.heap.size w w' := by
  have HC := aM_ (slices_IndexFunc_int_int.walk A0 c0 l0 p g lb eg w hr0 hp)
  clear hr0 hp
  generalize slices_IndexFunc_int_int.idx p l0 = q at HC
  cases hq : decide (q ≥ 0)
  all_goals
    go_enter Try.func111, Try.ntmps111
    go_wp2_with (go_at_call 163; refine HC.out.mono ?_; rintro e w' ⟨rfl, hb⟩)
    go_ret
    exact ⟨rfl, hb⟩

/-! ### impl_IsSmooth: function 39 -/
theorem impl_IsSmooth.has_val (l : List Int) (a : Int) (hl : l.length ≤ 9223372036854775807) : ∃ k, slices_Contains_int_int.f k l a = some (l.any fun x => x == a) := by
  have : ∀ d i : Nat, i + d = l.length → ∃ k r, slices_Index_int_int.l0 k l a l.length i = some r ∧ decide (r ≥ 0) = (l.drop i).any (fun x => x == a) := by
    intro d
    induction d with
    | zero =>
      intro i hi
      exact ⟨1, -1, by simp only [slices_Index_int_int.l0]; rw [if_neg (by omega)], by rw [List.drop_eq_nil_of_le (by omega)]; rfl⟩
    | succ d ih =>
      intro i hi
      have hlt : i < l.length := by omega
      rw [show l.drop i = l.getD i 0 :: l.drop (i + 1) by rw [List.drop_eq_getElem_cons hlt, List.getD_eq_getElem?_getD, List.getElem?_eq_getElem hlt]; rfl, List.any_cons]
      by_cases h : a = l.getD i 0
      · refine ⟨1, i, ?_, ?_⟩
        · simp only [slices_Index_int_int.l0]
          rw [if_pos (by omega), if_pos (by omega), if_pos (by omega), if_pos (show a = rd l ((i : Nat) : Int) from h)]
        · rw [← h]; simp
      · obtain ⟨k, r, hr, hd⟩ := ih (i + 1) (by omega)
        refine ⟨k + 1, r, ?_, ?_⟩
        · simp only [slices_Index_int_int.l0]
          rw [if_pos (by omega), if_pos (by omega), if_pos (by omega), if_neg (show ¬ a = rd l ((i : Nat) : Int) from h), show wrap64 ((i : Int) + 1) = ((i + 1 : Nat) : Int) by unfold wrap64; omega]
          exact hr
        · have : (l.getD i 0 == a) = false := by rw [beq_eq_false_iff_ne]; exact fun e => h e.symm
          rw [this, Bool.false_or, hd]
  obtain ⟨k, r, hr, hd⟩ := this l.length 0 (by omega)
  refine ⟨k, ?_⟩
  unfold slices_Contains_int_int.f slices_Index_int_int.f
  rw [List.drop_zero] at hd
  rw [show ((0 : Nat) : Int) = 0 from rfl] at hr
  rw [hr, Option.bind_some, hd]
set_option maxHeartbeats 2000000 in
set_option maxRecDepth 100000 in
theorem impl_IsSmooth.closure (x : Int) (A : Option Addr) (c : Nat) (l : List Int) (g : Nat) (W : World) (hc : W.cell? ⟨g, 2, none⟩ = some (.slice A l.length c)) (hr : Kd.C (Kd.int .i64) W A l.length l) (hlc : l.length ≤ c) :
    Calls Try.prog 112 #[.int .i64 x, .pointer (some ⟨g, 0, none⟩)] W fun e w' => e = .returned (.bool (l.any fun y => y == x)) ∧ Below W.heap.size W w' := by
  have hlt := World.block_lt_of_cell? W _ hc
  obtain ⟨k, hk⟩ := impl_IsSmooth.has_val l x hr.2.1
  have HK := aM_ hk
  have HR := aM_ hr
  have HL := aM_ hlc
  clear hr hk hlc
  generalize (l.any fun y => y == x) = q at HK
  go_enter Try.func112, Try.ntmps112
  go_wp2_with (go_at_call 70; refine (slices_Contains_int_int.calls k _ _ l x q _ HR.out HL.out HK.out).mono ?_; rintro e w' ⟨rfl, ⟨nd, rfl⟩⟩)
  go_ret
  exact ⟨rfl, by repeat (first | exact Below.refl _ _ | apply wA_ | apply wN_ | apply wD_)⟩
def impl_IsSmooth.f (a0_0 : Int) (l0_1 : List Int) (l0_2 : List Int) : Option (Bool) := some (decide (slices_IndexFunc_int_int.idx (fun x => l0_2.any fun y => y == x) l0_1 ≥ 0))
set_option maxHeartbeats 2000000 in
set_option maxRecDepth 100000 in
theorem impl_IsSmooth.calls (a0_0 : Int) (A0_1 : Option Addr) (c0_1 : Nat) (l0_1 : List Int) (A0_2 : Option Addr) (c0_2 : Nat) (l0_2 : List Int) (r : Bool) (w : World) (hr0_1 : Kd.C (Kd.int .i64) w A0_1 l0_1.length l0_1) (hc0_1 : l0_1.length ≤ c0_1) (hr0_2 : Kd.C (Kd.int .i64) w A0_2 l0_2.length l0_2) (hc0_2 : l0_2.length ≤ c0_2) (h : impl_IsSmooth.f a0_0 l0_1 l0_2 = some r) :
    Calls Try.prog 39 #[.agg #[.int .i64 a0_0, .slice A0_1 l0_1.length c0_1, .slice A0_2 l0_2.length c0_2]] w fun e w' => e = .returned (.bool r) ∧ Below w.heap.size w w' := by
  obtain rfl := Option.some.inj h
  have HR1 := aM_ hr0_1
  have HR2 := aM_ hr0_2
  have HL2 := aM_ hc0_2
  clear hr0_1 hr0_2 hc0_2 h
  have HX := aM_ (show ∀ o : Obj, Kd.C (Kd.int .i64) (w.alloc o) A0_1 l0_1.length l0_1 from fun o => cA_ HR1.out o)
  have HP := aM_ (show ∀ (W : World) (x : Int), Below (w.alloc (.cells #[.int .i64 a0_0, .slice A0_1 l0_1.length c0_1, .slice A0_2 l0_2.length c0_2] 87)).heap.size (w.alloc (.cells #[.int .i64 a0_0, .slice A0_1 l0_1.length c0_1, .slice A0_2 l0_2.length c0_2] 87)) W → Calls Try.prog 112 (#[.int .i64 x] ++ #[.pointer (some ⟨w.heap.size, 0, none⟩)]) W fun e w' => e = .returned (.bool (l0_2.any fun y => y == x)) ∧ Below (w.alloc (.cells #[.int .i64 a0_0, .slice A0_1 l0_1.length c0_1, .slice A0_2 l0_2.length c0_2] 87)).heap.size (w.alloc (.cells #[.int .i64 a0_0, .slice A0_1 l0_1.length c0_1, .slice A0_2 l0_2.length c0_2] 87)) w' from fun W x hb => by
    refine (impl_IsSmooth.closure x A0_2 c0_2 l0_2 w.heap.size W ((hb.cell (p := ⟨w.heap.size, 2, none⟩) (by simp)).trans (by simp)) (Kd.C_below (cA_ HR2.out _) hb) HL2.out).mono ?_
    rintro e w' ⟨he, hb'⟩
    exact ⟨he, wS_ hb hb'⟩)
  go_enter Try.func39, Try.ntmps39
  go_wp2_with (go_at_call 111; refine (slices_ContainsFunc_int_int.walk A0_1 c0_1 l0_1 (fun x => l0_2.any fun y => y == x) 112 #[.pointer (some ⟨w.heap.size, 0, none⟩)] (enters_of Try.func112 (by kernel_rfl) rfl) _ (HX.out _) HP.out).mono ?_; rintro e w' ⟨rfl, hb⟩)
  go_ret
  exact ⟨rfl, wS_ (wA_ (Below.refl _ _) _) hb⟩

/-! ### impl_LongestGap: function 40 -/
def impl_LongestGap.l0 : Nat → Int → List (S109) → Int → Int → Option (Int)
  | 0, _, _, _, _ => none
  | k + 1, x5, x10, x11, x12 => if x12 < x11 then (if 0 ≤ x12 then (if x12 < (x10.length : Int) then (impl_LongestGap.l0 k (mx x5 (wrap64 (((rd_T109 x10 x12).f1) - ((rd_T109 x10 x12).f0)))) x10 x11 (wrap64 (x12 + 1))) else (none)) else (none)) else (some x5)
def impl_LongestGap.f (k : Nat) (a0_0 : Int) (a0_1 : Int) (a0_2 : Int) (l0_3 : List (S112)) (a1 : Int) : Option (Int) := (impl_GapsOf.f k a0_0 a0_1 a0_2 l0_3 a1).bind fun t412 => (impl_LongestGap.l0 k 0 t412 (t412.length : Int) 0)
set_option maxHeartbeats 8000000 in
set_option maxRecDepth 100000 in
theorem impl_LongestGap.calls (k : Nat) (a0_0 : Int) (a0_1 : Int) (a0_2 : Int) (A0_3 : Option Addr) (c0_3 : Nat) (l0_3 : List (S112)) (a1 : Int) (r : Int) (w : World) (hr0_3 : Kd.C k112 w A0_3 l0_3.length l0_3) (hc0_3 : l0_3.length ≤ c0_3) (h : impl_LongestGap.f k a0_0 a0_1 a0_2 l0_3 a1 = some r) :
    Calls Try.prog 40 #[.agg #[.int .i64 a0_0, .int .i64 a0_1, .int .i64 a0_2, .slice A0_3 l0_3.length c0_3], .int .i64 a1] w fun e w' => e = .returned (.int .i64 r) ∧ Below w.heap.size w w' := by
  have hu30 := Try.underlying30
  have hu109 := Try.underlying109
  have HR0_3 := aM_ hr0_3
  have HC0_3 := aM_ hc0_3
  clear hr0_3 hc0_3
  have HB := aM_ (Below.refl w.heap.size w)
  have H : ((impl_GapsOf.f k a0_0 a0_1 a0_2 l0_3 a1).bind fun t412 => (impl_LongestGap.l0 k 0 t412 (t412.length : Int) 0)) = some r := h
  clear h
  replace H := Option.bind_eq_some_iff.mp H
  obtain ⟨t412, A30, H⟩ := H
  replace H : (impl_LongestGap.l0 k 0 t412 (t412.length : Int) 0) = some r := H
  have A3 := aM_ A30
  clear A30
  have H' := aM_ H
  clear H
  go_enter Try.func40, Try.ntmps40
  go_wp2_with (first | ((with_reducible refine gate_dst (N := 2) rfl ?_); refine box_event ?hg (N := 2) ?hd (cs := #[.int .i64 a0_0, .int .i64 a0_1, .int .i64 a0_2, .slice A0_3 l0_3.length c0_3]) (t := 30) ?hr ?_; (case hd => rfl); (case hg => rfl); (case hr => first | (go_simp; done) | (go_simp; rfl)); intro gb411 hg w4 hbox hb; have n0_ := aM_ (wS_ (bw_) hb); have n1_ := aM_ (hbox); have n2_ := aM_ ((by rw [hg]; exact (sZ_ (bw_)) : w.heap.size ≤ gb411)); have n3_ := aM_ ((by rw [hg]; exact (sZ_ (bw_)) : w.heap.size ≤ gb411)); clear HB; have HB := n0_; have BK411 := n1_; have GW411 := n2_; have GE411 := n3_; clear n0_ n1_ n2_ n3_ hb hbox hg; obtain ⟨hcz5_0, hcz5_1, hcz5_2, hcz5_3, hfz5_0, hfz5_1, hfz5_2, hfz5_3⟩ := bk4_ BK411.out) | ((with_reducible refine gate_callee (f := 15) rfl ?_); refine goesL_ (some 10) rfl rfl Try.func15 (by kernel_rfl) rfl #[.agg #[.int .i64 a0_0, .int .i64 a0_1, .int .i64 a0_2, .slice A0_3 l0_3.length c0_3], .int .i64 a1] rfl (by (try simp only [List.map_toArray, List.map_cons, List.map_nil]); first | done | rfl | (simp only [List.length_drop, List.length_take]; rfl)) ?_; (with_reducible refine (impl_GapsOf.calls k a0_0 a0_1 a0_2 _ _ l0_3 a1 t412 _ ?side1 ?side2 A3.out).mono ?_); (case side1 => repeat (first | exact (Kd.C_below HR0_3.out HB.out) | (with_reducible refine cA_ ?_ _) | (with_reducible refine cN_ ?_ _) | (with_reducible refine cD_ ?_))); (case side2 => exact HC0_3.out); rintro e w6 ⟨v413, rfl, ho0, hb⟩; refine ⟨_, rfl, ?_⟩; have n0_ := aM_ (Kd.R_lower ho0 (sZ_ (bw_))); have n1_ := aM_ (bB_ (kb_ BK411.out) hb); have n2_ := aM_ (wS_ (bw_) hb); clear BK411 HB; have HO414 := n0_; have BK411 := n1_; have HB := n2_; clear n0_ n1_ n2_; (try clear hb); (try clear hb2); (try clear hk); (try clear hi); (try clear ho0); obtain ⟨Ao7, co7, eo7⟩ := Kd.R_slice HO414.out; subst eo7))
  go_loopg [5, 12] k (fun kq v5 v12 w' => ∃ (x5_1 : Int) (x12_1 : Int), v5 = .int .i64 x5_1 ∧ v12 = .int .i64 x12_1 ∧ Aside0 (impl_LongestGap.l0 kq x5_1 t412 (t412.length : Int) x12_1 = some r) ∧ Aside0 (kq ≤ k) ∧ Aside0 (Kd.R k109 109 w' w.heap.size (fun _ => True) (.slice Ao7 t412.length co7) t412) ∧ Aside0 (w'.heap[gb411]? = some (.cells #[.int .i64 a0_0, .int .i64 a0_1, .int .i64 a0_2, (.slice A0_3 l0_3.length c0_3)] 30 (0, 0))) ∧ Aside0 (Below w.heap.size w w'))
  case atStart => exact ⟨(0), (0), (by first | rfl | (simp; done) | (simp [*]; done)), (by first | rfl | (simp; done) | (simp [*]; done)), H', ⟨Nat.le_refl _⟩, ⟨by (with_reducible repeat (first | apply rA_ | apply rN_ | apply rD_)); exact HO414.out⟩, ⟨by (with_reducible repeat (first | refine bN_ ?_ _ | refine bD_ ?_ | refine bA_ ?_ _)); exact BK411.out⟩, ⟨bw_⟩⟩
  case round =>
    clear H'
    try clear hcz5_0
    try clear hcz5_1
    try clear hcz5_2
    try clear hcz5_3
    try clear hfz5_0
    try clear hfz5_1
    try clear hfz5_2
    try clear hfz5_3
    obtain ⟨x5_1, x12_1, rfl, rfl, HA, HK1, HO_10, BK411, HB⟩ := hrel
    cases gk with
    | zero => exact absurd HA.out (by simp [impl_LongestGap.l0])
    | succ k1 =>
      have H := HA.out
      clear HA
      simp only [impl_LongestGap.l0] at H
      by_cases c8 : x12_1 < (t412.length : Int)
      · rw [if_pos c8] at H
        have c8b0 : decide (x12_1 < (t412.length : Int)) = true := decide_eq_true c8
        clear c8
        by_cases c9 : 0 ≤ x12_1
        · rw [if_pos c9] at H
          have c9b0 : decide (0 ≤ x12_1) = true := decide_eq_true c9
          clear c9
          by_cases c10 : x12_1 < (t412.length : Int)
          · rw [if_pos c10] at H
            have c10b0 : decide (x12_1 < (t412.length : Int)) = true := decide_eq_true c10
            clear c10
            obtain ⟨ji11, hji11⟩ : ∃ j_ : Int, (mx x5_1 (wrap64 (((rd_T109 t412 x12_1).f1) - ((rd_T109 t412 x12_1).f0)))) = j_ := ⟨_, rfl⟩
            replace H : (impl_LongestGap.l0 k1 ji11 t412 (t412.length : Int) (wrap64 (x12_1 + 1))) = some r := by first | (rw [hji11] at H; exact H) | (simp only [hji11] at H ⊢; exact H)
            have hji11_ : (if x5_1 < (wrap64 (((rd_T109 t412 x12_1).f1) - ((rd_T109 t412 x12_1).f0))) then (wrap64 (((rd_T109 t412 x12_1).f1) - ((rd_T109 t412 x12_1).f0))) else x5_1) = ji11 := hji11
            have H' := aM_ H
            clear H
            have p415 : 0 ≤ (x12_1 : Int) := dT_
            have q415 : x12_1 < (t412.length : Int) := dT_
            obtain ⟨ad415, e415, hx415_0, hx415_1⟩ := at_T109 (Kd.R_reads' HO_10.out).2.2 x12_1 p415 q415
            cases e415
            replace p415 := eq_true p415
            replace q415 := eq_true q415
            go_wp2_with (first | ((with_reducible refine gate_dst (N := 7) rfl ?_); refine box_event ?hg (N := 7) ?hd (cs := #[.int .i64 0, .int .i64 0]) (t := 109) ?hr ?_; (case hd => rfl); (case hg => rfl); (case hr => first | (go_simp; done) | (go_simp; rfl)); intro gb416 hg w12 hbox hb; have n0_ := aM_ (rB_ (Kd.R_elderB (rb_ HO_10.out) gb416 (Nat.le_of_eq hg.symm)) hb); have n1_ := aM_ (bB_ (kb_ BK411.out) hb); have n2_ := aM_ (wS_ (bw_) hb); have n3_ := aM_ (hbox); have n4_ := aM_ ((by rw [hg]; exact (sZ_ (bw_)) : w.heap.size ≤ gb416)); have n5_ := aM_ ((by rw [hg]; exact (sZ_ (bw_)) : w.heap.size ≤ gb416)); have n6_ := aM_ ((by rw [hg]; exact Nat.ne_of_lt (blk_lt (kb_ BK411.out)) : gb411 ≠ gb416)); have n7_ := aM_ ((by rw [hg]; exact Nat.ne_of_gt (blk_lt (kb_ BK411.out)) : gb416 ≠ gb411)); clear HO_10 BK411 HB; have HO_10 := n0_; have BK411 := n1_; have HB := n2_; have BK416 := n3_; have GW416 := n4_; have GE416 := n5_; have NB411_416 := n6_; have NB416_411 := n7_; clear n0_ n1_ n2_ n3_ n4_ n5_ n6_ n7_ hb hbox hg; have hnb13 := NB416_411.out; have hnc13 := NB411_416.out; obtain ⟨hcz14_0, hcz14_1, hfz14_0, hfz14_1⟩ := bk2_ BK416.out))
            go_roundg k1
            case measure => have := HK1.out; omega
            case rel => exact ⟨(ji11), (wrap64 (x12_1 + 1)), (by first | rfl | (simp; done) | (simp only [← hji11] <;> (first | rfl | simp)) | (simp [*]; done)), (by first | rfl | (simp; done) | (simp [*]; done)), H', ⟨by have := HK1.out; omega⟩, ⟨by (with_reducible repeat (first | apply rA_ | apply rN_ | apply rD_)); exact Kd.R_mono (Kd.R_far (p := ⟨gb416, 1, none⟩) (Kd.R_far (p := ⟨gb416, 0, none⟩) (Kd.R_mono HO_10.out (fun k_ hk => (⟨hk, hk.2⟩ : _ ∧ k_ ≠ gb416))) (fun _ hk => hk.2) (.int .i64 ((rd_T109 t412 x12_1).f0))) (fun _ hk => hk.2) (.int .i64 ((rd_T109 t412 x12_1).f1))) (fun _ hk => trivial)⟩, ⟨by (with_reducible repeat (first | refine bN_ ?_ _ | refine bD_ ?_ | refine bA_ ?_ _)); refine blk_far ?_ NB411_416.out _; (with_reducible repeat (first | refine bN_ ?_ _ | refine bD_ ?_ | refine bA_ ?_ _)); refine blk_far ?_ NB411_416.out _; (with_reducible repeat (first | refine bN_ ?_ _ | refine bD_ ?_ | refine bA_ ?_ _)); exact BK411.out⟩, ⟨bw_⟩⟩
          · rw [if_neg c10] at H
            exact absurd H (by simp)
        · rw [if_neg c9] at H
          exact absurd H (by simp)
      · rw [if_neg c8] at H
        have c8b0 : decide (x12_1 < (t412.length : Int)) = false := decide_eq_false c8
        clear c8
        obtain rfl := Option.some.inj H
        go_wp2
        go_ret
        exact ⟨by first | rfl | (simp [errW_none, errW_some] <;> rfl) | (simp [*, errW_none, errW_some] <;> rfl), bw_⟩

/-! ### impl_TicksOf: function 41 -/
def impl_TicksOf.l0 : Nat → Int → List (S109) → Int → Int → Option (Int)
  | 0, _, _, _, _ => none
  | k + 1, x3, x7, x8, x9 => if x9 < x8 then (if 0 ≤ x9 then (if x9 < (x7.length : Int) then (impl_TicksOf.l0 k (wrap64 (x3 + (wrap64 (((rd_T109 x7 x9).f1) - ((rd_T109 x7 x9).f0))))) x7 x8 (wrap64 (x9 + 1))) else (none)) else (none)) else (some x3)
def impl_TicksOf.f (k : Nat) (l0 : List (S109)) : Option (Int) := (impl_JoinSpans.f k l0).bind fun t417 => (impl_TicksOf.l0 k 0 t417 (t417.length : Int) 0)
set_option maxHeartbeats 8000000 in
set_option maxRecDepth 100000 in
theorem impl_TicksOf.calls (k : Nat) (A0 : Option Addr) (c0 : Nat) (l0 : List (S109)) (r : Int) (w : World) (hr0 : Kd.C k109 w A0 l0.length l0) (hc0 : l0.length ≤ c0) (h : impl_TicksOf.f k l0 = some r) :
    Calls Try.prog 41 #[.slice A0 l0.length c0] w fun e w' => e = .returned (.int .i64 r) ∧ Below w.heap.size w w' := by
  have hu109 := Try.underlying109
  have HR0 := aM_ hr0
  have HC0 := aM_ hc0
  clear hr0 hc0
  have HB := aM_ (Below.refl w.heap.size w)
  have H : ((impl_JoinSpans.f k l0).bind fun t417 => (impl_TicksOf.l0 k 0 t417 (t417.length : Int) 0)) = some r := h
  clear h
  replace H := Option.bind_eq_some_iff.mp H
  obtain ⟨t417, A20, H⟩ := H
  replace H : (impl_TicksOf.l0 k 0 t417 (t417.length : Int) 0) = some r := H
  have A2 := aM_ A20
  clear A20
  have H' := aM_ H
  clear H
  go_enter Try.func41, Try.ntmps41
  go_wp2_with (first | ((with_reducible refine gate_callee (f := 113) rfl ?_); refine goesL_ (some 7) rfl rfl Try.func113 (by kernel_rfl) rfl #[.slice A0 l0.length c0] rfl (by (try simp only [List.map_toArray, List.map_cons, List.map_nil]); first | done | rfl | (simp only [List.length_drop, List.length_take]; rfl)) ?_; (with_reducible refine (impl_JoinSpans.calls k _ _ l0 t417 _ ?side1 ?side2 A2.out).mono ?_); (case side1 => repeat (first | exact HR0.out | (with_reducible refine cA_ ?_ _) | (with_reducible refine cN_ ?_ _) | (with_reducible refine cD_ ?_))); (case side2 => exact HC0.out); rintro e w3 ⟨v418, rfl, ho0, hb⟩; refine ⟨_, rfl, ?_⟩; have n0_ := aM_ (Kd.R_lower ho0 (sZ_ (bw_))); have n1_ := aM_ (wS_ (bw_) hb); clear HB; have HO419 := n0_; have HB := n1_; clear n0_ n1_; (try clear hb); (try clear hb2); (try clear hk); (try clear hi); (try clear ho0); obtain ⟨Ao4, co4, eo4⟩ := Kd.R_slice HO419.out; subst eo4))
  go_loopg [3, 9] k (fun kq v3 v9 w' => ∃ (x3_1 : Int) (x9_1 : Int), v3 = .int .i64 x3_1 ∧ v9 = .int .i64 x9_1 ∧ Aside0 (impl_TicksOf.l0 kq x3_1 t417 (t417.length : Int) x9_1 = some r) ∧ Aside0 (kq ≤ k) ∧ Aside0 (Kd.R k109 109 w' w.heap.size (fun _ => True) (.slice Ao4 t417.length co4) t417) ∧ Aside0 (Below w.heap.size w w'))
  case atStart => exact ⟨(0), (0), (by first | rfl | (simp; done) | (simp [*]; done)), (by first | rfl | (simp; done) | (simp [*]; done)), H', ⟨Nat.le_refl _⟩, ⟨by (with_reducible repeat (first | apply rA_ | apply rN_ | apply rD_)); exact HO419.out⟩, ⟨bw_⟩⟩
  case round =>
    clear H'
    obtain ⟨x3_1, x9_1, rfl, rfl, HA, HK1, HO_7, HB⟩ := hrel
    cases gk with
    | zero => exact absurd HA.out (by simp [impl_TicksOf.l0])
    | succ k1 =>
      have H := HA.out
      clear HA
      simp only [impl_TicksOf.l0] at H
      by_cases c5 : x9_1 < (t417.length : Int)
      · rw [if_pos c5] at H
        have c5b0 : decide (x9_1 < (t417.length : Int)) = true := decide_eq_true c5
        clear c5
        by_cases c6 : 0 ≤ x9_1
        · rw [if_pos c6] at H
          have c6b0 : decide (0 ≤ x9_1) = true := decide_eq_true c6
          clear c6
          by_cases c7 : x9_1 < (t417.length : Int)
          · rw [if_pos c7] at H
            have c7b0 : decide (x9_1 < (t417.length : Int)) = true := decide_eq_true c7
            clear c7
            have H' := aM_ H
            clear H
            have p420 : 0 ≤ (x9_1 : Int) := dT_
            have q420 : x9_1 < (t417.length : Int) := dT_
            obtain ⟨ad420, e420, hx420_0, hx420_1⟩ := at_T109 (Kd.R_reads' HO_7.out).2.2 x9_1 p420 q420
            cases e420
            replace p420 := eq_true p420
            replace q420 := eq_true q420
            go_wp2_with (first | ((with_reducible refine gate_dst (N := 5) rfl ?_); refine box_event ?hg (N := 5) ?hd (cs := #[.int .i64 0, .int .i64 0]) (t := 109) ?hr ?_; (case hd => rfl); (case hg => rfl); (case hr => first | (go_simp; done) | (go_simp; rfl)); intro gb421 hg w8 hbox hb; have n0_ := aM_ (rB_ (Kd.R_elderB (rb_ HO_7.out) gb421 (Nat.le_of_eq hg.symm)) hb); have n1_ := aM_ (wS_ (bw_) hb); have n2_ := aM_ (hbox); have n3_ := aM_ ((by rw [hg]; exact (sZ_ (bw_)) : w.heap.size ≤ gb421)); have n4_ := aM_ ((by rw [hg]; exact (sZ_ (bw_)) : w.heap.size ≤ gb421)); clear HO_7 HB; have HO_7 := n0_; have HB := n1_; have BK421 := n2_; have GW421 := n3_; have GE421 := n4_; clear n0_ n1_ n2_ n3_ n4_ hb hbox hg; obtain ⟨hcz9_0, hcz9_1, hfz9_0, hfz9_1⟩ := bk2_ BK421.out))
            go_roundg k1
            case measure => have := HK1.out; omega
            case rel => exact ⟨(wrap64 (x3_1 + (wrap64 (((rd_T109 t417 x9_1).f1) - ((rd_T109 t417 x9_1).f0))))), (wrap64 (x9_1 + 1)), (by first | rfl | (simp; done) | (simp [*]; done)), (by first | rfl | (simp; done) | (simp [*]; done)), H', ⟨by have := HK1.out; omega⟩, ⟨by (with_reducible repeat (first | apply rA_ | apply rN_ | apply rD_)); exact Kd.R_mono (Kd.R_far (p := ⟨gb421, 1, none⟩) (Kd.R_far (p := ⟨gb421, 0, none⟩) (Kd.R_mono HO_7.out (fun k_ hk => (⟨hk, hk.2⟩ : _ ∧ k_ ≠ gb421))) (fun _ hk => hk.2) (.int .i64 ((rd_T109 t417 x9_1).f0))) (fun _ hk => hk.2) (.int .i64 ((rd_T109 t417 x9_1).f1))) (fun _ hk => trivial)⟩, ⟨bw_⟩⟩
          · rw [if_neg c7] at H
            exact absurd H (by simp)
        · rw [if_neg c6] at H
          exact absurd H (by simp)
      · rw [if_neg c5] at H
        have c5b0 : decide (x9_1 < (t417.length : Int)) = false := decide_eq_false c5
        clear c5
        obtain rfl := Option.some.inj H
        go_wp2
        go_ret
        exact ⟨by first | rfl | (simp [errW_none, errW_some] <;> rfl) | (simp [*, errW_none, errW_some] <;> rfl), bw_⟩

end Go.Proofs.Ytlogjmgghnifoaa.PFnHandovers
