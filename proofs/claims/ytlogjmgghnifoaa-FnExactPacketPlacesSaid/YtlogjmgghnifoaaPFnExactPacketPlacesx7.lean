/- The functions that the law reaches, as plain Lean functions, each with the proof that the Go code comes to its answers; conditions: those that each theorem names. (printed by a program of this session) -/
import Derived.Test.YtlogjmgghnifoaaPFnExactPacketPlacesx0
import Derived.Test.YtlogjmgghnifoaaPFnExactPacketPlacesx4
import Derived.Test.YtlogjmgghnifoaaPFnExactPacketPlacesx5
import Derived.Test.YtlogjmgghnifoaaPFnExactPacketPlacesx6
namespace Go.Proofs.Ytlogjmgghnifoaa.PFnExactPacketPlaces
open Go.RowKit Go.Proofs.YtlogjmgghnifoaaW.PrintWords Go.Proofs.YtlogjmgghnifoaaW.PrintLast Go.Proofs.YtlogjmgghnifoaaW.PrintMore
attribute [local go_sem] max2_int min2_int max_two min_two max_three min_three max_four min_four   -- for this text's walks alone
set_option linter.unusedVariables false
set_option linter.unusedSimpArgs false

/-! ### laws_toWorld: function 25 -/
def laws_toWorld.f (k : Nat) (a0_0 : Int) (l0_1 : List (S251)) (l0_2 : List (S255)) (a0_3 : Int) (a0_4 : Int) (a0_5 : Int) (a0_6 : Int) (a0_7 : Int) (l0_8 : List (S263)) (a0_9 : Int) (a0_10 : Int) (a0_11 : Int) (a0_12 : Int) (l0_13 : List (S177)) (l0_14 : List Int) (l0_15 : List Int) (l0_16 : List (S197)) (l0_17 : List (S187)) (l0_18 : List (S202)) (l0_19 : List Int) (l0_20 : List (S190)) (l0_21 : List (S208)) (a0_22 : Int) (a0_23 : Int) (l0_24 : List (S210)) (l0_25 : List (S214)) : Option (Int × (List (S249)) × (List (S253)) × Int × Int × Int × Int × Int × (List (S259)) × Int × Int × Int × Int × (List (S112)) × List Int × List Int × (List (S195)) × (List (S130)) × (List (S200)) × List Int × (List (S203)) × (List (S206)) × Int × Int × (List (S132)) × (List (S212))) := (laws_toSky.f k a0_0 l0_1 l0_2 a0_3 a0_4 a0_5 a0_6 a0_7 l0_8 a0_9).bind fun bt368 => ((laws_toProgram.f k a0_10 a0_11 a0_12 l0_13).bind fun bt384 => ((laws_toLaw.f k l0_14).bind fun t390 => ((laws_toIntS.f k l0_15).bind fun t393 => ((laws_toBatteryS.f k l0_16).bind fun t396 => ((laws_toQueueS.f k l0_17).bind fun t399 => ((laws_toFlowS.f k l0_18).bind fun t402 => ((laws_toIntS.f k l0_19).bind fun t405 => ((laws_toStreamS.f k l0_20).bind fun t408 => ((laws_toFaultS.f k l0_21).bind fun t411 => ((laws_toPacketS.f k l0_24).bind fun t414 => ((laws_toSentS.f k l0_25).bind fun t417 => (some (bt368.1, bt368.2.1, bt368.2.2.1, bt368.2.2.2.1, bt368.2.2.2.2.1, bt368.2.2.2.2.2.1, bt368.2.2.2.2.2.2.1, bt368.2.2.2.2.2.2.2.1, bt368.2.2.2.2.2.2.2.2.1, bt368.2.2.2.2.2.2.2.2.2, bt384.1, bt384.2.1, bt384.2.2.1, bt384.2.2.2, t390, t393, t396, t399, t402, t405, t408, t411, a0_22, a0_23, t414, t417)))))))))))))
structure laws_toWorld.Mv (g : Nat) (P : World → Prop) : Prop where
  bel : ∀ {W W1 : World}, P W → Below W.heap.size W W1 → P W1
  far : ∀ {W : World} (i : Nat) (u : Value), P W → P (W.setCell ⟨g, i, none⟩ u)
theorem laws_toWorld.mvT {g : Nat} : laws_toWorld.Mv g (fun _ => True) := ⟨fun h _ => h, fun _ _ h => h⟩
theorem laws_toWorld.mvA {g : Nat} {P Q : World → Prop} (h : laws_toWorld.Mv g P) (h' : laws_toWorld.Mv g Q) : laws_toWorld.Mv g (fun W => P W ∧ Q W) :=
  ⟨fun h1 hb => ⟨h.bel h1.1 hb, h'.bel h1.2 hb⟩, fun i u h1 => ⟨h.far i u h1.1, h'.far i u h1.2⟩⟩
theorem laws_toWorld.mvR2 {α : Type} {d : Kd α} {e base g2 g3 : Nat} {v : Value} {xs : List α} : laws_toWorld.Mv g2 (fun W => d.R e W base (fun k_ => k_ ≠ g2 ∧ k_ ≠ g3) v xs) :=
  ⟨fun h hb => rB_ h hb, fun _ u h => Kd.R_far h (fun _ hk => hk.1) u⟩
theorem laws_toWorld.mvR3 {α : Type} {d : Kd α} {e base g2 g3 : Nat} {v : Value} {xs : List α} : laws_toWorld.Mv g3 (fun W => d.R e W base (fun k_ => k_ ≠ g2 ∧ k_ ≠ g3) v xs) :=
  ⟨fun h hb => rB_ h hb, fun _ u h => Kd.R_far h (fun _ hk => hk.2) u⟩
theorem laws_toWorld.mv0 {g1 g2 g3 : Nat} {w : World} {c1 c2 : Array Value} {t1 t2 : TypeId} (h1 : g1 ≠ g3) (h2 : g2 ≠ g3) (b3 : w.heap.size ≤ g3) : laws_toWorld.Mv g3 (fun W => W.heap[g1]? = some (.cells c1 t1 (0, 0)) ∧ W.heap[g2]? = some (.cells c2 t2 (0, 0)) ∧ Below w.heap.size w W) :=
  ⟨fun h hb => ⟨bB_ h.1 hb, bB_ h.2.1 hb, wS_ h.2.2 hb⟩, fun i u h => ⟨blk_far (p := ⟨g3, i, none⟩) h.1 h1 u, blk_far (p := ⟨g3, i, none⟩) h.2.1 h2 u, wE_ h.2.2 b3⟩⟩
theorem laws_toWorld.st {P : Program} {ops : Array Oper} {rest : List Oper} {o : Oper} {a : Act} {w : World} {Q : Exit → Act → World → Prop} (hgd : o.guard = none) (hN : o.dst = none) (ty : TypeId) (x y : Operand) (ho : o.op = .store ty x y)
    (g : Nat) (cells : Array Value) (hx : a.eval x = .pointer (some ⟨g, 0, none⟩)) (hy : a.eval y = .agg cells) (t : TypeId) (old : Array Value) (hg : w.heap[g]? = some (.cells old t (0, 0))) (hi : (P.info? ty).map (·.size) = some cells.size)
    (hold : old.size = cells.size) (h1 : cells.all (·.oneCell') = true) (h : wpList P ops Q rest a (w.setRow g cells)) : wpList P ops Q (o :: rest) a w :=
  wpList_store_row hgd ty x y ho g cells hx hy t old hg hi hold h1 (by rw [hN]; exact h)
theorem laws_toWorld.sr {W : World} {g k : Nat} {c : Array Value} (h : k ≠ g) : (W.setRow g c).heap[k]? = W.heap[k]? := by
  simp [World.setRow, Array.getElem?_modify, Ne.symm h]
theorem laws_toWorld.bsr {w W : World} {g : Nat} {c : Array Value} (h : Below w.heap.size w W) (hg : w.heap.size ≤ g) : Below w.heap.size w (W.setRow g c) :=
  ⟨h.os, h.tape, h.output, by simpa [World.setRow] using h.size, fun k hk => (laws_toWorld.sr (by omega)).trans (h.block k hk)⟩
theorem laws_toWorld.fin {α : Type} {d : Kd α} {e base g2 g3 n c : Nat} {W : World} {C : Array Value} {A : Option Addr} {xs : List α} (h : d.R e W base (fun k_ => k_ ≠ g2 ∧ k_ ≠ g3) (.slice A n c) xs) : d.C (W.setRow g2 C) A xs.length xs ∧ xs.length ≤ c := by
  have h1 := Kd.R_reads' (Kd.R_move h (fun k hk => laws_toWorld.sr (c := C) hk.1))
  exact ⟨h1.2.2, h1.1 ▸ h1.2.1⟩
theorem laws_toWorld.row {α : Type} {d : Kd α} {e base B0 g2 g3 : Nat} {W1 : World} {v : Value} {xs : List α} {ok : Nat → Prop} (h : d.R e W1 base ok v xs) (h2 : g2 < base) (h3 : g3 < base) (h0 : B0 ≤ base) : d.R e W1 B0 (fun k_ => k_ ≠ g2 ∧ k_ ≠ g3) v xs :=
  Kd.R_lower (Kd.R_mono (Kd.R_bound h) (fun k hk => ⟨fun e => by have := hk.2.1; omega, fun e => by have := hk.2.1; omega⟩)) h0
set_option maxHeartbeats 8000000 in
set_option maxRecDepth 100000 in
theorem laws_toWorld.calls (k : Nat) (a0_0 : Int) (A0_1 : Option Addr) (c0_1 : Nat) (l0_1 : List (S251)) (A0_2 : Option Addr) (c0_2 : Nat) (l0_2 : List (S255)) (a0_3 : Int) (a0_4 : Int) (a0_5 : Int) (a0_6 : Int) (a0_7 : Int) (A0_8 : Option Addr) (c0_8 : Nat) (l0_8 : List (S263)) (a0_9 : Int) (a0_10 : Int) (a0_11 : Int) (a0_12 : Int) (A0_13 : Option Addr) (c0_13 : Nat) (l0_13 : List (S177)) (A0_14 : Option Addr) (c0_14 : Nat) (l0_14 : List Int) (A0_15 : Option Addr) (c0_15 : Nat) (l0_15 : List Int) (A0_16 : Option Addr) (c0_16 : Nat) (l0_16 : List (S197)) (A0_17 : Option Addr) (c0_17 : Nat) (l0_17 : List (S187)) (A0_18 : Option Addr) (c0_18 : Nat) (l0_18 : List (S202)) (A0_19 : Option Addr) (c0_19 : Nat) (l0_19 : List Int) (A0_20 : Option Addr) (c0_20 : Nat) (l0_20 : List (S190)) (A0_21 : Option Addr) (c0_21 : Nat) (l0_21 : List (S208)) (a0_22 : Int) (a0_23 : Int) (A0_24 : Option Addr) (c0_24 : Nat) (l0_24 : List (S210)) (A0_25 : Option Addr) (c0_25 : Nat) (l0_25 : List (S214)) (r1 : Int) (r2 : List (S249)) (r3 : List (S253)) (r4 : Int) (r5 : Int) (r6 : Int) (r7 : Int) (r8 : Int) (r9 : List (S259)) (r10 : Int) (r11 : Int) (r12 : Int) (r13 : Int) (r14 : List (S112)) (r15 : List Int) (r16 : List Int) (r17 : List (S195)) (r18 : List (S130)) (r19 : List (S200)) (r20 : List Int) (r21 : List (S203)) (r22 : List (S206)) (r23 : Int) (r24 : Int) (r25 : List (S132)) (r26 : List (S212)) (w : World) (hr0_1 : Kd.C k251 w A0_1 l0_1.length l0_1) (hc0_1 : l0_1.length ≤ c0_1) (hr0_2 : Kd.C k255 w A0_2 l0_2.length l0_2) (hc0_2 : l0_2.length ≤ c0_2) (hr0_8 : Kd.C k263 w A0_8 l0_8.length l0_8) (hc0_8 : l0_8.length ≤ c0_8) (hr0_13 : Kd.C k177 w A0_13 l0_13.length l0_13) (hc0_13 : l0_13.length ≤ c0_13) (hr0_14 : Kd.C (Kd.int .i64) w A0_14 l0_14.length l0_14) (hc0_14 : l0_14.length ≤ c0_14) (hr0_15 : Kd.C (Kd.int .i64) w A0_15 l0_15.length l0_15) (hc0_15 : l0_15.length ≤ c0_15) (hr0_16 : Kd.C k197 w A0_16 l0_16.length l0_16) (hc0_16 : l0_16.length ≤ c0_16) (hr0_17 : Kd.C k187 w A0_17 l0_17.length l0_17) (hc0_17 : l0_17.length ≤ c0_17) (hr0_18 : Kd.C k202 w A0_18 l0_18.length l0_18) (hc0_18 : l0_18.length ≤ c0_18) (hr0_19 : Kd.C (Kd.int .i64) w A0_19 l0_19.length l0_19) (hc0_19 : l0_19.length ≤ c0_19) (hr0_20 : Kd.C k190 w A0_20 l0_20.length l0_20) (hc0_20 : l0_20.length ≤ c0_20) (hr0_21 : Kd.C k208 w A0_21 l0_21.length l0_21) (hc0_21 : l0_21.length ≤ c0_21) (hr0_24 : Kd.C k210 w A0_24 l0_24.length l0_24) (hc0_24 : l0_24.length ≤ c0_24) (hr0_25 : Kd.C k214 w A0_25 l0_25.length l0_25) (hc0_25 : l0_25.length ≤ c0_25) (h : laws_toWorld.f k a0_0 l0_1 l0_2 a0_3 a0_4 a0_5 a0_6 a0_7 l0_8 a0_9 a0_10 a0_11 a0_12 l0_13 l0_14 l0_15 l0_16 l0_17 l0_18 l0_19 l0_20 l0_21 a0_22 a0_23 l0_24 l0_25 = some (r1, r2, r3, r4, r5, r6, r7, r8, r9, r10, r11, r12, r13, r14, r15, r16, r17, r18, r19, r20, r21, r22, r23, r24, r25, r26)) :
 Calls Try.prog 25 #[.agg #[.int .i64 a0_0, .slice A0_1 l0_1.length c0_1, .slice A0_2 l0_2.length c0_2, .int .i64 a0_3, .int .i64 a0_4, .int .i64 a0_5, .int .i64 a0_6, .int .i64 a0_7, .slice A0_8 l0_8.length c0_8, .int .i64 a0_9, .int .i64 a0_10, .int .i64 a0_11, .int .i64 a0_12, .slice A0_13 l0_13.length c0_13, .slice A0_14 l0_14.length c0_14, .slice A0_15 l0_15.length c0_15, .slice A0_16 l0_16.length c0_16, .slice A0_17 l0_17.length c0_17, .slice A0_18 l0_18.length c0_18, .slice A0_19 l0_19.length c0_19, .slice A0_20 l0_20.length c0_20, .slice A0_21 l0_21.length c0_21, .int .i64 a0_22, .int .i64 a0_23, .slice A0_24 l0_24.length c0_24, .slice A0_25 l0_25.length c0_25]] w fun e w' => ∃ B0_ B1_ B2_ B3_ B4_ B5_ B6_ B7_ B8_ B9_ B10_ B11_ B12_ B13_ : Option Addr, ∃ d0_ d1_ d2_ d3_ d4_ d5_ d6_ d7_ d8_ d9_ d10_ d11_ d12_ d13_ : Nat, e = .returned (.agg #[.int .i64 r1, .slice B0_ r2.length d0_, .slice B1_ r3.length d1_, .int .i64 r4, .int .i64 r5, .int .i64 r6, .int .i64 r7, .int .i64 r8, .slice B2_ r9.length d2_, .int .i64 r10, .int .i64 r11, .int .i64 r12, .int .i64 r13, .slice B3_ r14.length d3_, .slice B4_ r15.length d4_, .slice B5_ r16.length d5_, .slice B6_ r17.length d6_, .slice B7_ r18.length d7_, .slice B8_ r19.length d8_, .slice B9_ r20.length d9_, .slice B10_ r21.length d10_, .slice B11_ r22.length d11_, .int .i64 r23, .int .i64 r24, .slice B12_ r25.length d12_, .slice B13_ r26.length d13_]) ∧ (Kd.C k249 w' B0_ r2.length r2 ∧ r2.length ≤ d0_) ∧ (Kd.C k253 w' B1_ r3.length r3 ∧ r3.length ≤ d1_) ∧ (Kd.C k259 w' B2_ r9.length r9 ∧ r9.length ≤ d2_) ∧ (Kd.C k112 w' B3_ r14.length r14 ∧ r14.length ≤ d3_) ∧ (Kd.C (Kd.int .i64) w' B4_ r15.length r15 ∧ r15.length ≤ d4_) ∧ (Kd.C (Kd.int .i64) w' B5_ r16.length r16 ∧ r16.length ≤ d5_) ∧ (Kd.C k195 w' B6_ r17.length r17 ∧ r17.length ≤ d6_) ∧ (Kd.C k130 w' B7_ r18.length r18 ∧ r18.length ≤ d7_) ∧ (Kd.C k200 w' B8_ r19.length r19 ∧ r19.length ≤ d8_) ∧ (Kd.C (Kd.int .i64) w' B9_ r20.length r20 ∧ r20.length ≤ d9_) ∧ (Kd.C k203 w' B10_ r21.length r21 ∧ r21.length ≤ d10_) ∧ (Kd.C k206 w' B11_ r22.length r22 ∧ r22.length ≤ d11_) ∧ (Kd.C k132 w' B12_ r25.length r25 ∧ r25.length ≤ d12_) ∧ (Kd.C k212 w' B13_ r26.length r26 ∧ r26.length ≤ d13_) ∧ Below w.heap.size w w' := by
 have hu55 := Try.underlying55; have hu72 := Try.underlying72; have hu43 := Try.underlying43; have hu62 := Try.underlying62; have hu24 := Try.underlying24; have hu30 := Try.underlying30; have hu46 := Try.underlying46; have hu63 := Try.underlying63; have HR0_1 := aM_ hr0_1; have HC0_1 := aM_ hc0_1; clear hr0_1 hc0_1; have HR0_2 := aM_ hr0_2; have HC0_2 := aM_ hc0_2; clear hr0_2 hc0_2; have HR0_8 := aM_ hr0_8; have HC0_8 := aM_ hc0_8; clear hr0_8 hc0_8; have HR0_13 := aM_ hr0_13; have HC0_13 := aM_ hc0_13; clear hr0_13 hc0_13; have HR0_14 := aM_ hr0_14; have HC0_14 := aM_ hc0_14; clear hr0_14 hc0_14; have HR0_15 := aM_ hr0_15; have HC0_15 := aM_ hc0_15; clear hr0_15 hc0_15; have HR0_16 := aM_ hr0_16; have HC0_16 := aM_ hc0_16; clear hr0_16 hc0_16; have HR0_17 := aM_ hr0_17; have HC0_17 := aM_ hc0_17; clear hr0_17 hc0_17; have HR0_18 := aM_ hr0_18; have HC0_18 := aM_ hc0_18; clear hr0_18 hc0_18; have HR0_19 := aM_ hr0_19; have HC0_19 := aM_ hc0_19; clear hr0_19 hc0_19; have HR0_20 := aM_ hr0_20; have HC0_20 := aM_ hc0_20; clear hr0_20 hc0_20; have HR0_21 := aM_ hr0_21; have HC0_21 := aM_ hc0_21; clear hr0_21 hc0_21; have HR0_24 := aM_ hr0_24; have HC0_24 := aM_ hc0_24; clear hr0_24 hc0_24; have HR0_25 := aM_ hr0_25; have HC0_25 := aM_ hc0_25; clear hr0_25 hc0_25; have HB := aM_ (Below.refl w.heap.size w)
 have H : ((laws_toSky.f k a0_0 l0_1 l0_2 a0_3 a0_4 a0_5 a0_6 a0_7 l0_8 a0_9).bind fun bt368 => ((laws_toProgram.f k a0_10 a0_11 a0_12 l0_13).bind fun bt384 => ((laws_toLaw.f k l0_14).bind fun t390 => ((laws_toIntS.f k l0_15).bind fun t393 => ((laws_toBatteryS.f k l0_16).bind fun t396 => ((laws_toQueueS.f k l0_17).bind fun t399 => ((laws_toFlowS.f k l0_18).bind fun t402 => ((laws_toIntS.f k l0_19).bind fun t405 => ((laws_toStreamS.f k l0_20).bind fun t408 => ((laws_toFaultS.f k l0_21).bind fun t411 => ((laws_toPacketS.f k l0_24).bind fun t414 => ((laws_toSentS.f k l0_25).bind fun t417 => (some (bt368.1, bt368.2.1, bt368.2.2.1, bt368.2.2.2.1, bt368.2.2.2.2.1, bt368.2.2.2.2.2.1, bt368.2.2.2.2.2.2.1, bt368.2.2.2.2.2.2.2.1, bt368.2.2.2.2.2.2.2.2.1, bt368.2.2.2.2.2.2.2.2.2, bt384.1, bt384.2.1, bt384.2.2.1, bt384.2.2.2, t390, t393, t396, t399, t402, t405, t408, t411, a0_22, a0_23, t414, t417)))))))))))))) = some (r1, r2, r3, r4, r5, r6, r7, r8, r9, r10, r11, r12, r13, r14, r15, r16, r17, r18, r19, r20, r21, r22, r23, r24, r25, r26) := h
 clear h
 replace H := Option.bind_eq_some_iff.mp H
 obtain ⟨⟨t368, t369, t372, t375, t376, t377, t378, t379, t380, t383⟩, A20, H⟩ := H
 (try dsimp only at H)
 have A2 := aM_ A20; clear A20
 replace H := Option.bind_eq_some_iff.mp H
 obtain ⟨⟨t384, t385, t386, t387⟩, A30, H⟩ := H
 (try dsimp only at H)
 have A3 := aM_ A30; clear A30
 replace H := Option.bind_eq_some_iff.mp H
 obtain ⟨t390, A40, H⟩ := H
 (try dsimp only at H)
 have A4 := aM_ A40; clear A40
 replace H := Option.bind_eq_some_iff.mp H
 obtain ⟨t393, A50, H⟩ := H
 (try dsimp only at H)
 have A5 := aM_ A50; clear A50
 replace H := Option.bind_eq_some_iff.mp H
 obtain ⟨t396, A60, H⟩ := H
 (try dsimp only at H)
 have A6 := aM_ A60; clear A60
 replace H := Option.bind_eq_some_iff.mp H
 obtain ⟨t399, A70, H⟩ := H
 (try dsimp only at H)
 have A7 := aM_ A70; clear A70
 replace H := Option.bind_eq_some_iff.mp H
 obtain ⟨t402, A80, H⟩ := H
 (try dsimp only at H)
 have A8 := aM_ A80; clear A80
 replace H := Option.bind_eq_some_iff.mp H
 obtain ⟨t405, A90, H⟩ := H
 (try dsimp only at H)
 have A9 := aM_ A90; clear A90
 replace H := Option.bind_eq_some_iff.mp H
 obtain ⟨t408, A100, H⟩ := H
 (try dsimp only at H)
 have A10 := aM_ A100; clear A100
 replace H := Option.bind_eq_some_iff.mp H
 obtain ⟨t411, A110, H⟩ := H
 (try dsimp only at H)
 have A11 := aM_ A110; clear A110
 replace H := Option.bind_eq_some_iff.mp H
 obtain ⟨t414, A120, H⟩ := H
 (try dsimp only at H)
 have A12 := aM_ A120; clear A120
 replace H := Option.bind_eq_some_iff.mp H
 obtain ⟨t417, A130, H⟩ := H
 (try dsimp only at H)
 have A13 := aM_ A130; clear A130
 simp only [Option.some.injEq, Prod.mk.injEq] at H
 obtain ⟨rfl, rfl, rfl, rfl, rfl, rfl, rfl, rfl, rfl, rfl, rfl, rfl, rfl, rfl, rfl, rfl, rfl, rfl, rfl, rfl, rfl, rfl, rfl, rfl, rfl, rfl⟩ := H
 go_enter Try.func25, Try.ntmps25
 go_upto_region 2 with (first | ((with_reducible refine gate_dst (N := 1) rfl ?_); refine box_event ?hg (N := 1) ?hd (cs := #[.int .i64 a0_0, .slice A0_1 l0_1.length c0_1, .slice A0_2 l0_2.length c0_2, .int .i64 a0_3, .int .i64 a0_4, .int .i64 a0_5, .int .i64 a0_6, .int .i64 a0_7, .slice A0_8 l0_8.length c0_8, .int .i64 a0_9, .int .i64 a0_10, .int .i64 a0_11, .int .i64 a0_12, .slice A0_13 l0_13.length c0_13, .slice A0_14 l0_14.length c0_14, .slice A0_15 l0_15.length c0_15, .slice A0_16 l0_16.length c0_16, .slice A0_17 l0_17.length c0_17, .slice A0_18 l0_18.length c0_18, .slice A0_19 l0_19.length c0_19, .slice A0_20 l0_20.length c0_20, .slice A0_21 l0_21.length c0_21, .int .i64 a0_22, .int .i64 a0_23, .slice A0_24 l0_24.length c0_24, .slice A0_25 l0_25.length c0_25]) (t := 55) ?hr ?_; (case hd => rfl); (case hg => rfl); (case hr => first | (go_simp; done) | (go_simp; rfl)); intro gb365 hg w14 hbox hb; have n0_ := aM_ (wS_ (bw_) hb); have n1_ := aM_ (hbox); have n2_ := aM_ ((by rw [hg]; exact (sZ_ (bw_)) : w.heap.size ≤ gb365)); have n3_ := aM_ ((by rw [hg]; exact (sZ_ (bw_)) : w.heap.size ≤ gb365)); clear HB; have HB := n0_; have BK365 := n1_; have GW365 := n2_; have GE365 := n3_; clear n0_ n1_ n2_ n3_ hb hbox hg) | ((with_reducible refine gate_dst (N := 2) rfl ?_); refine box_event ?hg (N := 2) ?hd (cs := #[.int .i64 0, .slice none 0 0, .slice none 0 0, .int .i64 0, .int .i64 0, .int .i64 0, .int .i64 0, .int .i64 0, .slice none 0 0, .int .i64 0, .int .i64 0, .int .i64 0, .int .i64 0, .slice none 0 0, .slice none 0 0, .slice none 0 0, .slice none 0 0, .slice none 0 0, .slice none 0 0, .slice none 0 0, .slice none 0 0, .slice none 0 0, .int .i64 0, .int .i64 0, .slice none 0 0, .slice none 0 0]) (t := 72) ?hr ?_; (case hd => rfl); (case hg => rfl); (case hr => first | (go_simp; done) | (go_simp; rfl)); intro gb366 hg w15 hbox hb; have n0_ := aM_ (bB_ (kb_ BK365.out) hb); have n1_ := aM_ (wS_ (bw_) hb); have n2_ := aM_ (hbox); have n3_ := aM_ ((by rw [hg]; exact (sZ_ (bw_)) : w.heap.size ≤ gb366)); have n4_ := aM_ ((by rw [hg]; exact (sZ_ (bw_)) : w.heap.size ≤ gb366)); have n5_ := aM_ ((by rw [hg]; exact Nat.ne_of_lt (blk_lt (kb_ BK365.out)) : gb365 ≠ gb366)); have n6_ := aM_ ((by rw [hg]; exact Nat.ne_of_gt (blk_lt (kb_ BK365.out)) : gb366 ≠ gb365)); clear BK365 HB; have BK365 := n0_; have HB := n1_; have BK366 := n2_; have GW366 := n3_; have GE366 := n4_; have NB365_366 := n5_; have NB366_365 := n6_; clear n0_ n1_ n2_ n3_ n4_ n5_ n6_ hb hbox hg) | ((with_reducible refine gate_dst (N := 3) rfl ?_); refine box_event ?hg (N := 3) ?hd (cs := #[.int .i64 0, .slice none 0 0, .slice none 0 0, .int .i64 0, .int .i64 0, .int .i64 0, .int .i64 0, .int .i64 0, .slice none 0 0, .int .i64 0, .int .i64 0, .int .i64 0, .int .i64 0, .slice none 0 0, .slice none 0 0, .slice none 0 0, .slice none 0 0, .slice none 0 0, .slice none 0 0, .slice none 0 0, .slice none 0 0, .slice none 0 0, .int .i64 0, .int .i64 0, .slice none 0 0, .slice none 0 0]) (t := 72) ?hr ?_; (case hd => rfl); (case hg => rfl); (case hr => first | (go_simp; done) | (go_simp; rfl)); intro gb367 hg w16 hbox hb; have n0_ := aM_ (bB_ (kb_ BK365.out) hb); have n1_ := aM_ (bB_ (kb_ BK366.out) hb); have n2_ := aM_ (wS_ (bw_) hb); have n3_ := aM_ (hbox); have n4_ := aM_ ((by rw [hg]; exact (sZ_ (bw_)) : w.heap.size ≤ gb367)); have n5_ := aM_ ((by rw [hg]; exact (sZ_ (bw_)) : w.heap.size ≤ gb367)); have n6_ := aM_ ((by rw [hg]; exact Nat.ne_of_lt (blk_lt (kb_ BK365.out)) : gb365 ≠ gb367)); have n7_ := aM_ ((by rw [hg]; exact Nat.ne_of_gt (blk_lt (kb_ BK365.out)) : gb367 ≠ gb365)); have n8_ := aM_ ((by rw [hg]; exact Nat.ne_of_lt (blk_lt (kb_ BK366.out)) : gb366 ≠ gb367)); have n9_ := aM_ ((by rw [hg]; exact Nat.ne_of_gt (blk_lt (kb_ BK366.out)) : gb367 ≠ gb366)); clear BK365 BK366 HB; have BK365 := n0_; have BK366 := n1_; have HB := n2_; have BK367 := n3_; have GW367 := n4_; have GE367 := n5_; have NB365_367 := n6_; have NB367_365 := n7_; have NB366_367 := n8_; have NB367_366 := n9_; clear n0_ n1_ n2_ n3_ n4_ n5_ n6_ n7_ n8_ n9_ hb hbox hg))
 obtain ⟨P0, HP0, HM0, HE0⟩ : ∃ P : World → Prop, Aside0 (P _) ∧ Aside0 (laws_toWorld.Mv gb367 P) ∧ Aside0 (∀ W, P W → (W.heap[gb365]? = some (.cells #[.int .i64 a0_0, .slice A0_1 l0_1.length c0_1, .slice A0_2 l0_2.length c0_2, .int .i64 a0_3, .int .i64 a0_4, .int .i64 a0_5, .int .i64 a0_6, .int .i64 a0_7, .slice A0_8 l0_8.length c0_8, .int .i64 a0_9, .int .i64 a0_10, .int .i64 a0_11, .int .i64 a0_12, .slice A0_13 l0_13.length c0_13, .slice A0_14 l0_14.length c0_14, .slice A0_15 l0_15.length c0_15, .slice A0_16 l0_16.length c0_16, .slice A0_17 l0_17.length c0_17, .slice A0_18 l0_18.length c0_18, .slice A0_19 l0_19.length c0_19, .slice A0_20 l0_20.length c0_20, .slice A0_21 l0_21.length c0_21, .int .i64 a0_22, .int .i64 a0_23, .slice A0_24 l0_24.length c0_24, .slice A0_25 l0_25.length c0_25] 55 (0, 0)) ∧ W.heap[gb366]? = some (.cells #[.int .i64 0, .slice none 0 0, .slice none 0 0, .int .i64 0, .int .i64 0, .int .i64 0, .int .i64 0, .int .i64 0, .slice none 0 0, .int .i64 0, .int .i64 0, .int .i64 0, .int .i64 0, .slice none 0 0, .slice none 0 0, .slice none 0 0, .slice none 0 0, .slice none 0 0, .slice none 0 0, .slice none 0 0, .slice none 0 0, .slice none 0 0, .int .i64 0, .int .i64 0, .slice none 0 0, .slice none 0 0] 72 (0, 0)) ∧ Below w.heap.size w W)) := ⟨_, ⟨⟨BK365.out, BK366.out, HB.out⟩⟩, ⟨laws_toWorld.mv0 NB365_367.out NB366_367.out GW367.out⟩, ⟨fun W h => h⟩⟩
 clear BK365 BK366 HB; have HP := aM_ True.intro; have HM : Aside0 (laws_toWorld.Mv gb367 (fun _ => True)) := aM_ laws_toWorld.mvT; have HB := aM_ (HE0.out _ HP0.out).2.2; have B1_ := aM_ (HE0.out _ HP0.out).1; have hci0 : w16.cell? ⟨gb365, 0, none⟩ = some (.int .i64 a0_0) := (blk_cell B1_.out 0).trans rfl; have hci1 : w16.cell? ⟨gb365, 1, none⟩ = some (.slice A0_1 l0_1.length c0_1) := (blk_cell B1_.out 1).trans rfl; have hci2 : w16.cell? ⟨gb365, 2, none⟩ = some (.slice A0_2 l0_2.length c0_2) := (blk_cell B1_.out 2).trans rfl; have hci3 : w16.cell? ⟨gb365, 3, none⟩ = some (.int .i64 a0_3) := (blk_cell B1_.out 3).trans rfl; have hci4 : w16.cell? ⟨gb365, 4, none⟩ = some (.int .i64 a0_4) := (blk_cell B1_.out 4).trans rfl; have hci5 : w16.cell? ⟨gb365, 5, none⟩ = some (.int .i64 a0_5) := (blk_cell B1_.out 5).trans rfl; have hci6 : w16.cell? ⟨gb365, 6, none⟩ = some (.int .i64 a0_6) := (blk_cell B1_.out 6).trans rfl; have hci7 : w16.cell? ⟨gb365, 7, none⟩ = some (.int .i64 a0_7) := (blk_cell B1_.out 7).trans rfl; have hci8 : w16.cell? ⟨gb365, 8, none⟩ = some (.slice A0_8 l0_8.length c0_8) := (blk_cell B1_.out 8).trans rfl; have hci9 : w16.cell? ⟨gb365, 9, none⟩ = some (.int .i64 a0_9) := (blk_cell B1_.out 9).trans rfl; clear B1_
 go_upto_region 3 with ((with_reducible refine gate_callee (f := 81) rfl ?_); refine goesL_ (some 6) rfl rfl Try.func81 (by kernel_rfl) rfl #[.agg #[.int .i64 a0_0, .slice A0_1 l0_1.length c0_1, .slice A0_2 l0_2.length c0_2, .int .i64 a0_3, .int .i64 a0_4, .int .i64 a0_5, .int .i64 a0_6, .int .i64 a0_7, .slice A0_8 l0_8.length c0_8, .int .i64 a0_9]] rfl (by (try simp only [List.map_toArray, List.map_cons, List.map_nil]); first | done | rfl | (simp only [List.length_drop, List.length_take]; rfl)) ?_; (with_reducible refine (laws_toSky.calls k a0_0 _ _ l0_1 _ _ l0_2 a0_3 a0_4 a0_5 a0_6 a0_7 _ _ l0_8 a0_9 t368 t369 t372 t375 t376 t377 t378 t379 t380 t383 _ ?side1 ?side2 ?side3 ?side4 ?side5 ?side6 A2.out).mono ?_); (case side1 => exact Kd.C_below HR0_1.out HB.out); (case side2 => exact HC0_1.out); (case side3 => exact Kd.C_below HR0_2.out HB.out); (case side4 => exact HC0_2.out); (case side5 => exact Kd.C_below HR0_8.out HB.out); (case side6 => exact HC0_8.out); rintro e w20 ⟨v370, v373, v381, rfl, ho0, ho1, ho2, hb⟩; refine ⟨_, rfl, ?_⟩; have q0_ := aM_ (laws_toWorld.row ho0 (blk_lt (HE0.out _ HP0.out).2.1) (blk_lt BK367.out) HB.out.size); clear ho0; obtain ⟨Ao0, co0, eo0⟩ := Kd.R_slice q0_.out; subst eo0; have q1_ := aM_ (laws_toWorld.row ho1 (blk_lt (HE0.out _ HP0.out).2.1) (blk_lt BK367.out) HB.out.size); clear ho1; obtain ⟨Ao1, co1, eo1⟩ := Kd.R_slice q1_.out; subst eo1; have q2_ := aM_ (laws_toWorld.row ho2 (blk_lt (HE0.out _ HP0.out).2.1) (blk_lt BK367.out) HB.out.size); clear ho2; obtain ⟨Ao2, co2, eo2⟩ := Kd.R_slice q2_.out; subst eo2; obtain ⟨P1, HPn, HMn, HQ1⟩ : ∃ P : World → Prop, Aside0 (P w20) ∧ Aside0 (laws_toWorld.Mv gb367 P) ∧ Aside0 (∀ W, P W → (fun _ => True) W ∧ (Kd.R k249 249 W w.heap.size (fun k_ => k_ ≠ gb366 ∧ k_ ≠ gb367) (.slice Ao0 t369.length co0) t369 ∧ Kd.R k253 253 W w.heap.size (fun k_ => k_ ≠ gb366 ∧ k_ ≠ gb367) (.slice Ao1 t372.length co1) t372 ∧ Kd.R k259 259 W w.heap.size (fun k_ => k_ ≠ gb366 ∧ k_ ≠ gb367) (.slice Ao2 t380.length co2) t380)) := ⟨_, ⟨⟨HM.out.bel HP.out hb, ⟨q0_.out, q1_.out, q2_.out⟩⟩⟩, ⟨laws_toWorld.mvA HM.out (laws_toWorld.mvA laws_toWorld.mvR3 (laws_toWorld.mvA laws_toWorld.mvR3 laws_toWorld.mvR3))⟩, ⟨fun W h => h⟩⟩; have HPm := aM_ (HM0.out.bel HP0.out hb); have b3_ := aM_ (bB_ BK367.out hb); clear BK367 HB HP HP0 HM hb q0_ q1_ q2_; have BK367 := b3_; have HP0 := HPm; have HP := HPn; have HM := HMn; clear b3_ HPn HMn HPm; have hco0 : w20.cell? ⟨gb367, 0, none⟩ = some (.int .i64 0) := (blk_cell BK367.out 0).trans rfl; have hfo0 := blk_frozen BK367.out 0; have hco1 : w20.cell? ⟨gb367, 1, none⟩ = some (.slice none 0 0) := (blk_cell BK367.out 1).trans rfl; have hfo1 := blk_frozen BK367.out 1; have hco2 : w20.cell? ⟨gb367, 2, none⟩ = some (.slice none 0 0) := (blk_cell BK367.out 2).trans rfl; have hfo2 := blk_frozen BK367.out 2; have hco3 : w20.cell? ⟨gb367, 3, none⟩ = some (.int .i64 0) := (blk_cell BK367.out 3).trans rfl; have hfo3 := blk_frozen BK367.out 3; have hco4 : w20.cell? ⟨gb367, 4, none⟩ = some (.int .i64 0) := (blk_cell BK367.out 4).trans rfl; have hfo4 := blk_frozen BK367.out 4; have hco5 : w20.cell? ⟨gb367, 5, none⟩ = some (.int .i64 0) := (blk_cell BK367.out 5).trans rfl; have hfo5 := blk_frozen BK367.out 5; have hco6 : w20.cell? ⟨gb367, 6, none⟩ = some (.int .i64 0) := (blk_cell BK367.out 6).trans rfl; have hfo6 := blk_frozen BK367.out 6; have hco7 : w20.cell? ⟨gb367, 7, none⟩ = some (.int .i64 0) := (blk_cell BK367.out 7).trans rfl; have hfo7 := blk_frozen BK367.out 7; have hco8 : w20.cell? ⟨gb367, 8, none⟩ = some (.slice none 0 0) := (blk_cell BK367.out 8).trans rfl; have hfo8 := blk_frozen BK367.out 8; have hco9 : w20.cell? ⟨gb367, 9, none⟩ = some (.int .i64 0) := (blk_cell BK367.out 9).trans rfl; have hfo9 := blk_frozen BK367.out 9)
 obtain ⟨wz2, hwz⟩ : ∃ wz : World, wz = ((((((((((w20.setCell ⟨gb367, 0, none⟩ (.int .i64 t368)).setCell ⟨gb367, 1, none⟩ (.slice Ao0 t369.length co0)).setCell ⟨gb367, 2, none⟩ (.slice Ao1 t372.length co1)).setCell ⟨gb367, 3, none⟩ (.int .i64 t375)).setCell ⟨gb367, 4, none⟩ (.int .i64 t376)).setCell ⟨gb367, 5, none⟩ (.int .i64 t377)).setCell ⟨gb367, 6, none⟩ (.int .i64 t378)).setCell ⟨gb367, 7, none⟩ (.int .i64 t379)).setCell ⟨gb367, 8, none⟩ (.slice Ao2 t380.length co2)).setCell ⟨gb367, 9, none⟩ (.int .i64 t383)) := ⟨_, rfl⟩
 have n0_ := aM_ (show P1 wz2 from by rw [hwz]; exact (HM.out.far _ _ (HM.out.far _ _ (HM.out.far _ _ (HM.out.far _ _ (HM.out.far _ _ (HM.out.far _ _ (HM.out.far _ _ (HM.out.far _ _ (HM.out.far _ _ (HM.out.far _ _ HP.out))))))))))); have n1_ := aM_ (show P0 wz2 from by rw [hwz]; exact (HM0.out.far _ _ (HM0.out.far _ _ (HM0.out.far _ _ (HM0.out.far _ _ (HM0.out.far _ _ (HM0.out.far _ _ (HM0.out.far _ _ (HM0.out.far _ _ (HM0.out.far _ _ (HM0.out.far _ _ HP0.out))))))))))); have bp0_ := blk_set BK367.out 0 (.int .i64 t368); have bp1_ := blk_set bp0_ 1 (.slice Ao0 t369.length co0); have bp2_ := blk_set bp1_ 2 (.slice Ao1 t372.length co1); have bp3_ := blk_set bp2_ 3 (.int .i64 t375); have bp4_ := blk_set bp3_ 4 (.int .i64 t376); have bp5_ := blk_set bp4_ 5 (.int .i64 t377); have bp6_ := blk_set bp5_ 6 (.int .i64 t378); have bp7_ := blk_set bp6_ 7 (.int .i64 t379); have bp8_ := blk_set bp7_ 8 (.slice Ao2 t380.length co2); have bp9_ := blk_set bp8_ 9 (.int .i64 t383)
 simp only [List.setIfInBounds_toArray, List.set_cons_zero, List.set_cons_succ] at bp9_; rw [← hwz] at bp9_ ⊢; have n2_ := aM_ bp9_
 clear hwz bp0_ bp1_ bp2_ bp3_ bp4_ bp5_ bp6_ bp7_ bp8_ bp9_ HP HP0 BK367; (try clear HB); clear hci0 hco0 hfo0 hci1 hco1 hfo1 hci2 hco2 hfo2 hci3 hco3 hfo3 hci4 hco4 hfo4 hci5 hco5 hfo5 hci6 hco6 hfo6 hci7 hco7 hfo7 hci8 hco8 hfo8 hci9 hco9 hfo9; have HP := n0_; have HP0 := n1_; have BK367 := n2_; clear n0_ n1_ n2_; have HB := aM_ (HE0.out _ HP0.out).2.2; have B1_ := aM_ (HE0.out _ HP0.out).1; have hci10 : wz2.cell? ⟨gb365, 10, none⟩ = some (.int .i64 a0_10) := (blk_cell B1_.out 10).trans rfl; have hci11 : wz2.cell? ⟨gb365, 11, none⟩ = some (.int .i64 a0_11) := (blk_cell B1_.out 11).trans rfl; have hci12 : wz2.cell? ⟨gb365, 12, none⟩ = some (.int .i64 a0_12) := (blk_cell B1_.out 12).trans rfl; have hci13 : wz2.cell? ⟨gb365, 13, none⟩ = some (.slice A0_13 l0_13.length c0_13) := (blk_cell B1_.out 13).trans rfl; clear B1_
 go_upto_region 4 with ((with_reducible refine gate_callee (f := 14) rfl ?_); refine goesL_ (some 10) rfl rfl Try.func14 (by kernel_rfl) rfl #[.agg #[.int .i64 a0_10, .int .i64 a0_11, .int .i64 a0_12, .slice A0_13 l0_13.length c0_13]] rfl (by (try simp only [List.map_toArray, List.map_cons, List.map_nil]); first | done | rfl | (simp only [List.length_drop, List.length_take]; rfl)) ?_; (with_reducible refine (laws_toProgram.calls k a0_10 a0_11 a0_12 _ _ l0_13 t384 t385 t386 t387 _ ?side1 ?side2 A3.out).mono ?_); (case side1 => exact Kd.C_below HR0_13.out HB.out); (case side2 => exact HC0_13.out); rintro e w27 ⟨v388, rfl, ho0, hb⟩; refine ⟨_, rfl, ?_⟩; have q3_ := aM_ (laws_toWorld.row ho0 (blk_lt (HE0.out _ HP0.out).2.1) (blk_lt BK367.out) HB.out.size); clear ho0; obtain ⟨Ao3, co3, eo3⟩ := Kd.R_slice q3_.out; subst eo3; obtain ⟨P2, HPn, HMn, HQ2⟩ : ∃ P : World → Prop, Aside0 (P w27) ∧ Aside0 (laws_toWorld.Mv gb367 P) ∧ Aside0 (∀ W, P W → P1 W ∧ (Kd.R k112 112 W w.heap.size (fun k_ => k_ ≠ gb366 ∧ k_ ≠ gb367) (.slice Ao3 t387.length co3) t387)) := ⟨_, ⟨⟨HM.out.bel HP.out hb, q3_.out⟩⟩, ⟨laws_toWorld.mvA HM.out laws_toWorld.mvR3⟩, ⟨fun W h => h⟩⟩; have HPm := aM_ (HM0.out.bel HP0.out hb); have b3_ := aM_ (bB_ BK367.out hb); clear BK367 HB HP HP0 HM hb q3_; have BK367 := b3_; have HP0 := HPm; have HP := HPn; have HM := HMn; clear b3_ HPn HMn HPm; have hco10 : w27.cell? ⟨gb367, 10, none⟩ = some (.int .i64 0) := (blk_cell BK367.out 10).trans rfl; have hfo10 := blk_frozen BK367.out 10; have hco11 : w27.cell? ⟨gb367, 11, none⟩ = some (.int .i64 0) := (blk_cell BK367.out 11).trans rfl; have hfo11 := blk_frozen BK367.out 11; have hco12 : w27.cell? ⟨gb367, 12, none⟩ = some (.int .i64 0) := (blk_cell BK367.out 12).trans rfl; have hfo12 := blk_frozen BK367.out 12; have hco13 : w27.cell? ⟨gb367, 13, none⟩ = some (.slice none 0 0) := (blk_cell BK367.out 13).trans rfl; have hfo13 := blk_frozen BK367.out 13)
 obtain ⟨wz3, hwz⟩ : ∃ wz : World, wz = ((((w27.setCell ⟨gb367, 10, none⟩ (.int .i64 t384)).setCell ⟨gb367, 11, none⟩ (.int .i64 t385)).setCell ⟨gb367, 12, none⟩ (.int .i64 t386)).setCell ⟨gb367, 13, none⟩ (.slice Ao3 t387.length co3)) := ⟨_, rfl⟩
 have n0_ := aM_ (show P2 wz3 from by rw [hwz]; exact (HM.out.far _ _ (HM.out.far _ _ (HM.out.far _ _ (HM.out.far _ _ HP.out))))); have n1_ := aM_ (show P0 wz3 from by rw [hwz]; exact (HM0.out.far _ _ (HM0.out.far _ _ (HM0.out.far _ _ (HM0.out.far _ _ HP0.out))))); have bp10_ := blk_set BK367.out 10 (.int .i64 t384); have bp11_ := blk_set bp10_ 11 (.int .i64 t385); have bp12_ := blk_set bp11_ 12 (.int .i64 t386); have bp13_ := blk_set bp12_ 13 (.slice Ao3 t387.length co3)
 simp only [List.setIfInBounds_toArray, List.set_cons_zero, List.set_cons_succ] at bp13_; rw [← hwz] at bp13_ ⊢; have n2_ := aM_ bp13_
 clear hwz bp10_ bp11_ bp12_ bp13_ HP HP0 BK367; (try clear HB); clear hci10 hco10 hfo10 hci11 hco11 hfo11 hci12 hco12 hfo12 hci13 hco13 hfo13; have HP := n0_; have HP0 := n1_; have BK367 := n2_; clear n0_ n1_ n2_; have HB := aM_ (HE0.out _ HP0.out).2.2; have B1_ := aM_ (HE0.out _ HP0.out).1; have hci14 : wz3.cell? ⟨gb365, 14, none⟩ = some (.slice A0_14 l0_14.length c0_14) := (blk_cell B1_.out 14).trans rfl; clear B1_
 go_upto_region 5 with ((with_reducible refine gate_callee (f := 82) rfl ?_); refine goesL_ (some 14) rfl rfl Try.func82 (by kernel_rfl) rfl #[.agg #[.slice A0_14 l0_14.length c0_14]] rfl (by (try simp only [List.map_toArray, List.map_cons, List.map_nil]); first | done | rfl | (simp only [List.length_drop, List.length_take]; rfl)) ?_; (with_reducible refine (laws_toLaw.calls k _ _ l0_14 t390 _ ?side1 ?side2 A4.out).mono ?_); (case side1 => exact Kd.C_below HR0_14.out HB.out); (case side2 => exact HC0_14.out); rintro e w31 ⟨v391, rfl, ho0, hb⟩; refine ⟨_, rfl, ?_⟩; have q4_ := aM_ (laws_toWorld.row ho0 (blk_lt (HE0.out _ HP0.out).2.1) (blk_lt BK367.out) HB.out.size); clear ho0; obtain ⟨Ao4, co4, eo4⟩ := Kd.R_slice q4_.out; subst eo4; obtain ⟨P3, HPn, HMn, HQ3⟩ : ∃ P : World → Prop, Aside0 (P w31) ∧ Aside0 (laws_toWorld.Mv gb367 P) ∧ Aside0 (∀ W, P W → P2 W ∧ (Kd.R (Kd.int .i64) 3 W w.heap.size (fun k_ => k_ ≠ gb366 ∧ k_ ≠ gb367) (.slice Ao4 t390.length co4) t390)) := ⟨_, ⟨⟨HM.out.bel HP.out hb, q4_.out⟩⟩, ⟨laws_toWorld.mvA HM.out laws_toWorld.mvR3⟩, ⟨fun W h => h⟩⟩; have HPm := aM_ (HM0.out.bel HP0.out hb); have b3_ := aM_ (bB_ BK367.out hb); clear BK367 HB HP HP0 HM hb q4_; have BK367 := b3_; have HP0 := HPm; have HP := HPn; have HM := HMn; clear b3_ HPn HMn HPm; have hco14 : w31.cell? ⟨gb367, 14, none⟩ = some (.slice none 0 0) := (blk_cell BK367.out 14).trans rfl; have hfo14 := blk_frozen BK367.out 14)
 obtain ⟨wz4, hwz⟩ : ∃ wz : World, wz = (w31.setCell ⟨gb367, 14, none⟩ (.slice Ao4 t390.length co4)) := ⟨_, rfl⟩
 have n0_ := aM_ (show P3 wz4 from by rw [hwz]; exact (HM.out.far _ _ HP.out)); have n1_ := aM_ (show P0 wz4 from by rw [hwz]; exact (HM0.out.far _ _ HP0.out)); have bp14_ := blk_set BK367.out 14 (.slice Ao4 t390.length co4)
 simp only [List.setIfInBounds_toArray, List.set_cons_zero, List.set_cons_succ] at bp14_; rw [← hwz] at bp14_ ⊢; have n2_ := aM_ bp14_
 clear hwz bp14_ HP HP0 BK367; (try clear HB); clear hci14 hco14 hfo14; have HP := n0_; have HP0 := n1_; have BK367 := n2_; clear n0_ n1_ n2_; have HB := aM_ (HE0.out _ HP0.out).2.2; have B1_ := aM_ (HE0.out _ HP0.out).1; have hci15 : wz4.cell? ⟨gb365, 15, none⟩ = some (.slice A0_15 l0_15.length c0_15) := (blk_cell B1_.out 15).trans rfl; clear B1_
 go_upto_region 6 with ((with_reducible refine gate_callee (f := 83) rfl ?_); refine goesL_ (some 18) rfl rfl Try.func83 (by kernel_rfl) rfl #[.slice A0_15 l0_15.length c0_15] rfl (by (try simp only [List.map_toArray, List.map_cons, List.map_nil]); first | done | rfl | (simp only [List.length_drop, List.length_take]; rfl)) ?_; (with_reducible refine (laws_toIntS.calls k _ _ l0_15 t393 _ ?side1 ?side2 A5.out).mono ?_); (case side1 => exact Kd.C_below HR0_15.out HB.out); (case side2 => exact HC0_15.out); rintro e w35 ⟨v394, rfl, ho0, hb⟩; refine ⟨_, rfl, ?_⟩; have q5_ := aM_ (laws_toWorld.row ho0 (blk_lt (HE0.out _ HP0.out).2.1) (blk_lt BK367.out) HB.out.size); clear ho0; obtain ⟨Ao5, co5, eo5⟩ := Kd.R_slice q5_.out; subst eo5; obtain ⟨P4, HPn, HMn, HQ4⟩ : ∃ P : World → Prop, Aside0 (P w35) ∧ Aside0 (laws_toWorld.Mv gb367 P) ∧ Aside0 (∀ W, P W → P3 W ∧ (Kd.R (Kd.int .i64) 3 W w.heap.size (fun k_ => k_ ≠ gb366 ∧ k_ ≠ gb367) (.slice Ao5 t393.length co5) t393)) := ⟨_, ⟨⟨HM.out.bel HP.out hb, q5_.out⟩⟩, ⟨laws_toWorld.mvA HM.out laws_toWorld.mvR3⟩, ⟨fun W h => h⟩⟩; have HPm := aM_ (HM0.out.bel HP0.out hb); have b3_ := aM_ (bB_ BK367.out hb); clear BK367 HB HP HP0 HM hb q5_; have BK367 := b3_; have HP0 := HPm; have HP := HPn; have HM := HMn; clear b3_ HPn HMn HPm; have hco15 : w35.cell? ⟨gb367, 15, none⟩ = some (.slice none 0 0) := (blk_cell BK367.out 15).trans rfl; have hfo15 := blk_frozen BK367.out 15)
 obtain ⟨wz5, hwz⟩ : ∃ wz : World, wz = (w35.setCell ⟨gb367, 15, none⟩ (.slice Ao5 t393.length co5)) := ⟨_, rfl⟩
 have n0_ := aM_ (show P4 wz5 from by rw [hwz]; exact (HM.out.far _ _ HP.out)); have n1_ := aM_ (show P0 wz5 from by rw [hwz]; exact (HM0.out.far _ _ HP0.out)); have bp15_ := blk_set BK367.out 15 (.slice Ao5 t393.length co5)
 simp only [List.setIfInBounds_toArray, List.set_cons_zero, List.set_cons_succ] at bp15_; rw [← hwz] at bp15_ ⊢; have n2_ := aM_ bp15_
 clear hwz bp15_ HP HP0 BK367; (try clear HB); clear hci15 hco15 hfo15; have HP := n0_; have HP0 := n1_; have BK367 := n2_; clear n0_ n1_ n2_; have HB := aM_ (HE0.out _ HP0.out).2.2; have B1_ := aM_ (HE0.out _ HP0.out).1; have hci16 : wz5.cell? ⟨gb365, 16, none⟩ = some (.slice A0_16 l0_16.length c0_16) := (blk_cell B1_.out 16).trans rfl; clear B1_
 go_upto_region 7 with ((with_reducible refine gate_callee (f := 84) rfl ?_); refine goesL_ (some 22) rfl rfl Try.func84 (by kernel_rfl) rfl #[.slice A0_16 l0_16.length c0_16] rfl (by (try simp only [List.map_toArray, List.map_cons, List.map_nil]); first | done | rfl | (simp only [List.length_drop, List.length_take]; rfl)) ?_; (with_reducible refine (laws_toBatteryS.calls k _ _ l0_16 t396 _ ?side1 ?side2 A6.out).mono ?_); (case side1 => exact Kd.C_below HR0_16.out HB.out); (case side2 => exact HC0_16.out); rintro e w39 ⟨v397, rfl, ho0, hb⟩; refine ⟨_, rfl, ?_⟩; have q6_ := aM_ (laws_toWorld.row ho0 (blk_lt (HE0.out _ HP0.out).2.1) (blk_lt BK367.out) HB.out.size); clear ho0; obtain ⟨Ao6, co6, eo6⟩ := Kd.R_slice q6_.out; subst eo6; obtain ⟨P5, HPn, HMn, HQ5⟩ : ∃ P : World → Prop, Aside0 (P w39) ∧ Aside0 (laws_toWorld.Mv gb367 P) ∧ Aside0 (∀ W, P W → P4 W ∧ (Kd.R k195 195 W w.heap.size (fun k_ => k_ ≠ gb366 ∧ k_ ≠ gb367) (.slice Ao6 t396.length co6) t396)) := ⟨_, ⟨⟨HM.out.bel HP.out hb, q6_.out⟩⟩, ⟨laws_toWorld.mvA HM.out laws_toWorld.mvR3⟩, ⟨fun W h => h⟩⟩; have HPm := aM_ (HM0.out.bel HP0.out hb); have b3_ := aM_ (bB_ BK367.out hb); clear BK367 HB HP HP0 HM hb q6_; have BK367 := b3_; have HP0 := HPm; have HP := HPn; have HM := HMn; clear b3_ HPn HMn HPm; have hco16 : w39.cell? ⟨gb367, 16, none⟩ = some (.slice none 0 0) := (blk_cell BK367.out 16).trans rfl; have hfo16 := blk_frozen BK367.out 16)
 obtain ⟨wz6, hwz⟩ : ∃ wz : World, wz = (w39.setCell ⟨gb367, 16, none⟩ (.slice Ao6 t396.length co6)) := ⟨_, rfl⟩
 have n0_ := aM_ (show P5 wz6 from by rw [hwz]; exact (HM.out.far _ _ HP.out)); have n1_ := aM_ (show P0 wz6 from by rw [hwz]; exact (HM0.out.far _ _ HP0.out)); have bp16_ := blk_set BK367.out 16 (.slice Ao6 t396.length co6)
 simp only [List.setIfInBounds_toArray, List.set_cons_zero, List.set_cons_succ] at bp16_; rw [← hwz] at bp16_ ⊢; have n2_ := aM_ bp16_
 clear hwz bp16_ HP HP0 BK367; (try clear HB); clear hci16 hco16 hfo16; have HP := n0_; have HP0 := n1_; have BK367 := n2_; clear n0_ n1_ n2_; have HB := aM_ (HE0.out _ HP0.out).2.2; have B1_ := aM_ (HE0.out _ HP0.out).1; have hci17 : wz6.cell? ⟨gb365, 17, none⟩ = some (.slice A0_17 l0_17.length c0_17) := (blk_cell B1_.out 17).trans rfl; clear B1_
 go_upto_region 8 with ((with_reducible refine gate_callee (f := 85) rfl ?_); refine goesL_ (some 26) rfl rfl Try.func85 (by kernel_rfl) rfl #[.slice A0_17 l0_17.length c0_17] rfl (by (try simp only [List.map_toArray, List.map_cons, List.map_nil]); first | done | rfl | (simp only [List.length_drop, List.length_take]; rfl)) ?_; (with_reducible refine (laws_toQueueS.calls k _ _ l0_17 t399 _ ?side1 ?side2 A7.out).mono ?_); (case side1 => exact Kd.C_below HR0_17.out HB.out); (case side2 => exact HC0_17.out); rintro e w43 ⟨v400, rfl, ho0, hb⟩; refine ⟨_, rfl, ?_⟩; have q7_ := aM_ (laws_toWorld.row (Kd.S_R ho0) (blk_lt (HE0.out _ HP0.out).2.1) (blk_lt BK367.out) HB.out.size); clear ho0; obtain ⟨Ao7, co7, eo7⟩ := Kd.R_slice q7_.out; subst eo7; obtain ⟨P6, HPn, HMn, HQ6⟩ : ∃ P : World → Prop, Aside0 (P w43) ∧ Aside0 (laws_toWorld.Mv gb367 P) ∧ Aside0 (∀ W, P W → P5 W ∧ (Kd.R k130 130 W w.heap.size (fun k_ => k_ ≠ gb366 ∧ k_ ≠ gb367) (.slice Ao7 t399.length co7) t399)) := ⟨_, ⟨⟨HM.out.bel HP.out hb, q7_.out⟩⟩, ⟨laws_toWorld.mvA HM.out laws_toWorld.mvR3⟩, ⟨fun W h => h⟩⟩; have HPm := aM_ (HM0.out.bel HP0.out hb); have b3_ := aM_ (bB_ BK367.out hb); clear BK367 HB HP HP0 HM hb q7_; have BK367 := b3_; have HP0 := HPm; have HP := HPn; have HM := HMn; clear b3_ HPn HMn HPm; have hco17 : w43.cell? ⟨gb367, 17, none⟩ = some (.slice none 0 0) := (blk_cell BK367.out 17).trans rfl; have hfo17 := blk_frozen BK367.out 17)
 obtain ⟨wz7, hwz⟩ : ∃ wz : World, wz = (w43.setCell ⟨gb367, 17, none⟩ (.slice Ao7 t399.length co7)) := ⟨_, rfl⟩
 have n0_ := aM_ (show P6 wz7 from by rw [hwz]; exact (HM.out.far _ _ HP.out)); have n1_ := aM_ (show P0 wz7 from by rw [hwz]; exact (HM0.out.far _ _ HP0.out)); have bp17_ := blk_set BK367.out 17 (.slice Ao7 t399.length co7)
 simp only [List.setIfInBounds_toArray, List.set_cons_zero, List.set_cons_succ] at bp17_; rw [← hwz] at bp17_ ⊢; have n2_ := aM_ bp17_
 clear hwz bp17_ HP HP0 BK367; (try clear HB); clear hci17 hco17 hfo17; have HP := n0_; have HP0 := n1_; have BK367 := n2_; clear n0_ n1_ n2_; have HB := aM_ (HE0.out _ HP0.out).2.2; have B1_ := aM_ (HE0.out _ HP0.out).1; have hci18 : wz7.cell? ⟨gb365, 18, none⟩ = some (.slice A0_18 l0_18.length c0_18) := (blk_cell B1_.out 18).trans rfl; clear B1_
 go_upto_region 9 with ((with_reducible refine gate_callee (f := 86) rfl ?_); refine goesL_ (some 30) rfl rfl Try.func86 (by kernel_rfl) rfl #[.slice A0_18 l0_18.length c0_18] rfl (by (try simp only [List.map_toArray, List.map_cons, List.map_nil]); first | done | rfl | (simp only [List.length_drop, List.length_take]; rfl)) ?_; (with_reducible refine (laws_toFlowS.calls k _ _ l0_18 t402 _ ?side1 ?side2 A8.out).mono ?_); (case side1 => exact Kd.C_below HR0_18.out HB.out); (case side2 => exact HC0_18.out); rintro e w47 ⟨v403, rfl, ho0, hb⟩; refine ⟨_, rfl, ?_⟩; have q8_ := aM_ (laws_toWorld.row ho0 (blk_lt (HE0.out _ HP0.out).2.1) (blk_lt BK367.out) HB.out.size); clear ho0; obtain ⟨Ao8, co8, eo8⟩ := Kd.R_slice q8_.out; subst eo8; obtain ⟨P7, HPn, HMn, HQ7⟩ : ∃ P : World → Prop, Aside0 (P w47) ∧ Aside0 (laws_toWorld.Mv gb367 P) ∧ Aside0 (∀ W, P W → P6 W ∧ (Kd.R k200 200 W w.heap.size (fun k_ => k_ ≠ gb366 ∧ k_ ≠ gb367) (.slice Ao8 t402.length co8) t402)) := ⟨_, ⟨⟨HM.out.bel HP.out hb, q8_.out⟩⟩, ⟨laws_toWorld.mvA HM.out laws_toWorld.mvR3⟩, ⟨fun W h => h⟩⟩; have HPm := aM_ (HM0.out.bel HP0.out hb); have b3_ := aM_ (bB_ BK367.out hb); clear BK367 HB HP HP0 HM hb q8_; have BK367 := b3_; have HP0 := HPm; have HP := HPn; have HM := HMn; clear b3_ HPn HMn HPm; have hco18 : w47.cell? ⟨gb367, 18, none⟩ = some (.slice none 0 0) := (blk_cell BK367.out 18).trans rfl; have hfo18 := blk_frozen BK367.out 18)
 obtain ⟨wz8, hwz⟩ : ∃ wz : World, wz = (w47.setCell ⟨gb367, 18, none⟩ (.slice Ao8 t402.length co8)) := ⟨_, rfl⟩
 have n0_ := aM_ (show P7 wz8 from by rw [hwz]; exact (HM.out.far _ _ HP.out)); have n1_ := aM_ (show P0 wz8 from by rw [hwz]; exact (HM0.out.far _ _ HP0.out)); have bp18_ := blk_set BK367.out 18 (.slice Ao8 t402.length co8)
 simp only [List.setIfInBounds_toArray, List.set_cons_zero, List.set_cons_succ] at bp18_; rw [← hwz] at bp18_ ⊢; have n2_ := aM_ bp18_
 clear hwz bp18_ HP HP0 BK367; (try clear HB); clear hci18 hco18 hfo18; have HP := n0_; have HP0 := n1_; have BK367 := n2_; clear n0_ n1_ n2_; have HB := aM_ (HE0.out _ HP0.out).2.2; have B1_ := aM_ (HE0.out _ HP0.out).1; have hci19 : wz8.cell? ⟨gb365, 19, none⟩ = some (.slice A0_19 l0_19.length c0_19) := (blk_cell B1_.out 19).trans rfl; clear B1_
 go_upto_region 10 with ((with_reducible refine gate_callee (f := 83) rfl ?_); refine goesL_ (some 34) rfl rfl Try.func83 (by kernel_rfl) rfl #[.slice A0_19 l0_19.length c0_19] rfl (by (try simp only [List.map_toArray, List.map_cons, List.map_nil]); first | done | rfl | (simp only [List.length_drop, List.length_take]; rfl)) ?_; (with_reducible refine (laws_toIntS.calls k _ _ l0_19 t405 _ ?side1 ?side2 A9.out).mono ?_); (case side1 => exact Kd.C_below HR0_19.out HB.out); (case side2 => exact HC0_19.out); rintro e w51 ⟨v406, rfl, ho0, hb⟩; refine ⟨_, rfl, ?_⟩; have q9_ := aM_ (laws_toWorld.row ho0 (blk_lt (HE0.out _ HP0.out).2.1) (blk_lt BK367.out) HB.out.size); clear ho0; obtain ⟨Ao9, co9, eo9⟩ := Kd.R_slice q9_.out; subst eo9; obtain ⟨P8, HPn, HMn, HQ8⟩ : ∃ P : World → Prop, Aside0 (P w51) ∧ Aside0 (laws_toWorld.Mv gb367 P) ∧ Aside0 (∀ W, P W → P7 W ∧ (Kd.R (Kd.int .i64) 3 W w.heap.size (fun k_ => k_ ≠ gb366 ∧ k_ ≠ gb367) (.slice Ao9 t405.length co9) t405)) := ⟨_, ⟨⟨HM.out.bel HP.out hb, q9_.out⟩⟩, ⟨laws_toWorld.mvA HM.out laws_toWorld.mvR3⟩, ⟨fun W h => h⟩⟩; have HPm := aM_ (HM0.out.bel HP0.out hb); have b3_ := aM_ (bB_ BK367.out hb); clear BK367 HB HP HP0 HM hb q9_; have BK367 := b3_; have HP0 := HPm; have HP := HPn; have HM := HMn; clear b3_ HPn HMn HPm; have hco19 : w51.cell? ⟨gb367, 19, none⟩ = some (.slice none 0 0) := (blk_cell BK367.out 19).trans rfl; have hfo19 := blk_frozen BK367.out 19)
 obtain ⟨wz9, hwz⟩ : ∃ wz : World, wz = (w51.setCell ⟨gb367, 19, none⟩ (.slice Ao9 t405.length co9)) := ⟨_, rfl⟩
 have n0_ := aM_ (show P8 wz9 from by rw [hwz]; exact (HM.out.far _ _ HP.out)); have n1_ := aM_ (show P0 wz9 from by rw [hwz]; exact (HM0.out.far _ _ HP0.out)); have bp19_ := blk_set BK367.out 19 (.slice Ao9 t405.length co9)
 simp only [List.setIfInBounds_toArray, List.set_cons_zero, List.set_cons_succ] at bp19_; rw [← hwz] at bp19_ ⊢; have n2_ := aM_ bp19_
 clear hwz bp19_ HP HP0 BK367; (try clear HB); clear hci19 hco19 hfo19; have HP := n0_; have HP0 := n1_; have BK367 := n2_; clear n0_ n1_ n2_; have HB := aM_ (HE0.out _ HP0.out).2.2; have B1_ := aM_ (HE0.out _ HP0.out).1; have hci20 : wz9.cell? ⟨gb365, 20, none⟩ = some (.slice A0_20 l0_20.length c0_20) := (blk_cell B1_.out 20).trans rfl; clear B1_
 go_upto_region 11 with ((with_reducible refine gate_callee (f := 87) rfl ?_); refine goesL_ (some 38) rfl rfl Try.func87 (by kernel_rfl) rfl #[.slice A0_20 l0_20.length c0_20] rfl (by (try simp only [List.map_toArray, List.map_cons, List.map_nil]); first | done | rfl | (simp only [List.length_drop, List.length_take]; rfl)) ?_; (with_reducible refine (laws_toStreamS.calls k _ _ l0_20 t408 _ ?side1 ?side2 A10.out).mono ?_); (case side1 => exact Kd.C_below HR0_20.out HB.out); (case side2 => exact HC0_20.out); rintro e w55 ⟨v409, rfl, ho0, hb⟩; refine ⟨_, rfl, ?_⟩; have q10_ := aM_ (laws_toWorld.row (Kd.S_R ho0) (blk_lt (HE0.out _ HP0.out).2.1) (blk_lt BK367.out) HB.out.size); clear ho0; obtain ⟨Ao10, co10, eo10⟩ := Kd.R_slice q10_.out; subst eo10; obtain ⟨P9, HPn, HMn, HQ9⟩ : ∃ P : World → Prop, Aside0 (P w55) ∧ Aside0 (laws_toWorld.Mv gb367 P) ∧ Aside0 (∀ W, P W → P8 W ∧ (Kd.R k203 203 W w.heap.size (fun k_ => k_ ≠ gb366 ∧ k_ ≠ gb367) (.slice Ao10 t408.length co10) t408)) := ⟨_, ⟨⟨HM.out.bel HP.out hb, q10_.out⟩⟩, ⟨laws_toWorld.mvA HM.out laws_toWorld.mvR3⟩, ⟨fun W h => h⟩⟩; have HPm := aM_ (HM0.out.bel HP0.out hb); have b3_ := aM_ (bB_ BK367.out hb); clear BK367 HB HP HP0 HM hb q10_; have BK367 := b3_; have HP0 := HPm; have HP := HPn; have HM := HMn; clear b3_ HPn HMn HPm; have hco20 : w55.cell? ⟨gb367, 20, none⟩ = some (.slice none 0 0) := (blk_cell BK367.out 20).trans rfl; have hfo20 := blk_frozen BK367.out 20)
 obtain ⟨wz10, hwz⟩ : ∃ wz : World, wz = (w55.setCell ⟨gb367, 20, none⟩ (.slice Ao10 t408.length co10)) := ⟨_, rfl⟩
 have n0_ := aM_ (show P9 wz10 from by rw [hwz]; exact (HM.out.far _ _ HP.out)); have n1_ := aM_ (show P0 wz10 from by rw [hwz]; exact (HM0.out.far _ _ HP0.out)); have bp20_ := blk_set BK367.out 20 (.slice Ao10 t408.length co10)
 simp only [List.setIfInBounds_toArray, List.set_cons_zero, List.set_cons_succ] at bp20_; rw [← hwz] at bp20_ ⊢; have n2_ := aM_ bp20_
 clear hwz bp20_ HP HP0 BK367; (try clear HB); clear hci20 hco20 hfo20; have HP := n0_; have HP0 := n1_; have BK367 := n2_; clear n0_ n1_ n2_; have HB := aM_ (HE0.out _ HP0.out).2.2; have B1_ := aM_ (HE0.out _ HP0.out).1; have hci21 : wz10.cell? ⟨gb365, 21, none⟩ = some (.slice A0_21 l0_21.length c0_21) := (blk_cell B1_.out 21).trans rfl; clear B1_
 go_upto_region 12 with ((with_reducible refine gate_callee (f := 88) rfl ?_); refine goesL_ (some 42) rfl rfl Try.func88 (by kernel_rfl) rfl #[.slice A0_21 l0_21.length c0_21] rfl (by (try simp only [List.map_toArray, List.map_cons, List.map_nil]); first | done | rfl | (simp only [List.length_drop, List.length_take]; rfl)) ?_; (with_reducible refine (laws_toFaultS.calls k _ _ l0_21 t411 _ ?side1 ?side2 A11.out).mono ?_); (case side1 => exact Kd.C_below HR0_21.out HB.out); (case side2 => exact HC0_21.out); rintro e w59 ⟨v412, rfl, ho0, hb⟩; refine ⟨_, rfl, ?_⟩; have q11_ := aM_ (laws_toWorld.row ho0 (blk_lt (HE0.out _ HP0.out).2.1) (blk_lt BK367.out) HB.out.size); clear ho0; obtain ⟨Ao11, co11, eo11⟩ := Kd.R_slice q11_.out; subst eo11; obtain ⟨P10, HPn, HMn, HQ10⟩ : ∃ P : World → Prop, Aside0 (P w59) ∧ Aside0 (laws_toWorld.Mv gb367 P) ∧ Aside0 (∀ W, P W → P9 W ∧ (Kd.R k206 206 W w.heap.size (fun k_ => k_ ≠ gb366 ∧ k_ ≠ gb367) (.slice Ao11 t411.length co11) t411)) := ⟨_, ⟨⟨HM.out.bel HP.out hb, q11_.out⟩⟩, ⟨laws_toWorld.mvA HM.out laws_toWorld.mvR3⟩, ⟨fun W h => h⟩⟩; have HPm := aM_ (HM0.out.bel HP0.out hb); have b3_ := aM_ (bB_ BK367.out hb); clear BK367 HB HP HP0 HM hb q11_; have BK367 := b3_; have HP0 := HPm; have HP := HPn; have HM := HMn; clear b3_ HPn HMn HPm; have hco21 : w59.cell? ⟨gb367, 21, none⟩ = some (.slice none 0 0) := (blk_cell BK367.out 21).trans rfl; have hfo21 := blk_frozen BK367.out 21)
 obtain ⟨wz11, hwz⟩ : ∃ wz : World, wz = (w59.setCell ⟨gb367, 21, none⟩ (.slice Ao11 t411.length co11)) := ⟨_, rfl⟩
 have n0_ := aM_ (show P10 wz11 from by rw [hwz]; exact (HM.out.far _ _ HP.out)); have n1_ := aM_ (show P0 wz11 from by rw [hwz]; exact (HM0.out.far _ _ HP0.out)); have bp21_ := blk_set BK367.out 21 (.slice Ao11 t411.length co11)
 simp only [List.setIfInBounds_toArray, List.set_cons_zero, List.set_cons_succ] at bp21_; rw [← hwz] at bp21_ ⊢; have n2_ := aM_ bp21_
 clear hwz bp21_ HP HP0 BK367; (try clear HB); clear hci21 hco21 hfo21; have HP := n0_; have HP0 := n1_; have BK367 := n2_; clear n0_ n1_ n2_; have HB := aM_ (HE0.out _ HP0.out).2.2; have B1_ := aM_ (HE0.out _ HP0.out).1; have hci22 : wz11.cell? ⟨gb365, 22, none⟩ = some (.int .i64 a0_22) := (blk_cell B1_.out 22).trans rfl; clear B1_
 have hco22 : wz11.cell? ⟨gb367, 22, none⟩ = some (.int .i64 0) := (blk_cell BK367.out 22).trans rfl; have hfo22 := blk_frozen BK367.out 22
 go_upto_region 13 with fail
 obtain ⟨wz12, hwz⟩ : ∃ wz : World, wz = (wz11.setCell ⟨gb367, 22, none⟩ (.int .i64 a0_22)) := ⟨_, rfl⟩
 have n0_ := aM_ (show P10 wz12 from by rw [hwz]; exact (HM.out.far _ _ HP.out)); have n1_ := aM_ (show P0 wz12 from by rw [hwz]; exact (HM0.out.far _ _ HP0.out)); have bp22_ := blk_set BK367.out 22 (.int .i64 a0_22)
 simp only [List.setIfInBounds_toArray, List.set_cons_zero, List.set_cons_succ] at bp22_; rw [← hwz] at bp22_ ⊢; have n2_ := aM_ bp22_
 clear hwz bp22_ HP HP0 BK367; (try clear HB); clear hci22 hco22 hfo22; have HP := n0_; have HP0 := n1_; have BK367 := n2_; clear n0_ n1_ n2_; have HB := aM_ (HE0.out _ HP0.out).2.2; have B1_ := aM_ (HE0.out _ HP0.out).1; have hci23 : wz12.cell? ⟨gb365, 23, none⟩ = some (.int .i64 a0_23) := (blk_cell B1_.out 23).trans rfl; clear B1_
 have hco23 : wz12.cell? ⟨gb367, 23, none⟩ = some (.int .i64 0) := (blk_cell BK367.out 23).trans rfl; have hfo23 := blk_frozen BK367.out 23
 go_upto_region 14 with fail
 obtain ⟨wz13, hwz⟩ : ∃ wz : World, wz = (wz12.setCell ⟨gb367, 23, none⟩ (.int .i64 a0_23)) := ⟨_, rfl⟩
 have n0_ := aM_ (show P10 wz13 from by rw [hwz]; exact (HM.out.far _ _ HP.out)); have n1_ := aM_ (show P0 wz13 from by rw [hwz]; exact (HM0.out.far _ _ HP0.out)); have bp23_ := blk_set BK367.out 23 (.int .i64 a0_23)
 simp only [List.setIfInBounds_toArray, List.set_cons_zero, List.set_cons_succ] at bp23_; rw [← hwz] at bp23_ ⊢; have n2_ := aM_ bp23_
 clear hwz bp23_ HP HP0 BK367; (try clear HB); clear hci23 hco23 hfo23; have HP := n0_; have HP0 := n1_; have BK367 := n2_; clear n0_ n1_ n2_; have HB := aM_ (HE0.out _ HP0.out).2.2; have B1_ := aM_ (HE0.out _ HP0.out).1; have hci24 : wz13.cell? ⟨gb365, 24, none⟩ = some (.slice A0_24 l0_24.length c0_24) := (blk_cell B1_.out 24).trans rfl; clear B1_
 go_upto_region 15 with ((with_reducible refine gate_callee (f := 89) rfl ?_); refine goesL_ (some 52) rfl rfl Try.func89 (by kernel_rfl) rfl #[.slice A0_24 l0_24.length c0_24] rfl (by (try simp only [List.map_toArray, List.map_cons, List.map_nil]); first | done | rfl | (simp only [List.length_drop, List.length_take]; rfl)) ?_; (with_reducible refine (laws_toPacketS.calls k _ _ l0_24 t414 _ ?side1 ?side2 A12.out).mono ?_); (case side1 => exact Kd.C_below HR0_24.out HB.out); (case side2 => exact HC0_24.out); rintro e w63 ⟨v415, rfl, ho0, hb⟩; refine ⟨_, rfl, ?_⟩; have q12_ := aM_ (laws_toWorld.row ho0 (blk_lt (HE0.out _ HP0.out).2.1) (blk_lt BK367.out) HB.out.size); clear ho0; obtain ⟨Ao12, co12, eo12⟩ := Kd.R_slice q12_.out; subst eo12; obtain ⟨P11, HPn, HMn, HQ11⟩ : ∃ P : World → Prop, Aside0 (P w63) ∧ Aside0 (laws_toWorld.Mv gb367 P) ∧ Aside0 (∀ W, P W → P10 W ∧ (Kd.R k132 132 W w.heap.size (fun k_ => k_ ≠ gb366 ∧ k_ ≠ gb367) (.slice Ao12 t414.length co12) t414)) := ⟨_, ⟨⟨HM.out.bel HP.out hb, q12_.out⟩⟩, ⟨laws_toWorld.mvA HM.out laws_toWorld.mvR3⟩, ⟨fun W h => h⟩⟩; have HPm := aM_ (HM0.out.bel HP0.out hb); have b3_ := aM_ (bB_ BK367.out hb); clear BK367 HB HP HP0 HM hb q12_; have BK367 := b3_; have HP0 := HPm; have HP := HPn; have HM := HMn; clear b3_ HPn HMn HPm; have hco24 : w63.cell? ⟨gb367, 24, none⟩ = some (.slice none 0 0) := (blk_cell BK367.out 24).trans rfl; have hfo24 := blk_frozen BK367.out 24)
 obtain ⟨wz14, hwz⟩ : ∃ wz : World, wz = (w63.setCell ⟨gb367, 24, none⟩ (.slice Ao12 t414.length co12)) := ⟨_, rfl⟩
 have n0_ := aM_ (show P11 wz14 from by rw [hwz]; exact (HM.out.far _ _ HP.out)); have n1_ := aM_ (show P0 wz14 from by rw [hwz]; exact (HM0.out.far _ _ HP0.out)); have bp24_ := blk_set BK367.out 24 (.slice Ao12 t414.length co12)
 simp only [List.setIfInBounds_toArray, List.set_cons_zero, List.set_cons_succ] at bp24_; rw [← hwz] at bp24_ ⊢; have n2_ := aM_ bp24_
 clear hwz bp24_ HP HP0 BK367; (try clear HB); clear hci24 hco24 hfo24; have HP := n0_; have HP0 := n1_; have BK367 := n2_; clear n0_ n1_ n2_; have HB := aM_ (HE0.out _ HP0.out).2.2; have B1_ := aM_ (HE0.out _ HP0.out).1; have hci25 : wz14.cell? ⟨gb365, 25, none⟩ = some (.slice A0_25 l0_25.length c0_25) := (blk_cell B1_.out 25).trans rfl; clear B1_
 go_upto_region 16 with ((with_reducible refine gate_callee (f := 90) rfl ?_); refine goesL_ (some 56) rfl rfl Try.func90 (by kernel_rfl) rfl #[.slice A0_25 l0_25.length c0_25] rfl (by (try simp only [List.map_toArray, List.map_cons, List.map_nil]); first | done | rfl | (simp only [List.length_drop, List.length_take]; rfl)) ?_; (with_reducible refine (laws_toSentS.calls k _ _ l0_25 t417 _ ?side1 ?side2 A13.out).mono ?_); (case side1 => exact Kd.C_below HR0_25.out HB.out); (case side2 => exact HC0_25.out); rintro e w67 ⟨v418, rfl, ho0, hb⟩; refine ⟨_, rfl, ?_⟩; have q13_ := aM_ (laws_toWorld.row ho0 (blk_lt (HE0.out _ HP0.out).2.1) (blk_lt BK367.out) HB.out.size); clear ho0; obtain ⟨Ao13, co13, eo13⟩ := Kd.R_slice q13_.out; subst eo13; obtain ⟨P12, HPn, HMn, HQ12⟩ : ∃ P : World → Prop, Aside0 (P w67) ∧ Aside0 (laws_toWorld.Mv gb367 P) ∧ Aside0 (∀ W, P W → P11 W ∧ (Kd.R k212 212 W w.heap.size (fun k_ => k_ ≠ gb366 ∧ k_ ≠ gb367) (.slice Ao13 t417.length co13) t417)) := ⟨_, ⟨⟨HM.out.bel HP.out hb, q13_.out⟩⟩, ⟨laws_toWorld.mvA HM.out laws_toWorld.mvR3⟩, ⟨fun W h => h⟩⟩; have HPm := aM_ (HM0.out.bel HP0.out hb); have b3_ := aM_ (bB_ BK367.out hb); clear BK367 HB HP HP0 HM hb q13_; have BK367 := b3_; have HP0 := HPm; have HP := HPn; have HM := HMn; clear b3_ HPn HMn HPm; have hco25 : w67.cell? ⟨gb367, 25, none⟩ = some (.slice none 0 0) := (blk_cell BK367.out 25).trans rfl; have hfo25 := blk_frozen BK367.out 25)
 obtain ⟨wz15, hwz⟩ : ∃ wz : World, wz = (w67.setCell ⟨gb367, 25, none⟩ (.slice Ao13 t417.length co13)) := ⟨_, rfl⟩
 have n0_ := aM_ (show P12 wz15 from by rw [hwz]; exact (HM.out.far _ _ HP.out)); have n1_ := aM_ (show P0 wz15 from by rw [hwz]; exact (HM0.out.far _ _ HP0.out)); have bp25_ := blk_set BK367.out 25 (.slice Ao13 t417.length co13)
 simp only [List.setIfInBounds_toArray, List.set_cons_zero, List.set_cons_succ] at bp25_; rw [← hwz] at bp25_ ⊢; have n2_ := aM_ bp25_
 clear hwz bp25_ HP HP0 BK367; (try clear HB); clear hci25 hco25 hfo25; have HP := n0_; have HP0 := n1_; have BK367 := n2_; clear n0_ n1_ n2_; have HB := aM_ (HE0.out _ HP0.out).2.2; have BK366 := aM_ (HE0.out _ HP0.out).2.1
 go_wp2_with (first | ((with_reducible refine gate_dst (N := 58) rfl ?_); refine wpList_load_row rfl 72 (.tmp 3) rfl gb367 rfl 72 _ (0, 0) _ BK367.out Try.underlying72 rfl (by kernel_rfl) ?_) | ((with_reducible refine gate_store (t := 72) (p := 2) rfl ?_); refine laws_toWorld.st rfl rfl 72 (.tmp 2) (.tmp 58) rfl gb366 #[.int .i64 t368, .slice Ao0 t369.length co0, .slice Ao1 t372.length co1, .int .i64 t375, .int .i64 t376, .int .i64 t377, .int .i64 t378, .int .i64 t379, .slice Ao2 t380.length co2, .int .i64 t383, .int .i64 t384, .int .i64 t385, .int .i64 t386, .slice Ao3 t387.length co3, .slice Ao4 t390.length co4, .slice Ao5 t393.length co5, .slice Ao6 t396.length co6, .slice Ao7 t399.length co7, .slice Ao8 t402.length co8, .slice Ao9 t405.length co9, .slice Ao10 t408.length co10, .slice Ao11 t411.length co11, .int .i64 a0_22, .int .i64 a0_23, .slice Ao12 t414.length co12, .slice Ao13 t417.length co13] rfl rfl 72 #[.int .i64 0, .slice none 0 0, .slice none 0 0, .int .i64 0, .int .i64 0, .int .i64 0, .int .i64 0, .int .i64 0, .slice none 0 0, .int .i64 0, .int .i64 0, .int .i64 0, .int .i64 0, .slice none 0 0, .slice none 0 0, .slice none 0 0, .slice none 0 0, .slice none 0 0, .slice none 0 0, .slice none 0 0, .slice none 0 0, .slice none 0 0, .int .i64 0, .int .i64 0, .slice none 0 0, .slice none 0 0] BK366.out (by kernel_rfl) rfl (by simp [Value.oneCell']) ?_))
 refine bodyPost_ret (results_cell_row rfl _ _ gb366 72 #[.int .i64 t368, .slice Ao0 t369.length co0, .slice Ao1 t372.length co1, .int .i64 t375, .int .i64 t376, .int .i64 t377, .int .i64 t378, .int .i64 t379, .slice Ao2 t380.length co2, .int .i64 t383, .int .i64 t384, .int .i64 t385, .int .i64 t386, .slice Ao3 t387.length co3, .slice Ao4 t390.length co4, .slice Ao5 t393.length co5, .slice Ao6 t396.length co6, .slice Ao7 t399.length co7, .slice Ao8 t402.length co8, .slice Ao9 t405.length co9, .slice Ao10 t408.length co10, .slice Ao11 t411.length co11, .int .i64 a0_22, .int .i64 a0_23, .slice Ao12 t414.length co12, .slice Ao13 t417.length co13] (0, 0) _ rfl (setRow_heap _ _ _ _ _ _ BK366.out) Try.underlying72 rfl (by kernel_rfl)) rfl ?_
 have hp_ := HP.out
 obtain ⟨hp12_, r13_⟩ := HQ12.out _ hp_
 obtain ⟨hp11_, r12_⟩ := HQ11.out _ hp12_
 obtain ⟨hp10_, r11_⟩ := HQ10.out _ hp11_
 obtain ⟨hp9_, r10_⟩ := HQ9.out _ hp10_
 obtain ⟨hp8_, r9_⟩ := HQ8.out _ hp9_
 obtain ⟨hp7_, r8_⟩ := HQ7.out _ hp8_
 obtain ⟨hp6_, r7_⟩ := HQ6.out _ hp7_
 obtain ⟨hp5_, r6_⟩ := HQ5.out _ hp6_
 obtain ⟨hp4_, r5_⟩ := HQ4.out _ hp5_
 obtain ⟨hp3_, r4_⟩ := HQ3.out _ hp4_
 obtain ⟨hp2_, r3_⟩ := HQ2.out _ hp3_
 obtain ⟨hp1_, r0_, r1_, r2_⟩ := HQ1.out _ hp2_
 exact ⟨_, _, _, _, _, _, _, _, _, _, _, _, _, _, _, _, _, _, _, _, _, _, _, _, _, _, _, _, by first | rfl | (simp [errW_none, errW_some] <;> rfl) | (simp [*, errW_none, errW_some] <;> rfl), laws_toWorld.fin r0_, laws_toWorld.fin r1_, laws_toWorld.fin r2_, laws_toWorld.fin r3_, laws_toWorld.fin r4_, laws_toWorld.fin r5_, laws_toWorld.fin r6_, laws_toWorld.fin r7_, laws_toWorld.fin r8_, laws_toWorld.fin r9_, laws_toWorld.fin r10_, laws_toWorld.fin r11_, laws_toWorld.fin r12_, laws_toWorld.fin r13_, laws_toWorld.bsr HB.out GW366.out⟩

/-! ### slices_Clone_impl_Packet_impl_Packet: function 148 -/
def slices_Clone_impl_Packet_impl_Packet.f (l0 : List (S132)) : Option (List (S132)) := if l0.length < 2932031007402 then some l0 else none
set_option maxHeartbeats 8000000 in
set_option maxRecDepth 100000 in
theorem slices_Clone_impl_Packet_impl_Packet.calls (A0 : Option Addr) (c0 : Nat) (l0 : List (S132)) (r : List (S132)) (w : World) (hr0 : Kd.C k132 w A0 l0.length l0) (hc0 : l0.length ≤ c0) (h : slices_Clone_impl_Packet_impl_Packet.f l0 = some r) :
    Calls Try.prog 148 #[.slice A0 l0.length c0] w fun e w' => ∃ v0_ : Value, e = .returned (v0_) ∧ Kd.R k132 132 w' w.heap.size (fun _ => True) v0_ r ∧ Below w.heap.size w w' := by
  unfold slices_Clone_impl_Packet_impl_Packet.f at h
  have q22 : ∀ (w : World) (a : Option Addr) (n c n' c' : Nat), (binOp .eql 69 (.slice a n c) (.slice none n' c')).run Try.prog w = .ok (.bool a.isNone) w := fun w a n c n' c' => Lib.run_eql_slice_nil w _ _ a n c n' c' Try.underlying69
  by_cases hlim : l0.length < 2932031007402
  · rw [if_pos hlim] at h
    obtain rfl := Option.some.inj h
    cases A0 with
    | none =>
      have h0 : l0.length = 0 := by
        rcases Nat.eq_zero_or_pos l0.length with h | h
        · exact h
        · obtain ⟨ad, e, _⟩ := hr0.2.2 h
          cases e
      obtain rfl : l0 = [] := List.length_eq_zero_iff.1 h0
      go_enter Try.func148, Try.ntmps148
      go_wp2
      go_ret
      exact ⟨_, rfl, Kd.R_nil _ _ _ _ _, Below.refl _ _⟩
    | some ad =>
      have HR0 := aM_ hr0
      have HC0 := aM_ hc0
      have LM := aM_ hlim
      have HB := aM_ (Below.refl w.heap.size w)
      clear hr0 hc0 hlim h
      go_enter Try.func148, Try.ntmps148
      go_wp2_with (first | ((with_reducible refine gate_dst (N := 5) rfl ?_); refine Kd.R_lit k132 _ 132 ?hg (N := 5) ?hd (xs := ([] : List (S132))) (inner := []) (ok := fun _ => True) (okp := fun _ => True) ?hr ?hp (fun _ hk => hk) trivial (Below.refl _ _) (Nat.le_refl _) (by simp) ?_; (case hd => rfl); (case hg => rfl); (case hr => first | (go_simp; done) | (go_simp; rfl)); (case hp => exact (Reps.none _ _)); intro v106 w5 ho6 hb hg_ hnew_; clear hg_ hnew_; have n0_ := aM_ (Kd.R_lower ho6 (sZ_ (bw_))); have n3_ := aM_ (wS_ (bw_) hb); clear HB; have HO107 := n0_; have HB := n3_; clear n0_ n3_ hb ho6) | ((with_reducible refine gate_builtin (b := .append) (xs := #[.tmp 5, .tmp 6]) rfl ?_); at_builtin; refine Kd.R_append_rows k132 (w0 := w) w.heap.size rfl (.tmp 5) (.tmp 6) 69 132 ((.agg #[(.int .i64 0), (.int .i64 0), (.int .i64 0), (.int .i64 0), (.int .i64 0), (.int .i64 0)])) 48 rfl Try.underlying69 info132 rfl (by decide) (by omega) v106 ([] : List (S132)) l0 _ _ _ (fun _ => True) (fun _ => False) rfl rfl ?aO ?aR (fun _ _ h => h) (fun _ h => h.elim) ?aF ?aB ?aS ?aL ?_; (case aR => repeat (first | exact (Kd.C_below HR0.out HB.out) | (with_reducible refine cA_ ?_ _) | (with_reducible refine cN_ ?_ _) | (with_reducible refine cD_ ?_))); (case aB => exact (bw_)); (case aF => exact (fun _ _ => trivial)); (case aO => exact (rb_ HO107.out)); (case aS => exact (sZ_ (bw_))); (case aL => have := LM.out; simp only [List.length_nil]; omega); intro v109 w9 ho hb hg hat; rw [List.nil_append] at ho; have n2_ := aM_ (hb); have n3_ := aM_ (ho); clear HB HO107; have HB := n2_; have HO110 := n3_; clear n2_ n3_ ho hb hg hat))
      go_ret
      exact ⟨_, rfl, HO110.out, HB.out⟩
  · rw [if_neg hlim] at h
    cases h

/-! ### impl_packetsOf: function 91 -/
def impl_packetsOf.l0 : Nat → List (S132) → List (S130) → Int → Int → Option ((List (S132)))
  | 0, _, _, _, _ => none
  | k + 1, x3, x10, x11, x12 => if x12 < x11 then (if 0 ≤ x12 then (if x12 < (x10.length : Int) then (if x3.length + ((rd_T130 x10 x12).f0).length < 2932031007402 then (impl_packetsOf.l0 k (x3 ++ ((rd_T130 x10 x12).f0)) x10 x11 (wrap64 (x12 + 1))) else (none)) else (none)) else (none)) else (some x3)
def impl_packetsOf.f (k : Nat) (a0_0 : Int) (l0_1 : List (S249)) (l0_2 : List (S253)) (a0_3 : Int) (a0_4 : Int) (a0_5 : Int) (a0_6 : Int) (a0_7 : Int) (l0_8 : List (S259)) (a0_9 : Int) (a0_10 : Int) (a0_11 : Int) (a0_12 : Int) (l0_13 : List (S112)) (l0_14 : List Int) (l0_15 : List Int) (l0_16 : List (S195)) (l0_17 : List (S130)) (l0_18 : List (S200)) (l0_19 : List Int) (l0_20 : List (S203)) (l0_21 : List (S206)) (a0_22 : Int) (a0_23 : Int) (l0_24 : List (S132)) (l0_25 : List (S212)) : Option ((List (S132))) := (slices_Clone_impl_Packet_impl_Packet.f l0_24).bind fun t353 => (impl_packetsOf.l0 k t353 l0_17 (l0_17.length : Int) 0)
set_option maxHeartbeats 8000000 in
set_option maxRecDepth 100000 in
theorem impl_packetsOf.calls (k : Nat) (a0_0 : Int) (A0_1 : Option Addr) (c0_1 : Nat) (l0_1 : List (S249)) (A0_2 : Option Addr) (c0_2 : Nat) (l0_2 : List (S253)) (a0_3 : Int) (a0_4 : Int) (a0_5 : Int) (a0_6 : Int) (a0_7 : Int) (A0_8 : Option Addr) (c0_8 : Nat) (l0_8 : List (S259)) (a0_9 : Int) (a0_10 : Int) (a0_11 : Int) (a0_12 : Int) (A0_13 : Option Addr) (c0_13 : Nat) (l0_13 : List (S112)) (A0_14 : Option Addr) (c0_14 : Nat) (l0_14 : List Int) (A0_15 : Option Addr) (c0_15 : Nat) (l0_15 : List Int) (A0_16 : Option Addr) (c0_16 : Nat) (l0_16 : List (S195)) (A0_17 : Option Addr) (c0_17 : Nat) (l0_17 : List (S130)) (A0_18 : Option Addr) (c0_18 : Nat) (l0_18 : List (S200)) (A0_19 : Option Addr) (c0_19 : Nat) (l0_19 : List Int) (A0_20 : Option Addr) (c0_20 : Nat) (l0_20 : List (S203)) (A0_21 : Option Addr) (c0_21 : Nat) (l0_21 : List (S206)) (a0_22 : Int) (a0_23 : Int) (A0_24 : Option Addr) (c0_24 : Nat) (l0_24 : List (S132)) (A0_25 : Option Addr) (c0_25 : Nat) (l0_25 : List (S212)) (r : List (S132)) (w : World) (hr0_1 : Kd.C k249 w A0_1 l0_1.length l0_1) (hc0_1 : l0_1.length ≤ c0_1) (hr0_2 : Kd.C k253 w A0_2 l0_2.length l0_2) (hc0_2 : l0_2.length ≤ c0_2) (hr0_8 : Kd.C k259 w A0_8 l0_8.length l0_8) (hc0_8 : l0_8.length ≤ c0_8) (hr0_13 : Kd.C k112 w A0_13 l0_13.length l0_13) (hc0_13 : l0_13.length ≤ c0_13) (hr0_14 : Kd.C (Kd.int .i64) w A0_14 l0_14.length l0_14) (hc0_14 : l0_14.length ≤ c0_14) (hr0_15 : Kd.C (Kd.int .i64) w A0_15 l0_15.length l0_15) (hc0_15 : l0_15.length ≤ c0_15) (hr0_16 : Kd.C k195 w A0_16 l0_16.length l0_16) (hc0_16 : l0_16.length ≤ c0_16) (hr0_17 : Kd.C k130 w A0_17 l0_17.length l0_17) (hc0_17 : l0_17.length ≤ c0_17) (hr0_18 : Kd.C k200 w A0_18 l0_18.length l0_18) (hc0_18 : l0_18.length ≤ c0_18) (hr0_19 : Kd.C (Kd.int .i64) w A0_19 l0_19.length l0_19) (hc0_19 : l0_19.length ≤ c0_19) (hr0_20 : Kd.C k203 w A0_20 l0_20.length l0_20) (hc0_20 : l0_20.length ≤ c0_20) (hr0_21 : Kd.C k206 w A0_21 l0_21.length l0_21) (hc0_21 : l0_21.length ≤ c0_21) (hr0_24 : Kd.C k132 w A0_24 l0_24.length l0_24) (hc0_24 : l0_24.length ≤ c0_24) (hr0_25 : Kd.C k212 w A0_25 l0_25.length l0_25) (hc0_25 : l0_25.length ≤ c0_25) (h : impl_packetsOf.f k a0_0 l0_1 l0_2 a0_3 a0_4 a0_5 a0_6 a0_7 l0_8 a0_9 a0_10 a0_11 a0_12 l0_13 l0_14 l0_15 l0_16 l0_17 l0_18 l0_19 l0_20 l0_21 a0_22 a0_23 l0_24 l0_25 = some r) :
  Calls Try.prog 91 #[.agg #[.int .i64 a0_0, .slice A0_1 l0_1.length c0_1, .slice A0_2 l0_2.length c0_2, .int .i64 a0_3, .int .i64 a0_4, .int .i64 a0_5, .int .i64 a0_6, .int .i64 a0_7, .slice A0_8 l0_8.length c0_8, .int .i64 a0_9, .int .i64 a0_10, .int .i64 a0_11, .int .i64 a0_12, .slice A0_13 l0_13.length c0_13, .slice A0_14 l0_14.length c0_14, .slice A0_15 l0_15.length c0_15, .slice A0_16 l0_16.length c0_16, .slice A0_17 l0_17.length c0_17, .slice A0_18 l0_18.length c0_18, .slice A0_19 l0_19.length c0_19, .slice A0_20 l0_20.length c0_20, .slice A0_21 l0_21.length c0_21, .int .i64 a0_22, .int .i64 a0_23, .slice A0_24 l0_24.length c0_24, .slice A0_25 l0_25.length c0_25]] w fun e w' => ∃ v0_ : Value, e = .returned (v0_) ∧ Kd.R k132 132 w' w.heap.size (fun _ => True) v0_ r ∧ Below w.heap.size w w' := by
 have hu72 := Try.underlying72; have hu130 := Try.underlying130; have HR0_1 := aM_ hr0_1; have HC0_1 := aM_ hc0_1; clear hr0_1 hc0_1; have HR0_2 := aM_ hr0_2; have HC0_2 := aM_ hc0_2; clear hr0_2 hc0_2; have HR0_8 := aM_ hr0_8; have HC0_8 := aM_ hc0_8; clear hr0_8 hc0_8; have HR0_13 := aM_ hr0_13; have HC0_13 := aM_ hc0_13; clear hr0_13 hc0_13; have HR0_14 := aM_ hr0_14; have HC0_14 := aM_ hc0_14; clear hr0_14 hc0_14; have HR0_15 := aM_ hr0_15; have HC0_15 := aM_ hc0_15; clear hr0_15 hc0_15; have HR0_16 := aM_ hr0_16; have HC0_16 := aM_ hc0_16; clear hr0_16 hc0_16; have HR0_17 := aM_ hr0_17; have HC0_17 := aM_ hc0_17; clear hr0_17 hc0_17; have HR0_18 := aM_ hr0_18; have HC0_18 := aM_ hc0_18; clear hr0_18 hc0_18; have HR0_19 := aM_ hr0_19; have HC0_19 := aM_ hc0_19; clear hr0_19 hc0_19; have HR0_20 := aM_ hr0_20; have HC0_20 := aM_ hc0_20; clear hr0_20 hc0_20; have HR0_21 := aM_ hr0_21; have HC0_21 := aM_ hc0_21; clear hr0_21 hc0_21; have HR0_24 := aM_ hr0_24; have HC0_24 := aM_ hc0_24; clear hr0_24 hc0_24; have HR0_25 := aM_ hr0_25; have HC0_25 := aM_ hc0_25; clear hr0_25 hc0_25; have HB := aM_ (Below.refl w.heap.size w)
 have H : ((slices_Clone_impl_Packet_impl_Packet.f l0_24).bind fun t353 => (impl_packetsOf.l0 k t353 l0_17 (l0_17.length : Int) 0)) = some r := h
 clear h
 replace H := Option.bind_eq_some_iff.mp H
 obtain ⟨t353, A20, H⟩ := H
 (try dsimp only at H)
 have A2 := aM_ A20; clear A20
 have H' := aM_ H
 clear H
 go_enter Try.func91, Try.ntmps91
 go_wp2_with (first | ((with_reducible refine gate_dst (N := 1) rfl ?_); refine box_event ?hg (N := 1) ?hd (cs := #[.int .i64 a0_0, .slice A0_1 l0_1.length c0_1, .slice A0_2 l0_2.length c0_2, .int .i64 a0_3, .int .i64 a0_4, .int .i64 a0_5, .int .i64 a0_6, .int .i64 a0_7, .slice A0_8 l0_8.length c0_8, .int .i64 a0_9, .int .i64 a0_10, .int .i64 a0_11, .int .i64 a0_12, .slice A0_13 l0_13.length c0_13, .slice A0_14 l0_14.length c0_14, .slice A0_15 l0_15.length c0_15, .slice A0_16 l0_16.length c0_16, .slice A0_17 l0_17.length c0_17, .slice A0_18 l0_18.length c0_18, .slice A0_19 l0_19.length c0_19, .slice A0_20 l0_20.length c0_20, .slice A0_21 l0_21.length c0_21, .int .i64 a0_22, .int .i64 a0_23, .slice A0_24 l0_24.length c0_24, .slice A0_25 l0_25.length c0_25]) (t := 72) ?hr ?_; (case hd => rfl); (case hg => rfl); (case hr => first | (go_simp; done) | (go_simp; rfl)); intro gb352 hg w3 hbox hb; have n0_ := aM_ (wS_ (bw_) hb); have n1_ := aM_ (hbox); have n2_ := aM_ ((by rw [hg]; exact (sZ_ (bw_)) : w.heap.size ≤ gb352)); have n3_ := aM_ ((by rw [hg]; exact (sZ_ (bw_)) : w.heap.size ≤ gb352)); clear HB; have HB := n0_; have BK352 := n1_; have GW352 := n2_; have GE352 := n3_; clear n0_ n1_ n2_ n3_ hb hbox hg; obtain ⟨hcz4_0, hcz4_1, hcz4_2, hcz4_3, hcz4_4, hcz4_5, hcz4_6, hcz4_7, hcz4_8, hcz4_9, hcz4_10, hcz4_11, hcz4_12, hcz4_13, hcz4_14, hcz4_15, hcz4_16, hcz4_17, hcz4_18, hcz4_19, hcz4_20, hcz4_21, hcz4_22, hcz4_23, hcz4_24, hcz4_25, hfz4_0, hfz4_1, hfz4_2, hfz4_3, hfz4_4, hfz4_5, hfz4_6, hfz4_7, hfz4_8, hfz4_9, hfz4_10, hfz4_11, hfz4_12, hfz4_13, hfz4_14, hfz4_15, hfz4_16, hfz4_17, hfz4_18, hfz4_19, hfz4_20, hfz4_21, hfz4_22, hfz4_23, hfz4_24, hfz4_25⟩ := bk26_ BK352.out) | ((with_reducible refine gate_callee (f := 148) rfl ?_); refine goesL_ (some 8) rfl rfl Try.func148 (by kernel_rfl) rfl #[.slice A0_24 l0_24.length c0_24] rfl (by (try simp only [List.map_toArray, List.map_cons, List.map_nil]); first | done | rfl | (simp only [List.length_drop, List.length_take]; rfl)) ?_; (with_reducible refine (slices_Clone_impl_Packet_impl_Packet.calls _ _ l0_24 t353 _ ?side1 ?side2 A2.out).mono ?_); (case side1 => repeat (first | exact (Kd.C_below HR0_24.out HB.out) | (with_reducible refine cA_ ?_ _) | (with_reducible refine cN_ ?_ _) | (with_reducible refine cD_ ?_))); (case side2 => exact HC0_24.out); rintro e w5 ⟨v354, rfl, ho0, hb⟩; refine ⟨_, rfl, ?_⟩; have n0_ := aM_ (Kd.R_lower ho0 (sZ_ (bw_))); have n1_ := aM_ (bB_ (kb_ BK352.out) hb); have n2_ := aM_ (wS_ (bw_) hb); clear BK352 HB; have HO355 := n0_; have BK352 := n1_; have HB := n2_; clear n0_ n1_ n2_; (try clear hb); (try clear hb2); (try clear hk); (try clear hi); (try clear ho0); obtain ⟨hcz6_0, hcz6_1, hcz6_2, hcz6_3, hcz6_4, hcz6_5, hcz6_6, hcz6_7, hcz6_8, hcz6_9, hcz6_10, hcz6_11, hcz6_12, hcz6_13, hcz6_14, hcz6_15, hcz6_16, hcz6_17, hcz6_18, hcz6_19, hcz6_20, hcz6_21, hcz6_22, hcz6_23, hcz6_24, hcz6_25, hfz6_0, hfz6_1, hfz6_2, hfz6_3, hfz6_4, hfz6_5, hfz6_6, hfz6_7, hfz6_8, hfz6_9, hfz6_10, hfz6_11, hfz6_12, hfz6_13, hfz6_14, hfz6_15, hfz6_16, hfz6_17, hfz6_18, hfz6_19, hfz6_20, hfz6_21, hfz6_22, hfz6_23, hfz6_24, hfz6_25⟩ := bk26_ BK352.out))
 go_loopg [3, 12] k (fun kq v3 v12 w' => ∃ (x3_1 : List (S132)) (x12_1 : Int), v12 = .int .i64 x12_1 ∧ Aside0 (impl_packetsOf.l0 kq x3_1 l0_17 (l0_17.length : Int) x12_1 = some r) ∧ Aside0 (kq ≤ k) ∧ Aside0 (Kd.R k132 132 w' w.heap.size (fun _ => True) v3 x3_1) ∧ Aside0 (w'.heap[gb352]? = some (.cells #[.int .i64 a0_0, (.slice A0_1 l0_1.length c0_1), (.slice A0_2 l0_2.length c0_2), .int .i64 a0_3, .int .i64 a0_4, .int .i64 a0_5, .int .i64 a0_6, .int .i64 a0_7, (.slice A0_8 l0_8.length c0_8), .int .i64 a0_9, .int .i64 a0_10, .int .i64 a0_11, .int .i64 a0_12, (.slice A0_13 l0_13.length c0_13), (.slice A0_14 l0_14.length c0_14), (.slice A0_15 l0_15.length c0_15), (.slice A0_16 l0_16.length c0_16), (.slice A0_17 l0_17.length c0_17), (.slice A0_18 l0_18.length c0_18), (.slice A0_19 l0_19.length c0_19), (.slice A0_20 l0_20.length c0_20), (.slice A0_21 l0_21.length c0_21), .int .i64 a0_22, .int .i64 a0_23, (.slice A0_24 l0_24.length c0_24), (.slice A0_25 l0_25.length c0_25)] 72 (0, 0))) ∧ Aside0 (Below w.heap.size w w'))
 case atStart => exact ⟨(t353), (0), (by first | rfl | (simp; done) | (simp [*]; done)), H', ⟨Nat.le_refl _⟩, ⟨by (with_reducible repeat (first | apply rA_ | apply rN_ | apply rD_)); exact HO355.out⟩, ⟨by (with_reducible repeat (first | refine bN_ ?_ _ | refine bD_ ?_ | refine bA_ ?_ _)); exact BK352.out⟩, ⟨bw_⟩⟩
 case round =>
  clear H'
  try clear hcz4_0
  try clear hcz4_1
  try clear hcz4_10
  try clear hcz4_11
  try clear hcz4_12
  try clear hcz4_13
  try clear hcz4_14
  try clear hcz4_15
  try clear hcz4_16
  try clear hcz4_17
  try clear hcz4_18
  try clear hcz4_19
  try clear hcz4_2
  try clear hcz4_20
  try clear hcz4_21
  try clear hcz4_22
  try clear hcz4_23
  try clear hcz4_24
  try clear hcz4_25
  try clear hcz4_3
  try clear hcz4_4
  try clear hcz4_5
  try clear hcz4_6
  try clear hcz4_7
  try clear hcz4_8
  try clear hcz4_9
  try clear hcz6_0
  try clear hcz6_1
  try clear hcz6_10
  try clear hcz6_11
  try clear hcz6_12
  try clear hcz6_13
  try clear hcz6_14
  try clear hcz6_15
  try clear hcz6_16
  try clear hcz6_17
  try clear hcz6_18
  try clear hcz6_19
  try clear hcz6_2
  try clear hcz6_20
  try clear hcz6_21
  try clear hcz6_22
  try clear hcz6_23
  try clear hcz6_24
  try clear hcz6_25
  try clear hcz6_3
  try clear hcz6_4
  try clear hcz6_5
  try clear hcz6_6
  try clear hcz6_7
  try clear hcz6_8
  try clear hcz6_9
  try clear hfz4_0
  try clear hfz4_1
  try clear hfz4_10
  try clear hfz4_11
  try clear hfz4_12
  try clear hfz4_13
  try clear hfz4_14
  try clear hfz4_15
  try clear hfz4_16
  try clear hfz4_17
  try clear hfz4_18
  try clear hfz4_19
  try clear hfz4_2
  try clear hfz4_20
  try clear hfz4_21
  try clear hfz4_22
  try clear hfz4_23
  try clear hfz4_24
  try clear hfz4_25
  try clear hfz4_3
  try clear hfz4_4
  try clear hfz4_5
  try clear hfz4_6
  try clear hfz4_7
  try clear hfz4_8
  try clear hfz4_9
  try clear hfz6_0
  try clear hfz6_1
  try clear hfz6_10
  try clear hfz6_11
  try clear hfz6_12
  try clear hfz6_13
  try clear hfz6_14
  try clear hfz6_15
  try clear hfz6_16
  try clear hfz6_17
  try clear hfz6_18
  try clear hfz6_19
  try clear hfz6_2
  try clear hfz6_20
  try clear hfz6_21
  try clear hfz6_22
  try clear hfz6_23
  try clear hfz6_24
  try clear hfz6_25
  try clear hfz6_3
  try clear hfz6_4
  try clear hfz6_5
  try clear hfz6_6
  try clear hfz6_7
  try clear hfz6_8
  try clear hfz6_9
  obtain ⟨x3_1, x12_1, rfl, HA, HK1, HO_3, BK352, HB⟩ := hrel
  cases gk with
  | zero => exact absurd HA.out (by simp [impl_packetsOf.l0])
  | succ k1 =>
   have H := HA.out; clear HA
   simp only [impl_packetsOf.l0] at H
   by_cases c7 : x12_1 < (l0_17.length : Int)
   ·rw [if_pos c7] at H
    have c7b0 : decide (x12_1 < (l0_17.length : Int)) = true := decide_eq_true c7
    clear c7
    by_cases c8 : 0 ≤ x12_1
    ·rw [if_pos c8] at H
     have c8b0 : decide (0 ≤ x12_1) = true := decide_eq_true c8
     clear c8
     by_cases c9 : x12_1 < (l0_17.length : Int)
     ·rw [if_pos c9] at H
      have c9b0 : decide (x12_1 < (l0_17.length : Int)) = true := decide_eq_true c9
      clear c9
      by_cases c10 : x3_1.length + ((rd_T130 l0_17 x12_1).f0).length < 2932031007402
      ·rw [if_pos c10] at H
       have LMc10 := aM_ c10; clear c10
       obtain ⟨y358, hy358⟩ : ∃ y_ : List (S132), y_ = (x3_1 ++ ((rd_T130 l0_17 x12_1).f0)) := ⟨_, rfl⟩
       replace H : (impl_packetsOf.l0 k1 y358 l0_17 (l0_17.length : Int) (wrap64 (x12_1 + 1))) = some r := by first | (rw [hy358]; with_reducible exact H) | (have H2_ := (Option.bind_some _ _).symm.trans H; rw [hy358]; with_reducible exact H2_) | (have H2_ := (Option.bind_some _ _).symm.trans H; with_reducible exact H2_) | with_reducible exact H | (rw [hy358]; exact H) | exact H
       have Ny358 := aM_ hy358; clear hy358
       have H' := aM_ H
       clear H
       have p356 : 0 ≤ (x12_1 : Int) := dT_
       have q356 : x12_1 < (l0_17.length : Int) := dT_
       obtain ⟨ad356, A356_0, c356_0, e356, hx356_0, hl356_0, hi356_0⟩ := at_T130 HR0_17.out x12_1 p356 q356
       cases e356
       replace hx356_0 := (HB.out.cell (World.block_lt_of_cell? w _ hx356_0)).trans hx356_0
       have HR356_0 := aM_ hi356_0; have HC356_0 := aM_ hl356_0; clear hi356_0 hl356_0; replace p356 := eq_true p356; replace q356 := eq_true q356
       go_wp2_with (first | ((with_reducible refine gate_dst (N := 5) rfl ?_); refine box_event ?hg (N := 5) ?hd (cs := #[.slice none 0 0]) (t := 130) ?hr ?_; (case hd => rfl); (case hg => rfl); (case hr => first | (go_simp; done) | (go_simp; rfl)); intro gb357 hg w11 hbox hb; have n0_ := aM_ (rB_ (rb_ HO_3.out) hb); have n1_ := aM_ (bB_ (kb_ BK352.out) hb); have n2_ := aM_ (wS_ (bw_) hb); have n3_ := aM_ (hbox); have n4_ := aM_ ((by rw [hg]; exact (sZ_ (bw_)) : w.heap.size ≤ gb357)); have n5_ := aM_ ((by rw [hg]; exact (sZ_ (bw_)) : w.heap.size ≤ gb357)); have n6_ := aM_ ((by rw [hg]; exact Nat.ne_of_lt (blk_lt (kb_ BK352.out)) : gb352 ≠ gb357)); have n7_ := aM_ ((by rw [hg]; exact Nat.ne_of_gt (blk_lt (kb_ BK352.out)) : gb357 ≠ gb352)); clear HO_3 BK352 HB; have HO_3 := n0_; have BK352 := n1_; have HB := n2_; have BK357 := n3_; have GW357 := n4_; have GE357 := n5_; have NB352_357 := n6_; have NB357_352 := n7_; clear n0_ n1_ n2_ n3_ n4_ n5_ n6_ n7_ hb hbox hg; have hnb12 := NB357_352.out; have hnc12 := NB352_357.out; have hcz13_0 : w11.cell? ⟨gb357, 0, none⟩ = some (.slice none 0 0) := (blk_cell BK357.out 0).trans rfl; have hfz13_0 := blk_frozen BK357.out 0) | ((with_reducible refine gate_builtin (b := .append) (xs := #[.tmp 16, .tmp 18]) rfl ?_); at_builtin; refine Kd.R_append_rows k132 (w0 := w) w.heap.size rfl (.tmp 16) (.tmp 18) 69 132 (.agg #[(.int .i64 0), (.int .i64 0), (.int .i64 0), (.int .i64 0), (.int .i64 0), (.int .i64 0)]) 48 rfl Try.underlying69 info132 rfl (by decide) (by omega) u3 x3_1 ((rd_T130 l0_17 x12_1).f0) _ _ _ (fun _ => True) (fun _ => False) rfl rfl ?aO ?aR (fun _ _ h => h) (fun _ h => h.elim) ?aF ?aB ?aS ?aL ?_; (case aR => exact Kd.C_below HR356_0.out (bw_)); (case aB => exact (bw_)); (case aF => exact (fun _ _ => trivial)); (case aO => exact (by (with_reducible repeat (first | apply rA_ | apply rN_ | apply rD_)); exact Kd.R_mono (Kd.R_far (p := ⟨gb357, 0, none⟩) (Kd.R_types HO_3.out BK357.out (by decide)) (fun _ hk => hk.2) (.slice A356_0 ((rd_T130 l0_17 x12_1).f0).length c356_0)) (fun _ hk => trivial))); (case aS => exact (sZ_ (bw_))); (case aL => have := LMc10.out; omega); intro v359 w14 ho hb hg hat; rw [← Ny358.out] at ho; have n0_ := aM_ (blk_grown (g := gb352) (o := .cells #[.int .i64 a0_0, .slice A0_1 l0_1.length c0_1, .slice A0_2 l0_2.length c0_2, .int .i64 a0_3, .int .i64 a0_4, .int .i64 a0_5, .int .i64 a0_6, .int .i64 a0_7, .slice A0_8 l0_8.length c0_8, .int .i64 a0_9, .int .i64 a0_10, .int .i64 a0_11, .int .i64 a0_12, .slice A0_13 l0_13.length c0_13, .slice A0_14 l0_14.length c0_14, .slice A0_15 l0_15.length c0_15, .slice A0_16 l0_16.length c0_16, .slice (some ad356) l0_17.length c0_17, .slice A0_18 l0_18.length c0_18, .slice A0_19 l0_19.length c0_19, .slice A0_20 l0_20.length c0_20, .slice A0_21 l0_21.length c0_21, .int .i64 a0_22, .int .i64 a0_23, .slice A0_24 l0_24.length c0_24, .slice A0_25 l0_25.length c0_25] 72 (0, 0)) (by (with_reducible repeat (first | refine bN_ ?_ _ | refine bD_ ?_ | refine bA_ ?_ _)); refine blk_far ?_ NB352_357.out _; (with_reducible repeat (first | refine bN_ ?_ _ | refine bD_ ?_ | refine bA_ ?_ _)); exact BK352.out) hg (Kd.R_ne HO_3.out BK352.out (by decide))); have n1_ := aM_ (blk_grown (g := gb357) (o := .cells #[.slice A356_0 ((rd_T130 l0_17 x12_1).f0).length c356_0] 130 (0, 0)) (by (with_reducible repeat (first | refine bN_ ?_ _ | refine bD_ ?_ | refine bA_ ?_ _)); refine blk_put (cs := #[.slice none 0 0]) ?_ 0 _ rfl; (with_reducible repeat (first | refine bN_ ?_ _ | refine bD_ ?_ | refine bA_ ?_ _)); exact BK357.out) hg (Kd.R_ne HO_3.out BK357.out (by decide))); have n2_ := aM_ (hb); have n3_ := aM_ (ho); clear BK352 BK357 HB HO_3; have BK352 := n0_; have BK357 := n1_; have HB := n2_; have HO360 := n3_; clear n0_ n1_ n2_ n3_ ho hb hg hat))
       go_roundg k1
       case measure => have := HK1.out; omega
       case rel => exact ⟨(y358), (wrap64 (x12_1 + 1)), (by first | rfl | (simp; done) | (simp [*]; done)), H', ⟨by have := HK1.out; omega⟩, ⟨by (with_reducible repeat (first | apply rA_ | apply rN_ | apply rD_)); exact HO360.out⟩, ⟨by (with_reducible repeat (first | refine bN_ ?_ _ | refine bD_ ?_ | refine bA_ ?_ _)); exact BK352.out⟩, ⟨bw_⟩⟩
      ·rw [if_neg c10] at H
       exact absurd H (by simp)
     ·rw [if_neg c9] at H
      exact absurd H (by simp)
    ·rw [if_neg c8] at H
     exact absurd H (by simp)
   ·rw [if_neg c7] at H
    have c7b0 : decide (x12_1 < (l0_17.length : Int)) = false := decide_eq_false c7
    clear c7
    obtain rfl := Option.some.inj H
    go_wp2
    go_ret
    exact ⟨_, by first | rfl | (simp [errW_none, errW_some] <;> rfl) | (simp [*, errW_none, errW_some] <;> rfl), by (with_reducible repeat (first | apply rA_ | apply rN_ | apply rD_)); exact HO_3.out, bw_⟩

/-! ### impl_PacketPlaces: function 26 -/
def impl_PacketPlaces.l0 : Nat → Int → Int → List (S132) → Int → Int → Option (Int)
  | 0, _, _, _, _, _ => none
  | k + 1, x1, x5, x9, x10, x11 => if x11 < x10 then (if 0 ≤ x11 then (if x11 < (x9.length : Int) then (if ((rd_T132 x9 x11).f0) = x1 then (impl_PacketPlaces.l0 k x1 (wrap64 (x5 + 1)) x9 x10 (wrap64 (x11 + 1))) else (impl_PacketPlaces.l0 k x1 x5 x9 x10 (wrap64 (x11 + 1)))) else (none)) else (none)) else (some x5)
def impl_PacketPlaces.f (k : Nat) (a0_0 : Int) (l0_1 : List (S249)) (l0_2 : List (S253)) (a0_3 : Int) (a0_4 : Int) (a0_5 : Int) (a0_6 : Int) (a0_7 : Int) (l0_8 : List (S259)) (a0_9 : Int) (a0_10 : Int) (a0_11 : Int) (a0_12 : Int) (l0_13 : List (S112)) (l0_14 : List Int) (l0_15 : List Int) (l0_16 : List (S195)) (l0_17 : List (S130)) (l0_18 : List (S200)) (l0_19 : List Int) (l0_20 : List (S203)) (l0_21 : List (S206)) (a0_22 : Int) (a0_23 : Int) (l0_24 : List (S132)) (l0_25 : List (S212)) (a1 : Int) : Option (Int) := (impl_packetsOf.f k a0_0 l0_1 l0_2 a0_3 a0_4 a0_5 a0_6 a0_7 l0_8 a0_9 a0_10 a0_11 a0_12 l0_13 l0_14 l0_15 l0_16 l0_17 l0_18 l0_19 l0_20 l0_21 a0_22 a0_23 l0_24 l0_25).bind fun t362 => (impl_PacketPlaces.l0 k a1 0 t362 (t362.length : Int) 0)
set_option maxHeartbeats 8000000 in
set_option maxRecDepth 100000 in
theorem impl_PacketPlaces.calls (k : Nat) (a0_0 : Int) (A0_1 : Option Addr) (c0_1 : Nat) (l0_1 : List (S249)) (A0_2 : Option Addr) (c0_2 : Nat) (l0_2 : List (S253)) (a0_3 : Int) (a0_4 : Int) (a0_5 : Int) (a0_6 : Int) (a0_7 : Int) (A0_8 : Option Addr) (c0_8 : Nat) (l0_8 : List (S259)) (a0_9 : Int) (a0_10 : Int) (a0_11 : Int) (a0_12 : Int) (A0_13 : Option Addr) (c0_13 : Nat) (l0_13 : List (S112)) (A0_14 : Option Addr) (c0_14 : Nat) (l0_14 : List Int) (A0_15 : Option Addr) (c0_15 : Nat) (l0_15 : List Int) (A0_16 : Option Addr) (c0_16 : Nat) (l0_16 : List (S195)) (A0_17 : Option Addr) (c0_17 : Nat) (l0_17 : List (S130)) (A0_18 : Option Addr) (c0_18 : Nat) (l0_18 : List (S200)) (A0_19 : Option Addr) (c0_19 : Nat) (l0_19 : List Int) (A0_20 : Option Addr) (c0_20 : Nat) (l0_20 : List (S203)) (A0_21 : Option Addr) (c0_21 : Nat) (l0_21 : List (S206)) (a0_22 : Int) (a0_23 : Int) (A0_24 : Option Addr) (c0_24 : Nat) (l0_24 : List (S132)) (A0_25 : Option Addr) (c0_25 : Nat) (l0_25 : List (S212)) (a1 : Int) (r : Int) (w : World) (hr0_1 : Kd.C k249 w A0_1 l0_1.length l0_1) (hc0_1 : l0_1.length ≤ c0_1) (hr0_2 : Kd.C k253 w A0_2 l0_2.length l0_2) (hc0_2 : l0_2.length ≤ c0_2) (hr0_8 : Kd.C k259 w A0_8 l0_8.length l0_8) (hc0_8 : l0_8.length ≤ c0_8) (hr0_13 : Kd.C k112 w A0_13 l0_13.length l0_13) (hc0_13 : l0_13.length ≤ c0_13) (hr0_14 : Kd.C (Kd.int .i64) w A0_14 l0_14.length l0_14) (hc0_14 : l0_14.length ≤ c0_14) (hr0_15 : Kd.C (Kd.int .i64) w A0_15 l0_15.length l0_15) (hc0_15 : l0_15.length ≤ c0_15) (hr0_16 : Kd.C k195 w A0_16 l0_16.length l0_16) (hc0_16 : l0_16.length ≤ c0_16) (hr0_17 : Kd.C k130 w A0_17 l0_17.length l0_17) (hc0_17 : l0_17.length ≤ c0_17) (hr0_18 : Kd.C k200 w A0_18 l0_18.length l0_18) (hc0_18 : l0_18.length ≤ c0_18) (hr0_19 : Kd.C (Kd.int .i64) w A0_19 l0_19.length l0_19) (hc0_19 : l0_19.length ≤ c0_19) (hr0_20 : Kd.C k203 w A0_20 l0_20.length l0_20) (hc0_20 : l0_20.length ≤ c0_20) (hr0_21 : Kd.C k206 w A0_21 l0_21.length l0_21) (hc0_21 : l0_21.length ≤ c0_21) (hr0_24 : Kd.C k132 w A0_24 l0_24.length l0_24) (hc0_24 : l0_24.length ≤ c0_24) (hr0_25 : Kd.C k212 w A0_25 l0_25.length l0_25) (hc0_25 : l0_25.length ≤ c0_25) (h : impl_PacketPlaces.f k a0_0 l0_1 l0_2 a0_3 a0_4 a0_5 a0_6 a0_7 l0_8 a0_9 a0_10 a0_11 a0_12 l0_13 l0_14 l0_15 l0_16 l0_17 l0_18 l0_19 l0_20 l0_21 a0_22 a0_23 l0_24 l0_25 a1 = some r) :
  Calls Try.prog 26 #[.agg #[.int .i64 a0_0, .slice A0_1 l0_1.length c0_1, .slice A0_2 l0_2.length c0_2, .int .i64 a0_3, .int .i64 a0_4, .int .i64 a0_5, .int .i64 a0_6, .int .i64 a0_7, .slice A0_8 l0_8.length c0_8, .int .i64 a0_9, .int .i64 a0_10, .int .i64 a0_11, .int .i64 a0_12, .slice A0_13 l0_13.length c0_13, .slice A0_14 l0_14.length c0_14, .slice A0_15 l0_15.length c0_15, .slice A0_16 l0_16.length c0_16, .slice A0_17 l0_17.length c0_17, .slice A0_18 l0_18.length c0_18, .slice A0_19 l0_19.length c0_19, .slice A0_20 l0_20.length c0_20, .slice A0_21 l0_21.length c0_21, .int .i64 a0_22, .int .i64 a0_23, .slice A0_24 l0_24.length c0_24, .slice A0_25 l0_25.length c0_25], .int .i64 a1] w fun e w' => e = .returned (.int .i64 r) ∧ Below w.heap.size w w' := by
 have hu72 := Try.underlying72; have hu132 := Try.underlying132; have HR0_1 := aM_ hr0_1; have HC0_1 := aM_ hc0_1; clear hr0_1 hc0_1; have HR0_2 := aM_ hr0_2; have HC0_2 := aM_ hc0_2; clear hr0_2 hc0_2; have HR0_8 := aM_ hr0_8; have HC0_8 := aM_ hc0_8; clear hr0_8 hc0_8; have HR0_13 := aM_ hr0_13; have HC0_13 := aM_ hc0_13; clear hr0_13 hc0_13; have HR0_14 := aM_ hr0_14; have HC0_14 := aM_ hc0_14; clear hr0_14 hc0_14; have HR0_15 := aM_ hr0_15; have HC0_15 := aM_ hc0_15; clear hr0_15 hc0_15; have HR0_16 := aM_ hr0_16; have HC0_16 := aM_ hc0_16; clear hr0_16 hc0_16; have HR0_17 := aM_ hr0_17; have HC0_17 := aM_ hc0_17; clear hr0_17 hc0_17; have HR0_18 := aM_ hr0_18; have HC0_18 := aM_ hc0_18; clear hr0_18 hc0_18; have HR0_19 := aM_ hr0_19; have HC0_19 := aM_ hc0_19; clear hr0_19 hc0_19; have HR0_20 := aM_ hr0_20; have HC0_20 := aM_ hc0_20; clear hr0_20 hc0_20; have HR0_21 := aM_ hr0_21; have HC0_21 := aM_ hc0_21; clear hr0_21 hc0_21; have HR0_24 := aM_ hr0_24; have HC0_24 := aM_ hc0_24; clear hr0_24 hc0_24; have HR0_25 := aM_ hr0_25; have HC0_25 := aM_ hc0_25; clear hr0_25 hc0_25; have HB := aM_ (Below.refl w.heap.size w)
 have H : ((impl_packetsOf.f k a0_0 l0_1 l0_2 a0_3 a0_4 a0_5 a0_6 a0_7 l0_8 a0_9 a0_10 a0_11 a0_12 l0_13 l0_14 l0_15 l0_16 l0_17 l0_18 l0_19 l0_20 l0_21 a0_22 a0_23 l0_24 l0_25).bind fun t362 => (impl_PacketPlaces.l0 k a1 0 t362 (t362.length : Int) 0)) = some r := h
 clear h
 replace H := Option.bind_eq_some_iff.mp H
 obtain ⟨t362, A30, H⟩ := H
 (try dsimp only at H)
 have A3 := aM_ A30; clear A30
 have H' := aM_ H
 clear H
 go_enter Try.func26, Try.ntmps26
 go_wp2_with (first | ((with_reducible refine gate_dst (N := 2) rfl ?_); refine box_event ?hg (N := 2) ?hd (cs := #[.int .i64 a0_0, .slice A0_1 l0_1.length c0_1, .slice A0_2 l0_2.length c0_2, .int .i64 a0_3, .int .i64 a0_4, .int .i64 a0_5, .int .i64 a0_6, .int .i64 a0_7, .slice A0_8 l0_8.length c0_8, .int .i64 a0_9, .int .i64 a0_10, .int .i64 a0_11, .int .i64 a0_12, .slice A0_13 l0_13.length c0_13, .slice A0_14 l0_14.length c0_14, .slice A0_15 l0_15.length c0_15, .slice A0_16 l0_16.length c0_16, .slice A0_17 l0_17.length c0_17, .slice A0_18 l0_18.length c0_18, .slice A0_19 l0_19.length c0_19, .slice A0_20 l0_20.length c0_20, .slice A0_21 l0_21.length c0_21, .int .i64 a0_22, .int .i64 a0_23, .slice A0_24 l0_24.length c0_24, .slice A0_25 l0_25.length c0_25]) (t := 72) ?hr ?_; (case hd => rfl); (case hg => rfl); (case hr => first | (go_simp; done) | (go_simp; rfl)); intro gb361 hg w4 hbox hb; have n0_ := aM_ (wS_ (bw_) hb); have n1_ := aM_ (hbox); have n2_ := aM_ ((by rw [hg]; exact (sZ_ (bw_)) : w.heap.size ≤ gb361)); have n3_ := aM_ ((by rw [hg]; exact (sZ_ (bw_)) : w.heap.size ≤ gb361)); clear HB; have HB := n0_; have BK361 := n1_; have GW361 := n2_; have GE361 := n3_; clear n0_ n1_ n2_ n3_ hb hbox hg) | ((with_reducible refine gate_dst (N := 8) rfl ?_); refine wpList_load_row rfl 72 (.tmp 2) rfl gb361 rfl 72 _ (0, 0) _ BK361.out Try.underlying72 rfl (by kernel_rfl) ?_) | ((with_reducible refine gate_callee (f := 91) rfl ?_); refine goesL_ (some 9) rfl rfl Try.func91 (by kernel_rfl) rfl #[.agg #[.int .i64 a0_0, .slice A0_1 l0_1.length c0_1, .slice A0_2 l0_2.length c0_2, .int .i64 a0_3, .int .i64 a0_4, .int .i64 a0_5, .int .i64 a0_6, .int .i64 a0_7, .slice A0_8 l0_8.length c0_8, .int .i64 a0_9, .int .i64 a0_10, .int .i64 a0_11, .int .i64 a0_12, .slice A0_13 l0_13.length c0_13, .slice A0_14 l0_14.length c0_14, .slice A0_15 l0_15.length c0_15, .slice A0_16 l0_16.length c0_16, .slice A0_17 l0_17.length c0_17, .slice A0_18 l0_18.length c0_18, .slice A0_19 l0_19.length c0_19, .slice A0_20 l0_20.length c0_20, .slice A0_21 l0_21.length c0_21, .int .i64 a0_22, .int .i64 a0_23, .slice A0_24 l0_24.length c0_24, .slice A0_25 l0_25.length c0_25]] rfl (by (try simp only [List.map_toArray, List.map_cons, List.map_nil]); first | done | rfl | (simp only [List.length_drop, List.length_take]; rfl)) ?_; (with_reducible refine (impl_packetsOf.calls k a0_0 _ _ l0_1 _ _ l0_2 a0_3 a0_4 a0_5 a0_6 a0_7 _ _ l0_8 a0_9 a0_10 a0_11 a0_12 _ _ l0_13 _ _ l0_14 _ _ l0_15 _ _ l0_16 _ _ l0_17 _ _ l0_18 _ _ l0_19 _ _ l0_20 _ _ l0_21 a0_22 a0_23 _ _ l0_24 _ _ l0_25 t362 _ ?side1 ?side2 ?side3 ?side4 ?side5 ?side6 ?side7 ?side8 ?side9 ?side10 ?side11 ?side12 ?side13 ?side14 ?side15 ?side16 ?side17 ?side18 ?side19 ?side20 ?side21 ?side22 ?side23 ?side24 ?side25 ?side26 ?side27 ?side28 A3.out).mono ?_); (case side1 => repeat (first | exact (Kd.C_below HR0_1.out HB.out) | (with_reducible refine cA_ ?_ _) | (with_reducible refine cN_ ?_ _) | (with_reducible refine cD_ ?_))); (case side2 => exact HC0_1.out); (case side3 => repeat (first | exact (Kd.C_below HR0_2.out HB.out) | (with_reducible refine cA_ ?_ _) | (with_reducible refine cN_ ?_ _) | (with_reducible refine cD_ ?_))); (case side4 => exact HC0_2.out); (case side5 => repeat (first | exact (Kd.C_below HR0_8.out HB.out) | (with_reducible refine cA_ ?_ _) | (with_reducible refine cN_ ?_ _) | (with_reducible refine cD_ ?_))); (case side6 => exact HC0_8.out); (case side7 => repeat (first | exact (Kd.C_below HR0_13.out HB.out) | (with_reducible refine cA_ ?_ _) | (with_reducible refine cN_ ?_ _) | (with_reducible refine cD_ ?_))); (case side8 => exact HC0_13.out); (case side9 => repeat (first | exact (Kd.C_below HR0_14.out HB.out) | (with_reducible refine cA_ ?_ _) | (with_reducible refine cN_ ?_ _) | (with_reducible refine cD_ ?_))); (case side10 => exact HC0_14.out); (case side11 => repeat (first | exact (Kd.C_below HR0_15.out HB.out) | (with_reducible refine cA_ ?_ _) | (with_reducible refine cN_ ?_ _) | (with_reducible refine cD_ ?_))); (case side12 => exact HC0_15.out); (case side13 => repeat (first | exact (Kd.C_below HR0_16.out HB.out) | (with_reducible refine cA_ ?_ _) | (with_reducible refine cN_ ?_ _) | (with_reducible refine cD_ ?_))); (case side14 => exact HC0_16.out); (case side15 => repeat (first | exact (Kd.C_below HR0_17.out HB.out) | (with_reducible refine cA_ ?_ _) | (with_reducible refine cN_ ?_ _) | (with_reducible refine cD_ ?_))); (case side16 => exact HC0_17.out); (case side17 => repeat (first | exact (Kd.C_below HR0_18.out HB.out) | (with_reducible refine cA_ ?_ _) | (with_reducible refine cN_ ?_ _) | (with_reducible refine cD_ ?_))); (case side18 => exact HC0_18.out); (case side19 => repeat (first | exact (Kd.C_below HR0_19.out HB.out) | (with_reducible refine cA_ ?_ _) | (with_reducible refine cN_ ?_ _) | (with_reducible refine cD_ ?_))); (case side20 => exact HC0_19.out); (case side21 => repeat (first | exact (Kd.C_below HR0_20.out HB.out) | (with_reducible refine cA_ ?_ _) | (with_reducible refine cN_ ?_ _) | (with_reducible refine cD_ ?_))); (case side22 => exact HC0_20.out); (case side23 => repeat (first | exact (Kd.C_below HR0_21.out HB.out) | (with_reducible refine cA_ ?_ _) | (with_reducible refine cN_ ?_ _) | (with_reducible refine cD_ ?_))); (case side24 => exact HC0_21.out); (case side25 => repeat (first | exact (Kd.C_below HR0_24.out HB.out) | (with_reducible refine cA_ ?_ _) | (with_reducible refine cN_ ?_ _) | (with_reducible refine cD_ ?_))); (case side26 => exact HC0_24.out); (case side27 => repeat (first | exact (Kd.C_below HR0_25.out HB.out) | (with_reducible refine cA_ ?_ _) | (with_reducible refine cN_ ?_ _) | (with_reducible refine cD_ ?_))); (case side28 => exact HC0_25.out); rintro e w6 ⟨v363, rfl, ho0, hb⟩; refine ⟨_, rfl, ?_⟩; have n0_ := aM_ (Kd.R_lower ho0 (sZ_ (bw_))); have n1_ := aM_ (bB_ (kb_ BK361.out) hb); have n2_ := aM_ (wS_ (bw_) hb); clear BK361 HB; have HO364 := n0_; have BK361 := n1_; have HB := n2_; clear n0_ n1_ n2_; (try clear hb); (try clear hb2); (try clear hk); (try clear hi); (try clear ho0); obtain ⟨Ao7, co7, eo7⟩ := Kd.R_slice HO364.out; subst eo7))
 go_loopg [5, 11] k (fun kq v5 v11 w' => ∃ (x5_1 : Int) (x11_1 : Int), v5 = .int .i64 x5_1 ∧ v11 = .int .i64 x11_1 ∧ Aside0 (impl_PacketPlaces.l0 kq a1 x5_1 t362 (t362.length : Int) x11_1 = some r) ∧ Aside0 (kq ≤ k) ∧ Aside0 (Kd.R k132 132 w' w.heap.size (fun _ => True) (.slice Ao7 t362.length co7) t362) ∧ Aside0 (w'.heap[gb361]? = some (.cells #[.int .i64 a0_0, (.slice A0_1 l0_1.length c0_1), (.slice A0_2 l0_2.length c0_2), .int .i64 a0_3, .int .i64 a0_4, .int .i64 a0_5, .int .i64 a0_6, .int .i64 a0_7, (.slice A0_8 l0_8.length c0_8), .int .i64 a0_9, .int .i64 a0_10, .int .i64 a0_11, .int .i64 a0_12, (.slice A0_13 l0_13.length c0_13), (.slice A0_14 l0_14.length c0_14), (.slice A0_15 l0_15.length c0_15), (.slice A0_16 l0_16.length c0_16), (.slice A0_17 l0_17.length c0_17), (.slice A0_18 l0_18.length c0_18), (.slice A0_19 l0_19.length c0_19), (.slice A0_20 l0_20.length c0_20), (.slice A0_21 l0_21.length c0_21), .int .i64 a0_22, .int .i64 a0_23, (.slice A0_24 l0_24.length c0_24), (.slice A0_25 l0_25.length c0_25)] 72 (0, 0))) ∧ Aside0 (Below w.heap.size w w'))
 case atStart => exact ⟨(0), (0), (by first | rfl | (simp; done) | (simp [*]; done)), (by first | rfl | (simp; done) | (simp [*]; done)), H', ⟨Nat.le_refl _⟩, ⟨by (with_reducible repeat (first | apply rA_ | apply rN_ | apply rD_)); exact HO364.out⟩, ⟨by (with_reducible repeat (first | refine bN_ ?_ _ | refine bD_ ?_ | refine bA_ ?_ _)); exact BK361.out⟩, ⟨bw_⟩⟩
 case round =>
  clear H'
  try clear hcz5_0
  try clear hcz5_1
  try clear hcz5_10
  try clear hcz5_11
  try clear hcz5_12
  try clear hcz5_13
  try clear hcz5_14
  try clear hcz5_15
  try clear hcz5_16
  try clear hcz5_17
  try clear hcz5_18
  try clear hcz5_19
  try clear hcz5_2
  try clear hcz5_20
  try clear hcz5_21
  try clear hcz5_22
  try clear hcz5_23
  try clear hcz5_24
  try clear hcz5_25
  try clear hcz5_3
  try clear hcz5_4
  try clear hcz5_5
  try clear hcz5_6
  try clear hcz5_7
  try clear hcz5_8
  try clear hcz5_9
  try clear hfz5_0
  try clear hfz5_1
  try clear hfz5_10
  try clear hfz5_11
  try clear hfz5_12
  try clear hfz5_13
  try clear hfz5_14
  try clear hfz5_15
  try clear hfz5_16
  try clear hfz5_17
  try clear hfz5_18
  try clear hfz5_19
  try clear hfz5_2
  try clear hfz5_20
  try clear hfz5_21
  try clear hfz5_22
  try clear hfz5_23
  try clear hfz5_24
  try clear hfz5_25
  try clear hfz5_3
  try clear hfz5_4
  try clear hfz5_5
  try clear hfz5_6
  try clear hfz5_7
  try clear hfz5_8
  try clear hfz5_9
  obtain ⟨x5_1, x11_1, rfl, rfl, HA, HK1, HO_9, BK361, HB⟩ := hrel
  cases gk with
  | zero => exact absurd HA.out (by simp [impl_PacketPlaces.l0])
  | succ k1 =>
   have H := HA.out; clear HA
   simp only [impl_PacketPlaces.l0] at H
   by_cases c8 : x11_1 < (t362.length : Int)
   ·rw [if_pos c8] at H
    have c8b0 : decide (x11_1 < (t362.length : Int)) = true := decide_eq_true c8
    clear c8
    by_cases c9 : 0 ≤ x11_1
    ·rw [if_pos c9] at H
     have c9b0 : decide (0 ≤ x11_1) = true := decide_eq_true c9
     clear c9
     by_cases c10 : x11_1 < (t362.length : Int)
     ·rw [if_pos c10] at H
      have c10b0 : decide (x11_1 < (t362.length : Int)) = true := decide_eq_true c10
      clear c10
      by_cases c11 : ((rd_T132 t362 x11_1).f0) = a1
      ·rw [if_pos c11] at H
       have c11b0 : (((rd_T132 t362 x11_1).f0) == a1) = true := beq_iff_eq.mpr c11
       have c11b1 : (((rd_T132 t362 x11_1).f0) != a1) = false := bne_eq_false_iff_eq.mpr c11
       clear c11
       have H' := aM_ H
       clear H
       have p365 : 0 ≤ (x11_1 : Int) := dT_
       have q365 : x11_1 < (t362.length : Int) := dT_
       obtain ⟨ad365, e365, hx365_0, hx365_1, hx365_2, hx365_3, hx365_4, hx365_5⟩ := at_T132 (Kd.R_reads' HO_9.out).2.2 x11_1 p365 q365
       cases e365
       replace p365 := eq_true p365; replace q365 := eq_true q365
       go_wp2_with (first | ((with_reducible refine gate_dst (N := 7) rfl ?_); refine box_event ?hg (N := 7) ?hd (cs := #[.int .i64 0, .int .i64 0, .int .i64 0, .int .i64 0, .int .i64 0, .int .i64 0]) (t := 132) ?hr ?_; (case hd => rfl); (case hg => rfl); (case hr => first | (go_simp; done) | (go_simp; rfl)); intro gb366 hg w12 hbox hb; have n0_ := aM_ (rB_ (Kd.R_elderB (rb_ HO_9.out) gb366 (Nat.le_of_eq hg.symm)) hb); have n1_ := aM_ (bB_ (kb_ BK361.out) hb); have n2_ := aM_ (wS_ (bw_) hb); have n3_ := aM_ (hbox); have n4_ := aM_ ((by rw [hg]; exact (sZ_ (bw_)) : w.heap.size ≤ gb366)); have n5_ := aM_ ((by rw [hg]; exact (sZ_ (bw_)) : w.heap.size ≤ gb366)); have n6_ := aM_ ((by rw [hg]; exact Nat.ne_of_lt (blk_lt (kb_ BK361.out)) : gb361 ≠ gb366)); have n7_ := aM_ ((by rw [hg]; exact Nat.ne_of_gt (blk_lt (kb_ BK361.out)) : gb366 ≠ gb361)); clear HO_9 BK361 HB; have HO_9 := n0_; have BK361 := n1_; have HB := n2_; have BK366 := n3_; have GW366 := n4_; have GE366 := n5_; have NB361_366 := n6_; have NB366_361 := n7_; clear n0_ n1_ n2_ n3_ n4_ n5_ n6_ n7_ hb hbox hg; have hnb13 := NB366_361.out; have hnc13 := NB361_366.out; obtain ⟨hcz14_0, hcz14_1, hcz14_2, hcz14_3, hcz14_4, hcz14_5, hfz14_0, hfz14_1, hfz14_2, hfz14_3, hfz14_4, hfz14_5⟩ := bk6_ BK366.out))
       go_roundg k1
       case measure => have := HK1.out; omega
       case rel => exact ⟨(wrap64 (x5_1 + 1)), (wrap64 (x11_1 + 1)), (by first | rfl | (simp; done) | (simp [*]; done)), (by first | rfl | (simp; done) | (simp [*]; done)), H', ⟨by have := HK1.out; omega⟩, ⟨by (with_reducible repeat (first | apply rA_ | apply rN_ | apply rD_)); exact Kd.R_mono (Kd.R_far (p := ⟨gb366, 5, none⟩) (Kd.R_far (p := ⟨gb366, 4, none⟩) (Kd.R_far (p := ⟨gb366, 3, none⟩) (Kd.R_far (p := ⟨gb366, 2, none⟩) (Kd.R_far (p := ⟨gb366, 1, none⟩) (Kd.R_far (p := ⟨gb366, 0, none⟩) (Kd.R_mono HO_9.out (fun k_ hk => (⟨hk, hk.2⟩ : _ ∧ k_ ≠ gb366))) (fun _ hk => hk.2) (.int .i64 ((rd_T132 t362 x11_1).f0))) (fun _ hk => hk.2) (.int .i64 ((rd_T132 t362 x11_1).f1))) (fun _ hk => hk.2) (.int .i64 ((rd_T132 t362 x11_1).f2))) (fun _ hk => hk.2) (.int .i64 ((rd_T132 t362 x11_1).f3))) (fun _ hk => hk.2) (.int .i64 ((rd_T132 t362 x11_1).f4))) (fun _ hk => hk.2) (.int .i64 ((rd_T132 t362 x11_1).f5))) (fun _ hk => trivial)⟩, ⟨by (with_reducible repeat (first | refine bN_ ?_ _ | refine bD_ ?_ | refine bA_ ?_ _)); refine blk_far ?_ NB361_366.out _; (with_reducible repeat (first | refine bN_ ?_ _ | refine bD_ ?_ | refine bA_ ?_ _)); refine blk_far ?_ NB361_366.out _; (with_reducible repeat (first | refine bN_ ?_ _ | refine bD_ ?_ | refine bA_ ?_ _)); refine blk_far ?_ NB361_366.out _; (with_reducible repeat (first | refine bN_ ?_ _ | refine bD_ ?_ | refine bA_ ?_ _)); refine blk_far ?_ NB361_366.out _; (with_reducible repeat (first | refine bN_ ?_ _ | refine bD_ ?_ | refine bA_ ?_ _)); refine blk_far ?_ NB361_366.out _; (with_reducible repeat (first | refine bN_ ?_ _ | refine bD_ ?_ | refine bA_ ?_ _)); refine blk_far ?_ NB361_366.out _; (with_reducible repeat (first | refine bN_ ?_ _ | refine bD_ ?_ | refine bA_ ?_ _)); exact BK361.out⟩, ⟨bw_⟩⟩
      ·rw [if_neg c11] at H
       have c11b0 : (((rd_T132 t362 x11_1).f0) == a1) = false := beq_eq_false_iff_ne.mpr c11
       have c11b1 : (((rd_T132 t362 x11_1).f0) != a1) = true := bne_iff_ne.mpr c11
       have H' := aM_ H
       clear H
       have p365 : 0 ≤ (x11_1 : Int) := dT_
       have q365 : x11_1 < (t362.length : Int) := dT_
       obtain ⟨ad365, e365, hx365_0, hx365_1, hx365_2, hx365_3, hx365_4, hx365_5⟩ := at_T132 (Kd.R_reads' HO_9.out).2.2 x11_1 p365 q365
       cases e365
       replace p365 := eq_true p365; replace q365 := eq_true q365
       go_wp2_with (first | ((with_reducible refine gate_dst (N := 7) rfl ?_); refine box_event ?hg (N := 7) ?hd (cs := #[.int .i64 0, .int .i64 0, .int .i64 0, .int .i64 0, .int .i64 0, .int .i64 0]) (t := 132) ?hr ?_; (case hd => rfl); (case hg => rfl); (case hr => first | (go_simp; done) | (go_simp; rfl)); intro gb366 hg w15 hbox hb; have n0_ := aM_ (rB_ (Kd.R_elderB (rb_ HO_9.out) gb366 (Nat.le_of_eq hg.symm)) hb); have n1_ := aM_ (bB_ (kb_ BK361.out) hb); have n2_ := aM_ (wS_ (bw_) hb); have n3_ := aM_ (hbox); have n4_ := aM_ ((by rw [hg]; exact (sZ_ (bw_)) : w.heap.size ≤ gb366)); have n5_ := aM_ ((by rw [hg]; exact (sZ_ (bw_)) : w.heap.size ≤ gb366)); have n6_ := aM_ ((by rw [hg]; exact Nat.ne_of_lt (blk_lt (kb_ BK361.out)) : gb361 ≠ gb366)); have n7_ := aM_ ((by rw [hg]; exact Nat.ne_of_gt (blk_lt (kb_ BK361.out)) : gb366 ≠ gb361)); clear HO_9 BK361 HB; have HO_9 := n0_; have BK361 := n1_; have HB := n2_; have BK366 := n3_; have GW366 := n4_; have GE366 := n5_; have NB361_366 := n6_; have NB366_361 := n7_; clear n0_ n1_ n2_ n3_ n4_ n5_ n6_ n7_ hb hbox hg; have hnb16 := NB366_361.out; have hnc16 := NB361_366.out; obtain ⟨hcz17_0, hcz17_1, hcz17_2, hcz17_3, hcz17_4, hcz17_5, hfz17_0, hfz17_1, hfz17_2, hfz17_3, hfz17_4, hfz17_5⟩ := bk6_ BK366.out))
       go_roundg k1
       case measure => have := HK1.out; omega
       case rel => exact ⟨(x5_1), (wrap64 (x11_1 + 1)), (by first | rfl | (simp; done) | (simp [*]; done)), (by first | rfl | (simp; done) | (simp [*]; done)), H', ⟨by have := HK1.out; omega⟩, ⟨by (with_reducible repeat (first | apply rA_ | apply rN_ | apply rD_)); exact Kd.R_mono (Kd.R_far (p := ⟨gb366, 5, none⟩) (Kd.R_far (p := ⟨gb366, 4, none⟩) (Kd.R_far (p := ⟨gb366, 3, none⟩) (Kd.R_far (p := ⟨gb366, 2, none⟩) (Kd.R_far (p := ⟨gb366, 1, none⟩) (Kd.R_far (p := ⟨gb366, 0, none⟩) (Kd.R_mono HO_9.out (fun k_ hk => (⟨hk, hk.2⟩ : _ ∧ k_ ≠ gb366))) (fun _ hk => hk.2) (.int .i64 ((rd_T132 t362 x11_1).f0))) (fun _ hk => hk.2) (.int .i64 ((rd_T132 t362 x11_1).f1))) (fun _ hk => hk.2) (.int .i64 ((rd_T132 t362 x11_1).f2))) (fun _ hk => hk.2) (.int .i64 ((rd_T132 t362 x11_1).f3))) (fun _ hk => hk.2) (.int .i64 ((rd_T132 t362 x11_1).f4))) (fun _ hk => hk.2) (.int .i64 ((rd_T132 t362 x11_1).f5))) (fun _ hk => trivial)⟩, ⟨by (with_reducible repeat (first | refine bN_ ?_ _ | refine bD_ ?_ | refine bA_ ?_ _)); refine blk_far ?_ NB361_366.out _; (with_reducible repeat (first | refine bN_ ?_ _ | refine bD_ ?_ | refine bA_ ?_ _)); refine blk_far ?_ NB361_366.out _; (with_reducible repeat (first | refine bN_ ?_ _ | refine bD_ ?_ | refine bA_ ?_ _)); refine blk_far ?_ NB361_366.out _; (with_reducible repeat (first | refine bN_ ?_ _ | refine bD_ ?_ | refine bA_ ?_ _)); refine blk_far ?_ NB361_366.out _; (with_reducible repeat (first | refine bN_ ?_ _ | refine bD_ ?_ | refine bA_ ?_ _)); refine blk_far ?_ NB361_366.out _; (with_reducible repeat (first | refine bN_ ?_ _ | refine bD_ ?_ | refine bA_ ?_ _)); refine blk_far ?_ NB361_366.out _; (with_reducible repeat (first | refine bN_ ?_ _ | refine bD_ ?_ | refine bA_ ?_ _)); exact BK361.out⟩, ⟨bw_⟩⟩
     ·rw [if_neg c10] at H
      exact absurd H (by simp)
    ·rw [if_neg c9] at H
     exact absurd H (by simp)
   ·rw [if_neg c8] at H
    have c8b0 : decide (x11_1 < (t362.length : Int)) = false := decide_eq_false c8
    clear c8
    obtain rfl := Option.some.inj H
    go_wp2
    go_ret
    exact ⟨by first | rfl | (simp [errW_none, errW_some] <;> rfl) | (simp [*, errW_none, errW_some] <;> rfl), bw_⟩

/-! ### laws_eqLink: function 119 -/
def laws_eqLink.f (a0_0 : Int) (a0_1 : Int) (a1_0 : Int) (a1_1 : Int) : Option (Bool) := if a0_0 = a1_0 then (if a0_1 = a1_1 then (some true) else (some false)) else (some false)
set_option maxHeartbeats 8000000 in
set_option maxRecDepth 100000 in
theorem laws_eqLink.calls (a0_0 : Int) (a0_1 : Int) (a1_0 : Int) (a1_1 : Int) (r : Bool) (w : World) (hr_ : r = true) (h : laws_eqLink.f a0_0 a0_1 a1_0 a1_1 = some r) :
    Calls Try.prog 119 #[.agg #[.int .i64 a0_0, .int .i64 a0_1], .agg #[.int .i64 a1_0, .int .i64 a1_1]] w fun e w' => e = .returned (.bool r) ∧ Below w.heap.size w w' := by
  have hu166 := Try.underlying166
  have HB := aM_ (Below.refl w.heap.size w)
  have H : (if a0_0 = a1_0 then (if a0_1 = a1_1 then (some true) else (some false)) else (some false)) = some r := h
  clear h
  have HTRUE := aM_ hr_
  clear hr_
  by_cases c3 : a0_0 = a1_0
  · rw [if_pos c3] at H
    have c3b0 : (a0_0 == a1_0) = true := beq_iff_eq.mpr c3
    have c3b1 : (a0_0 != a1_0) = false := bne_eq_false_iff_eq.mpr c3
    clear c3
    by_cases c4 : a0_1 = a1_1
    · rw [if_pos c4] at H
      have c4b0 : (a0_1 == a1_1) = true := beq_iff_eq.mpr c4
      have c4b1 : (a0_1 != a1_1) = false := bne_eq_false_iff_eq.mpr c4
      clear c4
      obtain rfl := Option.some.inj H
      go_enter Try.func119, Try.ntmps119
      go_wp2_with (first | ((with_reducible refine gate_dst (N := 2) rfl ?_); refine box_event ?hg (N := 2) ?hd (cs := #[.int .i64 a0_0, .int .i64 a0_1]) (t := 166) ?hr ?_; (case hd => rfl); (case hg => rfl); (case hr => first | (go_simp; done) | (go_simp; rfl)); intro gb367 hg w5 hbox hb; have n0_ := aM_ (wS_ (bw_) hb); have n1_ := aM_ (hbox); have n2_ := aM_ ((by rw [hg]; exact (sZ_ (bw_)) : w.heap.size ≤ gb367)); have n3_ := aM_ ((by rw [hg]; exact (sZ_ (bw_)) : w.heap.size ≤ gb367)); clear HB; have HB := n0_; have BK367 := n1_; have GW367 := n2_; have GE367 := n3_; clear n0_ n1_ n2_ n3_ hb hbox hg) | ((with_reducible refine gate_dst (N := 3) rfl ?_); refine box_event ?hg (N := 3) ?hd (cs := #[.int .i64 a1_0, .int .i64 a1_1]) (t := 166) ?hr ?_; (case hd => rfl); (case hg => rfl); (case hr => first | (go_simp; done) | (go_simp; rfl)); intro gb368 hg w6 hbox hb; have n0_ := aM_ (bB_ (kb_ BK367.out) hb); have n1_ := aM_ (wS_ (bw_) hb); have n2_ := aM_ (hbox); have n3_ := aM_ ((by rw [hg]; exact (sZ_ (bw_)) : w.heap.size ≤ gb368)); have n4_ := aM_ ((by rw [hg]; exact (sZ_ (bw_)) : w.heap.size ≤ gb368)); have n5_ := aM_ ((by rw [hg]; exact Nat.ne_of_lt (blk_lt (kb_ BK367.out)) : gb367 ≠ gb368)); have n6_ := aM_ ((by rw [hg]; exact Nat.ne_of_gt (blk_lt (kb_ BK367.out)) : gb368 ≠ gb367)); clear BK367 HB; have BK367 := n0_; have HB := n1_; have BK368 := n2_; have GW368 := n3_; have GE368 := n4_; have NB367_368 := n5_; have NB368_367 := n6_; clear n0_ n1_ n2_ n3_ n4_ n5_ n6_ hb hbox hg; have hnb7 := NB367_368.out; have hnc7 := NB368_367.out; obtain ⟨hcz8_0, hcz8_1, hfz8_0, hfz8_1⟩ := bk2_ BK367.out; obtain ⟨hcz9_0, hcz9_1, hfz9_0, hfz9_1⟩ := bk2_ BK368.out))
      go_ret
      exact ⟨by first | rfl | (simp [errW_none, errW_some] <;> rfl) | (simp [*, errW_none, errW_some] <;> rfl), bw_⟩
    · rw [if_neg c4] at H
      have c4b0 : (a0_1 == a1_1) = false := beq_eq_false_iff_ne.mpr c4
      have c4b1 : (a0_1 != a1_1) = true := bne_iff_ne.mpr c4
      exact absurd ((Option.some.inj H).trans HTRUE.out) (by decide)
  · rw [if_neg c3] at H
    have c3b0 : (a0_0 == a1_0) = false := beq_eq_false_iff_ne.mpr c3
    have c3b1 : (a0_0 != a1_0) = true := bne_iff_ne.mpr c3
    exact absurd ((Option.some.inj H).trans HTRUE.out) (by decide)

end Go.Proofs.Ytlogjmgghnifoaa.PFnExactPacketPlaces
