/- The functions that the law reaches, as plain Lean functions, each with the proof that the Go code comes to its answers; conditions: those that each theorem names. (printed by a program of this session) -/
import Derived.Test.YtlogjmgghnifoaaPFnExactPacketPlacesx0
namespace Go.Proofs.Ytlogjmgghnifoaa.PFnExactPacketPlaces
open Go.RowKit Go.Proofs.YtlogjmgghnifoaaW.PrintWords Go.Proofs.YtlogjmgghnifoaaW.PrintLast Go.Proofs.YtlogjmgghnifoaaW.PrintMore
attribute [local go_sem] max2_int min2_int max_two min_two max_three min_three max_four min_four   -- for this text's walks alone
set_option linter.unusedVariables false
set_option linter.unusedSimpArgs false

/-! ### spec_PacketPlaces: function 24 -/
mutual
def spec_PacketPlaces.l0 : Nat → Int → Int → Int → Int → List (S249) → List (S253) → Int → Int → Int → Int → Int → List (S259) → Int → Int → Int → Int → List (S112) → List Int → List Int → List (S195) → List (S130) → List (S200) → List Int → List (S203) → List (S206) → Int → Int → List (S132) → List (S212) → Option (Int)
  | 0, _, _, _, _, _, _, _, _, _, _, _, _, _, _, _, _, _, _, _, _, _, _, _, _, _, _, _, _, _ => none
  | k + 1, x1, x5, x6, x128000, x128001, x128002, x128003, x128004, x128005, x128006, x128007, x128008, x128009, x128010, x128011, x128012, x128013, x128014, x128015, x128016, x128017, x128018, x128019, x128020, x128021, x128022, x128023, x128024, x128025 => if x6 < (x128017.length : Int) then (spec_PacketPlaces.l1 k x1 x5 x6 0 x128000 x128001 x128002 x128003 x128004 x128005 x128006 x128007 x128008 x128009 x128010 x128011 x128012 x128013 x128014 x128015 x128016 x128017 x128018 x128019 x128020 x128021 x128022 x128023 x128024 x128025) else (spec_PacketPlaces.l2 k x1 x5 0 x128000 x128001 x128002 x128003 x128004 x128005 x128006 x128007 x128008 x128009 x128010 x128011 x128012 x128013 x128014 x128015 x128016 x128017 x128018 x128019 x128020 x128021 x128022 x128023 x128024 x128025)
def spec_PacketPlaces.l1 : Nat → Int → Int → Int → Int → Int → List (S249) → List (S253) → Int → Int → Int → Int → Int → List (S259) → Int → Int → Int → Int → List (S112) → List Int → List Int → List (S195) → List (S130) → List (S200) → List Int → List (S203) → List (S206) → Int → Int → List (S132) → List (S212) → Option (Int)
  | 0, _, _, _, _, _, _, _, _, _, _, _, _, _, _, _, _, _, _, _, _, _, _, _, _, _, _, _, _, _, _ => none
  | k + 1, x1, x5, x6, x7, x128000, x128001, x128002, x128003, x128004, x128005, x128006, x128007, x128008, x128009, x128010, x128011, x128012, x128013, x128014, x128015, x128016, x128017, x128018, x128019, x128020, x128021, x128022, x128023, x128024, x128025 => if 0 ≤ x6 then (if x6 < (x128017.length : Int) then (if x7 < (((rd_T130 x128017 x6).f0).length : Int) then (if 0 ≤ x7 then (if ((rd_T132 ((rd_T130 x128017 x6).f0) x7).f0) = x1 then (spec_PacketPlaces.l1 k x1 (wrap64 (x5 + 1)) x6 (wrap64 (x7 + 1)) x128000 x128001 x128002 x128003 x128004 x128005 x128006 x128007 x128008 x128009 x128010 x128011 x128012 x128013 x128014 x128015 x128016 x128017 x128018 x128019 x128020 x128021 x128022 x128023 x128024 x128025) else (spec_PacketPlaces.l1 k x1 x5 x6 (wrap64 (x7 + 1)) x128000 x128001 x128002 x128003 x128004 x128005 x128006 x128007 x128008 x128009 x128010 x128011 x128012 x128013 x128014 x128015 x128016 x128017 x128018 x128019 x128020 x128021 x128022 x128023 x128024 x128025)) else (none)) else (spec_PacketPlaces.l0 k x1 x5 (wrap64 (x6 + 1)) x128000 x128001 x128002 x128003 x128004 x128005 x128006 x128007 x128008 x128009 x128010 x128011 x128012 x128013 x128014 x128015 x128016 x128017 x128018 x128019 x128020 x128021 x128022 x128023 x128024 x128025)) else (none)) else (none)
def spec_PacketPlaces.l2 : Nat → Int → Int → Int → Int → List (S249) → List (S253) → Int → Int → Int → Int → Int → List (S259) → Int → Int → Int → Int → List (S112) → List Int → List Int → List (S195) → List (S130) → List (S200) → List Int → List (S203) → List (S206) → Int → Int → List (S132) → List (S212) → Option (Int)
  | 0, _, _, _, _, _, _, _, _, _, _, _, _, _, _, _, _, _, _, _, _, _, _, _, _, _, _, _, _, _ => none
  | k + 1, x1, x5, x8, x128000, x128001, x128002, x128003, x128004, x128005, x128006, x128007, x128008, x128009, x128010, x128011, x128012, x128013, x128014, x128015, x128016, x128017, x128018, x128019, x128020, x128021, x128022, x128023, x128024, x128025 => if x8 < (x128024.length : Int) then (if 0 ≤ x8 then (if ((rd_T132 x128024 x8).f0) = x1 then (spec_PacketPlaces.l2 k x1 (wrap64 (x5 + 1)) (wrap64 (x8 + 1)) x128000 x128001 x128002 x128003 x128004 x128005 x128006 x128007 x128008 x128009 x128010 x128011 x128012 x128013 x128014 x128015 x128016 x128017 x128018 x128019 x128020 x128021 x128022 x128023 x128024 x128025) else (spec_PacketPlaces.l2 k x1 x5 (wrap64 (x8 + 1)) x128000 x128001 x128002 x128003 x128004 x128005 x128006 x128007 x128008 x128009 x128010 x128011 x128012 x128013 x128014 x128015 x128016 x128017 x128018 x128019 x128020 x128021 x128022 x128023 x128024 x128025)) else (none)) else (some x5)
end
def spec_PacketPlaces.f (k : Nat) (a0_0 : Int) (l0_1 : List (S249)) (l0_2 : List (S253)) (a0_3 : Int) (a0_4 : Int) (a0_5 : Int) (a0_6 : Int) (a0_7 : Int) (l0_8 : List (S259)) (a0_9 : Int) (a0_10 : Int) (a0_11 : Int) (a0_12 : Int) (l0_13 : List (S112)) (l0_14 : List Int) (l0_15 : List Int) (l0_16 : List (S195)) (l0_17 : List (S130)) (l0_18 : List (S200)) (l0_19 : List Int) (l0_20 : List (S203)) (l0_21 : List (S206)) (a0_22 : Int) (a0_23 : Int) (l0_24 : List (S132)) (l0_25 : List (S212)) (a1 : Int) : Option (Int) := spec_PacketPlaces.l0 k a1 0 0 a0_0 l0_1 l0_2 a0_3 a0_4 a0_5 a0_6 a0_7 l0_8 a0_9 a0_10 a0_11 a0_12 l0_13 l0_14 l0_15 l0_16 l0_17 l0_18 l0_19 l0_20 l0_21 a0_22 a0_23 l0_24 l0_25
set_option maxHeartbeats 8000000 in
set_option maxRecDepth 100000 in
theorem spec_PacketPlaces.calls (k : Nat) (a0_0 : Int) (A0_1 : Option Addr) (c0_1 : Nat) (l0_1 : List (S249)) (A0_2 : Option Addr) (c0_2 : Nat) (l0_2 : List (S253)) (a0_3 : Int) (a0_4 : Int) (a0_5 : Int) (a0_6 : Int) (a0_7 : Int) (A0_8 : Option Addr) (c0_8 : Nat) (l0_8 : List (S259)) (a0_9 : Int) (a0_10 : Int) (a0_11 : Int) (a0_12 : Int) (A0_13 : Option Addr) (c0_13 : Nat) (l0_13 : List (S112)) (A0_14 : Option Addr) (c0_14 : Nat) (l0_14 : List Int) (A0_15 : Option Addr) (c0_15 : Nat) (l0_15 : List Int) (A0_16 : Option Addr) (c0_16 : Nat) (l0_16 : List (S195)) (A0_17 : Option Addr) (c0_17 : Nat) (l0_17 : List (S130)) (A0_18 : Option Addr) (c0_18 : Nat) (l0_18 : List (S200)) (A0_19 : Option Addr) (c0_19 : Nat) (l0_19 : List Int) (A0_20 : Option Addr) (c0_20 : Nat) (l0_20 : List (S203)) (A0_21 : Option Addr) (c0_21 : Nat) (l0_21 : List (S206)) (a0_22 : Int) (a0_23 : Int) (A0_24 : Option Addr) (c0_24 : Nat) (l0_24 : List (S132)) (A0_25 : Option Addr) (c0_25 : Nat) (l0_25 : List (S212)) (a1 : Int) (r : Int) (w : World) (hr0_1 : Kd.C k249 w A0_1 l0_1.length l0_1) (hc0_1 : l0_1.length ≤ c0_1) (hr0_2 : Kd.C k253 w A0_2 l0_2.length l0_2) (hc0_2 : l0_2.length ≤ c0_2) (hr0_8 : Kd.C k259 w A0_8 l0_8.length l0_8) (hc0_8 : l0_8.length ≤ c0_8) (hr0_13 : Kd.C k112 w A0_13 l0_13.length l0_13) (hc0_13 : l0_13.length ≤ c0_13) (hr0_14 : Kd.C (Kd.int .i64) w A0_14 l0_14.length l0_14) (hc0_14 : l0_14.length ≤ c0_14) (hr0_15 : Kd.C (Kd.int .i64) w A0_15 l0_15.length l0_15) (hc0_15 : l0_15.length ≤ c0_15) (hr0_16 : Kd.C k195 w A0_16 l0_16.length l0_16) (hc0_16 : l0_16.length ≤ c0_16) (hr0_17 : Kd.C k130 w A0_17 l0_17.length l0_17) (hc0_17 : l0_17.length ≤ c0_17) (hr0_18 : Kd.C k200 w A0_18 l0_18.length l0_18) (hc0_18 : l0_18.length ≤ c0_18) (hr0_19 : Kd.C (Kd.int .i64) w A0_19 l0_19.length l0_19) (hc0_19 : l0_19.length ≤ c0_19) (hr0_20 : Kd.C k203 w A0_20 l0_20.length l0_20) (hc0_20 : l0_20.length ≤ c0_20) (hr0_21 : Kd.C k206 w A0_21 l0_21.length l0_21) (hc0_21 : l0_21.length ≤ c0_21) (hr0_24 : Kd.C k132 w A0_24 l0_24.length l0_24) (hc0_24 : l0_24.length ≤ c0_24) (hr0_25 : Kd.C k212 w A0_25 l0_25.length l0_25) (hc0_25 : l0_25.length ≤ c0_25) (h : spec_PacketPlaces.f k a0_0 l0_1 l0_2 a0_3 a0_4 a0_5 a0_6 a0_7 l0_8 a0_9 a0_10 a0_11 a0_12 l0_13 l0_14 l0_15 l0_16 l0_17 l0_18 l0_19 l0_20 l0_21 a0_22 a0_23 l0_24 l0_25 a1 = some r) :
  Calls Try.prog 24 #[.agg #[.int .i64 a0_0, .slice A0_1 l0_1.length c0_1, .slice A0_2 l0_2.length c0_2, .int .i64 a0_3, .int .i64 a0_4, .int .i64 a0_5, .int .i64 a0_6, .int .i64 a0_7, .slice A0_8 l0_8.length c0_8, .int .i64 a0_9, .int .i64 a0_10, .int .i64 a0_11, .int .i64 a0_12, .slice A0_13 l0_13.length c0_13, .slice A0_14 l0_14.length c0_14, .slice A0_15 l0_15.length c0_15, .slice A0_16 l0_16.length c0_16, .slice A0_17 l0_17.length c0_17, .slice A0_18 l0_18.length c0_18, .slice A0_19 l0_19.length c0_19, .slice A0_20 l0_20.length c0_20, .slice A0_21 l0_21.length c0_21, .int .i64 a0_22, .int .i64 a0_23, .slice A0_24 l0_24.length c0_24, .slice A0_25 l0_25.length c0_25], .int .i64 a1] w fun e w' => e = .returned (.int .i64 r) ∧ Below w.heap.size w w' := by
 have hu72 := Try.underlying72; have HR0_1 := aM_ hr0_1; have HC0_1 := aM_ hc0_1; clear hr0_1 hc0_1; have HR0_2 := aM_ hr0_2; have HC0_2 := aM_ hc0_2; clear hr0_2 hc0_2; have HR0_8 := aM_ hr0_8; have HC0_8 := aM_ hc0_8; clear hr0_8 hc0_8; have HR0_13 := aM_ hr0_13; have HC0_13 := aM_ hc0_13; clear hr0_13 hc0_13; have HR0_14 := aM_ hr0_14; have HC0_14 := aM_ hc0_14; clear hr0_14 hc0_14; have HR0_15 := aM_ hr0_15; have HC0_15 := aM_ hc0_15; clear hr0_15 hc0_15; have HR0_16 := aM_ hr0_16; have HC0_16 := aM_ hc0_16; clear hr0_16 hc0_16; have HR0_17 := aM_ hr0_17; have HC0_17 := aM_ hc0_17; clear hr0_17 hc0_17; have HR0_18 := aM_ hr0_18; have HC0_18 := aM_ hc0_18; clear hr0_18 hc0_18; have HR0_19 := aM_ hr0_19; have HC0_19 := aM_ hc0_19; clear hr0_19 hc0_19; have HR0_20 := aM_ hr0_20; have HC0_20 := aM_ hc0_20; clear hr0_20 hc0_20; have HR0_21 := aM_ hr0_21; have HC0_21 := aM_ hc0_21; clear hr0_21 hc0_21; have HR0_24 := aM_ hr0_24; have HC0_24 := aM_ hc0_24; clear hr0_24 hc0_24; have HR0_25 := aM_ hr0_25; have HC0_25 := aM_ hc0_25; clear hr0_25 hc0_25; have HB := aM_ (Below.refl w.heap.size w)
 have H : (spec_PacketPlaces.l0 k a1 0 0 a0_0 l0_1 l0_2 a0_3 a0_4 a0_5 a0_6 a0_7 l0_8 a0_9 a0_10 a0_11 a0_12 l0_13 l0_14 l0_15 l0_16 l0_17 l0_18 l0_19 l0_20 l0_21 a0_22 a0_23 l0_24 l0_25) = some r := h
 clear h
 have H' := aM_ H
 clear H
 go_enter Try.func24, Try.ntmps24
 go_wp2_with (first | ((with_reducible refine gate_dst (N := 2) rfl ?_); refine box_event ?hg (N := 2) ?hd (cs := #[.int .i64 a0_0, .slice A0_1 l0_1.length c0_1, .slice A0_2 l0_2.length c0_2, .int .i64 a0_3, .int .i64 a0_4, .int .i64 a0_5, .int .i64 a0_6, .int .i64 a0_7, .slice A0_8 l0_8.length c0_8, .int .i64 a0_9, .int .i64 a0_10, .int .i64 a0_11, .int .i64 a0_12, .slice A0_13 l0_13.length c0_13, .slice A0_14 l0_14.length c0_14, .slice A0_15 l0_15.length c0_15, .slice A0_16 l0_16.length c0_16, .slice A0_17 l0_17.length c0_17, .slice A0_18 l0_18.length c0_18, .slice A0_19 l0_19.length c0_19, .slice A0_20 l0_20.length c0_20, .slice A0_21 l0_21.length c0_21, .int .i64 a0_22, .int .i64 a0_23, .slice A0_24 l0_24.length c0_24, .slice A0_25 l0_25.length c0_25]) (t := 72) ?hr ?_; (case hd => rfl); (case hg => rfl); (case hr => first | (go_simp; done) | (go_simp; rfl)); intro gb127 hg w3 hbox hb; have n0_ := aM_ (wS_ (bw_) hb); have n1_ := aM_ (hbox); have n2_ := aM_ ((by rw [hg]; exact (sZ_ (bw_)) : w.heap.size ≤ gb127)); have n3_ := aM_ ((by rw [hg]; exact (sZ_ (bw_)) : w.heap.size ≤ gb127)); clear HB; have HB := n0_; have BK127 := n1_; have GW127 := n2_; have GE127 := n3_; clear n0_ n1_ n2_ n3_ hb hbox hg))
 go_loopg [5, 6] k (fun kq v5 v6 w' => ∃ (x5_1 : Int) (x6_1 : Int), v5 = .int .i64 x5_1 ∧ v6 = .int .i64 x6_1 ∧ Aside0 (spec_PacketPlaces.l0 kq a1 x5_1 x6_1 a0_0 l0_1 l0_2 a0_3 a0_4 a0_5 a0_6 a0_7 l0_8 a0_9 a0_10 a0_11 a0_12 l0_13 l0_14 l0_15 l0_16 l0_17 l0_18 l0_19 l0_20 l0_21 a0_22 a0_23 l0_24 l0_25 = some r) ∧ Aside0 (kq ≤ k) ∧ Aside0 (w'.heap[gb127]? = some (.cells #[.int .i64 a0_0, (.slice A0_1 l0_1.length c0_1), (.slice A0_2 l0_2.length c0_2), .int .i64 a0_3, .int .i64 a0_4, .int .i64 a0_5, .int .i64 a0_6, .int .i64 a0_7, (.slice A0_8 l0_8.length c0_8), .int .i64 a0_9, .int .i64 a0_10, .int .i64 a0_11, .int .i64 a0_12, (.slice A0_13 l0_13.length c0_13), (.slice A0_14 l0_14.length c0_14), (.slice A0_15 l0_15.length c0_15), (.slice A0_16 l0_16.length c0_16), (.slice A0_17 l0_17.length c0_17), (.slice A0_18 l0_18.length c0_18), (.slice A0_19 l0_19.length c0_19), (.slice A0_20 l0_20.length c0_20), (.slice A0_21 l0_21.length c0_21), .int .i64 a0_22, .int .i64 a0_23, (.slice A0_24 l0_24.length c0_24), (.slice A0_25 l0_25.length c0_25)] 72 (0, 0))) ∧ Aside0 (Below w.heap.size w w'))
 case atStart => exact ⟨(0), (0), (by first | rfl | (simp; done) | (simp [*]; done)), (by first | rfl | (simp; done) | (simp [*]; done)), H', ⟨Nat.le_refl _⟩, ⟨by (with_reducible repeat (first | refine bN_ ?_ _ | refine bD_ ?_ | refine bA_ ?_ _)); exact BK127.out⟩, ⟨bw_⟩⟩
 case round =>
  clear H'
  obtain ⟨x5_1, x6_1, rfl, rfl, HA, HK1, BK127, HB⟩ := hrel
  cases gk with
  | zero => exact absurd HA.out (by simp [spec_PacketPlaces.l0])
  | succ k1 =>
   have H := HA.out; clear HA
   simp only [spec_PacketPlaces.l0] at H
   by_cases c4 : x6_1 < (l0_17.length : Int)
   ·rw [if_pos c4] at H
    have c4b0 : decide (x6_1 < (l0_17.length : Int)) = true := decide_eq_true c4
    clear c4
    have H' := aM_ H
    clear H
    have hcz5_0 : wr.cell? ⟨gb127, 0, none⟩ = some (.int .i64 a0_0) := (blk_cell BK127.out 0).trans rfl
    have hcz5_1 : wr.cell? ⟨gb127, 1, none⟩ = some (.slice A0_1 l0_1.length c0_1) := (blk_cell BK127.out 1).trans rfl
    have hcz5_2 : wr.cell? ⟨gb127, 2, none⟩ = some (.slice A0_2 l0_2.length c0_2) := (blk_cell BK127.out 2).trans rfl
    have hcz5_3 : wr.cell? ⟨gb127, 3, none⟩ = some (.int .i64 a0_3) := (blk_cell BK127.out 3).trans rfl
    have hcz5_4 : wr.cell? ⟨gb127, 4, none⟩ = some (.int .i64 a0_4) := (blk_cell BK127.out 4).trans rfl
    have hcz5_5 : wr.cell? ⟨gb127, 5, none⟩ = some (.int .i64 a0_5) := (blk_cell BK127.out 5).trans rfl
    have hcz5_6 : wr.cell? ⟨gb127, 6, none⟩ = some (.int .i64 a0_6) := (blk_cell BK127.out 6).trans rfl
    have hcz5_7 : wr.cell? ⟨gb127, 7, none⟩ = some (.int .i64 a0_7) := (blk_cell BK127.out 7).trans rfl
    have hcz5_8 : wr.cell? ⟨gb127, 8, none⟩ = some (.slice A0_8 l0_8.length c0_8) := (blk_cell BK127.out 8).trans rfl
    have hcz5_9 : wr.cell? ⟨gb127, 9, none⟩ = some (.int .i64 a0_9) := (blk_cell BK127.out 9).trans rfl
    have hcz5_10 : wr.cell? ⟨gb127, 10, none⟩ = some (.int .i64 a0_10) := (blk_cell BK127.out 10).trans rfl
    have hcz5_11 : wr.cell? ⟨gb127, 11, none⟩ = some (.int .i64 a0_11) := (blk_cell BK127.out 11).trans rfl
    have hcz5_12 : wr.cell? ⟨gb127, 12, none⟩ = some (.int .i64 a0_12) := (blk_cell BK127.out 12).trans rfl
    have hcz5_13 : wr.cell? ⟨gb127, 13, none⟩ = some (.slice A0_13 l0_13.length c0_13) := (blk_cell BK127.out 13).trans rfl
    have hcz5_14 : wr.cell? ⟨gb127, 14, none⟩ = some (.slice A0_14 l0_14.length c0_14) := (blk_cell BK127.out 14).trans rfl
    have hcz5_15 : wr.cell? ⟨gb127, 15, none⟩ = some (.slice A0_15 l0_15.length c0_15) := (blk_cell BK127.out 15).trans rfl
    have hcz5_16 : wr.cell? ⟨gb127, 16, none⟩ = some (.slice A0_16 l0_16.length c0_16) := (blk_cell BK127.out 16).trans rfl
    have hcz5_17 : wr.cell? ⟨gb127, 17, none⟩ = some (.slice A0_17 l0_17.length c0_17) := (blk_cell BK127.out 17).trans rfl
    have hcz5_18 : wr.cell? ⟨gb127, 18, none⟩ = some (.slice A0_18 l0_18.length c0_18) := (blk_cell BK127.out 18).trans rfl
    have hcz5_19 : wr.cell? ⟨gb127, 19, none⟩ = some (.slice A0_19 l0_19.length c0_19) := (blk_cell BK127.out 19).trans rfl
    have hcz5_20 : wr.cell? ⟨gb127, 20, none⟩ = some (.slice A0_20 l0_20.length c0_20) := (blk_cell BK127.out 20).trans rfl
    have hcz5_21 : wr.cell? ⟨gb127, 21, none⟩ = some (.slice A0_21 l0_21.length c0_21) := (blk_cell BK127.out 21).trans rfl
    have hcz5_22 : wr.cell? ⟨gb127, 22, none⟩ = some (.int .i64 a0_22) := (blk_cell BK127.out 22).trans rfl
    have hcz5_23 : wr.cell? ⟨gb127, 23, none⟩ = some (.int .i64 a0_23) := (blk_cell BK127.out 23).trans rfl
    have hcz5_24 : wr.cell? ⟨gb127, 24, none⟩ = some (.slice A0_24 l0_24.length c0_24) := (blk_cell BK127.out 24).trans rfl
    have hcz5_25 : wr.cell? ⟨gb127, 25, none⟩ = some (.slice A0_25 l0_25.length c0_25) := (blk_cell BK127.out 25).trans rfl
    have hfz5_0 := blk_frozen BK127.out 0; have hfz5_1 := blk_frozen BK127.out 1; have hfz5_2 := blk_frozen BK127.out 2; have hfz5_3 := blk_frozen BK127.out 3; have hfz5_4 := blk_frozen BK127.out 4; have hfz5_5 := blk_frozen BK127.out 5; have hfz5_6 := blk_frozen BK127.out 6; have hfz5_7 := blk_frozen BK127.out 7; have hfz5_8 := blk_frozen BK127.out 8; have hfz5_9 := blk_frozen BK127.out 9; have hfz5_10 := blk_frozen BK127.out 10; have hfz5_11 := blk_frozen BK127.out 11; have hfz5_12 := blk_frozen BK127.out 12; have hfz5_13 := blk_frozen BK127.out 13; have hfz5_14 := blk_frozen BK127.out 14; have hfz5_15 := blk_frozen BK127.out 15; have hfz5_16 := blk_frozen BK127.out 16; have hfz5_17 := blk_frozen BK127.out 17; have hfz5_18 := blk_frozen BK127.out 18; have hfz5_19 := blk_frozen BK127.out 19; have hfz5_20 := blk_frozen BK127.out 20; have hfz5_21 := blk_frozen BK127.out 21; have hfz5_22 := blk_frozen BK127.out 22; have hfz5_23 := blk_frozen BK127.out 23; have hfz5_24 := blk_frozen BK127.out 24; have hfz5_25 := blk_frozen BK127.out 25
    go_wp2
    go_loopg [5, 7] k1 (fun kq v5 v7 w' => ∃ (x5_2 : Int) (x7_2 : Int), v5 = .int .i64 x5_2 ∧ v7 = .int .i64 x7_2 ∧ Aside0 (spec_PacketPlaces.l1 kq a1 x5_2 x6_1 x7_2 a0_0 l0_1 l0_2 a0_3 a0_4 a0_5 a0_6 a0_7 l0_8 a0_9 a0_10 a0_11 a0_12 l0_13 l0_14 l0_15 l0_16 l0_17 l0_18 l0_19 l0_20 l0_21 a0_22 a0_23 l0_24 l0_25 = some r) ∧ Aside0 (kq ≤ k1) ∧ Aside0 (w'.heap[gb127]? = some (.cells #[.int .i64 a0_0, (.slice A0_1 l0_1.length c0_1), (.slice A0_2 l0_2.length c0_2), .int .i64 a0_3, .int .i64 a0_4, .int .i64 a0_5, .int .i64 a0_6, .int .i64 a0_7, (.slice A0_8 l0_8.length c0_8), .int .i64 a0_9, .int .i64 a0_10, .int .i64 a0_11, .int .i64 a0_12, (.slice A0_13 l0_13.length c0_13), (.slice A0_14 l0_14.length c0_14), (.slice A0_15 l0_15.length c0_15), (.slice A0_16 l0_16.length c0_16), (.slice A0_17 l0_17.length c0_17), (.slice A0_18 l0_18.length c0_18), (.slice A0_19 l0_19.length c0_19), (.slice A0_20 l0_20.length c0_20), (.slice A0_21 l0_21.length c0_21), .int .i64 a0_22, .int .i64 a0_23, (.slice A0_24 l0_24.length c0_24), (.slice A0_25 l0_25.length c0_25)] 72 (0, 0))) ∧ Aside0 (Below w.heap.size w w'))
    case atStart => exact ⟨(x5_1), (0), (by first | rfl | (simp; done) | (simp [*]; done)), (by first | rfl | (simp; done) | (simp [*]; done)), H', ⟨Nat.le_refl _⟩, ⟨by (with_reducible repeat (first | refine bN_ ?_ _ | refine bD_ ?_ | refine bA_ ?_ _)); exact BK127.out⟩, ⟨bw_⟩⟩
    case round =>
     clear H'
     try clear c4b0
     try clear hcz5_0
     try clear hcz5_1
     try clear hcz5_10
     try clear hcz5_11
     try clear hcz5_12
     try clear hcz5_13
     try clear hcz5_14
     try clear hcz5_15
     try clear hcz5_16
     try clear hcz5_17
     try clear hcz5_18
     try clear hcz5_19
     try clear hcz5_2
     try clear hcz5_20
     try clear hcz5_21
     try clear hcz5_22
     try clear hcz5_23
     try clear hcz5_24
     try clear hcz5_25
     try clear hcz5_3
     try clear hcz5_4
     try clear hcz5_5
     try clear hcz5_6
     try clear hcz5_7
     try clear hcz5_8
     try clear hcz5_9
     try clear hfz5_0
     try clear hfz5_1
     try clear hfz5_10
     try clear hfz5_11
     try clear hfz5_12
     try clear hfz5_13
     try clear hfz5_14
     try clear hfz5_15
     try clear hfz5_16
     try clear hfz5_17
     try clear hfz5_18
     try clear hfz5_19
     try clear hfz5_2
     try clear hfz5_20
     try clear hfz5_21
     try clear hfz5_22
     try clear hfz5_23
     try clear hfz5_24
     try clear hfz5_25
     try clear hfz5_3
     try clear hfz5_4
     try clear hfz5_5
     try clear hfz5_6
     try clear hfz5_7
     try clear hfz5_8
     try clear hfz5_9
     obtain ⟨x5_2, x7_2, rfl, rfl, HA, HK2, BK127, HB⟩ := hrel
     cases gk with
     | zero => exact absurd HA.out (by simp [spec_PacketPlaces.l1])
     | succ k2 =>
      have H := HA.out; clear HA
      simp only [spec_PacketPlaces.l1] at H
      by_cases c6 : 0 ≤ x6_1
      ·rw [if_pos c6] at H
       have c6b0 : decide (0 ≤ x6_1) = true := decide_eq_true c6
       clear c6
       by_cases c7 : x6_1 < (l0_17.length : Int)
       ·rw [if_pos c7] at H
        have c7b0 : decide (x6_1 < (l0_17.length : Int)) = true := decide_eq_true c7
        clear c7
        by_cases c8 : x7_2 < (((rd_T130 l0_17 x6_1).f0).length : Int)
        ·rw [if_pos c8] at H
         have c8b0 : decide (x7_2 < (((rd_T130 l0_17 x6_1).f0).length : Int)) = true := decide_eq_true c8
         clear c8
         by_cases c9 : 0 ≤ x7_2
         ·rw [if_pos c9] at H
          have c9b0 : decide (0 ≤ x7_2) = true := decide_eq_true c9
          clear c9
          by_cases c10 : ((rd_T132 ((rd_T130 l0_17 x6_1).f0) x7_2).f0) = a1
          ·rw [if_pos c10] at H
           have c10b0 : (((rd_T132 ((rd_T130 l0_17 x6_1).f0) x7_2).f0) == a1) = true := beq_iff_eq.mpr c10
           have c10b1 : (((rd_T132 ((rd_T130 l0_17 x6_1).f0) x7_2).f0) != a1) = false := bne_eq_false_iff_eq.mpr c10
           clear c10
           have H' := aM_ H
           clear H
           have hcz11_0 : wr.cell? ⟨gb127, 0, none⟩ = some (.int .i64 a0_0) := (blk_cell BK127.out 0).trans rfl
           have hcz11_1 : wr.cell? ⟨gb127, 1, none⟩ = some (.slice A0_1 l0_1.length c0_1) := (blk_cell BK127.out 1).trans rfl
           have hcz11_2 : wr.cell? ⟨gb127, 2, none⟩ = some (.slice A0_2 l0_2.length c0_2) := (blk_cell BK127.out 2).trans rfl
           have hcz11_3 : wr.cell? ⟨gb127, 3, none⟩ = some (.int .i64 a0_3) := (blk_cell BK127.out 3).trans rfl
           have hcz11_4 : wr.cell? ⟨gb127, 4, none⟩ = some (.int .i64 a0_4) := (blk_cell BK127.out 4).trans rfl
           have hcz11_5 : wr.cell? ⟨gb127, 5, none⟩ = some (.int .i64 a0_5) := (blk_cell BK127.out 5).trans rfl
           have hcz11_6 : wr.cell? ⟨gb127, 6, none⟩ = some (.int .i64 a0_6) := (blk_cell BK127.out 6).trans rfl
           have hcz11_7 : wr.cell? ⟨gb127, 7, none⟩ = some (.int .i64 a0_7) := (blk_cell BK127.out 7).trans rfl
           have hcz11_8 : wr.cell? ⟨gb127, 8, none⟩ = some (.slice A0_8 l0_8.length c0_8) := (blk_cell BK127.out 8).trans rfl
           have hcz11_9 : wr.cell? ⟨gb127, 9, none⟩ = some (.int .i64 a0_9) := (blk_cell BK127.out 9).trans rfl
           have hcz11_10 : wr.cell? ⟨gb127, 10, none⟩ = some (.int .i64 a0_10) := (blk_cell BK127.out 10).trans rfl
           have hcz11_11 : wr.cell? ⟨gb127, 11, none⟩ = some (.int .i64 a0_11) := (blk_cell BK127.out 11).trans rfl
           have hcz11_12 : wr.cell? ⟨gb127, 12, none⟩ = some (.int .i64 a0_12) := (blk_cell BK127.out 12).trans rfl
           have hcz11_13 : wr.cell? ⟨gb127, 13, none⟩ = some (.slice A0_13 l0_13.length c0_13) := (blk_cell BK127.out 13).trans rfl
           have hcz11_14 : wr.cell? ⟨gb127, 14, none⟩ = some (.slice A0_14 l0_14.length c0_14) := (blk_cell BK127.out 14).trans rfl
           have hcz11_15 : wr.cell? ⟨gb127, 15, none⟩ = some (.slice A0_15 l0_15.length c0_15) := (blk_cell BK127.out 15).trans rfl
           have hcz11_16 : wr.cell? ⟨gb127, 16, none⟩ = some (.slice A0_16 l0_16.length c0_16) := (blk_cell BK127.out 16).trans rfl
           have hcz11_17 : wr.cell? ⟨gb127, 17, none⟩ = some (.slice A0_17 l0_17.length c0_17) := (blk_cell BK127.out 17).trans rfl
           have hcz11_18 : wr.cell? ⟨gb127, 18, none⟩ = some (.slice A0_18 l0_18.length c0_18) := (blk_cell BK127.out 18).trans rfl
           have hcz11_19 : wr.cell? ⟨gb127, 19, none⟩ = some (.slice A0_19 l0_19.length c0_19) := (blk_cell BK127.out 19).trans rfl
           have hcz11_20 : wr.cell? ⟨gb127, 20, none⟩ = some (.slice A0_20 l0_20.length c0_20) := (blk_cell BK127.out 20).trans rfl
           have hcz11_21 : wr.cell? ⟨gb127, 21, none⟩ = some (.slice A0_21 l0_21.length c0_21) := (blk_cell BK127.out 21).trans rfl
           have hcz11_22 : wr.cell? ⟨gb127, 22, none⟩ = some (.int .i64 a0_22) := (blk_cell BK127.out 22).trans rfl
           have hcz11_23 : wr.cell? ⟨gb127, 23, none⟩ = some (.int .i64 a0_23) := (blk_cell BK127.out 23).trans rfl
           have hcz11_24 : wr.cell? ⟨gb127, 24, none⟩ = some (.slice A0_24 l0_24.length c0_24) := (blk_cell BK127.out 24).trans rfl
           have hcz11_25 : wr.cell? ⟨gb127, 25, none⟩ = some (.slice A0_25 l0_25.length c0_25) := (blk_cell BK127.out 25).trans rfl
           have hfz11_0 := blk_frozen BK127.out 0; have hfz11_1 := blk_frozen BK127.out 1; have hfz11_2 := blk_frozen BK127.out 2; have hfz11_3 := blk_frozen BK127.out 3; have hfz11_4 := blk_frozen BK127.out 4; have hfz11_5 := blk_frozen BK127.out 5; have hfz11_6 := blk_frozen BK127.out 6; have hfz11_7 := blk_frozen BK127.out 7; have hfz11_8 := blk_frozen BK127.out 8; have hfz11_9 := blk_frozen BK127.out 9; have hfz11_10 := blk_frozen BK127.out 10; have hfz11_11 := blk_frozen BK127.out 11; have hfz11_12 := blk_frozen BK127.out 12; have hfz11_13 := blk_frozen BK127.out 13; have hfz11_14 := blk_frozen BK127.out 14; have hfz11_15 := blk_frozen BK127.out 15; have hfz11_16 := blk_frozen BK127.out 16; have hfz11_17 := blk_frozen BK127.out 17; have hfz11_18 := blk_frozen BK127.out 18; have hfz11_19 := blk_frozen BK127.out 19; have hfz11_20 := blk_frozen BK127.out 20; have hfz11_21 := blk_frozen BK127.out 21; have hfz11_22 := blk_frozen BK127.out 22; have hfz11_23 := blk_frozen BK127.out 23; have hfz11_24 := blk_frozen BK127.out 24; have hfz11_25 := blk_frozen BK127.out 25
           have p128 : 0 ≤ (x6_1 : Int) := dT_
           have q128 : x6_1 < (l0_17.length : Int) := dT_
           obtain ⟨ad128, A128_0, c128_0, e128, hx128_0, hl128_0, hi128_0⟩ := at_T130 HR0_17.out x6_1 p128 q128
           cases e128
           replace hx128_0 := (HB.out.cell (World.block_lt_of_cell? w _ hx128_0)).trans hx128_0
           have HR128_0 := aM_ hi128_0; have HC128_0 := aM_ hl128_0; clear hi128_0 hl128_0; replace p128 := eq_true p128; replace q128 := eq_true q128
           have p129 : 0 ≤ (x6_1 : Int) := dT_
           have q129 : x6_1 < (l0_17.length : Int) := dT_
           obtain ⟨ad129, A129_0, c129_0, e129, hx129_0, hl129_0, hi129_0⟩ := at_T130 HR0_17.out x6_1 p129 q129
           obtain rfl : ad128 = ad129 := (by injection e129)
           replace hx129_0 := (HB.out.cell (World.block_lt_of_cell? w _ hx129_0)).trans hx129_0
           have HR129_0 := aM_ hi129_0; have HC129_0 := aM_ hl129_0; clear hi129_0 hl129_0; replace p129 := eq_true p129; replace q129 := eq_true q129; have ea_ := Option.some.inj (hx128_0.symm.trans hx129_0)
           injection ea_ with ea_ en_ ec_
           subst ea_
           subst ec_
           clear en_
           have p130 : 0 ≤ (x7_2 : Int) := dT_
           have q130 : x7_2 < (((rd_T130 l0_17 x6_1).f0).length : Int) := dT_
           obtain ⟨ad130, e130, hx130_0, hx130_1, hx130_2, hx130_3, hx130_4, hx130_5⟩ := at_T132 HR129_0.out x7_2 p130 q130
           cases e130
           replace hx130_0 := (HB.out.cell (World.block_lt_of_cell? w _ hx130_0)).trans hx130_0
           replace hx130_1 := (HB.out.cell (World.block_lt_of_cell? w _ hx130_1)).trans hx130_1
           replace hx130_2 := (HB.out.cell (World.block_lt_of_cell? w _ hx130_2)).trans hx130_2
           replace hx130_3 := (HB.out.cell (World.block_lt_of_cell? w _ hx130_3)).trans hx130_3
           replace hx130_4 := (HB.out.cell (World.block_lt_of_cell? w _ hx130_4)).trans hx130_4
           replace hx130_5 := (HB.out.cell (World.block_lt_of_cell? w _ hx130_5)).trans hx130_5
           replace p130 := eq_true p130; replace q130 := eq_true q130
           go_wp2
           go_roundg k2
           case measure => have := HK1.out; have := HK2.out; omega
           case rel => exact ⟨(wrap64 (x5_2 + 1)), (wrap64 (x7_2 + 1)), (by first | rfl | (simp; done) | (simp [*]; done)), (by first | rfl | (simp; done) | (simp [*]; done)), H', ⟨by have := HK1.out; have := HK2.out; omega⟩, ⟨by (with_reducible repeat (first | refine bN_ ?_ _ | refine bD_ ?_ | refine bA_ ?_ _)); exact BK127.out⟩, ⟨bw_⟩⟩
          ·rw [if_neg c10] at H
           have c10b0 : (((rd_T132 ((rd_T130 l0_17 x6_1).f0) x7_2).f0) == a1) = false := beq_eq_false_iff_ne.mpr c10
           have c10b1 : (((rd_T132 ((rd_T130 l0_17 x6_1).f0) x7_2).f0) != a1) = true := bne_iff_ne.mpr c10
           have H' := aM_ H
           clear H
           have hcz12_0 : wr.cell? ⟨gb127, 0, none⟩ = some (.int .i64 a0_0) := (blk_cell BK127.out 0).trans rfl
           have hcz12_1 : wr.cell? ⟨gb127, 1, none⟩ = some (.slice A0_1 l0_1.length c0_1) := (blk_cell BK127.out 1).trans rfl
           have hcz12_2 : wr.cell? ⟨gb127, 2, none⟩ = some (.slice A0_2 l0_2.length c0_2) := (blk_cell BK127.out 2).trans rfl
           have hcz12_3 : wr.cell? ⟨gb127, 3, none⟩ = some (.int .i64 a0_3) := (blk_cell BK127.out 3).trans rfl
           have hcz12_4 : wr.cell? ⟨gb127, 4, none⟩ = some (.int .i64 a0_4) := (blk_cell BK127.out 4).trans rfl
           have hcz12_5 : wr.cell? ⟨gb127, 5, none⟩ = some (.int .i64 a0_5) := (blk_cell BK127.out 5).trans rfl
           have hcz12_6 : wr.cell? ⟨gb127, 6, none⟩ = some (.int .i64 a0_6) := (blk_cell BK127.out 6).trans rfl
           have hcz12_7 : wr.cell? ⟨gb127, 7, none⟩ = some (.int .i64 a0_7) := (blk_cell BK127.out 7).trans rfl
           have hcz12_8 : wr.cell? ⟨gb127, 8, none⟩ = some (.slice A0_8 l0_8.length c0_8) := (blk_cell BK127.out 8).trans rfl
           have hcz12_9 : wr.cell? ⟨gb127, 9, none⟩ = some (.int .i64 a0_9) := (blk_cell BK127.out 9).trans rfl
           have hcz12_10 : wr.cell? ⟨gb127, 10, none⟩ = some (.int .i64 a0_10) := (blk_cell BK127.out 10).trans rfl
           have hcz12_11 : wr.cell? ⟨gb127, 11, none⟩ = some (.int .i64 a0_11) := (blk_cell BK127.out 11).trans rfl
           have hcz12_12 : wr.cell? ⟨gb127, 12, none⟩ = some (.int .i64 a0_12) := (blk_cell BK127.out 12).trans rfl
           have hcz12_13 : wr.cell? ⟨gb127, 13, none⟩ = some (.slice A0_13 l0_13.length c0_13) := (blk_cell BK127.out 13).trans rfl
           have hcz12_14 : wr.cell? ⟨gb127, 14, none⟩ = some (.slice A0_14 l0_14.length c0_14) := (blk_cell BK127.out 14).trans rfl
           have hcz12_15 : wr.cell? ⟨gb127, 15, none⟩ = some (.slice A0_15 l0_15.length c0_15) := (blk_cell BK127.out 15).trans rfl
           have hcz12_16 : wr.cell? ⟨gb127, 16, none⟩ = some (.slice A0_16 l0_16.length c0_16) := (blk_cell BK127.out 16).trans rfl
           have hcz12_17 : wr.cell? ⟨gb127, 17, none⟩ = some (.slice A0_17 l0_17.length c0_17) := (blk_cell BK127.out 17).trans rfl
           have hcz12_18 : wr.cell? ⟨gb127, 18, none⟩ = some (.slice A0_18 l0_18.length c0_18) := (blk_cell BK127.out 18).trans rfl
           have hcz12_19 : wr.cell? ⟨gb127, 19, none⟩ = some (.slice A0_19 l0_19.length c0_19) := (blk_cell BK127.out 19).trans rfl
           have hcz12_20 : wr.cell? ⟨gb127, 20, none⟩ = some (.slice A0_20 l0_20.length c0_20) := (blk_cell BK127.out 20).trans rfl
           have hcz12_21 : wr.cell? ⟨gb127, 21, none⟩ = some (.slice A0_21 l0_21.length c0_21) := (blk_cell BK127.out 21).trans rfl
           have hcz12_22 : wr.cell? ⟨gb127, 22, none⟩ = some (.int .i64 a0_22) := (blk_cell BK127.out 22).trans rfl
           have hcz12_23 : wr.cell? ⟨gb127, 23, none⟩ = some (.int .i64 a0_23) := (blk_cell BK127.out 23).trans rfl
           have hcz12_24 : wr.cell? ⟨gb127, 24, none⟩ = some (.slice A0_24 l0_24.length c0_24) := (blk_cell BK127.out 24).trans rfl
           have hcz12_25 : wr.cell? ⟨gb127, 25, none⟩ = some (.slice A0_25 l0_25.length c0_25) := (blk_cell BK127.out 25).trans rfl
           have hfz12_0 := blk_frozen BK127.out 0; have hfz12_1 := blk_frozen BK127.out 1; have hfz12_2 := blk_frozen BK127.out 2; have hfz12_3 := blk_frozen BK127.out 3; have hfz12_4 := blk_frozen BK127.out 4; have hfz12_5 := blk_frozen BK127.out 5; have hfz12_6 := blk_frozen BK127.out 6; have hfz12_7 := blk_frozen BK127.out 7; have hfz12_8 := blk_frozen BK127.out 8; have hfz12_9 := blk_frozen BK127.out 9; have hfz12_10 := blk_frozen BK127.out 10; have hfz12_11 := blk_frozen BK127.out 11; have hfz12_12 := blk_frozen BK127.out 12; have hfz12_13 := blk_frozen BK127.out 13; have hfz12_14 := blk_frozen BK127.out 14; have hfz12_15 := blk_frozen BK127.out 15; have hfz12_16 := blk_frozen BK127.out 16; have hfz12_17 := blk_frozen BK127.out 17; have hfz12_18 := blk_frozen BK127.out 18; have hfz12_19 := blk_frozen BK127.out 19; have hfz12_20 := blk_frozen BK127.out 20; have hfz12_21 := blk_frozen BK127.out 21; have hfz12_22 := blk_frozen BK127.out 22; have hfz12_23 := blk_frozen BK127.out 23; have hfz12_24 := blk_frozen BK127.out 24; have hfz12_25 := blk_frozen BK127.out 25
           have p128 : 0 ≤ (x6_1 : Int) := dT_
           have q128 : x6_1 < (l0_17.length : Int) := dT_
           obtain ⟨ad128, A128_0, c128_0, e128, hx128_0, hl128_0, hi128_0⟩ := at_T130 HR0_17.out x6_1 p128 q128
           cases e128
           replace hx128_0 := (HB.out.cell (World.block_lt_of_cell? w _ hx128_0)).trans hx128_0
           have HR128_0 := aM_ hi128_0; have HC128_0 := aM_ hl128_0; clear hi128_0 hl128_0; replace p128 := eq_true p128; replace q128 := eq_true q128
           have p129 : 0 ≤ (x6_1 : Int) := dT_
           have q129 : x6_1 < (l0_17.length : Int) := dT_
           obtain ⟨ad129, A129_0, c129_0, e129, hx129_0, hl129_0, hi129_0⟩ := at_T130 HR0_17.out x6_1 p129 q129
           obtain rfl : ad128 = ad129 := (by injection e129)
           replace hx129_0 := (HB.out.cell (World.block_lt_of_cell? w _ hx129_0)).trans hx129_0
           have HR129_0 := aM_ hi129_0; have HC129_0 := aM_ hl129_0; clear hi129_0 hl129_0; replace p129 := eq_true p129; replace q129 := eq_true q129; have ea_ := Option.some.inj (hx128_0.symm.trans hx129_0)
           injection ea_ with ea_ en_ ec_
           subst ea_
           subst ec_
           clear en_
           have p130 : 0 ≤ (x7_2 : Int) := dT_
           have q130 : x7_2 < (((rd_T130 l0_17 x6_1).f0).length : Int) := dT_
           obtain ⟨ad130, e130, hx130_0, hx130_1, hx130_2, hx130_3, hx130_4, hx130_5⟩ := at_T132 HR129_0.out x7_2 p130 q130
           cases e130
           replace hx130_0 := (HB.out.cell (World.block_lt_of_cell? w _ hx130_0)).trans hx130_0
           replace hx130_1 := (HB.out.cell (World.block_lt_of_cell? w _ hx130_1)).trans hx130_1
           replace hx130_2 := (HB.out.cell (World.block_lt_of_cell? w _ hx130_2)).trans hx130_2
           replace hx130_3 := (HB.out.cell (World.block_lt_of_cell? w _ hx130_3)).trans hx130_3
           replace hx130_4 := (HB.out.cell (World.block_lt_of_cell? w _ hx130_4)).trans hx130_4
           replace hx130_5 := (HB.out.cell (World.block_lt_of_cell? w _ hx130_5)).trans hx130_5
           replace p130 := eq_true p130; replace q130 := eq_true q130
           go_wp2
           go_roundg k2
           case measure => have := HK1.out; have := HK2.out; omega
           case rel => exact ⟨(x5_2), (wrap64 (x7_2 + 1)), (by first | rfl | (simp; done) | (simp [*]; done)), (by first | rfl | (simp; done) | (simp [*]; done)), H', ⟨by have := HK1.out; have := HK2.out; omega⟩, ⟨by (with_reducible repeat (first | refine bN_ ?_ _ | refine bD_ ?_ | refine bA_ ?_ _)); exact BK127.out⟩, ⟨bw_⟩⟩
         ·rw [if_neg c9] at H
          exact absurd H (by simp)
        ·rw [if_neg c8] at H
         have c8b0 : decide (x7_2 < (((rd_T130 l0_17 x6_1).f0).length : Int)) = false := decide_eq_false c8
         clear c8
         have H' := aM_ H
         clear H
         have hcz13_0 : wr.cell? ⟨gb127, 0, none⟩ = some (.int .i64 a0_0) := (blk_cell BK127.out 0).trans rfl
         have hcz13_1 : wr.cell? ⟨gb127, 1, none⟩ = some (.slice A0_1 l0_1.length c0_1) := (blk_cell BK127.out 1).trans rfl
         have hcz13_2 : wr.cell? ⟨gb127, 2, none⟩ = some (.slice A0_2 l0_2.length c0_2) := (blk_cell BK127.out 2).trans rfl
         have hcz13_3 : wr.cell? ⟨gb127, 3, none⟩ = some (.int .i64 a0_3) := (blk_cell BK127.out 3).trans rfl
         have hcz13_4 : wr.cell? ⟨gb127, 4, none⟩ = some (.int .i64 a0_4) := (blk_cell BK127.out 4).trans rfl
         have hcz13_5 : wr.cell? ⟨gb127, 5, none⟩ = some (.int .i64 a0_5) := (blk_cell BK127.out 5).trans rfl
         have hcz13_6 : wr.cell? ⟨gb127, 6, none⟩ = some (.int .i64 a0_6) := (blk_cell BK127.out 6).trans rfl
         have hcz13_7 : wr.cell? ⟨gb127, 7, none⟩ = some (.int .i64 a0_7) := (blk_cell BK127.out 7).trans rfl
         have hcz13_8 : wr.cell? ⟨gb127, 8, none⟩ = some (.slice A0_8 l0_8.length c0_8) := (blk_cell BK127.out 8).trans rfl
         have hcz13_9 : wr.cell? ⟨gb127, 9, none⟩ = some (.int .i64 a0_9) := (blk_cell BK127.out 9).trans rfl
         have hcz13_10 : wr.cell? ⟨gb127, 10, none⟩ = some (.int .i64 a0_10) := (blk_cell BK127.out 10).trans rfl
         have hcz13_11 : wr.cell? ⟨gb127, 11, none⟩ = some (.int .i64 a0_11) := (blk_cell BK127.out 11).trans rfl
         have hcz13_12 : wr.cell? ⟨gb127, 12, none⟩ = some (.int .i64 a0_12) := (blk_cell BK127.out 12).trans rfl
         have hcz13_13 : wr.cell? ⟨gb127, 13, none⟩ = some (.slice A0_13 l0_13.length c0_13) := (blk_cell BK127.out 13).trans rfl
         have hcz13_14 : wr.cell? ⟨gb127, 14, none⟩ = some (.slice A0_14 l0_14.length c0_14) := (blk_cell BK127.out 14).trans rfl
         have hcz13_15 : wr.cell? ⟨gb127, 15, none⟩ = some (.slice A0_15 l0_15.length c0_15) := (blk_cell BK127.out 15).trans rfl
         have hcz13_16 : wr.cell? ⟨gb127, 16, none⟩ = some (.slice A0_16 l0_16.length c0_16) := (blk_cell BK127.out 16).trans rfl
         have hcz13_17 : wr.cell? ⟨gb127, 17, none⟩ = some (.slice A0_17 l0_17.length c0_17) := (blk_cell BK127.out 17).trans rfl
         have hcz13_18 : wr.cell? ⟨gb127, 18, none⟩ = some (.slice A0_18 l0_18.length c0_18) := (blk_cell BK127.out 18).trans rfl
         have hcz13_19 : wr.cell? ⟨gb127, 19, none⟩ = some (.slice A0_19 l0_19.length c0_19) := (blk_cell BK127.out 19).trans rfl
         have hcz13_20 : wr.cell? ⟨gb127, 20, none⟩ = some (.slice A0_20 l0_20.length c0_20) := (blk_cell BK127.out 20).trans rfl
         have hcz13_21 : wr.cell? ⟨gb127, 21, none⟩ = some (.slice A0_21 l0_21.length c0_21) := (blk_cell BK127.out 21).trans rfl
         have hcz13_22 : wr.cell? ⟨gb127, 22, none⟩ = some (.int .i64 a0_22) := (blk_cell BK127.out 22).trans rfl
         have hcz13_23 : wr.cell? ⟨gb127, 23, none⟩ = some (.int .i64 a0_23) := (blk_cell BK127.out 23).trans rfl
         have hcz13_24 : wr.cell? ⟨gb127, 24, none⟩ = some (.slice A0_24 l0_24.length c0_24) := (blk_cell BK127.out 24).trans rfl
         have hcz13_25 : wr.cell? ⟨gb127, 25, none⟩ = some (.slice A0_25 l0_25.length c0_25) := (blk_cell BK127.out 25).trans rfl
         have hfz13_0 := blk_frozen BK127.out 0; have hfz13_1 := blk_frozen BK127.out 1; have hfz13_2 := blk_frozen BK127.out 2; have hfz13_3 := blk_frozen BK127.out 3; have hfz13_4 := blk_frozen BK127.out 4; have hfz13_5 := blk_frozen BK127.out 5; have hfz13_6 := blk_frozen BK127.out 6; have hfz13_7 := blk_frozen BK127.out 7; have hfz13_8 := blk_frozen BK127.out 8; have hfz13_9 := blk_frozen BK127.out 9; have hfz13_10 := blk_frozen BK127.out 10; have hfz13_11 := blk_frozen BK127.out 11; have hfz13_12 := blk_frozen BK127.out 12; have hfz13_13 := blk_frozen BK127.out 13; have hfz13_14 := blk_frozen BK127.out 14; have hfz13_15 := blk_frozen BK127.out 15; have hfz13_16 := blk_frozen BK127.out 16; have hfz13_17 := blk_frozen BK127.out 17; have hfz13_18 := blk_frozen BK127.out 18; have hfz13_19 := blk_frozen BK127.out 19; have hfz13_20 := blk_frozen BK127.out 20; have hfz13_21 := blk_frozen BK127.out 21; have hfz13_22 := blk_frozen BK127.out 22; have hfz13_23 := blk_frozen BK127.out 23; have hfz13_24 := blk_frozen BK127.out 24; have hfz13_25 := blk_frozen BK127.out 25
         have p128 : 0 ≤ (x6_1 : Int) := dT_
         have q128 : x6_1 < (l0_17.length : Int) := dT_
         obtain ⟨ad128, A128_0, c128_0, e128, hx128_0, hl128_0, hi128_0⟩ := at_T130 HR0_17.out x6_1 p128 q128
         cases e128
         replace hx128_0 := (HB.out.cell (World.block_lt_of_cell? w _ hx128_0)).trans hx128_0
         have HR128_0 := aM_ hi128_0; have HC128_0 := aM_ hl128_0; clear hi128_0 hl128_0; replace p128 := eq_true p128; replace q128 := eq_true q128
         go_wp2
         go_roundg k2
         case measure => have := HK1.out; have := HK2.out; omega
         case rel => exact ⟨(x5_2), (wrap64 (x6_1 + 1)), (by first | rfl | (simp; done) | (simp [*]; done)), (by first | rfl | (simp; done) | (simp [*]; done)), H', ⟨by have := HK1.out; have := HK2.out; omega⟩, ⟨by (with_reducible repeat (first | refine bN_ ?_ _ | refine bD_ ?_ | refine bA_ ?_ _)); exact BK127.out⟩, ⟨bw_⟩⟩
       ·rw [if_neg c7] at H
        exact absurd H (by simp)
      ·rw [if_neg c6] at H
       exact absurd H (by simp)
   ·rw [if_neg c4] at H
    have c4b0 : decide (x6_1 < (l0_17.length : Int)) = false := decide_eq_false c4
    clear c4
    have H' := aM_ H
    clear H
    have hcz14_0 : wr.cell? ⟨gb127, 0, none⟩ = some (.int .i64 a0_0) := (blk_cell BK127.out 0).trans rfl
    have hcz14_1 : wr.cell? ⟨gb127, 1, none⟩ = some (.slice A0_1 l0_1.length c0_1) := (blk_cell BK127.out 1).trans rfl
    have hcz14_2 : wr.cell? ⟨gb127, 2, none⟩ = some (.slice A0_2 l0_2.length c0_2) := (blk_cell BK127.out 2).trans rfl
    have hcz14_3 : wr.cell? ⟨gb127, 3, none⟩ = some (.int .i64 a0_3) := (blk_cell BK127.out 3).trans rfl
    have hcz14_4 : wr.cell? ⟨gb127, 4, none⟩ = some (.int .i64 a0_4) := (blk_cell BK127.out 4).trans rfl
    have hcz14_5 : wr.cell? ⟨gb127, 5, none⟩ = some (.int .i64 a0_5) := (blk_cell BK127.out 5).trans rfl
    have hcz14_6 : wr.cell? ⟨gb127, 6, none⟩ = some (.int .i64 a0_6) := (blk_cell BK127.out 6).trans rfl
    have hcz14_7 : wr.cell? ⟨gb127, 7, none⟩ = some (.int .i64 a0_7) := (blk_cell BK127.out 7).trans rfl
    have hcz14_8 : wr.cell? ⟨gb127, 8, none⟩ = some (.slice A0_8 l0_8.length c0_8) := (blk_cell BK127.out 8).trans rfl
    have hcz14_9 : wr.cell? ⟨gb127, 9, none⟩ = some (.int .i64 a0_9) := (blk_cell BK127.out 9).trans rfl
    have hcz14_10 : wr.cell? ⟨gb127, 10, none⟩ = some (.int .i64 a0_10) := (blk_cell BK127.out 10).trans rfl
    have hcz14_11 : wr.cell? ⟨gb127, 11, none⟩ = some (.int .i64 a0_11) := (blk_cell BK127.out 11).trans rfl
    have hcz14_12 : wr.cell? ⟨gb127, 12, none⟩ = some (.int .i64 a0_12) := (blk_cell BK127.out 12).trans rfl
    have hcz14_13 : wr.cell? ⟨gb127, 13, none⟩ = some (.slice A0_13 l0_13.length c0_13) := (blk_cell BK127.out 13).trans rfl
    have hcz14_14 : wr.cell? ⟨gb127, 14, none⟩ = some (.slice A0_14 l0_14.length c0_14) := (blk_cell BK127.out 14).trans rfl
    have hcz14_15 : wr.cell? ⟨gb127, 15, none⟩ = some (.slice A0_15 l0_15.length c0_15) := (blk_cell BK127.out 15).trans rfl
    have hcz14_16 : wr.cell? ⟨gb127, 16, none⟩ = some (.slice A0_16 l0_16.length c0_16) := (blk_cell BK127.out 16).trans rfl
    have hcz14_17 : wr.cell? ⟨gb127, 17, none⟩ = some (.slice A0_17 l0_17.length c0_17) := (blk_cell BK127.out 17).trans rfl
    have hcz14_18 : wr.cell? ⟨gb127, 18, none⟩ = some (.slice A0_18 l0_18.length c0_18) := (blk_cell BK127.out 18).trans rfl
    have hcz14_19 : wr.cell? ⟨gb127, 19, none⟩ = some (.slice A0_19 l0_19.length c0_19) := (blk_cell BK127.out 19).trans rfl
    have hcz14_20 : wr.cell? ⟨gb127, 20, none⟩ = some (.slice A0_20 l0_20.length c0_20) := (blk_cell BK127.out 20).trans rfl
    have hcz14_21 : wr.cell? ⟨gb127, 21, none⟩ = some (.slice A0_21 l0_21.length c0_21) := (blk_cell BK127.out 21).trans rfl
    have hcz14_22 : wr.cell? ⟨gb127, 22, none⟩ = some (.int .i64 a0_22) := (blk_cell BK127.out 22).trans rfl
    have hcz14_23 : wr.cell? ⟨gb127, 23, none⟩ = some (.int .i64 a0_23) := (blk_cell BK127.out 23).trans rfl
    have hcz14_24 : wr.cell? ⟨gb127, 24, none⟩ = some (.slice A0_24 l0_24.length c0_24) := (blk_cell BK127.out 24).trans rfl
    have hcz14_25 : wr.cell? ⟨gb127, 25, none⟩ = some (.slice A0_25 l0_25.length c0_25) := (blk_cell BK127.out 25).trans rfl
    have hfz14_0 := blk_frozen BK127.out 0; have hfz14_1 := blk_frozen BK127.out 1; have hfz14_2 := blk_frozen BK127.out 2; have hfz14_3 := blk_frozen BK127.out 3; have hfz14_4 := blk_frozen BK127.out 4; have hfz14_5 := blk_frozen BK127.out 5; have hfz14_6 := blk_frozen BK127.out 6; have hfz14_7 := blk_frozen BK127.out 7; have hfz14_8 := blk_frozen BK127.out 8; have hfz14_9 := blk_frozen BK127.out 9; have hfz14_10 := blk_frozen BK127.out 10; have hfz14_11 := blk_frozen BK127.out 11; have hfz14_12 := blk_frozen BK127.out 12; have hfz14_13 := blk_frozen BK127.out 13; have hfz14_14 := blk_frozen BK127.out 14; have hfz14_15 := blk_frozen BK127.out 15; have hfz14_16 := blk_frozen BK127.out 16; have hfz14_17 := blk_frozen BK127.out 17; have hfz14_18 := blk_frozen BK127.out 18; have hfz14_19 := blk_frozen BK127.out 19; have hfz14_20 := blk_frozen BK127.out 20; have hfz14_21 := blk_frozen BK127.out 21; have hfz14_22 := blk_frozen BK127.out 22; have hfz14_23 := blk_frozen BK127.out 23; have hfz14_24 := blk_frozen BK127.out 24; have hfz14_25 := blk_frozen BK127.out 25
    go_wp2
    go_loopg [5, 8] k1 (fun kq v5 v8 w' => ∃ (x5_2 : Int) (x8_2 : Int), v5 = .int .i64 x5_2 ∧ v8 = .int .i64 x8_2 ∧ Aside0 (spec_PacketPlaces.l2 kq a1 x5_2 x8_2 a0_0 l0_1 l0_2 a0_3 a0_4 a0_5 a0_6 a0_7 l0_8 a0_9 a0_10 a0_11 a0_12 l0_13 l0_14 l0_15 l0_16 l0_17 l0_18 l0_19 l0_20 l0_21 a0_22 a0_23 l0_24 l0_25 = some r) ∧ Aside0 (kq ≤ k1) ∧ Aside0 (w'.heap[gb127]? = some (.cells #[.int .i64 a0_0, (.slice A0_1 l0_1.length c0_1), (.slice A0_2 l0_2.length c0_2), .int .i64 a0_3, .int .i64 a0_4, .int .i64 a0_5, .int .i64 a0_6, .int .i64 a0_7, (.slice A0_8 l0_8.length c0_8), .int .i64 a0_9, .int .i64 a0_10, .int .i64 a0_11, .int .i64 a0_12, (.slice A0_13 l0_13.length c0_13), (.slice A0_14 l0_14.length c0_14), (.slice A0_15 l0_15.length c0_15), (.slice A0_16 l0_16.length c0_16), (.slice A0_17 l0_17.length c0_17), (.slice A0_18 l0_18.length c0_18), (.slice A0_19 l0_19.length c0_19), (.slice A0_20 l0_20.length c0_20), (.slice A0_21 l0_21.length c0_21), .int .i64 a0_22, .int .i64 a0_23, (.slice A0_24 l0_24.length c0_24), (.slice A0_25 l0_25.length c0_25)] 72 (0, 0))) ∧ Aside0 (Below w.heap.size w w'))
    case atStart => exact ⟨(x5_1), (0), (by first | rfl | (simp; done) | (simp [*]; done)), (by first | rfl | (simp; done) | (simp [*]; done)), H', ⟨Nat.le_refl _⟩, ⟨by (with_reducible repeat (first | refine bN_ ?_ _ | refine bD_ ?_ | refine bA_ ?_ _)); exact BK127.out⟩, ⟨bw_⟩⟩
    case round =>
     clear H'
     try clear hx1
     try clear c4b0
     try clear c6b0
     try clear c7b0
     try clear c8b0
     try clear c9b0
     try clear c10b0
     try clear c10b1
     try clear hx12
     try clear hx13
     try clear hcz11_0
     try clear hcz11_1
     try clear hcz11_10
     try clear hcz11_11
     try clear hcz11_12
     try clear hcz11_13
     try clear hcz11_14
     try clear hcz11_15
     try clear hcz11_16
     try clear hcz11_17
     try clear hcz11_18
     try clear hcz11_19
     try clear hcz11_2
     try clear hcz11_20
     try clear hcz11_21
     try clear hcz11_22
     try clear hcz11_23
     try clear hcz11_24
     try clear hcz11_25
     try clear hcz11_3
     try clear hcz11_4
     try clear hcz11_5
     try clear hcz11_6
     try clear hcz11_7
     try clear hcz11_8
     try clear hcz11_9
     try clear hcz12_0
     try clear hcz12_1
     try clear hcz12_10
     try clear hcz12_11
     try clear hcz12_12
     try clear hcz12_13
     try clear hcz12_14
     try clear hcz12_15
     try clear hcz12_16
     try clear hcz12_17
     try clear hcz12_18
     try clear hcz12_19
     try clear hcz12_2
     try clear hcz12_20
     try clear hcz12_21
     try clear hcz12_22
     try clear hcz12_23
     try clear hcz12_24
     try clear hcz12_25
     try clear hcz12_3
     try clear hcz12_4
     try clear hcz12_5
     try clear hcz12_6
     try clear hcz12_7
     try clear hcz12_8
     try clear hcz12_9
     try clear hcz13_0
     try clear hcz13_1
     try clear hcz13_10
     try clear hcz13_11
     try clear hcz13_12
     try clear hcz13_13
     try clear hcz13_14
     try clear hcz13_15
     try clear hcz13_16
     try clear hcz13_17
     try clear hcz13_18
     try clear hcz13_19
     try clear hcz13_2
     try clear hcz13_20
     try clear hcz13_21
     try clear hcz13_22
     try clear hcz13_23
     try clear hcz13_24
     try clear hcz13_25
     try clear hcz13_3
     try clear hcz13_4
     try clear hcz13_5
     try clear hcz13_6
     try clear hcz13_7
     try clear hcz13_8
     try clear hcz13_9
     try clear hcz14_0
     try clear hcz14_1
     try clear hcz14_10
     try clear hcz14_11
     try clear hcz14_12
     try clear hcz14_13
     try clear hcz14_14
     try clear hcz14_15
     try clear hcz14_16
     try clear hcz14_17
     try clear hcz14_18
     try clear hcz14_19
     try clear hcz14_2
     try clear hcz14_20
     try clear hcz14_21
     try clear hcz14_22
     try clear hcz14_23
     try clear hcz14_24
     try clear hcz14_25
     try clear hcz14_3
     try clear hcz14_4
     try clear hcz14_5
     try clear hcz14_6
     try clear hcz14_7
     try clear hcz14_8
     try clear hcz14_9
     try clear hcz5_0
     try clear hcz5_1
     try clear hcz5_10
     try clear hcz5_11
     try clear hcz5_12
     try clear hcz5_13
     try clear hcz5_14
     try clear hcz5_15
     try clear hcz5_16
     try clear hcz5_17
     try clear hcz5_18
     try clear hcz5_19
     try clear hcz5_2
     try clear hcz5_20
     try clear hcz5_21
     try clear hcz5_22
     try clear hcz5_23
     try clear hcz5_24
     try clear hcz5_25
     try clear hcz5_3
     try clear hcz5_4
     try clear hcz5_5
     try clear hcz5_6
     try clear hcz5_7
     try clear hcz5_8
     try clear hcz5_9
     try clear hfz11_0
     try clear hfz11_1
     try clear hfz11_10
     try clear hfz11_11
     try clear hfz11_12
     try clear hfz11_13
     try clear hfz11_14
     try clear hfz11_15
     try clear hfz11_16
     try clear hfz11_17
     try clear hfz11_18
     try clear hfz11_19
     try clear hfz11_2
     try clear hfz11_20
     try clear hfz11_21
     try clear hfz11_22
     try clear hfz11_23
     try clear hfz11_24
     try clear hfz11_25
     try clear hfz11_3
     try clear hfz11_4
     try clear hfz11_5
     try clear hfz11_6
     try clear hfz11_7
     try clear hfz11_8
     try clear hfz11_9
     try clear hfz12_0
     try clear hfz12_1
     try clear hfz12_10
     try clear hfz12_11
     try clear hfz12_12
     try clear hfz12_13
     try clear hfz12_14
     try clear hfz12_15
     try clear hfz12_16
     try clear hfz12_17
     try clear hfz12_18
     try clear hfz12_19
     try clear hfz12_2
     try clear hfz12_20
     try clear hfz12_21
     try clear hfz12_22
     try clear hfz12_23
     try clear hfz12_24
     try clear hfz12_25
     try clear hfz12_3
     try clear hfz12_4
     try clear hfz12_5
     try clear hfz12_6
     try clear hfz12_7
     try clear hfz12_8
     try clear hfz12_9
     try clear hfz13_0
     try clear hfz13_1
     try clear hfz13_10
     try clear hfz13_11
     try clear hfz13_12
     try clear hfz13_13
     try clear hfz13_14
     try clear hfz13_15
     try clear hfz13_16
     try clear hfz13_17
     try clear hfz13_18
     try clear hfz13_19
     try clear hfz13_2
     try clear hfz13_20
     try clear hfz13_21
     try clear hfz13_22
     try clear hfz13_23
     try clear hfz13_24
     try clear hfz13_25
     try clear hfz13_3
     try clear hfz13_4
     try clear hfz13_5
     try clear hfz13_6
     try clear hfz13_7
     try clear hfz13_8
     try clear hfz13_9
     try clear hfz14_0
     try clear hfz14_1
     try clear hfz14_10
     try clear hfz14_11
     try clear hfz14_12
     try clear hfz14_13
     try clear hfz14_14
     try clear hfz14_15
     try clear hfz14_16
     try clear hfz14_17
     try clear hfz14_18
     try clear hfz14_19
     try clear hfz14_2
     try clear hfz14_20
     try clear hfz14_21
     try clear hfz14_22
     try clear hfz14_23
     try clear hfz14_24
     try clear hfz14_25
     try clear hfz14_3
     try clear hfz14_4
     try clear hfz14_5
     try clear hfz14_6
     try clear hfz14_7
     try clear hfz14_8
     try clear hfz14_9
     try clear hfz5_0
     try clear hfz5_1
     try clear hfz5_10
     try clear hfz5_11
     try clear hfz5_12
     try clear hfz5_13
     try clear hfz5_14
     try clear hfz5_15
     try clear hfz5_16
     try clear hfz5_17
     try clear hfz5_18
     try clear hfz5_19
     try clear hfz5_2
     try clear hfz5_20
     try clear hfz5_21
     try clear hfz5_22
     try clear hfz5_23
     try clear hfz5_24
     try clear hfz5_25
     try clear hfz5_3
     try clear hfz5_4
     try clear hfz5_5
     try clear hfz5_6
     try clear hfz5_7
     try clear hfz5_8
     try clear hfz5_9
     try clear hx128_0
     try clear hx129_0
     try clear hx130_0
     try clear hx130_1
     try clear hx130_2
     try clear hx130_3
     try clear hx130_4
     try clear hx130_5
     obtain ⟨x5_2, x8_2, rfl, rfl, HA, HK2, BK127, HB⟩ := hrel
     cases gk with
     | zero => exact absurd HA.out (by simp [spec_PacketPlaces.l2])
     | succ k2 =>
      have H := HA.out; clear HA
      simp only [spec_PacketPlaces.l2] at H
      by_cases c15 : x8_2 < (l0_24.length : Int)
      ·rw [if_pos c15] at H
       have c15b0 : decide (x8_2 < (l0_24.length : Int)) = true := decide_eq_true c15
       clear c15
       by_cases c16 : 0 ≤ x8_2
       ·rw [if_pos c16] at H
        have c16b0 : decide (0 ≤ x8_2) = true := decide_eq_true c16
        clear c16
        by_cases c17 : ((rd_T132 l0_24 x8_2).f0) = a1
        ·rw [if_pos c17] at H
         have c17b0 : (((rd_T132 l0_24 x8_2).f0) == a1) = true := beq_iff_eq.mpr c17
         have c17b1 : (((rd_T132 l0_24 x8_2).f0) != a1) = false := bne_eq_false_iff_eq.mpr c17
         clear c17
         have H' := aM_ H
         clear H
         have hcz18_0 : wr.cell? ⟨gb127, 0, none⟩ = some (.int .i64 a0_0) := (blk_cell BK127.out 0).trans rfl
         have hcz18_1 : wr.cell? ⟨gb127, 1, none⟩ = some (.slice A0_1 l0_1.length c0_1) := (blk_cell BK127.out 1).trans rfl
         have hcz18_2 : wr.cell? ⟨gb127, 2, none⟩ = some (.slice A0_2 l0_2.length c0_2) := (blk_cell BK127.out 2).trans rfl
         have hcz18_3 : wr.cell? ⟨gb127, 3, none⟩ = some (.int .i64 a0_3) := (blk_cell BK127.out 3).trans rfl
         have hcz18_4 : wr.cell? ⟨gb127, 4, none⟩ = some (.int .i64 a0_4) := (blk_cell BK127.out 4).trans rfl
         have hcz18_5 : wr.cell? ⟨gb127, 5, none⟩ = some (.int .i64 a0_5) := (blk_cell BK127.out 5).trans rfl
         have hcz18_6 : wr.cell? ⟨gb127, 6, none⟩ = some (.int .i64 a0_6) := (blk_cell BK127.out 6).trans rfl
         have hcz18_7 : wr.cell? ⟨gb127, 7, none⟩ = some (.int .i64 a0_7) := (blk_cell BK127.out 7).trans rfl
         have hcz18_8 : wr.cell? ⟨gb127, 8, none⟩ = some (.slice A0_8 l0_8.length c0_8) := (blk_cell BK127.out 8).trans rfl
         have hcz18_9 : wr.cell? ⟨gb127, 9, none⟩ = some (.int .i64 a0_9) := (blk_cell BK127.out 9).trans rfl
         have hcz18_10 : wr.cell? ⟨gb127, 10, none⟩ = some (.int .i64 a0_10) := (blk_cell BK127.out 10).trans rfl
         have hcz18_11 : wr.cell? ⟨gb127, 11, none⟩ = some (.int .i64 a0_11) := (blk_cell BK127.out 11).trans rfl
         have hcz18_12 : wr.cell? ⟨gb127, 12, none⟩ = some (.int .i64 a0_12) := (blk_cell BK127.out 12).trans rfl
         have hcz18_13 : wr.cell? ⟨gb127, 13, none⟩ = some (.slice A0_13 l0_13.length c0_13) := (blk_cell BK127.out 13).trans rfl
         have hcz18_14 : wr.cell? ⟨gb127, 14, none⟩ = some (.slice A0_14 l0_14.length c0_14) := (blk_cell BK127.out 14).trans rfl
         have hcz18_15 : wr.cell? ⟨gb127, 15, none⟩ = some (.slice A0_15 l0_15.length c0_15) := (blk_cell BK127.out 15).trans rfl
         have hcz18_16 : wr.cell? ⟨gb127, 16, none⟩ = some (.slice A0_16 l0_16.length c0_16) := (blk_cell BK127.out 16).trans rfl
         have hcz18_17 : wr.cell? ⟨gb127, 17, none⟩ = some (.slice A0_17 l0_17.length c0_17) := (blk_cell BK127.out 17).trans rfl
         have hcz18_18 : wr.cell? ⟨gb127, 18, none⟩ = some (.slice A0_18 l0_18.length c0_18) := (blk_cell BK127.out 18).trans rfl
         have hcz18_19 : wr.cell? ⟨gb127, 19, none⟩ = some (.slice A0_19 l0_19.length c0_19) := (blk_cell BK127.out 19).trans rfl
         have hcz18_20 : wr.cell? ⟨gb127, 20, none⟩ = some (.slice A0_20 l0_20.length c0_20) := (blk_cell BK127.out 20).trans rfl
         have hcz18_21 : wr.cell? ⟨gb127, 21, none⟩ = some (.slice A0_21 l0_21.length c0_21) := (blk_cell BK127.out 21).trans rfl
         have hcz18_22 : wr.cell? ⟨gb127, 22, none⟩ = some (.int .i64 a0_22) := (blk_cell BK127.out 22).trans rfl
         have hcz18_23 : wr.cell? ⟨gb127, 23, none⟩ = some (.int .i64 a0_23) := (blk_cell BK127.out 23).trans rfl
         have hcz18_24 : wr.cell? ⟨gb127, 24, none⟩ = some (.slice A0_24 l0_24.length c0_24) := (blk_cell BK127.out 24).trans rfl
         have hcz18_25 : wr.cell? ⟨gb127, 25, none⟩ = some (.slice A0_25 l0_25.length c0_25) := (blk_cell BK127.out 25).trans rfl
         have hfz18_0 := blk_frozen BK127.out 0; have hfz18_1 := blk_frozen BK127.out 1; have hfz18_2 := blk_frozen BK127.out 2; have hfz18_3 := blk_frozen BK127.out 3; have hfz18_4 := blk_frozen BK127.out 4; have hfz18_5 := blk_frozen BK127.out 5; have hfz18_6 := blk_frozen BK127.out 6; have hfz18_7 := blk_frozen BK127.out 7; have hfz18_8 := blk_frozen BK127.out 8; have hfz18_9 := blk_frozen BK127.out 9; have hfz18_10 := blk_frozen BK127.out 10; have hfz18_11 := blk_frozen BK127.out 11; have hfz18_12 := blk_frozen BK127.out 12; have hfz18_13 := blk_frozen BK127.out 13; have hfz18_14 := blk_frozen BK127.out 14; have hfz18_15 := blk_frozen BK127.out 15; have hfz18_16 := blk_frozen BK127.out 16; have hfz18_17 := blk_frozen BK127.out 17; have hfz18_18 := blk_frozen BK127.out 18; have hfz18_19 := blk_frozen BK127.out 19; have hfz18_20 := blk_frozen BK127.out 20; have hfz18_21 := blk_frozen BK127.out 21; have hfz18_22 := blk_frozen BK127.out 22; have hfz18_23 := blk_frozen BK127.out 23; have hfz18_24 := blk_frozen BK127.out 24; have hfz18_25 := blk_frozen BK127.out 25
         have p131 : 0 ≤ (x8_2 : Int) := dT_
         have q131 : x8_2 < (l0_24.length : Int) := dT_
         obtain ⟨ad131, e131, hx131_0, hx131_1, hx131_2, hx131_3, hx131_4, hx131_5⟩ := at_T132 HR0_24.out x8_2 p131 q131
         cases e131
         replace hx131_0 := (HB.out.cell (World.block_lt_of_cell? w _ hx131_0)).trans hx131_0
         replace hx131_1 := (HB.out.cell (World.block_lt_of_cell? w _ hx131_1)).trans hx131_1
         replace hx131_2 := (HB.out.cell (World.block_lt_of_cell? w _ hx131_2)).trans hx131_2
         replace hx131_3 := (HB.out.cell (World.block_lt_of_cell? w _ hx131_3)).trans hx131_3
         replace hx131_4 := (HB.out.cell (World.block_lt_of_cell? w _ hx131_4)).trans hx131_4
         replace hx131_5 := (HB.out.cell (World.block_lt_of_cell? w _ hx131_5)).trans hx131_5
         replace p131 := eq_true p131; replace q131 := eq_true q131
         go_wp2
         go_roundg k2
         case measure => have := HK1.out; have := HK2.out; omega
         case rel => exact ⟨(wrap64 (x5_2 + 1)), (wrap64 (x8_2 + 1)), (by first | rfl | (simp; done) | (simp [*]; done)), (by first | rfl | (simp; done) | (simp [*]; done)), H', ⟨by have := HK1.out; have := HK2.out; omega⟩, ⟨by (with_reducible repeat (first | refine bN_ ?_ _ | refine bD_ ?_ | refine bA_ ?_ _)); exact BK127.out⟩, ⟨bw_⟩⟩
        ·rw [if_neg c17] at H
         have c17b0 : (((rd_T132 l0_24 x8_2).f0) == a1) = false := beq_eq_false_iff_ne.mpr c17
         have c17b1 : (((rd_T132 l0_24 x8_2).f0) != a1) = true := bne_iff_ne.mpr c17
         have H' := aM_ H
         clear H
         have hcz19_0 : wr.cell? ⟨gb127, 0, none⟩ = some (.int .i64 a0_0) := (blk_cell BK127.out 0).trans rfl
         have hcz19_1 : wr.cell? ⟨gb127, 1, none⟩ = some (.slice A0_1 l0_1.length c0_1) := (blk_cell BK127.out 1).trans rfl
         have hcz19_2 : wr.cell? ⟨gb127, 2, none⟩ = some (.slice A0_2 l0_2.length c0_2) := (blk_cell BK127.out 2).trans rfl
         have hcz19_3 : wr.cell? ⟨gb127, 3, none⟩ = some (.int .i64 a0_3) := (blk_cell BK127.out 3).trans rfl
         have hcz19_4 : wr.cell? ⟨gb127, 4, none⟩ = some (.int .i64 a0_4) := (blk_cell BK127.out 4).trans rfl
         have hcz19_5 : wr.cell? ⟨gb127, 5, none⟩ = some (.int .i64 a0_5) := (blk_cell BK127.out 5).trans rfl
         have hcz19_6 : wr.cell? ⟨gb127, 6, none⟩ = some (.int .i64 a0_6) := (blk_cell BK127.out 6).trans rfl
         have hcz19_7 : wr.cell? ⟨gb127, 7, none⟩ = some (.int .i64 a0_7) := (blk_cell BK127.out 7).trans rfl
         have hcz19_8 : wr.cell? ⟨gb127, 8, none⟩ = some (.slice A0_8 l0_8.length c0_8) := (blk_cell BK127.out 8).trans rfl
         have hcz19_9 : wr.cell? ⟨gb127, 9, none⟩ = some (.int .i64 a0_9) := (blk_cell BK127.out 9).trans rfl
         have hcz19_10 : wr.cell? ⟨gb127, 10, none⟩ = some (.int .i64 a0_10) := (blk_cell BK127.out 10).trans rfl
         have hcz19_11 : wr.cell? ⟨gb127, 11, none⟩ = some (.int .i64 a0_11) := (blk_cell BK127.out 11).trans rfl
         have hcz19_12 : wr.cell? ⟨gb127, 12, none⟩ = some (.int .i64 a0_12) := (blk_cell BK127.out 12).trans rfl
         have hcz19_13 : wr.cell? ⟨gb127, 13, none⟩ = some (.slice A0_13 l0_13.length c0_13) := (blk_cell BK127.out 13).trans rfl
         have hcz19_14 : wr.cell? ⟨gb127, 14, none⟩ = some (.slice A0_14 l0_14.length c0_14) := (blk_cell BK127.out 14).trans rfl
         have hcz19_15 : wr.cell? ⟨gb127, 15, none⟩ = some (.slice A0_15 l0_15.length c0_15) := (blk_cell BK127.out 15).trans rfl
         have hcz19_16 : wr.cell? ⟨gb127, 16, none⟩ = some (.slice A0_16 l0_16.length c0_16) := (blk_cell BK127.out 16).trans rfl
         have hcz19_17 : wr.cell? ⟨gb127, 17, none⟩ = some (.slice A0_17 l0_17.length c0_17) := (blk_cell BK127.out 17).trans rfl
         have hcz19_18 : wr.cell? ⟨gb127, 18, none⟩ = some (.slice A0_18 l0_18.length c0_18) := (blk_cell BK127.out 18).trans rfl
         have hcz19_19 : wr.cell? ⟨gb127, 19, none⟩ = some (.slice A0_19 l0_19.length c0_19) := (blk_cell BK127.out 19).trans rfl
         have hcz19_20 : wr.cell? ⟨gb127, 20, none⟩ = some (.slice A0_20 l0_20.length c0_20) := (blk_cell BK127.out 20).trans rfl
         have hcz19_21 : wr.cell? ⟨gb127, 21, none⟩ = some (.slice A0_21 l0_21.length c0_21) := (blk_cell BK127.out 21).trans rfl
         have hcz19_22 : wr.cell? ⟨gb127, 22, none⟩ = some (.int .i64 a0_22) := (blk_cell BK127.out 22).trans rfl
         have hcz19_23 : wr.cell? ⟨gb127, 23, none⟩ = some (.int .i64 a0_23) := (blk_cell BK127.out 23).trans rfl
         have hcz19_24 : wr.cell? ⟨gb127, 24, none⟩ = some (.slice A0_24 l0_24.length c0_24) := (blk_cell BK127.out 24).trans rfl
         have hcz19_25 : wr.cell? ⟨gb127, 25, none⟩ = some (.slice A0_25 l0_25.length c0_25) := (blk_cell BK127.out 25).trans rfl
         have hfz19_0 := blk_frozen BK127.out 0; have hfz19_1 := blk_frozen BK127.out 1; have hfz19_2 := blk_frozen BK127.out 2; have hfz19_3 := blk_frozen BK127.out 3; have hfz19_4 := blk_frozen BK127.out 4; have hfz19_5 := blk_frozen BK127.out 5; have hfz19_6 := blk_frozen BK127.out 6; have hfz19_7 := blk_frozen BK127.out 7; have hfz19_8 := blk_frozen BK127.out 8; have hfz19_9 := blk_frozen BK127.out 9; have hfz19_10 := blk_frozen BK127.out 10; have hfz19_11 := blk_frozen BK127.out 11; have hfz19_12 := blk_frozen BK127.out 12; have hfz19_13 := blk_frozen BK127.out 13; have hfz19_14 := blk_frozen BK127.out 14; have hfz19_15 := blk_frozen BK127.out 15; have hfz19_16 := blk_frozen BK127.out 16; have hfz19_17 := blk_frozen BK127.out 17; have hfz19_18 := blk_frozen BK127.out 18; have hfz19_19 := blk_frozen BK127.out 19; have hfz19_20 := blk_frozen BK127.out 20; have hfz19_21 := blk_frozen BK127.out 21; have hfz19_22 := blk_frozen BK127.out 22; have hfz19_23 := blk_frozen BK127.out 23; have hfz19_24 := blk_frozen BK127.out 24; have hfz19_25 := blk_frozen BK127.out 25
         have p131 : 0 ≤ (x8_2 : Int) := dT_
         have q131 : x8_2 < (l0_24.length : Int) := dT_
         obtain ⟨ad131, e131, hx131_0, hx131_1, hx131_2, hx131_3, hx131_4, hx131_5⟩ := at_T132 HR0_24.out x8_2 p131 q131
         cases e131
         replace hx131_0 := (HB.out.cell (World.block_lt_of_cell? w _ hx131_0)).trans hx131_0
         replace hx131_1 := (HB.out.cell (World.block_lt_of_cell? w _ hx131_1)).trans hx131_1
         replace hx131_2 := (HB.out.cell (World.block_lt_of_cell? w _ hx131_2)).trans hx131_2
         replace hx131_3 := (HB.out.cell (World.block_lt_of_cell? w _ hx131_3)).trans hx131_3
         replace hx131_4 := (HB.out.cell (World.block_lt_of_cell? w _ hx131_4)).trans hx131_4
         replace hx131_5 := (HB.out.cell (World.block_lt_of_cell? w _ hx131_5)).trans hx131_5
         replace p131 := eq_true p131; replace q131 := eq_true q131
         go_wp2
         go_roundg k2
         case measure => have := HK1.out; have := HK2.out; omega
         case rel => exact ⟨(x5_2), (wrap64 (x8_2 + 1)), (by first | rfl | (simp; done) | (simp [*]; done)), (by first | rfl | (simp; done) | (simp [*]; done)), H', ⟨by have := HK1.out; have := HK2.out; omega⟩, ⟨by (with_reducible repeat (first | refine bN_ ?_ _ | refine bD_ ?_ | refine bA_ ?_ _)); exact BK127.out⟩, ⟨bw_⟩⟩
       ·rw [if_neg c16] at H
        exact absurd H (by simp)
      ·rw [if_neg c15] at H
       have c15b0 : decide (x8_2 < (l0_24.length : Int)) = false := decide_eq_false c15
       clear c15
       obtain rfl := Option.some.inj H
       have hcz20_0 : wr.cell? ⟨gb127, 0, none⟩ = some (.int .i64 a0_0) := (blk_cell BK127.out 0).trans rfl
       have hcz20_1 : wr.cell? ⟨gb127, 1, none⟩ = some (.slice A0_1 l0_1.length c0_1) := (blk_cell BK127.out 1).trans rfl
       have hcz20_2 : wr.cell? ⟨gb127, 2, none⟩ = some (.slice A0_2 l0_2.length c0_2) := (blk_cell BK127.out 2).trans rfl
       have hcz20_3 : wr.cell? ⟨gb127, 3, none⟩ = some (.int .i64 a0_3) := (blk_cell BK127.out 3).trans rfl
       have hcz20_4 : wr.cell? ⟨gb127, 4, none⟩ = some (.int .i64 a0_4) := (blk_cell BK127.out 4).trans rfl
       have hcz20_5 : wr.cell? ⟨gb127, 5, none⟩ = some (.int .i64 a0_5) := (blk_cell BK127.out 5).trans rfl
       have hcz20_6 : wr.cell? ⟨gb127, 6, none⟩ = some (.int .i64 a0_6) := (blk_cell BK127.out 6).trans rfl
       have hcz20_7 : wr.cell? ⟨gb127, 7, none⟩ = some (.int .i64 a0_7) := (blk_cell BK127.out 7).trans rfl
       have hcz20_8 : wr.cell? ⟨gb127, 8, none⟩ = some (.slice A0_8 l0_8.length c0_8) := (blk_cell BK127.out 8).trans rfl
       have hcz20_9 : wr.cell? ⟨gb127, 9, none⟩ = some (.int .i64 a0_9) := (blk_cell BK127.out 9).trans rfl
       have hcz20_10 : wr.cell? ⟨gb127, 10, none⟩ = some (.int .i64 a0_10) := (blk_cell BK127.out 10).trans rfl
       have hcz20_11 : wr.cell? ⟨gb127, 11, none⟩ = some (.int .i64 a0_11) := (blk_cell BK127.out 11).trans rfl
       have hcz20_12 : wr.cell? ⟨gb127, 12, none⟩ = some (.int .i64 a0_12) := (blk_cell BK127.out 12).trans rfl
       have hcz20_13 : wr.cell? ⟨gb127, 13, none⟩ = some (.slice A0_13 l0_13.length c0_13) := (blk_cell BK127.out 13).trans rfl
       have hcz20_14 : wr.cell? ⟨gb127, 14, none⟩ = some (.slice A0_14 l0_14.length c0_14) := (blk_cell BK127.out 14).trans rfl
       have hcz20_15 : wr.cell? ⟨gb127, 15, none⟩ = some (.slice A0_15 l0_15.length c0_15) := (blk_cell BK127.out 15).trans rfl
       have hcz20_16 : wr.cell? ⟨gb127, 16, none⟩ = some (.slice A0_16 l0_16.length c0_16) := (blk_cell BK127.out 16).trans rfl
       have hcz20_17 : wr.cell? ⟨gb127, 17, none⟩ = some (.slice A0_17 l0_17.length c0_17) := (blk_cell BK127.out 17).trans rfl
       have hcz20_18 : wr.cell? ⟨gb127, 18, none⟩ = some (.slice A0_18 l0_18.length c0_18) := (blk_cell BK127.out 18).trans rfl
       have hcz20_19 : wr.cell? ⟨gb127, 19, none⟩ = some (.slice A0_19 l0_19.length c0_19) := (blk_cell BK127.out 19).trans rfl
       have hcz20_20 : wr.cell? ⟨gb127, 20, none⟩ = some (.slice A0_20 l0_20.length c0_20) := (blk_cell BK127.out 20).trans rfl
       have hcz20_21 : wr.cell? ⟨gb127, 21, none⟩ = some (.slice A0_21 l0_21.length c0_21) := (blk_cell BK127.out 21).trans rfl
       have hcz20_22 : wr.cell? ⟨gb127, 22, none⟩ = some (.int .i64 a0_22) := (blk_cell BK127.out 22).trans rfl
       have hcz20_23 : wr.cell? ⟨gb127, 23, none⟩ = some (.int .i64 a0_23) := (blk_cell BK127.out 23).trans rfl
       have hcz20_24 : wr.cell? ⟨gb127, 24, none⟩ = some (.slice A0_24 l0_24.length c0_24) := (blk_cell BK127.out 24).trans rfl
       have hcz20_25 : wr.cell? ⟨gb127, 25, none⟩ = some (.slice A0_25 l0_25.length c0_25) := (blk_cell BK127.out 25).trans rfl
       have hfz20_0 := blk_frozen BK127.out 0; have hfz20_1 := blk_frozen BK127.out 1; have hfz20_2 := blk_frozen BK127.out 2; have hfz20_3 := blk_frozen BK127.out 3; have hfz20_4 := blk_frozen BK127.out 4; have hfz20_5 := blk_frozen BK127.out 5; have hfz20_6 := blk_frozen BK127.out 6; have hfz20_7 := blk_frozen BK127.out 7; have hfz20_8 := blk_frozen BK127.out 8; have hfz20_9 := blk_frozen BK127.out 9; have hfz20_10 := blk_frozen BK127.out 10; have hfz20_11 := blk_frozen BK127.out 11; have hfz20_12 := blk_frozen BK127.out 12; have hfz20_13 := blk_frozen BK127.out 13; have hfz20_14 := blk_frozen BK127.out 14; have hfz20_15 := blk_frozen BK127.out 15; have hfz20_16 := blk_frozen BK127.out 16; have hfz20_17 := blk_frozen BK127.out 17; have hfz20_18 := blk_frozen BK127.out 18; have hfz20_19 := blk_frozen BK127.out 19; have hfz20_20 := blk_frozen BK127.out 20; have hfz20_21 := blk_frozen BK127.out 21; have hfz20_22 := blk_frozen BK127.out 22; have hfz20_23 := blk_frozen BK127.out 23; have hfz20_24 := blk_frozen BK127.out 24; have hfz20_25 := blk_frozen BK127.out 25
       go_wp2
       go_ret
       exact ⟨by first | rfl | (simp [errW_none, errW_some] <;> rfl) | (simp [*, errW_none, errW_some] <;> rfl), bw_⟩

end Go.Proofs.Ytlogjmgghnifoaa.PFnExactPacketPlaces
