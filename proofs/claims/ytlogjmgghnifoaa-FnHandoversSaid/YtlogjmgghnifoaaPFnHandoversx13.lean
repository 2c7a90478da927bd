/- The functions that the law reaches, as plain Lean functions, each with the proof that the Go code comes to its answers; conditions: those that each theorem names. (printed by a program of this session) -/
import Derived.Test.YtlogjmgghnifoaaPFnHandoversx0
import Derived.Test.YtlogjmgghnifoaaPFnHandoversx2
import Derived.Test.YtlogjmgghnifoaaPFnHandoversx3
import Derived.Test.YtlogjmgghnifoaaPFnHandoversx4
import Derived.Test.YtlogjmgghnifoaaPFnHandoversx12
namespace Go.Proofs.Ytlogjmgghnifoaa.PFnHandovers
open Go.RowKit Go.Proofs.YtlogjmgghnifoaaW.PrintWords Go.Proofs.YtlogjmgghnifoaaW.PrintLast Go.Proofs.YtlogjmgghnifoaaW.PrintMore
attribute [local go_sem] max2_int min2_int max_two min_two max_three min_three max_four min_four   -- for this text's walks alone
set_option linter.unusedVariables false
set_option linter.unusedSimpArgs false

/-! ### spec_l27Draw: function 105 -/
def spec_l27Draw.f (k : Nat) (s0_0 : List Int) (s0_1 : Int) (s0_2 : Int) : Option (Int × Int × Int × (List (S112)) × Int × Int) := (spec_l11Plan.f k s0_0 s0_1 s0_2 6 20).bind fun bt355 => ((spec_l1Below.f s0_0 bt355.2.1 bt355.2.2 2).bind fun bt360 => ((spec_BuildProgram.f k bt355.1 6 4 0 20 bt360.1).bind fun bt363 => (some (bt363.1, bt363.2.1, bt363.2.2.1, bt363.2.2.2.1, bt360.2.1, bt360.2.2))))
set_option maxHeartbeats 8000000 in
set_option maxRecDepth 100000 in
theorem spec_l27Draw.calls (k : Nat) (g : Nat) (s0_0 : List Int) (s0_1 : Int) (s0_2 : Int) (r1 : Int) (r2 : Int) (r3 : Int) (r4 : List (S112)) (r5 : Int) (r6 : Int) (w0 w : World) (hI : IsS227 w0 w g s0_0 s0_1 s0_2) (hB : Below w0.heap.size w0 w) (h : spec_l27Draw.f k s0_0 s0_1 s0_2 = some (r1, r2, r3, r4, r5, r6)) :
  Calls Try.prog 105 #[.pointer (some ⟨g, 0, none⟩)] w fun e w' => ∃ v3_ : Value, e = .returned (.agg #[.int .i64 r1, .int .i64 r2, .int .i64 r3, v3_]) ∧ Kd.R k112 112 w' w.heap.size (fun _ => True) v3_ r4 ∧ IsS227 w0 w' g s0_0 r5 r6 ∧ Below w0.heap.size w0 w' ∧ KeepBut w w' g none := by
 have hu30 := Try.underlying30; have HI0 := aM_ hI; have HK := aM_ (KeepBut.refl w g none); have HL := aM_ hB.size; clear hI; have HW0 := aM_ hB.size; have HB := aM_ hB; clear hB
 have H : ((spec_l11Plan.f k s0_0 s0_1 s0_2 6 20).bind fun bt355 => ((spec_l1Below.f s0_0 bt355.2.1 bt355.2.2 2).bind fun bt360 => ((spec_BuildProgram.f k bt355.1 6 4 0 20 bt360.1).bind fun bt363 => (some (bt363.1, bt363.2.1, bt363.2.2.1, bt363.2.2.2.1, bt360.2.1, bt360.2.2))))) = some (r1, r2, r3, r4, r5, r6) := h
 clear h
 replace H := Option.bind_eq_some_iff.mp H
 obtain ⟨⟨t355, t358, t359⟩, A20, H⟩ := H
 (try dsimp only at H)
 have A2 := aM_ A20; clear A20
 replace H := Option.bind_eq_some_iff.mp H
 obtain ⟨⟨t360, t361, t362⟩, A30, H⟩ := H
 (try dsimp only at H)
 have A3 := aM_ A30; clear A30
 replace H := Option.bind_eq_some_iff.mp H
 obtain ⟨⟨t363, t364, t365, t366, t369⟩, A40, H⟩ := H
 (try dsimp only at H)
 have A4 := aM_ A40; clear A40
 simp only [Option.some.injEq, Prod.mk.injEq] at H
 obtain ⟨rfl, rfl, rfl, rfl, rfl, rfl⟩ := H
 go_enter Try.func105, Try.ntmps105
 go_wp2_with (first | ((with_reducible refine gate_dst (N := 2) rfl ?_); refine box_event ?hg (N := 2) ?hd (cs := #[.int .i64 0, .int .i64 0, .int .i64 0, .slice none 0 0]) (t := 30) ?hr ?_; (case hd => rfl); (case hg => rfl); (case hr => first | (go_simp; done) | (go_simp; rfl)); intro gb354 hg w5 hbox hb; have n0_ := aM_ (IsS227.below (i227_0 (g := g)) hb); have n1_ := aM_ (KeepBut.trans (kp_ (w := w)) (KeepBut.of_below hb g none) (.inl rfl)); have n2_ := aM_ (wS_ (by repeat (first | (with_reducible first | exact HB.out | apply wA_ | apply wN_ | apply wD_ | refine wE_ ?_ (IsS227.ge HI0.out)) | exact HB.out)) hb); have n3_ := aM_ (hbox); have n4_ := aM_ ((by rw [hg]; exact (keep_size (w := w) (g := g) (row := none) (kp_ (w := w))) : w.heap.size ≤ gb354)); have n5_ := aM_ ((Nat.le_trans HW0.out (by rw [hg]; exact (keep_size (w := w) (g := g) (row := none) (kp_ (w := w))) : w.heap.size ≤ gb354) : w0.heap.size ≤ gb354)); have n6_ := aM_ ((by rw [hg]; exact Nat.ne_of_lt (IsS227.lt (show IsS227 w0 _ g s0_0 s0_1 s0_2 from by repeat (first | (with_reducible first | exact HI0.out | apply IsS227.alloc | apply IsS227.drewN | apply IsS227.drew | apply IsS227.set_1 | apply IsS227.set_2) | exact HI0.out))) : g ≠ gb354)); have n7_ := aM_ ((by rw [hg]; exact Nat.ne_of_gt (IsS227.lt (show IsS227 w0 _ g s0_0 s0_1 s0_2 from by repeat (first | (with_reducible first | exact HI0.out | apply IsS227.alloc | apply IsS227.drewN | apply IsS227.drew | apply IsS227.set_1 | apply IsS227.set_2) | exact HI0.out))) : gb354 ≠ g)); clear HI0 HK HB; have HI0 := n0_; have HK := n1_; have HB := n2_; have BK354 := n3_; have GW354 := n4_; have GE354 := n5_; have NB0_354 := n6_; have NB354_0 := n7_; clear n0_ n1_ n2_ n3_ n4_ n5_ n6_ n7_ hb hbox hg) | ((with_reducible refine gate_callee (f := 160) rfl ?_); refine goesL_ (some 7) rfl rfl Try.func160 (by kernel_rfl) rfl #[.pointer (some ⟨g, 0, none⟩), .int .i64 6, .int .i64 20] rfl (by (try simp only [List.map_toArray, List.map_cons, List.map_nil]); first | done | rfl | (simp only [List.length_drop, List.length_take]; rfl)) ?_; (with_reducible refine (spec_l11Plan.calls k g s0_0 s0_1 s0_2 6 20 t355 t358 t359 w0 _ ?side1 ?side2 A2.out).mono ?_); (case side1 => exact i227_0 (g := g)); (case side2 => repeat (first | (with_reducible first | exact HB.out | apply wA_ | apply wN_ | apply wD_ | refine wE_ ?_ (IsS227.ge HI0.out) | refine wE_ ?_ GE354.out) | exact HB.out)); rintro e w6 ⟨v356, rfl, ho0, hi, hb, hk⟩; refine ⟨_, rfl, ?_⟩; have n0_ := aM_ (KeepBut.blk hk (g' := gb354) (o := .cells #[.int .i64 0, .int .i64 0, .int .i64 0, .slice none 0 0] 30 (0, 0)) (kb_ BK354.out) NB354_0.out (by simp)); have n1_ := aM_ (Kd.R_lower ho0 (keep_size (w := w) (g := g) (row := none) (kp_ (w := w)))); have n2_ := aM_ (KeepBut.trans (kp_ (w := w)) hk (.inl rfl)); have n3_ := aM_ (hb); have n4_ := aM_ (hi); clear BK354 HK HB HI0; have BK354 := n0_; have HO357 := n1_; have HK := n2_; have HB := n3_; have HI0 := n4_; clear n0_ n1_ n2_ n3_ n4_; (try clear hb); (try clear hb2); (try clear hk); (try clear hi); (try clear ho0)) | ((with_reducible refine gate_callee (f := 106) rfl ?_); refine goesL_ (some 9) rfl rfl Try.func106 (by kernel_rfl) rfl #[.pointer (some ⟨g, 0, none⟩), .int .i64 2] rfl (by (try simp only [List.map_toArray, List.map_cons, List.map_nil]); first | done | rfl | (simp only [List.length_drop, List.length_take]; rfl)) ?_; (with_reducible refine (spec_l1Below.calls g s0_0 t358 t359 2 t360 t361 t362 w0 _ ?side1 ?side2 A3.out).mono ?_); (case side1 => exact i227_0 (g := g)); (case side2 => repeat (first | (with_reducible first | exact HB.out | apply wA_ | apply wN_ | apply wD_ | refine wE_ ?_ (IsS227.ge HI0.out) | refine wE_ ?_ GE354.out) | exact HB.out)); rintro e w7 ⟨rfl, hi, hb, hk⟩; refine ⟨_, rfl, ?_⟩; have n0_ := aM_ (KeepBut.blk hk (g' := gb354) (o := .cells #[.int .i64 0, .int .i64 0, .int .i64 0, .slice none 0 0] 30 (0, 0)) (kb_ BK354.out) NB354_0.out (by simp)); have n1_ := aM_ (Kd.R_mono (Kd.R_keep (IsS227.apart (show IsS227 w0 _ g s0_0 t358 t359 from by repeat (first | (with_reducible first | exact HI0.out | apply IsS227.alloc | apply IsS227.drewN | apply IsS227.drew | apply IsS227.set_1 | apply IsS227.set_2 | refine IsS227.far ?_ NB0_354.out _) | exact HI0.out)) (rb_ HO357.out) (by decide)) hk (fun _ h => h.2)) (fun _ h => h.1)); have n2_ := aM_ (KeepBut.trans (kp_ (w := w)) hk (.inl rfl)); have n3_ := aM_ (hb); have n4_ := aM_ (hi); clear BK354 HO357 HK HB HI0; have BK354 := n0_; have HO357 := n1_; have HK := n2_; have HB := n3_; have HI0 := n4_; clear n0_ n1_ n2_ n3_ n4_; (try clear hb); (try clear hb2); (try clear hk); (try clear hi); obtain ⟨Ao8, co8, eo8⟩ := Kd.R_slice HO357.out; subst eo8) | ((with_reducible refine gate_callee (f := 159) rfl ?_); refine goesL_ (some 10) rfl rfl Try.func159 (by kernel_rfl) rfl #[.slice Ao8 t355.length co8, .int .i64 6, .int .i64 4, .int .i64 0, .int .i64 20, .int .i64 t360] rfl (by (try simp only [List.map_toArray, List.map_cons, List.map_nil]); first | done | rfl | (simp only [List.length_drop, List.length_take]; rfl)) ?_; (with_reducible refine (spec_BuildProgram.calls k _ _ t355 6 4 0 20 t360 t363 t364 t365 t366 t369 _ ?side1 ?side2 A4.out).mono ?_); (case side1 => repeat (first | exact (Kd.R_reads' HO357.out).2.2 | (with_reducible refine cA_ ?_ _) | (with_reducible refine cN_ ?_ _) | (with_reducible refine cD_ ?_))); (case side2 => exact (Kd.R_reads' HO357.out).2.1); rintro e w9 ⟨v367, rfl, ho0, hb⟩; refine ⟨_, rfl, ?_⟩; have n0_ := aM_ (rB_ (rb_ HO357.out) hb); have n1_ := aM_ (Kd.R_lower ho0 (keep_size (w := w) (g := g) (row := none) (kp_ (w := w)))); have n2_ := aM_ (IsS227.below (i227_0 (g := g)) hb); have n3_ := aM_ (bB_ (kb_ BK354.out) hb); have n4_ := aM_ (KeepBut.trans (kp_ (w := w)) (KeepBut.of_below hb g none) (.inl rfl)); have n5_ := aM_ (wS_ (by repeat (first | (with_reducible first | exact HB.out | apply wA_ | apply wN_ | apply wD_ | refine wE_ ?_ (IsS227.ge HI0.out) | refine wE_ ?_ GE354.out) | exact HB.out)) hb); clear HO357 HI0 BK354 HK HB; have HO357 := n0_; have HO368 := n1_; have HI0 := n2_; have BK354 := n3_; have HK := n4_; have HB := n5_; clear n0_ n1_ n2_ n3_ n4_ n5_; (try clear hb); (try clear hb2); (try clear hk); (try clear hi); (try clear ho0)) | ((with_reducible refine gate_dst (N := 3) rfl ?_); refine box_event ?hg (N := 3) ?hd (cs := #[.int .i64 0, .int .i64 0, .int .i64 0, .slice none 0 0]) (t := 30) ?hr ?_; (case hd => rfl); (case hg => rfl); (case hr => first | (go_simp; done) | (go_simp; rfl)); intro gb370 hg w10 hbox hb; have n0_ := aM_ (rB_ (rb_ HO357.out) hb); have n1_ := aM_ (rB_ (rb_ HO368.out) hb); have n2_ := aM_ (IsS227.below (i227_0 (g := g)) hb); have n3_ := aM_ (bB_ (kb_ BK354.out) hb); have n4_ := aM_ (KeepBut.trans (kp_ (w := w)) (KeepBut.of_below hb g none) (.inl rfl)); have n5_ := aM_ (wS_ (by repeat (first | (with_reducible first | exact HB.out | apply wA_ | apply wN_ | apply wD_ | refine wE_ ?_ (IsS227.ge HI0.out) | refine wE_ ?_ GE354.out) | exact HB.out)) hb); have n6_ := aM_ (hbox); have n7_ := aM_ ((by rw [hg]; exact (keep_size (w := w) (g := g) (row := none) (kp_ (w := w))) : w.heap.size ≤ gb370)); have n8_ := aM_ ((Nat.le_trans HW0.out (by rw [hg]; exact (keep_size (w := w) (g := g) (row := none) (kp_ (w := w))) : w.heap.size ≤ gb370) : w0.heap.size ≤ gb370)); have n9_ := aM_ ((by rw [hg]; exact Nat.ne_of_lt (blk_lt (kb_ BK354.out)) : gb354 ≠ gb370)); have n10_ := aM_ ((by rw [hg]; exact Nat.ne_of_gt (blk_lt (kb_ BK354.out)) : gb370 ≠ gb354)); have n11_ := aM_ ((by rw [hg]; exact Nat.ne_of_lt (IsS227.lt (show IsS227 w0 _ g s0_0 t361 t362 from by repeat (first | (with_reducible first | exact HI0.out | apply IsS227.alloc | apply IsS227.drewN | apply IsS227.drew | apply IsS227.set_1 | apply IsS227.set_2 | refine IsS227.far ?_ NB0_354.out _) | exact HI0.out))) : g ≠ gb370)); have n12_ := aM_ ((by rw [hg]; exact Nat.ne_of_gt (IsS227.lt (show IsS227 w0 _ g s0_0 t361 t362 from by repeat (first | (with_reducible first | exact HI0.out | apply IsS227.alloc | apply IsS227.drewN | apply IsS227.drew | apply IsS227.set_1 | apply IsS227.set_2 | refine IsS227.far ?_ NB0_354.out _) | exact HI0.out))) : gb370 ≠ g)); clear HO357 HO368 HI0 BK354 HK HB; have HO357 := n0_; have HO368 := n1_; have HI0 := n2_; have BK354 := n3_; have HK := n4_; have HB := n5_; have BK370 := n6_; have GW370 := n7_; have GE370 := n8_; have NB354_370 := n9_; have NB370_354 := n10_; have NB0_370 := n11_; have NB370_0 := n12_; clear n0_ n1_ n2_ n3_ n4_ n5_ n6_ n7_ n8_ n9_ n10_ n11_ n12_ hb hbox hg; have hnb11 := NB370_354.out; have hnc11 := NB354_370.out; have hnb12 := NB370_0.out; have hnc12 := NB0_370.out; obtain ⟨hcz13_0, hcz13_1, hcz13_2, hcz13_3, hfz13_0, hfz13_1, hfz13_2, hfz13_3⟩ := bk4_ BK370.out; obtain ⟨Ao14, co14, eo14⟩ := Kd.R_slice HO368.out; subst eo14; have hnb15 := NB354_0.out; have hnc15 := NB0_354.out; obtain ⟨hcz16_0, hcz16_1, hcz16_2, hcz16_3, hfz16_0, hfz16_1, hfz16_2, hfz16_3⟩ := bk4_ BK354.out))
 refine bodyPost_ret (results_cell_row rfl _ _ gb354 30 #[.int .i64 t363, .int .i64 t364, .int .i64 t365, .slice Ao14 t366.length co14] (0, 0) _ rfl (by (with_reducible repeat (first | refine bN_ ?_ _ | refine bD_ ?_ | refine bA_ ?_ _)); refine blk_put (cs := #[.int .i64 t363, .int .i64 t364, .int .i64 t365, .slice none 0 0]) ?_ 3 _ rfl; (with_reducible repeat (first | refine bN_ ?_ _ | refine bD_ ?_ | refine bA_ ?_ _)); refine blk_put (cs := #[.int .i64 t363, .int .i64 t364, .int .i64 0, .slice none 0 0]) ?_ 2 _ rfl; (with_reducible repeat (first | refine bN_ ?_ _ | refine bD_ ?_ | refine bA_ ?_ _)); refine blk_put (cs := #[.int .i64 t363, .int .i64 0, .int .i64 0, .slice none 0 0]) ?_ 1 _ rfl; (with_reducible repeat (first | refine bN_ ?_ _ | refine bD_ ?_ | refine bA_ ?_ _)); refine blk_put (cs := #[.int .i64 0, .int .i64 0, .int .i64 0, .slice none 0 0]) ?_ 0 _ rfl; (with_reducible repeat (first | refine bN_ ?_ _ | refine bD_ ?_ | refine bA_ ?_ _)); refine blk_far ?_ NB354_370.out _; (with_reducible repeat (first | refine bN_ ?_ _ | refine bD_ ?_ | refine bA_ ?_ _)); refine blk_far ?_ NB354_370.out _; (with_reducible repeat (first | refine bN_ ?_ _ | refine bD_ ?_ | refine bA_ ?_ _)); refine blk_far ?_ NB354_370.out _; (with_reducible repeat (first | refine bN_ ?_ _ | refine bD_ ?_ | refine bA_ ?_ _)); refine blk_far ?_ NB354_370.out _; (with_reducible repeat (first | refine bN_ ?_ _ | refine bD_ ?_ | refine bA_ ?_ _)); exact BK354.out) Try.underlying30 rfl (by kernel_rfl)) rfl ?_
 exact ⟨_, by first | rfl | (simp [errW_none, errW_some] <;> rfl) | (simp [*, errW_none, errW_some] <;> rfl), by (with_reducible repeat (first | apply rA_ | apply rN_ | apply rD_)); exact Kd.R_mono (Kd.R_far (p := ⟨gb354, 3, none⟩) (Kd.R_far (p := ⟨gb354, 2, none⟩) (Kd.R_far (p := ⟨gb354, 1, none⟩) (Kd.R_far (p := ⟨gb354, 0, none⟩) (Kd.R_far (p := ⟨gb370, 3, none⟩) (Kd.R_far (p := ⟨gb370, 2, none⟩) (Kd.R_far (p := ⟨gb370, 1, none⟩) (Kd.R_far (p := ⟨gb370, 0, none⟩) (Kd.R_types (Kd.R_types HO368.out BK370.out (by decide)) BK354.out (by decide)) (fun _ hk => hk.1.2) (.int .i64 t363)) (fun _ hk => hk.1.2) (.int .i64 t364)) (fun _ hk => hk.1.2) (.int .i64 t365)) (fun _ hk => hk.1.2) (.slice Ao14 t366.length co14)) (fun _ hk => hk.2) (.int .i64 t363)) (fun _ hk => hk.2) (.int .i64 t364)) (fun _ hk => hk.2) (.int .i64 t365)) (fun _ hk => hk.2) (.slice Ao14 t366.length co14)) (fun _ hk => trivial), by repeat (first | (with_reducible first | exact HI0.out | apply IsS227.alloc | apply IsS227.drewN | apply IsS227.drew | apply IsS227.set_1 | apply IsS227.set_2 | refine IsS227.far ?_ NB0_354.out _ | refine IsS227.far ?_ NB0_370.out _) | exact HI0.out), by repeat (first | (with_reducible first | exact HB.out | apply wA_ | apply wN_ | apply wD_ | refine wE_ ?_ (IsS227.ge HI0.out) | refine wE_ ?_ GE354.out | refine wE_ ?_ GE370.out) | exact HB.out), by repeat (first | (with_reducible first | exact HK.out | apply KeepBut.set_ | apply keep_drewN | apply keep_drew | apply keep_alloc | refine keep_far ?_ GW354.out _ | refine keep_far ?_ GW370.out _) | exact HK.out)⟩

/-! ### spec_DrawHandoversOf: function 34 -/
def spec_DrawHandoversOf.f (k : Nat) (l0 : List Int) : Option (Int × Int × Int × (List (S112)) × Int) := (spec_l1New.f k l0).bind fun bt372 => ((spec_l27Draw.f k bt372.1 bt372.2.1 bt372.2.2).bind fun bt376 => ((spec_l1Below.f bt372.1 bt376.2.2.2.2.1 bt376.2.2.2.2.2 4).bind fun bt385 => (some (bt376.1, bt376.2.1, bt376.2.2.1, bt376.2.2.2.1, wrap64 (3 + bt385.1)))))
set_option maxHeartbeats 8000000 in
set_option maxRecDepth 100000 in
theorem spec_DrawHandoversOf.calls (k : Nat) (A0 : Option Addr) (c0 : Nat) (l0 : List Int) (r1 : Int) (r2 : Int) (r3 : Int) (r4 : List (S112)) (r5 : Int) (w : World) (hr0 : Kd.C (Kd.int .u8) w A0 l0.length l0) (hc0 : l0.length ≤ c0) (h : spec_DrawHandoversOf.f k l0 = some (r1, r2, r3, r4, r5)) :
  Calls Try.prog 34 #[.slice A0 l0.length c0] w fun e w' => ∃ v3_ : Value, e = .returned (.tuple #[.agg #[.int .i64 r1, .int .i64 r2, .int .i64 r3, v3_], .int .i64 r5]) ∧ Kd.R k112 112 w' w.heap.size (fun _ => True) v3_ r4 ∧ Below w.heap.size w w' := by
 have hu30 := Try.underlying30; have HR0 := aM_ hr0; have HC0 := aM_ hc0; clear hr0 hc0; have HB := aM_ (Below.refl w.heap.size w)
 have H : ((spec_l1New.f k l0).bind fun bt372 => ((spec_l27Draw.f k bt372.1 bt372.2.1 bt372.2.2).bind fun bt376 => ((spec_l1Below.f bt372.1 bt376.2.2.2.2.1 bt376.2.2.2.2.2 4).bind fun bt385 => (some (bt376.1, bt376.2.1, bt376.2.2.1, bt376.2.2.2.1, wrap64 (3 + bt385.1)))))) = some (r1, r2, r3, r4, r5) := h
 clear h
 replace H := Option.bind_eq_some_iff.mp H
 obtain ⟨⟨t372, t373, t374⟩, A20, H⟩ := H
 (try dsimp only at H)
 have A2 := aM_ A20; clear A20
 replace H := Option.bind_eq_some_iff.mp H
 obtain ⟨⟨t376, t377, t378, t379, t382, t383⟩, A30, H⟩ := H
 (try dsimp only at H)
 have A3 := aM_ A30; clear A30
 replace H := Option.bind_eq_some_iff.mp H
 obtain ⟨⟨t385, t386, t387⟩, A40, H⟩ := H
 (try dsimp only at H)
 have A4 := aM_ A40; clear A40
 simp only [Option.some.injEq, Prod.mk.injEq] at H
 obtain ⟨rfl, rfl, rfl, rfl, rfl⟩ := H
 go_enter Try.func34, Try.ntmps34
 try go_wp2_with (first | ((with_reducible refine gate_dst (N := 2) rfl ?_); refine box_event ?hg (N := 2) ?hd (cs := #[.int .i64 0, .int .i64 0, .int .i64 0, .slice none 0 0]) (t := 30) ?hr ?_; (case hd => rfl); (case hg => rfl); (case hr => first | (go_simp; done) | (go_simp; rfl)); intro gb371 hg w5 hbox hb; have n0_ := aM_ (wS_ (bw_) hb); have n1_ := aM_ (hbox); have n2_ := aM_ ((by rw [hg]; exact (sZ_ (bw_)) : w.heap.size ≤ gb371)); have n3_ := aM_ ((by rw [hg]; exact (sZ_ (bw_)) : w.heap.size ≤ gb371)); clear HB; have HB := n0_; have BK371 := n1_; have GW371 := n2_; have GE371 := n3_; clear n0_ n1_ n2_ n3_ hb hbox hg) | ((with_reducible refine gate_callee (f := 104) rfl ?_); refine goesL_ (some 7) rfl rfl Try.func104 (by kernel_rfl) rfl #[.slice A0 l0.length c0] rfl (by (try simp only [List.map_toArray, List.map_cons, List.map_nil]); first | done | rfl | (simp only [List.length_drop, List.length_take]; rfl)) ?_; (with_reducible refine (spec_l1New.calls k _ _ l0 t372 t373 t374 w _ ?side1 ?side2 ?side3 A2.out).mono ?_); (case side1 => repeat (first | (with_reducible first | exact HB.out | apply wA_ | apply wN_ | apply wD_ | refine wE_ ?_ GE371.out) | exact HB.out)); (case side2 => exact HR0.out); (case side3 => exact HC0.out); rintro e w6 ⟨g375, rfl, hi, hb, hb2⟩; refine ⟨_, rfl, ?_⟩; have n0_ := aM_ (bB_ (kb_ BK371.out) hb2); have n1_ := aM_ (hb); have n2_ := aM_ (hi); have n3_ := aM_ (IsS227.ne_blk hi (bB_ (kb_ BK371.out) hb2) (by decide)); have n4_ := aM_ (Ne.symm (IsS227.ne_blk hi (bB_ (kb_ BK371.out) hb2) (by decide))); clear BK371 HB; have BK371 := n0_; have HB := n1_; have HI375 := n2_; have NB375_371 := n3_; have NB371_375 := n4_; clear n0_ n1_ n2_ n3_ n4_; (try clear hb); (try clear hb2); (try clear hk); (try clear hi)) | ((with_reducible refine gate_callee (f := 105) rfl ?_); refine goesL_ (some 9) rfl rfl Try.func105 (by kernel_rfl) rfl #[.pointer (some ⟨g375, 0, none⟩)] rfl (by (try simp only [List.map_toArray, List.map_cons, List.map_nil]); first | done | rfl | (simp only [List.length_drop, List.length_take]; rfl)) ?_; (with_reducible refine (spec_l27Draw.calls k g375 t372 t373 t374 t376 t377 t378 t379 t382 t383 w _ ?side1 ?side2 A3.out).mono ?_); (case side1 => exact i227_375 (g := g375)); (case side2 => repeat (first | (with_reducible first | exact HB.out | apply wA_ | apply wN_ | apply wD_ | refine wE_ ?_ (IsS227.ge HI375.out) | refine wE_ ?_ GE371.out) | exact HB.out)); rintro e w7 ⟨v380, rfl, ho0, hi, hb, hk⟩; refine ⟨_, rfl, ?_⟩; have n0_ := aM_ (KeepBut.blk hk (g' := gb371) (o := .cells #[.int .i64 0, .int .i64 0, .int .i64 0, .slice none 0 0] 30 (0, 0)) (kb_ BK371.out) NB371_375.out (by simp)); have n1_ := aM_ (Kd.R_lower ho0 (sZ_ (by repeat (first | (with_reducible first | exact HB.out | apply wA_ | apply wN_ | apply wD_ | refine wE_ ?_ (IsS227.ge HI375.out) | refine wE_ ?_ GE371.out) | exact HB.out)))); have n2_ := aM_ (hb); have n3_ := aM_ (hi); clear BK371 HB HI375; have BK371 := n0_; have HO381 := n1_; have HB := n2_; have HI375 := n3_; clear n0_ n1_ n2_ n3_; (try clear hb); (try clear hb2); (try clear hk); (try clear hi); (try clear ho0)) | ((with_reducible refine gate_dst (N := 5) rfl ?_); refine box_event ?hg (N := 5) ?hd (cs := #[.int .i64 0, .int .i64 0, .int .i64 0, .slice none 0 0]) (t := 30) ?hr ?_; (case hd => rfl); (case hg => rfl); (case hr => first | (go_simp; done) | (go_simp; rfl)); intro gb384 hg w8 hbox hb; have n0_ := aM_ (rB_ (rb_ HO381.out) hb); have n1_ := aM_ (bB_ (kb_ BK371.out) hb); have n2_ := aM_ (IsS227.below (i227_375 (g := g375)) hb); have n3_ := aM_ (wS_ (by repeat (first | (with_reducible first | exact HB.out | apply wA_ | apply wN_ | apply wD_ | refine wE_ ?_ (IsS227.ge HI375.out) | refine wE_ ?_ GE371.out) | exact HB.out)) hb); have n4_ := aM_ (hbox); have n5_ := aM_ ((by rw [hg]; exact (sZ_ (by repeat (first | (with_reducible first | exact HB.out | apply wA_ | apply wN_ | apply wD_ | refine wE_ ?_ (IsS227.ge HI375.out) | refine wE_ ?_ GE371.out) | exact HB.out))) : w.heap.size ≤ gb384)); have n6_ := aM_ ((by rw [hg]; exact (sZ_ (by repeat (first | (with_reducible first | exact HB.out | apply wA_ | apply wN_ | apply wD_ | refine wE_ ?_ (IsS227.ge HI375.out) | refine wE_ ?_ GE371.out) | exact HB.out))) : w.heap.size ≤ gb384)); have n7_ := aM_ ((by rw [hg]; exact Nat.ne_of_lt (blk_lt (kb_ BK371.out)) : gb371 ≠ gb384)); have n8_ := aM_ ((by rw [hg]; exact Nat.ne_of_gt (blk_lt (kb_ BK371.out)) : gb384 ≠ gb371)); have n9_ := aM_ ((by rw [hg]; exact Nat.ne_of_lt (IsS227.lt (show IsS227 w _ g375 t372 t382 t383 from by repeat (first | (with_reducible first | exact HI375.out | apply IsS227.alloc | apply IsS227.drewN | apply IsS227.drew | apply IsS227.set_1 | apply IsS227.set_2 | refine IsS227.far ?_ NB375_371.out _) | exact HI375.out))) : g375 ≠ gb384)); have n10_ := aM_ ((by rw [hg]; exact Nat.ne_of_gt (IsS227.lt (show IsS227 w _ g375 t372 t382 t383 from by repeat (first | (with_reducible first | exact HI375.out | apply IsS227.alloc | apply IsS227.drewN | apply IsS227.drew | apply IsS227.set_1 | apply IsS227.set_2 | refine IsS227.far ?_ NB375_371.out _) | exact HI375.out))) : gb384 ≠ g375)); clear HO381 BK371 HI375 HB; have HO381 := n0_; have BK371 := n1_; have HI375 := n2_; have HB := n3_; have BK384 := n4_; have GW384 := n5_; have GE384 := n6_; have NB371_384 := n7_; have NB384_371 := n8_; have NB375_384 := n9_; have NB384_375 := n10_; clear n0_ n1_ n2_ n3_ n4_ n5_ n6_ n7_ n8_ n9_ n10_ hb hbox hg; have hnb9 := NB384_371.out; have hnc9 := NB371_384.out; have hnb10 := NB384_375.out; have hnc10 := NB375_384.out; obtain ⟨hcz11_0, hcz11_1, hcz11_2, hcz11_3, hfz11_0, hfz11_1, hfz11_2, hfz11_3⟩ := bk4_ BK384.out; obtain ⟨Ao12, co12, eo12⟩ := Kd.R_slice HO381.out; subst eo12))
 have n0_ : Aside0 (Kd.R k112 112 ((((w8.setCell ⟨gb384, 0, none⟩ (.int .i64 t376)).setCell ⟨gb384, 1, none⟩ (.int .i64 t377)).setCell ⟨gb384, 2, none⟩ (.int .i64 t378)).setCell ⟨gb384, 3, none⟩ (.slice Ao12 t379.length co12)) w.heap.size (fun _ => True) (.slice Ao12 t379.length co12) t379) := ⟨by (with_reducible repeat (first | apply rA_ | apply rN_ | apply rD_)); exact Kd.R_mono (Kd.R_far (p := ⟨gb384, 3, none⟩) (Kd.R_far (p := ⟨gb384, 2, none⟩) (Kd.R_far (p := ⟨gb384, 1, none⟩) (Kd.R_far (p := ⟨gb384, 0, none⟩) (Kd.R_types HO381.out BK384.out (by decide)) (fun _ hk => hk.2) (.int .i64 t376)) (fun _ hk => hk.2) (.int .i64 t377)) (fun _ hk => hk.2) (.int .i64 t378)) (fun _ hk => hk.2) (.slice Ao12 t379.length co12)) (fun _ hk => trivial)⟩
 have n1_ : Aside0 (((((w8.setCell ⟨gb384, 0, none⟩ (.int .i64 t376)).setCell ⟨gb384, 1, none⟩ (.int .i64 t377)).setCell ⟨gb384, 2, none⟩ (.int .i64 t378)).setCell ⟨gb384, 3, none⟩ (.slice Ao12 t379.length co12)).heap[gb371]? = some (.cells #[.int .i64 0, .int .i64 0, .int .i64 0, .slice none 0 0] 30 (0, 0))) := ⟨by (with_reducible repeat (first | refine bN_ ?_ _ | refine bD_ ?_ | refine bA_ ?_ _)); refine blk_far ?_ NB371_384.out _; (with_reducible repeat (first | refine bN_ ?_ _ | refine bD_ ?_ | refine bA_ ?_ _)); refine blk_far ?_ NB371_384.out _; (with_reducible repeat (first | refine bN_ ?_ _ | refine bD_ ?_ | refine bA_ ?_ _)); refine blk_far ?_ NB371_384.out _; (with_reducible repeat (first | refine bN_ ?_ _ | refine bD_ ?_ | refine bA_ ?_ _)); refine blk_far ?_ NB371_384.out _; (with_reducible repeat (first | refine bN_ ?_ _ | refine bD_ ?_ | refine bA_ ?_ _)); exact BK371.out⟩
 have n2_ : Aside0 (((((w8.setCell ⟨gb384, 0, none⟩ (.int .i64 t376)).setCell ⟨gb384, 1, none⟩ (.int .i64 t377)).setCell ⟨gb384, 2, none⟩ (.int .i64 t378)).setCell ⟨gb384, 3, none⟩ (.slice Ao12 t379.length co12)).heap[gb384]? = some (.cells #[.int .i64 t376, .int .i64 t377, .int .i64 t378, .slice Ao12 t379.length co12] 30 (0, 0))) := ⟨by (with_reducible repeat (first | refine bN_ ?_ _ | refine bD_ ?_ | refine bA_ ?_ _)); refine blk_put (cs := #[.int .i64 t376, .int .i64 t377, .int .i64 t378, .slice none 0 0]) ?_ 3 _ rfl; (with_reducible repeat (first | refine bN_ ?_ _ | refine bD_ ?_ | refine bA_ ?_ _)); refine blk_put (cs := #[.int .i64 t376, .int .i64 t377, .int .i64 0, .slice none 0 0]) ?_ 2 _ rfl; (with_reducible repeat (first | refine bN_ ?_ _ | refine bD_ ?_ | refine bA_ ?_ _)); refine blk_put (cs := #[.int .i64 t376, .int .i64 0, .int .i64 0, .slice none 0 0]) ?_ 1 _ rfl; (with_reducible repeat (first | refine bN_ ?_ _ | refine bD_ ?_ | refine bA_ ?_ _)); refine blk_put (cs := #[.int .i64 0, .int .i64 0, .int .i64 0, .slice none 0 0]) ?_ 0 _ rfl; (with_reducible repeat (first | refine bN_ ?_ _ | refine bD_ ?_ | refine bA_ ?_ _)); exact BK384.out⟩
 have n3_ : Aside0 (IsS227 w ((((w8.setCell ⟨gb384, 0, none⟩ (.int .i64 t376)).setCell ⟨gb384, 1, none⟩ (.int .i64 t377)).setCell ⟨gb384, 2, none⟩ (.int .i64 t378)).setCell ⟨gb384, 3, none⟩ (.slice Ao12 t379.length co12)) g375 t372 t382 t383) := ⟨by repeat (first | (with_reducible first | exact HI375.out | apply IsS227.alloc | apply IsS227.drewN | apply IsS227.drew | apply IsS227.set_1 | apply IsS227.set_2 | refine IsS227.far ?_ NB375_371.out _ | refine IsS227.far ?_ NB375_384.out _) | exact HI375.out)⟩
 have n4_ : Aside0 (Below w.heap.size w ((((w8.setCell ⟨gb384, 0, none⟩ (.int .i64 t376)).setCell ⟨gb384, 1, none⟩ (.int .i64 t377)).setCell ⟨gb384, 2, none⟩ (.int .i64 t378)).setCell ⟨gb384, 3, none⟩ (.slice Ao12 t379.length co12))) := ⟨by repeat (first | (with_reducible first | exact HB.out | apply wA_ | apply wN_ | apply wD_ | refine wE_ ?_ (IsS227.ge HI375.out) | refine wE_ ?_ GE371.out | refine wE_ ?_ GE384.out) | exact HB.out)⟩
 (try clear HO381); (try clear BK371); (try clear BK384); (try clear HI375); (try clear HB)
 generalize ((((w8.setCell ⟨gb384, 0, none⟩ (.int .i64 t376)).setCell ⟨gb384, 1, none⟩ (.int .i64 t377)).setCell ⟨gb384, 2, none⟩ (.int .i64 t378)).setCell ⟨gb384, 3, none⟩ (.slice Ao12 t379.length co12)) = w13 at n0_ n1_ n2_ n3_ n4_ ⊢
 have HO381 := n0_; have BK371 := n1_; have BK384 := n2_; have HI375 := n3_; have HB := n4_; clear n0_ n1_ n2_ n3_ n4_; have n0_ := aM_ (rD_ HO381.out); have n1_ := aM_ (bD_ BK371.out); have n2_ := aM_ (bD_ BK384.out); have n3_ := aM_ (IsS227.drew HI375.out); have n4_ := aM_ (wD_ HB.out); clear HO381 BK371 BK384 HI375 HB; have HO381 := n0_; have BK371 := n1_; have BK384 := n2_; have HI375 := n3_; have HB := n4_; clear n0_ n1_ n2_ n3_ n4_
 refine start_ (n := 6) (S := fun w' => w'.cell? ⟨gb384, 0, none⟩ = some (.int .i64 t376) ∧ w'.cell? ⟨gb384, 1, none⟩ = some (.int .i64 t377) ∧ w'.cell? ⟨gb384, 2, none⟩ = some (.int .i64 t378) ∧ w'.cell? ⟨gb384, 3, none⟩ = some (.slice Ao12 t379.length co12)) (ds := []) #[false, false, false, false, false, false] (by kernel_rfl) rfl rfl ⟨(blk_cell BK384.out 0).trans rfl, (blk_cell BK384.out 1).trans rfl, (blk_cell BK384.out 2).trans rfl, (blk_cell BK384.out 3).trans rfl⟩ (fun hHeld => ?_)
 generalize w13.drew = w14 at HO381 BK371 BK384 HI375 HB hHeld ⊢
 refine pu_ 1 (some 11) #[false, true, false, false, false, false] rfl rfl ?_
 refine tk4_ 0 (some 10) #[true, true, false, false, false, false] rfl rfl ?_
 refine one_ (i := 2) (N := some 12) #[true, true, true, false, false, false] rfl rfl (by kernel_rfl) (by decide) (fun K hK => ?_)
 refine goes_ Try.func106 (by kernel_rfl) rfl #[.pointer (some ⟨g375, 0, none⟩), .int .i64 4] (by rfl) rfl rfl (by (try simp only [List.map_toArray, List.map_cons, List.map_nil]); first | done | rfl | (simp only [List.length_drop, List.length_take]; rfl)) ?_
 with_reducible refine (spec_l1Below.calls g375 t372 t382 t383 4 t385 t386 t387 w _ ?side1 ?side2 A4.out).mono ?_
 (case side1 => exact i227_375 (g := g375))
 (case side2 => repeat (first | (with_reducible first | exact HB.out | apply wA_ | apply wN_ | apply wD_ | refine wE_ ?_ (IsS227.ge HI375.out) | refine wE_ ?_ GE371.out | refine wE_ ?_ GE384.out) | exact HB.out))
 rintro e w15 ⟨rfl, hi, hb, hk⟩
 refine ⟨_, rfl, ?_⟩
 have n0_ := aM_ (KeepBut.blk hk (g' := gb371) (o := .cells #[.int .i64 0, .int .i64 0, .int .i64 0, .slice none 0 0] 30 (0, 0)) (kb_ BK371.out) NB371_375.out (by simp)); have n1_ := aM_ (Kd.R_mono (Kd.R_keep (IsS227.apart (show IsS227 w _ g375 t372 t382 t383 from by repeat (first | (with_reducible first | exact HI375.out | apply IsS227.alloc | apply IsS227.drewN | apply IsS227.drew | apply IsS227.set_1 | apply IsS227.set_2 | refine IsS227.far ?_ NB375_371.out _ | refine IsS227.far ?_ NB375_384.out _) | exact HI375.out)) (rb_ HO381.out) (by decide)) hk (fun _ h => h.2)) (fun _ h => h.1)); have n2_ := aM_ (KeepBut.blk hk (g' := gb384) (o := .cells #[.int .i64 t376, .int .i64 t377, .int .i64 t378, .slice Ao12 t379.length co12] 30 (0, 0)) (kb_ BK384.out) NB384_375.out (by simp)); have n3_ := aM_ (hb); have n4_ := aM_ (hi); clear BK371 HO381 BK384 HB HI375; have BK371 := n0_; have HO381 := n1_; have BK384 := n2_; have HB := n3_; have HI375 := n4_; clear n0_ n1_ n2_ n3_ n4_; (try clear hb); (try clear hb2); (try clear hk); (try clear hi)
 refine hK.out _ _ ⟨(blk_cell BK384.out 0).trans rfl, (blk_cell BK384.out 1).trans rfl, (blk_cell BK384.out 2).trans rfl, (blk_cell BK384.out 3).trans rfl⟩ (fun hHeld => ?_)
 clear hK K
 refine norm_ (a' := ?_) ?_ ?_
 rotate_left
 ·show Act.put _ (some 12) _ = _
  simp only [Act.put, List.setIfInBounds_toArray, List.set_cons_zero, List.set_cons_succ, i64_w, i32_w]
  rfl
 refine pu_ 3 (some 13) #[true, true, true, true, false, false] rfl rfl ?_
 refine one_ (i := 4) (N := none) #[true, true, true, true, true, false] rfl rfl (by kernel_rfl) (by decide) (fun K hK => ?_)
 have hs16 : w15.cell? ⟨gb371, 0, none⟩ = some (.int .i64 0) := (blk_cell BK371.out 0).trans rfl
 have hfs16 := blk_frozen BK371.out 0; have hns16_1 := NB384_371.out; have hms16_1 := NB371_384.out
 have hs17 : w15.cell? ⟨gb371, 1, none⟩ = some (.int .i64 0) := (blk_cell BK371.out 1).trans rfl
 have hfs17 := blk_frozen BK371.out 1; have hns17_1 := NB384_371.out; have hms17_1 := NB371_384.out
 have hs18 : w15.cell? ⟨gb371, 2, none⟩ = some (.int .i64 0) := (blk_cell BK371.out 2).trans rfl
 have hfs18 := blk_frozen BK371.out 2; have hns18_1 := NB384_371.out; have hms18_1 := NB371_384.out
 have hs19 : w15.cell? ⟨gb371, 3, none⟩ = some (.slice none 0 0) := (blk_cell BK371.out 3).trans rfl
 have hfs19 := blk_frozen BK371.out 3; have hns19_1 := NB384_371.out; have hms19_1 := NB371_384.out
 refine skip_ (w1 := ?_) (by rfl) rfl ?_ ?_
 rotate_left
 ·go_simp
  rfl
 refine hK.out _ _ ⟨((cell_far (p := ⟨gb371, _, none⟩) NB384_371.out _).trans (((cell_far (p := ⟨gb371, _, none⟩) NB384_371.out _).trans (((cell_far (p := ⟨gb371, _, none⟩) NB384_371.out _).trans (((cell_far (p := ⟨gb371, _, none⟩) NB384_371.out _).trans (hHeld.1)))))))), ((cell_far (p := ⟨gb371, _, none⟩) NB384_371.out _).trans (((cell_far (p := ⟨gb371, _, none⟩) NB384_371.out _).trans (((cell_far (p := ⟨gb371, _, none⟩) NB384_371.out _).trans (((cell_far (p := ⟨gb371, _, none⟩) NB384_371.out _).trans (hHeld.2.1)))))))), ((cell_far (p := ⟨gb371, _, none⟩) NB384_371.out _).trans (((cell_far (p := ⟨gb371, _, none⟩) NB384_371.out _).trans (((cell_far (p := ⟨gb371, _, none⟩) NB384_371.out _).trans (((cell_far (p := ⟨gb371, _, none⟩) NB384_371.out _).trans (hHeld.2.2.1)))))))), ((cell_far (p := ⟨gb371, _, none⟩) NB384_371.out _).trans (((cell_far (p := ⟨gb371, _, none⟩) NB384_371.out _).trans (((cell_far (p := ⟨gb371, _, none⟩) NB384_371.out _).trans (((cell_far (p := ⟨gb371, _, none⟩) NB384_371.out _).trans (hHeld.2.2.2))))))))⟩ (fun hHeld => ?_)
 clear hK K
 refine pu_ 5 (some 3) #[true, true, true, true, true, true] rfl rfl ?_
 refine done_ (by kernel_rfl) ?_
 try go_wp2
 refine bodyPost_ret (results_ct rfl _ _ gb371 30 #[.int .i64 t376, .int .i64 t377, .int .i64 t378, .slice Ao12 t379.length co12] (0, 0) _ rfl (by (with_reducible repeat (first | refine bN_ ?_ _ | refine bD_ ?_ | refine bA_ ?_ _)); refine blk_put (cs := #[.int .i64 t376, .int .i64 t377, .int .i64 t378, .slice none 0 0]) ?_ 3 _ rfl; (with_reducible repeat (first | refine bN_ ?_ _ | refine bD_ ?_ | refine bA_ ?_ _)); refine blk_put (cs := #[.int .i64 t376, .int .i64 t377, .int .i64 0, .slice none 0 0]) ?_ 2 _ rfl; (with_reducible repeat (first | refine bN_ ?_ _ | refine bD_ ?_ | refine bA_ ?_ _)); refine blk_put (cs := #[.int .i64 t376, .int .i64 0, .int .i64 0, .slice none 0 0]) ?_ 1 _ rfl; (with_reducible repeat (first | refine bN_ ?_ _ | refine bD_ ?_ | refine bA_ ?_ _)); refine blk_put (cs := #[.int .i64 0, .int .i64 0, .int .i64 0, .slice none 0 0]) ?_ 0 _ rfl; (with_reducible repeat (first | refine bN_ ?_ _ | refine bD_ ?_ | refine bA_ ?_ _)); exact BK371.out) Try.underlying30 rfl (by kernel_rfl)) rfl ?_
 exact ⟨_, by first | rfl | (simp [errW_none, errW_some] <;> rfl) | (simp [*, errW_none, errW_some] <;> rfl), by (with_reducible repeat (first | apply rA_ | apply rN_ | apply rD_)); exact Kd.R_mono (Kd.R_far (p := ⟨gb371, 3, none⟩) (Kd.R_far (p := ⟨gb371, 2, none⟩) (Kd.R_far (p := ⟨gb371, 1, none⟩) (Kd.R_far (p := ⟨gb371, 0, none⟩) (Kd.R_types HO381.out BK371.out (by decide)) (fun _ hk => hk.2) (.int .i64 t376)) (fun _ hk => hk.2) (.int .i64 t377)) (fun _ hk => hk.2) (.int .i64 t378)) (fun _ hk => hk.2) (.slice Ao12 t379.length co12)) (fun _ hk => trivial), by repeat (first | (with_reducible first | exact HB.out | apply wA_ | apply wN_ | apply wD_ | refine wE_ ?_ (IsS227.ge HI375.out) | refine wE_ ?_ GE371.out | refine wE_ ?_ GE384.out) | exact HB.out)⟩

/-! ### slices_Equal_int_int: function 107 -/
def slices_Equal_int_int.l0 : Nat → List Int → List Int → Int → Int → Option (Bool)
  | 0, _, _, _, _ => none
  | k + 1, x0, x1, x12, x13 => if x13 < x12 then (if 0 ≤ x13 then (if x13 < (x0.length : Int) then (if x13 < (x1.length : Int) then (if (rd x0 x13) = (rd x1 x13) then (slices_Equal_int_int.l0 k x0 x1 x12 (wrap64 (x13 + 1))) else (some false)) else (none)) else (none)) else (none)) else (some true)
def slices_Equal_int_int.f (k : Nat) (l0 : List Int) (l1 : List Int) : Option (Bool) := if (l0.length : Int) = (l1.length : Int) then (slices_Equal_int_int.l0 k l0 l1 (l0.length : Int) 0) else (some false)
set_option maxHeartbeats 8000000 in
set_option maxRecDepth 100000 in
theorem slices_Equal_int_int.calls (k : Nat) (A0 : Option Addr) (c0 : Nat) (l0 : List Int) (A1 : Option Addr) (c1 : Nat) (l1 : List Int) (r : Bool) (w : World) (hr0 : Kd.C (Kd.int .i64) w A0 l0.length l0) (hc0 : l0.length ≤ c0) (hr1 : Kd.C (Kd.int .i64) w A1 l1.length l1) (hc1 : l1.length ≤ c1) (h : slices_Equal_int_int.f k l0 l1 = some r) :
    Calls Try.prog 107 #[.slice A0 l0.length c0, .slice A1 l1.length c1] w fun e w' => e = .returned (.bool r) ∧ Drawn0 w w' := by
  have HR0 := aM_ hr0
  have HC0 := aM_ hc0
  clear hr0 hc0
  have HR1 := aM_ hr1
  have HC1 := aM_ hc1
  clear hr1 hc1
  have H : (if (l0.length : Int) = (l1.length : Int) then (slices_Equal_int_int.l0 k l0 l1 (l0.length : Int) 0) else (some false)) = some r := h
  clear h
  by_cases c3 : (l0.length : Int) = (l1.length : Int)
  · rw [if_pos c3] at H
    have c3b0 : ((l0.length : Int) == (l1.length : Int)) = true := beq_iff_eq.mpr c3
    have c3b1 : ((l0.length : Int) != (l1.length : Int)) = false := bne_eq_false_iff_eq.mpr c3
    have c3b2 : (l0.length == l1.length) = true := by first | simpa using c3 | (simp at c3 ⊢; omega)
    clear c3
    have H' := aM_ H
    clear H
    go_enter Try.func107, Try.ntmps107
    go_wp2
    repeat (go_quiet (fail); try go_wp2)
    go_loopg [13] k (fun kq v13 w' => ∃ (x13_1 : Int), v13 = .int .i64 x13_1 ∧ Aside0 (slices_Equal_int_int.l0 kq l0 l1 (l0.length : Int) x13_1 = some r) ∧ Aside0 (kq ≤ k) ∧ Drawn0 w w')
    case atStart => exact ⟨(0), (by first | rfl | (simp; done) | (simp [*]; done)), H', ⟨Nat.le_refl _⟩, by repeat (first | exact Drawn0.refl _ | apply Drawn0.step)⟩
    case round =>
      clear H'
      try clear c3b0
      try clear c3b1
      try clear c3b2
      obtain ⟨x13_1, rfl, HA, HK1, ⟨m1, rfl⟩⟩ := hrel
      cases gk with
      | zero => exact absurd HA.out (by simp [slices_Equal_int_int.l0])
      | succ k1 =>
        have H := HA.out
        clear HA
        simp only [slices_Equal_int_int.l0] at H
        by_cases c4 : x13_1 < (l0.length : Int)
        · rw [if_pos c4] at H
          have c4b0 : decide (x13_1 < (l0.length : Int)) = true := decide_eq_true c4
          clear c4
          by_cases c5 : 0 ≤ x13_1
          · rw [if_pos c5] at H
            have c5b0 : decide (0 ≤ x13_1) = true := decide_eq_true c5
            clear c5
            by_cases c6 : x13_1 < (l0.length : Int)
            · rw [if_pos c6] at H
              have c6b0 : decide (x13_1 < (l0.length : Int)) = true := decide_eq_true c6
              clear c6
              by_cases c7 : x13_1 < (l1.length : Int)
              · rw [if_pos c7] at H
                have c7b0 : decide (x13_1 < (l1.length : Int)) = true := decide_eq_true c7
                clear c7
                by_cases c8 : (rd l0 x13_1) = (rd l1 x13_1)
                · rw [if_pos c8] at H
                  have c8b0 : ((rd l0 x13_1) == (rd l1 x13_1)) = true := beq_iff_eq.mpr c8
                  have c8b1 : ((rd l0 x13_1) != (rd l1 x13_1)) = false := bne_eq_false_iff_eq.mpr c8
                  clear c8
                  have H' := aM_ H
                  clear H
                  have p388 : 0 ≤ (x13_1 : Int) := dT_
                  have q388 : x13_1 < (l0.length : Int) := dT_
                  obtain ⟨ad388, e388, hx388_0⟩ := Kd.at_int HR0.out x13_1 p388 q388
                  cases e388
                  replace p388 := eq_true p388
                  replace q388 := eq_true q388
                  have p389 : 0 ≤ (x13_1 : Int) := dT_
                  have q389 : x13_1 < (l1.length : Int) := dT_
                  obtain ⟨ad389, e389, hx389_0⟩ := Kd.at_int HR1.out x13_1 p389 q389
                  cases e389
                  replace p389 := eq_true p389
                  replace q389 := eq_true q389
                  go_wp2
                  repeat (go_quiet (fail); try go_wp2)
                  go_roundg k1
                  case measure => have := HK1.out; omega
                  case rel => exact ⟨(wrap64 (x13_1 + 1)), (by first | rfl | (simp; done) | (simp [*]; done)), H', ⟨by have := HK1.out; omega⟩, by repeat (first | exact Drawn0.refl _ | apply Drawn0.step)⟩
                · rw [if_neg c8] at H
                  have c8b0 : ((rd l0 x13_1) == (rd l1 x13_1)) = false := beq_eq_false_iff_ne.mpr c8
                  have c8b1 : ((rd l0 x13_1) != (rd l1 x13_1)) = true := bne_iff_ne.mpr c8
                  obtain rfl := Option.some.inj H
                  have p388 : 0 ≤ (x13_1 : Int) := dT_
                  have q388 : x13_1 < (l0.length : Int) := dT_
                  obtain ⟨ad388, e388, hx388_0⟩ := Kd.at_int HR0.out x13_1 p388 q388
                  cases e388
                  replace p388 := eq_true p388
                  replace q388 := eq_true q388
                  have p389 : 0 ≤ (x13_1 : Int) := dT_
                  have q389 : x13_1 < (l1.length : Int) := dT_
                  obtain ⟨ad389, e389, hx389_0⟩ := Kd.at_int HR1.out x13_1 p389 q389
                  cases e389
                  replace p389 := eq_true p389
                  replace q389 := eq_true q389
                  go_wp2
                  repeat (go_quiet (fail); try go_wp2)
                  go_ret
                  exact ⟨by first | rfl | (simp; done) | (simp [*]; done), by repeat (first | exact Drawn0.refl _ | apply Drawn0.step)⟩
              · rw [if_neg c7] at H
                exact absurd H (by simp)
            · rw [if_neg c6] at H
              exact absurd H (by simp)
          · rw [if_neg c5] at H
            exact absurd H (by simp)
        · rw [if_neg c4] at H
          have c4b0 : decide (x13_1 < (l0.length : Int)) = false := decide_eq_false c4
          clear c4
          obtain rfl := Option.some.inj H
          go_wp2
          repeat (go_quiet (fail); try go_wp2)
          go_ret
          exact ⟨by first | rfl | (simp; done) | (simp [*]; done), by repeat (first | exact Drawn0.refl _ | apply Drawn0.step)⟩
  · rw [if_neg c3] at H
    have c3b0 : ((l0.length : Int) == (l1.length : Int)) = false := beq_eq_false_iff_ne.mpr c3
    have c3b1 : ((l0.length : Int) != (l1.length : Int)) = true := bne_iff_ne.mpr c3
    have c3b2 : (l0.length == l1.length) = false := by first | simpa using c3 | (simp at c3 ⊢; omega)
    obtain rfl := Option.some.inj H
    go_enter Try.func107, Try.ntmps107
    go_wp2
    repeat (go_quiet (fail); try go_wp2)
    go_ret
    exact ⟨by first | rfl | (simp; done) | (simp [*]; done), by repeat (first | exact Drawn0.refl _ | apply Drawn0.step)⟩

/-! ### impl_HandoversOf: function 35 -/
def impl_HandoversOf.l0 : Nat → Int → List (S87) → Int → Int → Int → Int → List (S112) → Option ((List (S87)))
  | 0, _, _, _, _, _, _, _ => none
  | k + 1, x1, x5, x6, x391000, x391001, x391002, x391003 => if x6 < (x391003.length : Int) then ((impl_ServersIn.f k x391000 x391001 x391002 x391003 (wrap64 (x6 - 1)) x1).bind fun t394 => ((impl_ServersIn.f k x391000 x391001 x391002 x391003 x6 x1).bind fun t397 => ((slices_Equal_int_int.f k t394 t397).bind fun t400 => (if t400 = true then (impl_HandoversOf.l0 k x1 x5 (wrap64 (x6 + 1)) x391000 x391001 x391002 x391003) else (if 0 ≤ x6 then (if x5.length < 2513169434916 then (impl_HandoversOf.l0 k x1 (x5 ++ [(⟨(rd_T112 x391003 x6).f0.f0, t394, t397⟩ : S87)]) (wrap64 (x6 + 1)) x391000 x391001 x391002 x391003) else (none)) else (none)))))) else (some x5)
def impl_HandoversOf.f (k : Nat) (a0_0 : Int) (a0_1 : Int) (a0_2 : Int) (l0_3 : List (S112)) (a1 : Int) : Option ((List (S87))) := impl_HandoversOf.l0 k a1 (([] : List (S87))) 1 a0_0 a0_1 a0_2 l0_3
def impl_HandoversOf.T5 : Bool × List (List Nat × List Nat) := (true, [([], []), ([], []), ([1], [1]), ([], []), ([0, 2, 3], [0, 2, 3]), ([], []), ([], []), ([], []), ([5, 6, 7, 4], [5, 6, 7]), ([4, 8, 0, 1, 2, 3, 4], [4]), ([8, 9, 0, 1, 2, 3, 4, 5, 6, 7, 8, 9], [8])])
def impl_HandoversOf.B5 : List Nat := [0, 0, 2, 0, 15, 0, 0, 0, 255, 511, 1023]
theorem impl_HandoversOf.tab5 : rtab .any (opsOf Try.f35 5) = impl_HandoversOf.T5 := by kernel_rfl
theorem impl_HandoversOf.bits5 : waitsOk impl_HandoversOf.T5.2 impl_HandoversOf.B5 = true := by kernel_rfl
set_option maxHeartbeats 8000000 in
set_option maxRecDepth 100000 in
theorem impl_HandoversOf.calls (k : Nat) (a0_0 : Int) (a0_1 : Int) (a0_2 : Int) (A0_3 : Option Addr) (c0_3 : Nat) (l0_3 : List (S112)) (a1 : Int) (r : List (S87)) (w : World) (hr0_3 : Kd.C k112 w A0_3 l0_3.length l0_3) (hc0_3 : l0_3.length ≤ c0_3) (h : impl_HandoversOf.f k a0_0 a0_1 a0_2 l0_3 a1 = some r) :
  Calls Try.prog 35 #[.agg #[.int .i64 a0_0, .int .i64 a0_1, .int .i64 a0_2, .slice A0_3 l0_3.length c0_3], .int .i64 a1] w fun e w' => ∃ v0_ : Value, e = .returned (v0_) ∧ Kd.S k87 87 w' w.heap.size (fun _ => True) v0_ r ∧ Below w.heap.size w w' := by
 have hu30 := Try.underlying30; have hu87 := Try.underlying87; have HR0_3 := aM_ hr0_3; have HC0_3 := aM_ hc0_3; clear hr0_3 hc0_3; have HB := aM_ (Below.refl w.heap.size w)
 have H : (impl_HandoversOf.l0 k a1 (([] : List (S87))) 1 a0_0 a0_1 a0_2 l0_3) = some r := h
 clear h
 obtain ⟨y391, hy391⟩ : ∃ y_ : List (S87), y_ = (([] : List (S87))) := ⟨_, rfl⟩
 replace H : (impl_HandoversOf.l0 k a1 y391 1 a0_0 a0_1 a0_2 l0_3) = some r := by first | (rw [hy391]; with_reducible exact H) | (have H2_ := (Option.bind_some _ _).symm.trans H; rw [hy391]; with_reducible exact H2_) | (have H2_ := (Option.bind_some _ _).symm.trans H; with_reducible exact H2_) | with_reducible exact H | (rw [hy391]; exact H) | exact H
 have Ny391 := aM_ hy391; clear hy391
 have H' := aM_ H
 clear H
 go_enter Try.func35, Try.ntmps35
 go_wp2_with (first | ((with_reducible refine gate_dst (N := 2) rfl ?_); refine box_event ?hg (N := 2) ?hd (cs := #[.int .i64 a0_0, .int .i64 a0_1, .int .i64 a0_2, .slice A0_3 l0_3.length c0_3]) (t := 30) ?hr ?_; (case hd => rfl); (case hg => rfl); (case hr => first | (go_simp; done) | (go_simp; rfl)); intro gb390 hg w3 hbox hb; have n0_ := aM_ (wS_ (bw_) hb); have n1_ := aM_ (hbox); have n2_ := aM_ ((by rw [hg]; exact (sZ_ (bw_)) : w.heap.size ≤ gb390)); have n3_ := aM_ ((by rw [hg]; exact (sZ_ (bw_)) : w.heap.size ≤ gb390)); clear HB; have HB := n0_; have BK390 := n1_; have GW390 := n2_; have GE390 := n3_; clear n0_ n1_ n2_ n3_ hb hbox hg) | ((with_reducible refine gate_dst (N := 9) rfl ?_); refine Kd.S_lit k87 _ 87 ?hg (N := 9) ?hd (xs := ([] : List (S87))) (inner := []) (ok := fun _ => True) (okp := fun _ => True) ?hr ?hp (fun _ hk => hk) trivial (Below.refl _ _) (Nat.le_refl _) (by simp) ?_; (case hd => rfl); (case hg => rfl); (case hr => first | (go_simp; done) | (go_simp; rfl)); (case hp => exact (Reps.none _ _)); intro v392 w4 ho5 hb hg_ hnew_; clear hg_ hnew_; (first | rw [← Ny391.out] at ho5 | (simp only [Int.reduceToNat] at ho5; rw [← Ny391.out] at ho5)); have n0_ := aM_ (Kd.S_lower ho5 (sZ_ (bw_))); have n1_ := aM_ (bB_ (kb_ BK390.out) hb); have n2_ := aM_ (wS_ (bw_) hb); clear BK390 HB; have HO393 := n0_; have BK390 := n1_; have HB := n2_; clear n0_ n1_ n2_ hb ho5))
 go_loopg [5, 6] k (fun kq v5 v6 w' => ∃ (x5_1 : List (S87)) (x6_1 : Int), v6 = .int .i64 x6_1 ∧ Aside0 (impl_HandoversOf.l0 kq a1 x5_1 x6_1 a0_0 a0_1 a0_2 l0_3 = some r) ∧ Aside0 (kq ≤ k) ∧ Aside0 (Kd.S k87 87 w' w.heap.size (fun _ => True) v5 x5_1) ∧ Aside0 (w'.heap[gb390]? = some (.cells #[.int .i64 a0_0, .int .i64 a0_1, .int .i64 a0_2, (.slice A0_3 l0_3.length c0_3)] 30 (0, 0))) ∧ Aside0 (Below w.heap.size w w'))
 case atStart => exact ⟨(y391), (1), (by first | rfl | (simp; done) | (simp [*]; done)), H', ⟨Nat.le_refl _⟩, ⟨by (with_reducible repeat (first | apply Kd.S_alloc | apply Kd.S_drewN | apply Kd.S_drew)); exact HO393.out⟩, ⟨by (with_reducible repeat (first | refine bN_ ?_ _ | refine bD_ ?_ | refine bA_ ?_ _)); exact BK390.out⟩, ⟨bw_⟩⟩
 case round =>
  clear H'
  obtain ⟨x5_1, x6_1, rfl, HA, HK1, HO_5, BK390, HB⟩ := hrel
  cases gk with
  | zero => exact absurd HA.out (by simp [impl_HandoversOf.l0])
  | succ k1 =>
   have H := HA.out; clear HA
   simp only [impl_HandoversOf.l0] at H
   by_cases c6 : x6_1 < (l0_3.length : Int)
   ·rw [if_pos c6] at H
    have c6b0 : decide (x6_1 < (l0_3.length : Int)) = true := decide_eq_true c6
    clear c6
    replace H := Option.bind_eq_some_iff.mp H
    obtain ⟨t394, A70, H⟩ := H
    (try dsimp only at H)
    have A7 := aM_ A70; clear A70
    replace H := Option.bind_eq_some_iff.mp H
    obtain ⟨t397, A80, H⟩ := H
    (try dsimp only at H)
    have A8 := aM_ A80; clear A80
    replace H := Option.bind_eq_some_iff.mp H
    obtain ⟨t400, A90, H⟩ := H
    (try dsimp only at H)
    have A9 := aM_ A90; clear A90
    by_cases c10 : t400 = true
    ·subst c10
     have H1 : (impl_HandoversOf.l0 k1 a1 x5_1 (wrap64 (x6_1 + 1)) a0_0 a0_1 a0_2 l0_3) = some r := by rw [if_pos rfl] at H; exact H
     clear H; have H := H1; clear H1
     have H' := aM_ H
     clear H
     have hcz11_0 : wr.cell? ⟨gb390, 0, none⟩ = some (.int .i64 a0_0) := (blk_cell BK390.out 0).trans rfl
     have hcz11_1 : wr.cell? ⟨gb390, 1, none⟩ = some (.int .i64 a0_1) := (blk_cell BK390.out 1).trans rfl
     have hcz11_2 : wr.cell? ⟨gb390, 2, none⟩ = some (.int .i64 a0_2) := (blk_cell BK390.out 2).trans rfl
     have hcz11_3 : wr.cell? ⟨gb390, 3, none⟩ = some (.slice A0_3 l0_3.length c0_3) := (blk_cell BK390.out 3).trans rfl
     have hfz11_0 := blk_frozen BK390.out 0; have hfz11_1 := blk_frozen BK390.out 1; have hfz11_2 := blk_frozen BK390.out 2; have hfz11_3 := blk_frozen BK390.out 3
     try go_wp2
     have n0_ := aM_ (Kd.S_drew HO_5.out); have n1_ := aM_ (bD_ BK390.out); have n2_ := aM_ (wD_ HB.out); clear HO_5 BK390 HB; have HO_5 := n0_; have BK390 := n1_; have HB := n2_; clear n0_ n1_ n2_
     refine start_ (n := 11) (S := fun w' => w'.cell? ⟨gb390, 0, none⟩ = some (.int .i64 a0_0) ∧ w'.cell? ⟨gb390, 1, none⟩ = some (.int .i64 a0_1) ∧ w'.cell? ⟨gb390, 2, none⟩ = some (.int .i64 a0_2) ∧ w'.cell? ⟨gb390, 3, none⟩ = some (.slice A0_3 l0_3.length c0_3)) (ds := []) #[false, false, false, false, false, false, false, false, false, false, false] (by kernel_rfl) rfl rfl ⟨(blk_cell BK390.out 0).trans rfl, (blk_cell BK390.out 1).trans rfl, (blk_cell BK390.out 2).trans rfl, (blk_cell BK390.out 3).trans rfl⟩ (fun hHeld => ?_); refine with_tabW impl_HandoversOf.tab5 impl_HandoversOf.bits5 (fun HT_ HW_ => ?_)
     generalize wr.drew = w12 at HO_5 BK390 HB hHeld ⊢
     refine pu_ 1 (some 18) #[false, true, false, false, false, false, false, false, false, false, false] rfl rfl ?_
     refine pu_ 2 (some 19) #[false, true, true, false, false, false, false, false, false, false, false] rfl rfl ?_
     refine pu_ 3 (some 20) #[false, true, true, true, false, false, false, false, false, false, false] rfl rfl ?_
     refine pu_ 6 (some 23) #[false, true, true, true, false, false, true, false, false, false, false] rfl rfl ?_
     refine pu_ 7 (some 24) #[false, true, true, true, false, false, true, true, false, false, false] rfl rfl ?_
     refine tk4_ 0 (some 17) #[true, true, true, true, false, false, true, true, false, false, false] rfl rfl ?_
     refine tk4_ 5 (some 22) #[true, true, true, true, false, true, true, true, false, false, false] rfl rfl ?_
     refine one_ (i := 4) (N := some 21) #[true, true, true, true, true, true, true, true, false, false, false] rfl rfl (one_of HT_.out (by kernel_rfl)) (by decide) (fun K hK => ?_)
     refine goes_ Try.func29 (by kernel_rfl) rfl #[.agg #[.int .i64 a0_0, .int .i64 a0_1, .int .i64 a0_2, .slice A0_3 l0_3.length c0_3], .int .i64 (wrap64 (x6_1 - 1)), .int .i64 a1] (by rfl) rfl rfl (by (try simp only [List.map_toArray, List.map_cons, List.map_nil]); first | done | rfl | (simp only [List.length_drop, List.length_take]; rfl)) ?_
     with_reducible refine (impl_ServersIn.calls k1 a0_0 a0_1 a0_2 _ _ l0_3 (wrap64 (x6_1 - 1)) a1 t394 _ ?side1 ?side2 A7.out).mono ?_
     (case side1 => repeat (first | exact (Kd.C_below HR0_3.out HB.out) | (with_reducible refine cA_ ?_ _) | (with_reducible refine cN_ ?_ _) | (with_reducible refine cD_ ?_)))
     (case side2 => exact HC0_3.out)
     rintro e w13 ⟨v395, rfl, ho0, hb⟩
     refine ⟨_, rfl, ?_⟩
     have n0_ := aM_ (Kd.S_elder' (by (with_reducible repeat (first | apply Kd.S_alloc | apply Kd.S_drewN | apply Kd.S_drew)); exact HO_5.out) (Kd.R_base ho0) hb); have n1_ := aM_ (Kd.R_lower ho0 (sZ_ (bw_))); have n2_ := aM_ (bB_ (kb_ BK390.out) hb); have n3_ := aM_ (wS_ (bw_) hb); clear HO_5 BK390 HB; have HO_5 := n0_; have HO396 := n1_; have BK390 := n2_; have HB := n3_; clear n0_ n1_ n2_ n3_; (try clear hb); (try clear hb2); (try clear hk); (try clear hi); (try clear ho0)
     refine hK.out _ _ ⟨(blk_cell BK390.out 0).trans rfl, (blk_cell BK390.out 1).trans rfl, (blk_cell BK390.out 2).trans rfl, (blk_cell BK390.out 3).trans rfl⟩ (fun hHeld => ?_)
     clear hK K
     refine norm_ (a' := ?_) ?_ ?_
     rotate_left
     ·show Act.put _ (some 21) _ = _
      simp only [Act.put, List.setIfInBounds_toArray, List.set_cons_zero, List.set_cons_succ, i64_w, i32_w]
      rfl
     refine one_ (i := 8) (N := some 25) #[true, true, true, true, true, true, true, true, true, false, false] rfl rfl (one_of HT_.out (by kernel_rfl)) (by decide) (fun K hK => ?_)
     refine goes_ Try.func29 (by kernel_rfl) rfl #[.agg #[.int .i64 a0_0, .int .i64 a0_1, .int .i64 a0_2, .slice A0_3 l0_3.length c0_3], .int .i64 x6_1, .int .i64 a1] (by rfl) rfl rfl (by (try simp only [List.map_toArray, List.map_cons, List.map_nil]); first | done | rfl | (simp only [List.length_drop, List.length_take]; rfl)) ?_
     with_reducible refine (impl_ServersIn.calls k1 a0_0 a0_1 a0_2 _ _ l0_3 x6_1 a1 t397 _ ?side1 ?side2 A8.out).mono ?_
     (case side1 => repeat (first | exact (Kd.C_below HR0_3.out HB.out) | (with_reducible refine cA_ ?_ _) | (with_reducible refine cN_ ?_ _) | (with_reducible refine cD_ ?_)))
     (case side2 => exact HC0_3.out)
     rintro e w14 ⟨v398, rfl, ho0, hb⟩
     refine ⟨_, rfl, ?_⟩
     have n0_ := aM_ (Kd.S_elder' (by (with_reducible repeat (first | apply Kd.S_alloc | apply Kd.S_drewN | apply Kd.S_drew)); exact HO_5.out) (Kd.R_base ho0) hb); have n1_ := aM_ (Kd.R_elder' (rb_ HO396.out) (Kd.R_base ho0) hb); have n2_ := aM_ (Kd.R_lower (Kd.R_new' ho0 (Kd.R_lt (rb_ HO396.out))) (sZ_ (bw_))); have n3_ := aM_ (bB_ (kb_ BK390.out) hb); have n4_ := aM_ (wS_ (bw_) hb); clear HO_5 HO396 BK390 HB; have HO_5 := n0_; have HO396 := n1_; have HO399 := n2_; have BK390 := n3_; have HB := n4_; clear n0_ n1_ n2_ n3_ n4_; (try clear hb); (try clear hb2); (try clear hk); (try clear hi); (try clear ho0)
     refine hK.out _ _ ⟨(blk_cell BK390.out 0).trans rfl, (blk_cell BK390.out 1).trans rfl, (blk_cell BK390.out 2).trans rfl, (blk_cell BK390.out 3).trans rfl⟩ (fun hHeld => ?_)
     clear hK K
     refine norm_ (a' := ?_) ?_ ?_
     rotate_left
     ·show Act.put _ (some 25) _ = _
      simp only [Act.put, List.setIfInBounds_toArray, List.set_cons_zero, List.set_cons_succ, i64_w, i32_w]
      rfl
     refine pu_ 9 (some 7) #[true, true, true, true, true, true, true, true, true, true, false] rfl rfl ?_
     refine pu_ 10 (some 8) #[true, true, true, true, true, true, true, true, true, true, true] rfl rfl ?_
     refine done_ (done_of HT_.out (by kernel_rfl)) ?_
     obtain ⟨Ao15, co15, eo15⟩ := Kd.R_slice HO396.out
     subst eo15
     obtain ⟨Ao16, co16, eo16⟩ := Kd.R_slice HO399.out
     subst eo16
     try go_wp2_with (first | ((with_reducible refine gate_callee (f := 107) rfl ?_); refine goesL_ (some 28) rfl rfl Try.func107 (by kernel_rfl) rfl #[.slice Ao15 t394.length co15, .slice Ao16 t397.length co16] rfl (by (try simp only [List.map_toArray, List.map_cons, List.map_nil]); first | done | rfl | (simp only [List.length_drop, List.length_take]; rfl)) ?_; (with_reducible refine (slices_Equal_int_int.calls k1 _ _ t394 _ _ t397 true _ ?side1 ?side2 ?side3 ?side4 A9.out).mono ?_); (case side1 => repeat (first | exact (Kd.R_reads' HO396.out).2.2 | (with_reducible refine cA_ ?_ _) | (with_reducible refine cN_ ?_ _) | (with_reducible refine cD_ ?_))); (case side2 => exact (Kd.R_reads' HO396.out).2.1); (case side3 => repeat (first | exact (Kd.R_reads' HO399.out).2.2 | (with_reducible refine cA_ ?_ _) | (with_reducible refine cN_ ?_ _) | (with_reducible refine cD_ ?_))); (case side4 => exact (Kd.R_reads' HO399.out).2.1); rintro e w' ⟨rfl, ⟨nd, rfl⟩⟩; refine ⟨_, rfl, ?_⟩))
     go_roundg k1
     case measure => have := HK1.out; omega
     case rel => exact ⟨(x5_1), (wrap64 (x6_1 + 1)), (by first | rfl | (simp; done) | (simp [*]; done)), H', ⟨by have := HK1.out; omega⟩, ⟨by (with_reducible repeat (first | apply Kd.S_alloc | apply Kd.S_drewN | apply Kd.S_drew)); exact Kd.S_mono HO_5.out (fun _ hk => trivial)⟩, ⟨by (with_reducible repeat (first | refine bN_ ?_ _ | refine bD_ ?_ | refine bA_ ?_ _)); exact BK390.out⟩, ⟨bw_⟩⟩
    ·replace c10 := Bool.eq_false_iff.mpr c10
     subst c10
     have H1 : (if 0 ≤ x6_1 then (if x5_1.length < 2513169434916 then (impl_HandoversOf.l0 k1 a1 (x5_1 ++ [(⟨(rd_T112 l0_3 x6_1).f0.f0, t394, t397⟩ : S87)]) (wrap64 (x6_1 + 1)) a0_0 a0_1 a0_2 l0_3) else (none)) else (none)) = some r := by rw [if_neg (show ¬ (false = true) by decide)] at H; exact H
     clear H; have H := H1; clear H1
     by_cases c17 : 0 ≤ x6_1
     ·rw [if_pos c17] at H
      have c17b0 : decide (0 ≤ x6_1) = true := decide_eq_true c17
      clear c17
      by_cases c18 : x5_1.length < 2513169434916
      ·rw [if_pos c18] at H
       have LMc18 := aM_ c18; clear c18
       obtain ⟨y402, hy402⟩ : ∃ y_ : List (S87), y_ = (x5_1 ++ [(⟨(rd_T112 l0_3 x6_1).f0.f0, t394, t397⟩ : S87)]) := ⟨_, rfl⟩
       replace H : (impl_HandoversOf.l0 k1 a1 y402 (wrap64 (x6_1 + 1)) a0_0 a0_1 a0_2 l0_3) = some r := by first | (rw [hy402]; with_reducible exact H) | (have H2_ := (Option.bind_some _ _).symm.trans H; rw [hy402]; with_reducible exact H2_) | (have H2_ := (Option.bind_some _ _).symm.trans H; with_reducible exact H2_) | with_reducible exact H | (rw [hy402]; exact H) | exact H
       have Ny402 := aM_ hy402; clear hy402
       have H' := aM_ H
       clear H
       have hcz19_0 : wr.cell? ⟨gb390, 0, none⟩ = some (.int .i64 a0_0) := (blk_cell BK390.out 0).trans rfl
       have hcz19_1 : wr.cell? ⟨gb390, 1, none⟩ = some (.int .i64 a0_1) := (blk_cell BK390.out 1).trans rfl
       have hcz19_2 : wr.cell? ⟨gb390, 2, none⟩ = some (.int .i64 a0_2) := (blk_cell BK390.out 2).trans rfl
       have hcz19_3 : wr.cell? ⟨gb390, 3, none⟩ = some (.slice A0_3 l0_3.length c0_3) := (blk_cell BK390.out 3).trans rfl
       have hfz19_0 := blk_frozen BK390.out 0; have hfz19_1 := blk_frozen BK390.out 1; have hfz19_2 := blk_frozen BK390.out 2; have hfz19_3 := blk_frozen BK390.out 3
       try go_wp2
       have n0_ := aM_ (Kd.S_drew HO_5.out); have n1_ := aM_ (bD_ BK390.out); have n2_ := aM_ (wD_ HB.out); clear HO_5 BK390 HB; have HO_5 := n0_; have BK390 := n1_; have HB := n2_; clear n0_ n1_ n2_
       refine start_ (n := 11) (S := fun w' => w'.cell? ⟨gb390, 0, none⟩ = some (.int .i64 a0_0) ∧ w'.cell? ⟨gb390, 1, none⟩ = some (.int .i64 a0_1) ∧ w'.cell? ⟨gb390, 2, none⟩ = some (.int .i64 a0_2) ∧ w'.cell? ⟨gb390, 3, none⟩ = some (.slice A0_3 l0_3.length c0_3)) (ds := []) #[false, false, false, false, false, false, false, false, false, false, false] (by kernel_rfl) rfl rfl ⟨(blk_cell BK390.out 0).trans rfl, (blk_cell BK390.out 1).trans rfl, (blk_cell BK390.out 2).trans rfl, (blk_cell BK390.out 3).trans rfl⟩ (fun hHeld => ?_); refine with_tabW impl_HandoversOf.tab5 impl_HandoversOf.bits5 (fun HT_ HW_ => ?_)
       generalize wr.drew = w20 at HO_5 BK390 HB hHeld ⊢
       refine pu_ 1 (some 18) #[false, true, false, false, false, false, false, false, false, false, false] rfl rfl ?_
       refine pu_ 2 (some 19) #[false, true, true, false, false, false, false, false, false, false, false] rfl rfl ?_
       refine pu_ 3 (some 20) #[false, true, true, true, false, false, false, false, false, false, false] rfl rfl ?_
       refine pu_ 6 (some 23) #[false, true, true, true, false, false, true, false, false, false, false] rfl rfl ?_
       refine pu_ 7 (some 24) #[false, true, true, true, false, false, true, true, false, false, false] rfl rfl ?_
       refine tk4_ 0 (some 17) #[true, true, true, true, false, false, true, true, false, false, false] rfl rfl ?_
       refine tk4_ 5 (some 22) #[true, true, true, true, false, true, true, true, false, false, false] rfl rfl ?_
       refine one_ (i := 4) (N := some 21) #[true, true, true, true, true, true, true, true, false, false, false] rfl rfl (one_of HT_.out (by kernel_rfl)) (by decide) (fun K hK => ?_)
       refine goes_ Try.func29 (by kernel_rfl) rfl #[.agg #[.int .i64 a0_0, .int .i64 a0_1, .int .i64 a0_2, .slice A0_3 l0_3.length c0_3], .int .i64 (wrap64 (x6_1 - 1)), .int .i64 a1] (by rfl) rfl rfl (by (try simp only [List.map_toArray, List.map_cons, List.map_nil]); first | done | rfl | (simp only [List.length_drop, List.length_take]; rfl)) ?_
       with_reducible refine (impl_ServersIn.calls k1 a0_0 a0_1 a0_2 _ _ l0_3 (wrap64 (x6_1 - 1)) a1 t394 _ ?side1 ?side2 A7.out).mono ?_
       (case side1 => repeat (first | exact (Kd.C_below HR0_3.out HB.out) | (with_reducible refine cA_ ?_ _) | (with_reducible refine cN_ ?_ _) | (with_reducible refine cD_ ?_)))
       (case side2 => exact HC0_3.out)
       rintro e w21 ⟨v395, rfl, ho0, hb⟩
       refine ⟨_, rfl, ?_⟩
       have n0_ := aM_ (Kd.S_elder' (by (with_reducible repeat (first | apply Kd.S_alloc | apply Kd.S_drewN | apply Kd.S_drew)); exact HO_5.out) (Kd.R_base ho0) hb); have n1_ := aM_ (Kd.R_lower ho0 (sZ_ (bw_))); have n2_ := aM_ (bB_ (kb_ BK390.out) hb); have n3_ := aM_ (wS_ (bw_) hb); clear HO_5 BK390 HB; have HO_5 := n0_; have HO396 := n1_; have BK390 := n2_; have HB := n3_; clear n0_ n1_ n2_ n3_; (try clear hb); (try clear hb2); (try clear hk); (try clear hi); (try clear ho0)
       refine hK.out _ _ ⟨(blk_cell BK390.out 0).trans rfl, (blk_cell BK390.out 1).trans rfl, (blk_cell BK390.out 2).trans rfl, (blk_cell BK390.out 3).trans rfl⟩ (fun hHeld => ?_)
       clear hK K
       refine norm_ (a' := ?_) ?_ ?_
       rotate_left
       ·show Act.put _ (some 21) _ = _
        simp only [Act.put, List.setIfInBounds_toArray, List.set_cons_zero, List.set_cons_succ, i64_w, i32_w]
        rfl
       refine one_ (i := 8) (N := some 25) #[true, true, true, true, true, true, true, true, true, false, false] rfl rfl (one_of HT_.out (by kernel_rfl)) (by decide) (fun K hK => ?_)
       refine goes_ Try.func29 (by kernel_rfl) rfl #[.agg #[.int .i64 a0_0, .int .i64 a0_1, .int .i64 a0_2, .slice A0_3 l0_3.length c0_3], .int .i64 x6_1, .int .i64 a1] (by rfl) rfl rfl (by (try simp only [List.map_toArray, List.map_cons, List.map_nil]); first | done | rfl | (simp only [List.length_drop, List.length_take]; rfl)) ?_
       with_reducible refine (impl_ServersIn.calls k1 a0_0 a0_1 a0_2 _ _ l0_3 x6_1 a1 t397 _ ?side1 ?side2 A8.out).mono ?_
       (case side1 => repeat (first | exact (Kd.C_below HR0_3.out HB.out) | (with_reducible refine cA_ ?_ _) | (with_reducible refine cN_ ?_ _) | (with_reducible refine cD_ ?_)))
       (case side2 => exact HC0_3.out)
       rintro e w22 ⟨v398, rfl, ho0, hb⟩
       refine ⟨_, rfl, ?_⟩
       have n0_ := aM_ (Kd.S_elder' (by (with_reducible repeat (first | apply Kd.S_alloc | apply Kd.S_drewN | apply Kd.S_drew)); exact HO_5.out) (Kd.R_base ho0) hb); have n1_ := aM_ (Kd.R_elder' (rb_ HO396.out) (Kd.R_base ho0) hb); have n2_ := aM_ (Kd.R_lower (Kd.R_new' ho0 (Kd.R_lt (rb_ HO396.out))) (sZ_ (bw_))); have n3_ := aM_ (bB_ (kb_ BK390.out) hb); have n4_ := aM_ (wS_ (bw_) hb); clear HO_5 HO396 BK390 HB; have HO_5 := n0_; have HO396 := n1_; have HO399 := n2_; have BK390 := n3_; have HB := n4_; clear n0_ n1_ n2_ n3_ n4_; (try clear hb); (try clear hb2); (try clear hk); (try clear hi); (try clear ho0)
       refine hK.out _ _ ⟨(blk_cell BK390.out 0).trans rfl, (blk_cell BK390.out 1).trans rfl, (blk_cell BK390.out 2).trans rfl, (blk_cell BK390.out 3).trans rfl⟩ (fun hHeld => ?_)
       clear hK K
       refine norm_ (a' := ?_) ?_ ?_
       rotate_left
       ·show Act.put _ (some 25) _ = _
        simp only [Act.put, List.setIfInBounds_toArray, List.set_cons_zero, List.set_cons_succ, i64_w, i32_w]
        rfl
       refine pu_ 9 (some 7) #[true, true, true, true, true, true, true, true, true, true, false] rfl rfl ?_
       refine pu_ 10 (some 8) #[true, true, true, true, true, true, true, true, true, true, true] rfl rfl ?_
       refine done_ (done_of HT_.out (by kernel_rfl)) ?_
       obtain ⟨Ao23, co23, eo23⟩ := Kd.R_slice HO396.out
       subst eo23
       obtain ⟨Ao24, co24, eo24⟩ := Kd.R_slice HO399.out
       subst eo24
       try go_wp2_with (first | ((with_reducible refine gate_callee (f := 107) rfl ?_); refine goesL_ (some 28) rfl rfl Try.func107 (by kernel_rfl) rfl #[.slice Ao23 t394.length co23, .slice Ao24 t397.length co24] rfl (by (try simp only [List.map_toArray, List.map_cons, List.map_nil]); first | done | rfl | (simp only [List.length_drop, List.length_take]; rfl)) ?_; (with_reducible refine (slices_Equal_int_int.calls k1 _ _ t394 _ _ t397 false _ ?side1 ?side2 ?side3 ?side4 A9.out).mono ?_); (case side1 => repeat (first | exact (Kd.R_reads' HO396.out).2.2 | (with_reducible refine cA_ ?_ _) | (with_reducible refine cN_ ?_ _) | (with_reducible refine cD_ ?_))); (case side2 => exact (Kd.R_reads' HO396.out).2.1); (case side3 => repeat (first | exact (Kd.R_reads' HO399.out).2.2 | (with_reducible refine cA_ ?_ _) | (with_reducible refine cN_ ?_ _) | (with_reducible refine cD_ ?_))); (case side4 => exact (Kd.R_reads' HO399.out).2.1); rintro e w' ⟨rfl, ⟨nd, rfl⟩⟩; refine ⟨_, rfl, ?_⟩; obtain ⟨hcz25_0, hcz25_1, hcz25_2, hcz25_3, hfz25_0, hfz25_1, hfz25_2, hfz25_3⟩ := bk4_ BK390.out; have p401 : 0 ≤ (x6_1 : Int) := dT_; have q401 : x6_1 < (l0_3.length : Int) := dT_; obtain ⟨ad401, A401_2, c401_2, A401_3, c401_3, e401, hx401_0, hx401_1, hx401_2, hx401_3, hl401_2, hi401_2, hl401_3, hi401_3⟩ := at_T112 HR0_3.out x6_1 p401 q401; cases e401; replace hx401_0 := (HB.out.cell (World.block_lt_of_cell? w _ hx401_0)).trans hx401_0; replace hx401_1 := (HB.out.cell (World.block_lt_of_cell? w _ hx401_1)).trans hx401_1; replace hx401_2 := (HB.out.cell (World.block_lt_of_cell? w _ hx401_2)).trans hx401_2; replace hx401_3 := (HB.out.cell (World.block_lt_of_cell? w _ hx401_3)).trans hx401_3; have HR401_2 := aM_ hi401_2; have HC401_2 := aM_ hl401_2; clear hi401_2 hl401_2; have HR401_3 := aM_ hi401_3; have HC401_3 := aM_ hl401_3; clear hi401_3 hl401_3; replace p401 := eq_true p401; replace q401 := eq_true q401) | ((with_reducible refine gate_builtin (b := .append) (xs := #[.tmp 30, .tmp 41]) rfl ?_); at_builtin; refine Kd.S_append k87 (w0 := w) w.heap.size rfl (.tmp 30) (.tmp 41) 83 87 (.agg #[(.int .i64 0), (.slice none 0 0), (.slice none 0 0)]) 56 rfl Try.underlying83 info87 rfl (by decide) (by omega) u5 x5_1 (⟨(rd_T112 l0_3 x6_1).f0.f0, t394, t397⟩ : S87) [.int .i64 ((rd_T112 l0_3 x6_1).f0.f0), .slice Ao23 t394.length co23, .slice Ao24 t397.length co24] (fun _ => True) (fun k_ => some k_ = (.slice Ao23 t394.length co23 : Value).ownBlock ∨ some k_ = (.slice Ao24 t397.length co24 : Value).ownBlock) rfl rfl ?aP (fun k_ hk_ => hk_.elim (fun h_ => ((Kd.R_mono (ok' := fun k_ => ((fun _ => True)) k_ ∧ some k_ ≠ (u5 : Value).ownBlock) (Kd.R_apart' (HO396.out) (Kd.S_typed HO_5.out) (by decide)) (fun k_ hk => ⟨trivial, hk.2⟩))).1 k_ h_.symm) (fun h_ => ((Kd.R_mono (ok' := fun k_ => ((fun _ => True)) k_ ∧ some k_ ≠ (u5 : Value).ownBlock) (Kd.R_apart' (HO399.out) (Kd.S_typed HO_5.out) (by decide)) (fun k_ hk => ⟨trivial, hk.2⟩))).1 k_ h_.symm)) ?aF ?aO ?aB ?aS ?aL ?_; (case aP => exact k87_mkM _ _ _ (⟨(rd_T112 l0_3 x6_1).f0.f0, t394, t397⟩ : S87) (Kd.R_mono (Kd.R_tight rfl (Kd.R_mono (ok' := fun k_ => ((fun _ => True)) k_ ∧ some k_ ≠ (u5 : Value).ownBlock) (Kd.R_apart' (HO396.out) (Kd.S_typed HO_5.out) (by decide)) (fun k_ hk => ⟨trivial, hk.2⟩))) (fun _ h_ => Or.inl h_)) (Kd.R_mono (Kd.R_tight rfl (Kd.R_mono (ok' := fun k_ => ((fun _ => True)) k_ ∧ some k_ ≠ (u5 : Value).ownBlock) (Kd.R_apart' (HO399.out) (Kd.S_typed HO_5.out) (by decide)) (fun k_ hk => ⟨trivial, hk.2⟩))) (fun _ h_ => Or.inr (h_))) (fun b_ h1_ h2_ => (HO399.out.1 b_ h2_).2 h1_.symm)); (case aB => exact (bw_)); (case aF => exact (fun _ _ => trivial)); (case aO => exact (by (with_reducible repeat (first | apply Kd.S_alloc | apply Kd.S_drewN | apply Kd.S_drew)); exact Kd.S_mono HO_5.out (fun k_ hk => ⟨trivial, fun e_ => e_.elim (fun h_ => hk.1.2 h_) (fun h_ => hk.2 h_)⟩))); (case aS => exact (sZ_ (bw_))); (case aL => have := LMc18.out; omega); intro v403 w26 ho hb hg hat; rw [← Ny402.out] at ho; have n0_ := aM_ (blk_grown (kb_ BK390.out) hg (Kd.S_ne HO_5.out BK390.out (by decide))); have n1_ := aM_ (hb); have n2_ := aM_ (ho); clear BK390 HB HO_5 HO396 HO399; have BK390 := n0_; have HB := n1_; have HO404 := n2_; clear n0_ n1_ n2_ ho hb hg hat))
       go_roundg k1
       case measure => have := HK1.out; omega
       case rel => exact ⟨(y402), (wrap64 (x6_1 + 1)), (by first | rfl | (simp; done) | (simp [*]; done)), H', ⟨by have := HK1.out; omega⟩, ⟨by (with_reducible repeat (first | apply Kd.S_alloc | apply Kd.S_drewN | apply Kd.S_drew)); exact HO404.out⟩, ⟨by (with_reducible repeat (first | refine bN_ ?_ _ | refine bD_ ?_ | refine bA_ ?_ _)); exact BK390.out⟩, ⟨bw_⟩⟩
      ·rw [if_neg c18] at H
       exact absurd H (by simp)
     ·rw [if_neg c17] at H
      exact absurd H (by simp)
   ·rw [if_neg c6] at H
    have c6b0 : decide (x6_1 < (l0_3.length : Int)) = false := decide_eq_false c6
    clear c6
    obtain rfl := Option.some.inj H
    have hcz27_0 : wr.cell? ⟨gb390, 0, none⟩ = some (.int .i64 a0_0) := (blk_cell BK390.out 0).trans rfl
    have hcz27_1 : wr.cell? ⟨gb390, 1, none⟩ = some (.int .i64 a0_1) := (blk_cell BK390.out 1).trans rfl
    have hcz27_2 : wr.cell? ⟨gb390, 2, none⟩ = some (.int .i64 a0_2) := (blk_cell BK390.out 2).trans rfl
    have hcz27_3 : wr.cell? ⟨gb390, 3, none⟩ = some (.slice A0_3 l0_3.length c0_3) := (blk_cell BK390.out 3).trans rfl
    have hfz27_0 := blk_frozen BK390.out 0; have hfz27_1 := blk_frozen BK390.out 1; have hfz27_2 := blk_frozen BK390.out 2; have hfz27_3 := blk_frozen BK390.out 3
    go_wp2
    go_ret
    exact ⟨_, by first | rfl | (simp [errW_none, errW_some] <;> rfl) | (simp [*, errW_none, errW_some] <;> rfl), by (with_reducible repeat (first | apply Kd.S_alloc | apply Kd.S_drewN | apply Kd.S_drew)); exact HO_5.out, bw_⟩

end Go.Proofs.Ytlogjmgghnifoaa.PFnHandovers
