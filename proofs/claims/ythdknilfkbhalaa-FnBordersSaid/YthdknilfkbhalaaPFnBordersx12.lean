/- The functions that the law reaches, as plain Lean functions, each with the proof that the Go code comes to its answers; conditions: those that each theorem names. (printed by a program of this session) -/
import Derived.Test.YthdknilfkbhalaaPFnBordersx0
import Derived.Test.YthdknilfkbhalaaPFnBordersx11
namespace Go.Proofs.Ythdknilfkbhalaa.PFnBorders
open Go.RowKit Go.Proofs.YthdknilfkbhalaaW.PrintWords Go.Proofs.YthdknilfkbhalaaW.PrintLast Go.Proofs.YthdknilfkbhalaaW.PrintMore
attribute [local go_sem] max2_int min2_int max_two min_two max_three min_three max_four min_four   -- for this text's walks alone
set_option linter.unusedVariables false
set_option linter.unusedSimpArgs false

/-! ### impl_cloneTable: function 22 -/
def impl_cloneTable.f (a0_0 : Int) (l0_1 : List Int) (l0_2 : List Int) : Option (Int × List Int × List Int) := (slices_Clone_int_int.f l0_1).bind fun t397 => ((slices_Clone_int_int.f l0_2).bind fun t400 => (some (a0_0, t397, t400)))
def impl_cloneTable.T1 : Bool × List (List Nat × List Nat) := (true, [([], []), ([0], [0]), ([], []), ([2], [2]), ([3], [3]), ([], []), ([5], [5]), ([6, 4], [6]), ([1, 4, 7], [1, 4, 7]), ([8, 7, 0, 1, 2, 3, 4, 5, 6, 7, 8], [8])])
def impl_cloneTable.B1 : List Nat := [0, 1, 0, 4, 12, 0, 32, 124, 255, 511]
theorem impl_cloneTable.tab1 : rtab .any (opsOf Try.f22 1) = impl_cloneTable.T1 := by kernel_rfl
theorem impl_cloneTable.bits1 : waitsOk impl_cloneTable.T1.2 impl_cloneTable.B1 = true := by kernel_rfl
set_option maxHeartbeats 8000000 in
set_option maxRecDepth 100000 in
theorem impl_cloneTable.calls (a0_0 : Int) (A0_1 : Option Addr) (c0_1 : Nat) (l0_1 : List Int) (A0_2 : Option Addr) (c0_2 : Nat) (l0_2 : List Int) (r1 : Int) (r2 : List Int) (r3 : List Int) (w : World) (hr0_1 : Kd.C (Kd.int .i64) w A0_1 l0_1.length l0_1) (hc0_1 : l0_1.length ≤ c0_1) (hr0_2 : Kd.C (Kd.int .i64) w A0_2 l0_2.length l0_2) (hc0_2 : l0_2.length ≤ c0_2) (h : impl_cloneTable.f a0_0 l0_1 l0_2 = some (r1, r2, r3)) :
  Calls Try.prog 22 #[.agg #[.int .i64 a0_0, .slice A0_1 l0_1.length c0_1, .slice A0_2 l0_2.length c0_2]] w fun e w' => ∃ v1_ v2_ : Value, e = .returned (.agg #[.int .i64 r1, v1_, v2_]) ∧ Kd.R (Kd.int .i64) 3 w' w.heap.size (fun k_ => some k_ ≠ (v2_ : Value).ownBlock) v1_ r2 ∧ Kd.R (Kd.int .i64) 3 w' w.heap.size (fun k_ => some k_ ≠ (v1_ : Value).ownBlock) v2_ r3 ∧ Below w.heap.size w w' := by
 have hu36 := Try.underlying36; have HR0_1 := aM_ hr0_1; have HC0_1 := aM_ hc0_1; clear hr0_1 hc0_1; have HR0_2 := aM_ hr0_2; have HC0_2 := aM_ hc0_2; clear hr0_2 hc0_2; have HB := aM_ (Below.refl w.heap.size w)
 have H : ((slices_Clone_int_int.f l0_1).bind fun t397 => ((slices_Clone_int_int.f l0_2).bind fun t400 => (some (a0_0, t397, t400)))) = some (r1, r2, r3) := h
 clear h
 replace H := Option.bind_eq_some_iff.mp H
 obtain ⟨t397, A20, H⟩ := H
 (try dsimp only at H)
 have A2 := aM_ A20; clear A20
 replace H := Option.bind_eq_some_iff.mp H
 obtain ⟨t400, A30, H⟩ := H
 (try dsimp only at H)
 have A3 := aM_ A30; clear A30
 simp only [Option.some.injEq, Prod.mk.injEq] at H
 obtain ⟨rfl, rfl, rfl⟩ := H
 go_enter Try.func22, Try.ntmps22
 try go_wp2_with (first | ((with_reducible refine gate_dst (N := 1) rfl ?_); refine box_event ?hg (N := 1) ?hd (cs := #[.int .i64 a0_0, .slice A0_1 l0_1.length c0_1, .slice A0_2 l0_2.length c0_2]) (t := 36) ?hr ?_; (case hd => rfl); (case hg => rfl); (case hr => first | (go_simp; done) | (go_simp; rfl)); intro gb395 hg w4 hbox hb; have n0_ := aM_ (wS_ (bw_) hb); have n1_ := aM_ (hbox); have n2_ := aM_ ((by rw [hg]; exact (sZ_ (bw_)) : w.heap.size ≤ gb395)); have n3_ := aM_ ((by rw [hg]; exact (sZ_ (bw_)) : w.heap.size ≤ gb395)); clear HB; have HB := n0_; have BK395 := n1_; have GW395 := n2_; have GE395 := n3_; clear n0_ n1_ n2_ n3_ hb hbox hg) | ((with_reducible refine gate_dst (N := 2) rfl ?_); refine box_event ?hg (N := 2) ?hd (cs := #[.int .i64 0, .slice none 0 0, .slice none 0 0]) (t := 36) ?hr ?_; (case hd => rfl); (case hg => rfl); (case hr => first | (go_simp; done) | (go_simp; rfl)); intro gb396 hg w5 hbox hb; have n0_ := aM_ (bB_ (kb_ BK395.out) hb); have n1_ := aM_ (wS_ (bw_) hb); have n2_ := aM_ (hbox); have n3_ := aM_ ((by rw [hg]; exact (sZ_ (bw_)) : w.heap.size ≤ gb396)); have n4_ := aM_ ((by rw [hg]; exact (sZ_ (bw_)) : w.heap.size ≤ gb396)); have n5_ := aM_ ((by rw [hg]; exact Nat.ne_of_lt (blk_lt (kb_ BK395.out)) : gb395 ≠ gb396)); have n6_ := aM_ ((by rw [hg]; exact Nat.ne_of_gt (blk_lt (kb_ BK395.out)) : gb396 ≠ gb395)); clear BK395 HB; have BK395 := n0_; have HB := n1_; have BK396 := n2_; have GW396 := n3_; have GE396 := n4_; have NB395_396 := n5_; have NB396_395 := n6_; clear n0_ n1_ n2_ n3_ n4_ n5_ n6_ hb hbox hg))
 have n0_ := aM_ (bD_ BK395.out); have n1_ := aM_ (bD_ BK396.out); have n2_ := aM_ (wD_ HB.out); clear BK395 BK396 HB; have BK395 := n0_; have BK396 := n1_; have HB := n2_; clear n0_ n1_ n2_
 refine start_ (n := 10) (S := fun w' => w'.cell? ⟨gb395, 0, none⟩ = some (.int .i64 a0_0) ∧ w'.cell? ⟨gb395, 1, none⟩ = some (.slice A0_1 l0_1.length c0_1) ∧ w'.cell? ⟨gb395, 2, none⟩ = some (.slice A0_2 l0_2.length c0_2)) (ds := []) #[false, false, false, false, false, false, false, false, false, false] (by kernel_rfl) rfl rfl ⟨(blk_cell BK395.out 0).trans rfl, (blk_cell BK395.out 1).trans rfl, (blk_cell BK395.out 2).trans rfl⟩ (fun hHeld => ?_); refine with_tabW impl_cloneTable.tab1 impl_cloneTable.bits1 (fun HT_ HW_ => ?_)
 generalize w5.drew = w6 at BK395 BK396 HB hHeld ⊢
 refine pu_ 0 (some 3) #[true, false, false, false, false, false, false, false, false, false] rfl rfl ?_
 refine pu_ 2 (some 5) #[true, false, true, false, false, false, false, false, false, false] rfl rfl ?_
 refine pu_ 5 (some 8) #[true, false, true, false, false, true, false, false, false, false] rfl rfl ?_
 refine tk3_ 1 (some 4) #[true, true, true, false, false, true, false, false, false, false] rfl rfl ?_
 refine tk3_ 3 (some 6) #[true, true, true, true, false, true, false, false, false, false] rfl rfl ?_
 refine tk3_ 6 (some 9) #[true, true, true, true, false, true, true, false, false, false] rfl rfl ?_
 refine one_ (i := 4) (N := some 7) #[true, true, true, true, true, true, true, false, false, false] rfl rfl (one_of HT_.out (by kernel_rfl)) (by decide) (fun K hK => ?_)
 refine goes_ Try.func28 (by kernel_rfl) rfl #[.slice A0_1 l0_1.length c0_1] (by rfl) rfl rfl (by (try simp only [List.map_toArray, List.map_cons, List.map_nil]); first | done | rfl | (simp only [List.length_drop, List.length_take]; rfl)) ?_
 with_reducible refine (slices_Clone_int_int.calls _ _ l0_1 t397 _ ?side1 ?side2 A2.out).mono ?_
 (case side1 => repeat (first | exact (Kd.C_below HR0_1.out HB.out) | (with_reducible refine cA_ ?_ _) | (with_reducible refine cN_ ?_ _) | (with_reducible refine cD_ ?_)))
 (case side2 => exact HC0_1.out)
 rintro e w7 ⟨v398, rfl, ho0, hb⟩
 refine ⟨_, rfl, ?_⟩
 have n0_ := aM_ (Kd.R_lower ho0 (sZ_ (bw_))); have n1_ := aM_ (bB_ (kb_ BK395.out) hb); have n2_ := aM_ (bB_ (kb_ BK396.out) hb); have n3_ := aM_ (wS_ (bw_) hb); clear BK395 BK396 HB; have HO399 := n0_; have BK395 := n1_; have BK396 := n2_; have HB := n3_; clear n0_ n1_ n2_ n3_; (try clear hb); (try clear hb2); (try clear hk); (try clear hi); (try clear ho0)
 refine hK.out _ _ ⟨(blk_cell BK395.out 0).trans rfl, (blk_cell BK395.out 1).trans rfl, (blk_cell BK395.out 2).trans rfl⟩ (fun hHeld => ?_)
 clear hK K
 refine norm_ (a' := ?_) ?_ ?_
 rotate_left
 ·show Act.put _ (some 7) _ = _
  simp only [Act.put, List.setIfInBounds_toArray, List.set_cons_zero, List.set_cons_succ, i64_w, i32_w]
  rfl
 refine one_ (i := 7) (N := some 10) #[true, true, true, true, true, true, true, true, false, false] rfl rfl (one_of HT_.out (by kernel_rfl)) (by decide) (fun K hK => ?_)
 refine goes_ Try.func28 (by kernel_rfl) rfl #[.slice A0_2 l0_2.length c0_2] (by rfl) rfl rfl (by (try simp only [List.map_toArray, List.map_cons, List.map_nil]); first | done | rfl | (simp only [List.length_drop, List.length_take]; rfl)) ?_
 with_reducible refine (slices_Clone_int_int.calls _ _ l0_2 t400 _ ?side1 ?side2 A3.out).mono ?_
 (case side1 => repeat (first | exact (Kd.C_below HR0_2.out HB.out) | (with_reducible refine cA_ ?_ _) | (with_reducible refine cN_ ?_ _) | (with_reducible refine cD_ ?_)))
 (case side2 => exact HC0_2.out)
 rintro e w8 ⟨v401, rfl, ho0, hb⟩
 refine ⟨_, rfl, ?_⟩
 have n0_ := aM_ (Kd.R_elder' (rb_ HO399.out) (Kd.R_base ho0) hb); have n1_ := aM_ (Kd.R_lower (Kd.R_new' ho0 (Kd.R_lt (rb_ HO399.out))) (sZ_ (bw_))); have n2_ := aM_ (bB_ (kb_ BK395.out) hb); have n3_ := aM_ (bB_ (kb_ BK396.out) hb); have n4_ := aM_ (wS_ (bw_) hb); clear HO399 BK395 BK396 HB; have HO399 := n0_; have HO402 := n1_; have BK395 := n2_; have BK396 := n3_; have HB := n4_; clear n0_ n1_ n2_ n3_ n4_; (try clear hb); (try clear hb2); (try clear hk); (try clear hi); (try clear ho0)
 obtain ⟨Ao9, co9, eo9⟩ := Kd.R_slice HO402.out
 (first | subst eo9 | (injection eo9 with f1_ f2_ f3_; have f4_ := f1_.symm; have f5_ := f3_.symm; clear f1_ f2_ f3_; subst f4_; subst f5_))
 obtain ⟨Ao10, co10, eo10⟩ := Kd.R_slice HO399.out
 (first | subst eo10 | (injection eo10 with f1_ f2_ f3_; have f4_ := f1_.symm; have f5_ := f3_.symm; clear f1_ f2_ f3_; subst f4_; subst f5_))
 refine hK.out _ _ ⟨(blk_cell BK395.out 0).trans rfl, (blk_cell BK395.out 1).trans rfl, (blk_cell BK395.out 2).trans rfl⟩ (fun hHeld => ?_)
 clear hK K
 refine norm_ (a' := ?_) ?_ ?_
 rotate_left
 ·show Act.put _ (some 10) _ = _
  simp only [Act.put, List.setIfInBounds_toArray, List.set_cons_zero, List.set_cons_succ, i64_w, i32_w]
  rfl
 refine pu_ 8 (some 11) #[true, true, true, true, true, true, true, true, true, false] rfl rfl ?_
 refine one_ (i := 9) (N := none) #[true, true, true, true, true, true, true, true, true, true] rfl rfl (one_of HT_.out (by kernel_rfl)) (by decide) (fun K hK => ?_)
 have hs11 : w8.cell? ⟨gb396, 0, none⟩ = some (.int .i64 0) := (blk_cell BK396.out 0).trans rfl
 have hfs11 := blk_frozen BK396.out 0; have hns11_0 := NB395_396.out; have hms11_0 := NB396_395.out
 have hs12 : w8.cell? ⟨gb396, 1, none⟩ = some (.slice none 0 0) := (blk_cell BK396.out 1).trans rfl
 have hfs12 := blk_frozen BK396.out 1; have hns12_0 := NB395_396.out; have hms12_0 := NB396_395.out
 have hs13 : w8.cell? ⟨gb396, 2, none⟩ = some (.slice none 0 0) := (blk_cell BK396.out 2).trans rfl
 have hfs13 := blk_frozen BK396.out 2; have hns13_0 := NB395_396.out; have hms13_0 := NB396_395.out
 refine skip_ (w1 := ?_) (by rfl) rfl ?_ ?_
 rotate_left
 ·go_simp
  rfl
 refine hK.out _ _ ⟨((cell_far (p := ⟨gb396, _, none⟩) NB395_396.out _).trans (((cell_far (p := ⟨gb396, _, none⟩) NB395_396.out _).trans (((cell_far (p := ⟨gb396, _, none⟩) NB395_396.out _).trans (hHeld.1)))))), ((cell_far (p := ⟨gb396, _, none⟩) NB395_396.out _).trans (((cell_far (p := ⟨gb396, _, none⟩) NB395_396.out _).trans (((cell_far (p := ⟨gb396, _, none⟩) NB395_396.out _).trans (hHeld.2.1)))))), ((cell_far (p := ⟨gb396, _, none⟩) NB395_396.out _).trans (((cell_far (p := ⟨gb396, _, none⟩) NB395_396.out _).trans (((cell_far (p := ⟨gb396, _, none⟩) NB395_396.out _).trans (hHeld.2.2))))))⟩ (fun hHeld => ?_)
 clear hK K
 refine done_ (done_of HT_.out (by kernel_rfl)) ?_
 try go_wp2
 refine bodyPost_ret (results_cell_row rfl _ _ gb396 36 #[.int .i64 a0_0, .slice Ao10 t397.length co10, .slice Ao9 t400.length co9] (0, 0) _ rfl (by (with_reducible repeat (first | refine bN_ ?_ _ | refine bD_ ?_ | refine bA_ ?_ _)); refine blk_put (cs := #[.int .i64 a0_0, .slice Ao10 t397.length co10, .slice none 0 0]) ?_ 2 _ rfl; (with_reducible repeat (first | refine bN_ ?_ _ | refine bD_ ?_ | refine bA_ ?_ _)); refine blk_put (cs := #[.int .i64 a0_0, .slice none 0 0, .slice none 0 0]) ?_ 1 _ rfl; (with_reducible repeat (first | refine bN_ ?_ _ | refine bD_ ?_ | refine bA_ ?_ _)); refine blk_put (cs := #[.int .i64 0, .slice none 0 0, .slice none 0 0]) ?_ 0 _ rfl; (with_reducible repeat (first | refine bN_ ?_ _ | refine bD_ ?_ | refine bA_ ?_ _)); exact BK396.out) Try.underlying36 rfl (by kernel_rfl)) rfl ?_
 exact ⟨_, _, by first | rfl | (simp [errW_none, errW_some] <;> rfl) | (simp [*, errW_none, errW_some] <;> rfl), by (with_reducible repeat (first | apply rA_ | apply rN_ | apply rD_)); exact Kd.R_mono (Kd.R_far (p := ⟨gb396, 2, none⟩) (Kd.R_far (p := ⟨gb396, 1, none⟩) (Kd.R_far (p := ⟨gb396, 0, none⟩) (Kd.R_types HO399.out BK396.out (by decide)) (fun _ hk => hk.2) (.int .i64 a0_0)) (fun _ hk => hk.2) (.slice Ao10 t397.length co10)) (fun _ hk => hk.2) (.slice Ao9 t400.length co9)) (fun _ hk => hk.1.2), by (with_reducible repeat (first | apply rA_ | apply rN_ | apply rD_)); exact Kd.R_mono (Kd.R_far (p := ⟨gb396, 2, none⟩) (Kd.R_far (p := ⟨gb396, 1, none⟩) (Kd.R_far (p := ⟨gb396, 0, none⟩) (Kd.R_types HO402.out BK396.out (by decide)) (fun _ hk => hk.2) (.int .i64 a0_0)) (fun _ hk => hk.2) (.slice Ao10 t397.length co10)) (fun _ hk => hk.2) (.slice Ao9 t400.length co9)) (fun _ hk => hk.1.2), bw_⟩

/-! ### impl_TableIn: function 9 -/
def impl_TableIn.f (a0_0 : Int) (a0_1 : Int) (a0_2 : Int) (l0_3 : List (S60)) (a1 : Int) (a2 : Int) : Option (Int × List Int × List Int × Bool) := (impl_isIndex.f a1 (l0_3.length : Int)).bind fun t405 => (if t405 = true then (if 0 ≤ a1 then (if a1 < (l0_3.length : Int) then ((impl_isIndex.f a2 (((rd_T60 l0_3 a1).f2).length : Int)).bind fun t407 => (if t407 = true then (if 0 ≤ a2 then (if a2 < (((rd_T60 l0_3 a1).f2).length : Int) then ((impl_cloneTable.f ((rd_T36 ((rd_T60 l0_3 a1).f2) a2).f0) ((rd_T36 ((rd_T60 l0_3 a1).f2) a2).f1) ((rd_T36 ((rd_T60 l0_3 a1).f2) a2).f2)).bind fun bt410 => (some (bt410.1, bt410.2.1, bt410.2.2, true))) else (none)) else (none)) else (some (0, ([] : List Int), ([] : List Int), false)))) else (none)) else (none)) else (some (0, ([] : List Int), ([] : List Int), false)))
set_option maxHeartbeats 8000000 in
set_option maxRecDepth 100000 in
theorem impl_TableIn.calls (a0_0 : Int) (a0_1 : Int) (a0_2 : Int) (A0_3 : Option Addr) (c0_3 : Nat) (l0_3 : List (S60)) (a1 : Int) (a2 : Int) (r1 : Int) (r2 : List Int) (r3 : List Int) (r4 : Bool) (w : World) (hr0_3 : Kd.C k60 w A0_3 l0_3.length l0_3) (hc0_3 : l0_3.length ≤ c0_3) (h : impl_TableIn.f a0_0 a0_1 a0_2 l0_3 a1 a2 = some (r1, r2, r3, r4)) :
  Calls Try.prog 9 #[.agg #[.int .i64 a0_0, .int .i64 a0_1, .int .i64 a0_2, .slice A0_3 l0_3.length c0_3], .int .i64 a1, .int .i64 a2] w fun e w' => ∃ v1_ v2_ : Value, e = .returned (.tuple #[.agg #[.int .i64 r1, v1_, v2_], .bool r4]) ∧ Kd.R (Kd.int .i64) 3 w' w.heap.size (fun k_ => some k_ ≠ (v2_ : Value).ownBlock) v1_ r2 ∧ Kd.R (Kd.int .i64) 3 w' w.heap.size (fun k_ => some k_ ≠ (v1_ : Value).ownBlock) v2_ r3 ∧ Below w.heap.size w w' := by
 have hu29 := Try.underlying29; have hu36 := Try.underlying36; have HR0_3 := aM_ hr0_3; have HC0_3 := aM_ hc0_3; clear hr0_3 hc0_3; have HB := aM_ (Below.refl w.heap.size w)
 have H : ((impl_isIndex.f a1 (l0_3.length : Int)).bind fun t405 => (if t405 = true then (if 0 ≤ a1 then (if a1 < (l0_3.length : Int) then ((impl_isIndex.f a2 (((rd_T60 l0_3 a1).f2).length : Int)).bind fun t407 => (if t407 = true then (if 0 ≤ a2 then (if a2 < (((rd_T60 l0_3 a1).f2).length : Int) then ((impl_cloneTable.f ((rd_T36 ((rd_T60 l0_3 a1).f2) a2).f0) ((rd_T36 ((rd_T60 l0_3 a1).f2) a2).f1) ((rd_T36 ((rd_T60 l0_3 a1).f2) a2).f2)).bind fun bt410 => (some (bt410.1, bt410.2.1, bt410.2.2, true))) else (none)) else (none)) else (some (0, ([] : List Int), ([] : List Int), false)))) else (none)) else (none)) else (some (0, ([] : List Int), ([] : List Int), false)))) = some (r1, r2, r3, r4) := h
 clear h
 replace H := Option.bind_eq_some_iff.mp H
 obtain ⟨t405, A40, H⟩ := H
 (try dsimp only at H)
 have A4 := aM_ A40; clear A40
 by_cases c5 : t405 = true
 ·subst c5
  have H1 : (if 0 ≤ a1 then (if a1 < (l0_3.length : Int) then ((impl_isIndex.f a2 (((rd_T60 l0_3 a1).f2).length : Int)).bind fun t407 => (if t407 = true then (if 0 ≤ a2 then (if a2 < (((rd_T60 l0_3 a1).f2).length : Int) then ((impl_cloneTable.f ((rd_T36 ((rd_T60 l0_3 a1).f2) a2).f0) ((rd_T36 ((rd_T60 l0_3 a1).f2) a2).f1) ((rd_T36 ((rd_T60 l0_3 a1).f2) a2).f2)).bind fun bt410 => (some (bt410.1, bt410.2.1, bt410.2.2, true))) else (none)) else (none)) else (some (0, ([] : List Int), ([] : List Int), false)))) else (none)) else (none)) = some (r1, r2, r3, r4) := by rw [if_pos rfl] at H; exact H
  clear H; have H := H1; clear H1
  by_cases c6 : 0 ≤ a1
  ·rw [if_pos c6] at H
   have c6b0 : decide (0 ≤ a1) = true := decide_eq_true c6
   clear c6
   by_cases c7 : a1 < (l0_3.length : Int)
   ·rw [if_pos c7] at H
    have c7b0 : decide (a1 < (l0_3.length : Int)) = true := decide_eq_true c7
    clear c7
    replace H := Option.bind_eq_some_iff.mp H
    obtain ⟨t407, A80, H⟩ := H
    (try dsimp only at H)
    have A8 := aM_ A80; clear A80
    by_cases c9 : t407 = true
    ·subst c9
     have H1 : (if 0 ≤ a2 then (if a2 < (((rd_T60 l0_3 a1).f2).length : Int) then ((impl_cloneTable.f ((rd_T36 ((rd_T60 l0_3 a1).f2) a2).f0) ((rd_T36 ((rd_T60 l0_3 a1).f2) a2).f1) ((rd_T36 ((rd_T60 l0_3 a1).f2) a2).f2)).bind fun bt410 => (some (bt410.1, bt410.2.1, bt410.2.2, true))) else (none)) else (none)) = some (r1, r2, r3, r4) := by rw [if_pos rfl] at H; exact H
     clear H; have H := H1; clear H1
     by_cases c10 : 0 ≤ a2
     ·rw [if_pos c10] at H
      have c10b0 : decide (0 ≤ a2) = true := decide_eq_true c10
      clear c10
      by_cases c11 : a2 < (((rd_T60 l0_3 a1).f2).length : Int)
      ·rw [if_pos c11] at H
       have c11b0 : decide (a2 < (((rd_T60 l0_3 a1).f2).length : Int)) = true := decide_eq_true c11
       clear c11
       replace H := Option.bind_eq_some_iff.mp H
       obtain ⟨⟨t410, t411, t414⟩, A120, H⟩ := H
       (try dsimp only at H)
       have A12 := aM_ A120; clear A120
       simp only [Option.some.injEq, Prod.mk.injEq] at H
       obtain ⟨rfl, rfl, rfl, rfl⟩ := H
       go_enter Try.func9, Try.ntmps9
       go_wp2_with (first | ((with_reducible refine gate_dst (N := 3) rfl ?_); (try (refine gate_guard (by rfl) ?_; dsimp only)); refine box_event ?hg (N := 3) ?hd (cs := #[.int .i64 a0_0, .int .i64 a0_1, .int .i64 a0_2, .slice A0_3 l0_3.length c0_3]) (t := 29) ?hr ?_; (case hd => rfl); (case hg => rfl); (case hr => first | (go_simp; done) | (go_simp; rfl)); intro gb403 hg w13 hbox hb; have n0_ := aM_ (wS_ (bw_) hb); have n1_ := aM_ (hbox); have n2_ := aM_ ((by rw [hg]; exact (sZ_ (bw_)) : w.heap.size ≤ gb403)); have n3_ := aM_ ((by rw [hg]; exact (sZ_ (bw_)) : w.heap.size ≤ gb403)); clear HB; have HB := n0_; have BK403 := n1_; have GW403 := n2_; have GE403 := n3_; clear n0_ n1_ n2_ n3_ hb hbox hg) | ((with_reducible refine gate_dst (N := 6) rfl ?_); (try (refine gate_guard (by rfl) ?_; dsimp only)); refine box_event ?hg (N := 6) ?hd (cs := #[.int .i64 0, .slice none 0 0, .slice none 0 0]) (t := 36) ?hr ?_; (case hd => rfl); (case hg => rfl); (case hr => first | (go_simp; done) | (go_simp; rfl)); intro gb404 hg w14 hbox hb; have n0_ := aM_ (bB_ (kb_ BK403.out) hb); have n1_ := aM_ (wS_ (bw_) hb); have n2_ := aM_ (hbox); have n3_ := aM_ ((by rw [hg]; exact (sZ_ (bw_)) : w.heap.size ≤ gb404)); have n4_ := aM_ ((by rw [hg]; exact (sZ_ (bw_)) : w.heap.size ≤ gb404)); have n5_ := aM_ ((by rw [hg]; exact Nat.ne_of_lt (blk_lt (kb_ BK403.out)) : gb403 ≠ gb404)); have n6_ := aM_ ((by rw [hg]; exact Nat.ne_of_gt (blk_lt (kb_ BK403.out)) : gb404 ≠ gb403)); clear BK403 HB; have BK403 := n0_; have HB := n1_; have BK404 := n2_; have GW404 := n3_; have GE404 := n4_; have NB403_404 := n5_; have NB404_403 := n6_; clear n0_ n1_ n2_ n3_ n4_ n5_ n6_ hb hbox hg; have hnb15 := NB403_404.out; have hnc15 := NB404_403.out; obtain ⟨hcz16_0, hcz16_1, hcz16_2, hcz16_3, hfz16_0, hfz16_1, hfz16_2, hfz16_3⟩ := bk4_ BK403.out) | ((with_reducible refine gate_callee (f := 18) rfl ?_); refine goesL_ (some 12) rfl rfl Try.func18 (by kernel_rfl) rfl #[.int .i64 a1, .int .i64 (l0_3.length : Int)] rfl (by (try simp only [List.map_toArray, List.map_cons, List.map_nil]); first | done | rfl | (simp only [List.length_drop, List.length_take]; rfl)) ?_; (with_reducible refine (impl_isIndex.calls a1 (l0_3.length : Int) true _ A4.out).mono ?_); rintro e w' ⟨rfl, ⟨nd, rfl⟩⟩; refine ⟨_, rfl, ?_⟩; skip; have p406 : 0 ≤ (a1 : Int) := dT_; have q406 : a1 < (l0_3.length : Int) := dT_; obtain ⟨ad406, A406_2, c406_2, A406_3, c406_3, e406, hx406_0, hx406_1, hx406_2, hx406_3, hl406_2, hi406_2, hl406_3, hi406_3⟩ := at_T60 HR0_3.out a1 p406 q406; cases e406; replace hx406_0 := (HB.out.cell (World.block_lt_of_cell? w _ hx406_0)).trans hx406_0; replace hx406_1 := (HB.out.cell (World.block_lt_of_cell? w _ hx406_1)).trans hx406_1; replace hx406_2 := (HB.out.cell (World.block_lt_of_cell? w _ hx406_2)).trans hx406_2; replace hx406_3 := (HB.out.cell (World.block_lt_of_cell? w _ hx406_3)).trans hx406_3; have HR406_2 := aM_ hi406_2; have HC406_2 := aM_ hl406_2; clear hi406_2 hl406_2; have HR406_3 := aM_ hi406_3; have HC406_3 := aM_ hl406_3; clear hi406_3 hl406_3; replace p406 := eq_true p406; replace q406 := eq_true q406) | (go_at_call 18; (with_reducible refine (impl_isIndex.calls a2 (((rd_T60 l0_3 a1).f2).length : Int) true _ A8.out).mono ?_); rintro e w' ⟨rfl, ⟨nd, rfl⟩⟩; skip; have p408 : 0 ≤ (a1 : Int) := dT_; have q408 : a1 < (l0_3.length : Int) := dT_; obtain ⟨ad408, A408_2, c408_2, A408_3, c408_3, e408, hx408_0, hx408_1, hx408_2, hx408_3, hl408_2, hi408_2, hl408_3, hi408_3⟩ := at_T60 HR0_3.out a1 p408 q408; obtain rfl : ad406 = ad408 := (by injection e408); replace hx408_0 := (HB.out.cell (World.block_lt_of_cell? w _ hx408_0)).trans hx408_0; replace hx408_1 := (HB.out.cell (World.block_lt_of_cell? w _ hx408_1)).trans hx408_1; replace hx408_2 := (HB.out.cell (World.block_lt_of_cell? w _ hx408_2)).trans hx408_2; replace hx408_3 := (HB.out.cell (World.block_lt_of_cell? w _ hx408_3)).trans hx408_3; have HR408_2 := aM_ hi408_2; have HC408_2 := aM_ hl408_2; clear hi408_2 hl408_2; have HR408_3 := aM_ hi408_3; have HC408_3 := aM_ hl408_3; clear hi408_3 hl408_3; replace p408 := eq_true p408; replace q408 := eq_true q408; have ea_ := Option.some.inj (hx406_2.symm.trans hx408_2); injection ea_ with ea_ en_ ec_; subst ea_; subst ec_; clear en_; have ea_ := Option.some.inj (hx406_3.symm.trans hx408_3); injection ea_ with ea_ en_ ec_; subst ea_; subst ec_; clear en_; have p409 : 0 ≤ (a2 : Int) := dT_; have q409 : a2 < (((rd_T60 l0_3 a1).f2).length : Int) := dT_; obtain ⟨ad409, A409_1, c409_1, A409_2, c409_2, e409, hx409_0, hx409_1, hx409_2, hl409_1, hi409_1, hl409_2, hi409_2⟩ := at_T36 HR408_3.out a2 p409 q409; cases e409; replace hx409_0 := (HB.out.cell (World.block_lt_of_cell? w _ hx409_0)).trans hx409_0; replace hx409_1 := (HB.out.cell (World.block_lt_of_cell? w _ hx409_1)).trans hx409_1; replace hx409_2 := (HB.out.cell (World.block_lt_of_cell? w _ hx409_2)).trans hx409_2; have HR409_1 := aM_ hi409_1; have HC409_1 := aM_ hl409_1; clear hi409_1 hl409_1; have HR409_2 := aM_ hi409_2; have HC409_2 := aM_ hl409_2; clear hi409_2 hl409_2; replace p409 := eq_true p409; replace q409 := eq_true q409) | ((with_reducible refine gate_callee (f := 22) rfl ?_); refine goesL_ (some 36) rfl rfl Try.func22 (by kernel_rfl) rfl #[.agg #[.int .i64 ((rd_T36 ((rd_T60 l0_3 a1).f2) a2).f0), .slice A409_1 ((rd_T36 ((rd_T60 l0_3 a1).f2) a2).f1).length c409_1, .slice A409_2 ((rd_T36 ((rd_T60 l0_3 a1).f2) a2).f2).length c409_2]] rfl (by (try simp only [List.map_toArray, List.map_cons, List.map_nil]); first | done | rfl | (simp only [List.length_drop, List.length_take]; rfl)) ?_; (with_reducible refine (impl_cloneTable.calls ((rd_T36 ((rd_T60 l0_3 a1).f2) a2).f0) _ _ ((rd_T36 ((rd_T60 l0_3 a1).f2) a2).f1) _ _ ((rd_T36 ((rd_T60 l0_3 a1).f2) a2).f2) t410 t411 t414 _ ?side1 ?side2 ?side3 ?side4 A12.out).mono ?_); (case side1 => repeat (first | exact (Kd.C_below HR409_1.out HB.out) | (with_reducible refine cA_ ?_ _) | (with_reducible refine cN_ ?_ _) | (with_reducible refine cD_ ?_))); (case side2 => exact HC409_1.out); (case side3 => repeat (first | exact (Kd.C_below HR409_2.out HB.out) | (with_reducible refine cA_ ?_ _) | (with_reducible refine cN_ ?_ _) | (with_reducible refine cD_ ?_))); (case side4 => exact HC409_2.out); rintro e w17 ⟨v412, v415, rfl, ho0, ho1, hb⟩; refine ⟨_, rfl, ?_⟩; have n0_ := aM_ (Kd.R_lower ho0 (sZ_ (bw_))); have n1_ := aM_ (Kd.R_lower ho1 (sZ_ (bw_))); have n2_ := aM_ (bB_ (kb_ BK403.out) hb); have n3_ := aM_ (bB_ (kb_ BK404.out) hb); have n4_ := aM_ (wS_ (bw_) hb); clear BK403 BK404 HB; have HO413 := n0_; have HO416 := n1_; have BK403 := n2_; have BK404 := n3_; have HB := n4_; clear n0_ n1_ n2_ n3_ n4_; (try clear hb); (try clear hb2); (try clear hk); (try clear hi); (try clear ho0); (try clear ho1); obtain ⟨hcz18_0, hcz18_1, hcz18_2, hfz18_0, hfz18_1, hfz18_2⟩ := bk3_ BK404.out; obtain ⟨Ao19, co19, eo19⟩ := Kd.R_slice HO413.out; subst eo19; obtain ⟨Ao20, co20, eo20⟩ := Kd.R_slice HO416.out; subst eo20))
       refine bodyPost_ret (results_ct rfl _ _ gb404 36 #[.int .i64 t410, .slice Ao19 t411.length co19, .slice Ao20 t414.length co20] (0, 0) _ rfl (by (with_reducible repeat (first | refine bN_ ?_ _ | refine bD_ ?_ | refine bA_ ?_ _)); refine blk_put (cs := #[.int .i64 t410, .slice Ao19 t411.length co19, .slice none 0 0]) ?_ 2 _ rfl; (with_reducible repeat (first | refine bN_ ?_ _ | refine bD_ ?_ | refine bA_ ?_ _)); refine blk_put (cs := #[.int .i64 t410, .slice none 0 0, .slice none 0 0]) ?_ 1 _ rfl; (with_reducible repeat (first | refine bN_ ?_ _ | refine bD_ ?_ | refine bA_ ?_ _)); refine blk_put (cs := #[.int .i64 0, .slice none 0 0, .slice none 0 0]) ?_ 0 _ rfl; (with_reducible repeat (first | refine bN_ ?_ _ | refine bD_ ?_ | refine bA_ ?_ _)); exact BK404.out) Try.underlying36 rfl (by kernel_rfl)) rfl ?_
       exact ⟨_, _, by first | rfl | (simp [errW_none, errW_some] <;> rfl) | (simp [*, errW_none, errW_some] <;> rfl), by (with_reducible repeat (first | apply rA_ | apply rN_ | apply rD_)); exact Kd.R_mono (Kd.R_far (p := ⟨gb404, 2, none⟩) (Kd.R_far (p := ⟨gb404, 1, none⟩) (Kd.R_far (p := ⟨gb404, 0, none⟩) (Kd.R_types HO413.out BK404.out (by decide)) (fun _ hk => hk.2) (.int .i64 t410)) (fun _ hk => hk.2) (.slice Ao19 t411.length co19)) (fun _ hk => hk.2) (.slice Ao20 t414.length co20)) (fun _ hk => hk.1), by (with_reducible repeat (first | apply rA_ | apply rN_ | apply rD_)); exact Kd.R_mono (Kd.R_far (p := ⟨gb404, 2, none⟩) (Kd.R_far (p := ⟨gb404, 1, none⟩) (Kd.R_far (p := ⟨gb404, 0, none⟩) (Kd.R_types HO416.out BK404.out (by decide)) (fun _ hk => hk.2) (.int .i64 t410)) (fun _ hk => hk.2) (.slice Ao19 t411.length co19)) (fun _ hk => hk.2) (.slice Ao20 t414.length co20)) (fun _ hk => hk.1), bw_⟩
      ·rw [if_neg c11] at H
       exact absurd H (by simp)
     ·rw [if_neg c10] at H
      exact absurd H (by simp)
    ·replace c9 := Bool.eq_false_iff.mpr c9
     subst c9
     have H1 : (some (0, ([] : List Int), ([] : List Int), false)) = some (r1, r2, r3, r4) := by rw [if_neg (show ¬ (false = true) by decide)] at H; exact H
     clear H; have H := H1; clear H1
     simp only [Option.some.injEq, Prod.mk.injEq] at H
     obtain ⟨rfl, rfl, rfl, rfl⟩ := H
     go_enter Try.func9, Try.ntmps9
     go_wp2_with (first | ((with_reducible refine gate_dst (N := 3) rfl ?_); (try (refine gate_guard (by rfl) ?_; dsimp only)); refine box_event ?hg (N := 3) ?hd (cs := #[.int .i64 a0_0, .int .i64 a0_1, .int .i64 a0_2, .slice A0_3 l0_3.length c0_3]) (t := 29) ?hr ?_; (case hd => rfl); (case hg => rfl); (case hr => first | (go_simp; done) | (go_simp; rfl)); intro gb403 hg w21 hbox hb; have n0_ := aM_ (wS_ (bw_) hb); have n1_ := aM_ (hbox); have n2_ := aM_ ((by rw [hg]; exact (sZ_ (bw_)) : w.heap.size ≤ gb403)); have n3_ := aM_ ((by rw [hg]; exact (sZ_ (bw_)) : w.heap.size ≤ gb403)); clear HB; have HB := n0_; have BK403 := n1_; have GW403 := n2_; have GE403 := n3_; clear n0_ n1_ n2_ n3_ hb hbox hg) | ((with_reducible refine gate_dst (N := 6) rfl ?_); (try (refine gate_guard (by rfl) ?_; dsimp only)); refine box_event ?hg (N := 6) ?hd (cs := #[.int .i64 0, .slice none 0 0, .slice none 0 0]) (t := 36) ?hr ?_; (case hd => rfl); (case hg => rfl); (case hr => first | (go_simp; done) | (go_simp; rfl)); intro gb404 hg w22 hbox hb; have n0_ := aM_ (bB_ (kb_ BK403.out) hb); have n1_ := aM_ (wS_ (bw_) hb); have n2_ := aM_ (hbox); have n3_ := aM_ ((by rw [hg]; exact (sZ_ (bw_)) : w.heap.size ≤ gb404)); have n4_ := aM_ ((by rw [hg]; exact (sZ_ (bw_)) : w.heap.size ≤ gb404)); have n5_ := aM_ ((by rw [hg]; exact Nat.ne_of_lt (blk_lt (kb_ BK403.out)) : gb403 ≠ gb404)); have n6_ := aM_ ((by rw [hg]; exact Nat.ne_of_gt (blk_lt (kb_ BK403.out)) : gb404 ≠ gb403)); clear BK403 HB; have BK403 := n0_; have HB := n1_; have BK404 := n2_; have GW404 := n3_; have GE404 := n4_; have NB403_404 := n5_; have NB404_403 := n6_; clear n0_ n1_ n2_ n3_ n4_ n5_ n6_ hb hbox hg; have hnb23 := NB403_404.out; have hnc23 := NB404_403.out; obtain ⟨hcz24_0, hcz24_1, hcz24_2, hcz24_3, hfz24_0, hfz24_1, hfz24_2, hfz24_3⟩ := bk4_ BK403.out) | ((with_reducible refine gate_callee (f := 18) rfl ?_); refine goesL_ (some 12) rfl rfl Try.func18 (by kernel_rfl) rfl #[.int .i64 a1, .int .i64 (l0_3.length : Int)] rfl (by (try simp only [List.map_toArray, List.map_cons, List.map_nil]); first | done | rfl | (simp only [List.length_drop, List.length_take]; rfl)) ?_; (with_reducible refine (impl_isIndex.calls a1 (l0_3.length : Int) true _ A4.out).mono ?_); rintro e w' ⟨rfl, ⟨nd, rfl⟩⟩; refine ⟨_, rfl, ?_⟩; skip; have p406 : 0 ≤ (a1 : Int) := dT_; have q406 : a1 < (l0_3.length : Int) := dT_; obtain ⟨ad406, A406_2, c406_2, A406_3, c406_3, e406, hx406_0, hx406_1, hx406_2, hx406_3, hl406_2, hi406_2, hl406_3, hi406_3⟩ := at_T60 HR0_3.out a1 p406 q406; cases e406; replace hx406_0 := (HB.out.cell (World.block_lt_of_cell? w _ hx406_0)).trans hx406_0; replace hx406_1 := (HB.out.cell (World.block_lt_of_cell? w _ hx406_1)).trans hx406_1; replace hx406_2 := (HB.out.cell (World.block_lt_of_cell? w _ hx406_2)).trans hx406_2; replace hx406_3 := (HB.out.cell (World.block_lt_of_cell? w _ hx406_3)).trans hx406_3; have HR406_2 := aM_ hi406_2; have HC406_2 := aM_ hl406_2; clear hi406_2 hl406_2; have HR406_3 := aM_ hi406_3; have HC406_3 := aM_ hl406_3; clear hi406_3 hl406_3; replace p406 := eq_true p406; replace q406 := eq_true q406) | (go_at_call 18; (with_reducible refine (impl_isIndex.calls a2 (((rd_T60 l0_3 a1).f2).length : Int) false _ A8.out).mono ?_); rintro e w' ⟨rfl, ⟨nd, rfl⟩⟩; skip; obtain ⟨hcz25_0, hcz25_1, hcz25_2, hfz25_0, hfz25_1, hfz25_2⟩ := bk3_ BK404.out))
     refine bodyPost_ret (results_ct rfl _ _ gb404 36 #[.int .i64 0, .slice none 0 0, .slice none 0 0] (0, 0) _ rfl (by (with_reducible repeat (first | refine bN_ ?_ _ | refine bD_ ?_ | refine bA_ ?_ _)); refine blk_put (cs := #[.int .i64 0, .slice none 0 0, .slice none 0 0]) ?_ 2 _ rfl; (with_reducible repeat (first | refine bN_ ?_ _ | refine bD_ ?_ | refine bA_ ?_ _)); refine blk_put (cs := #[.int .i64 0, .slice none 0 0, .slice none 0 0]) ?_ 1 _ rfl; (with_reducible repeat (first | refine bN_ ?_ _ | refine bD_ ?_ | refine bA_ ?_ _)); refine blk_put (cs := #[.int .i64 0, .slice none 0 0, .slice none 0 0]) ?_ 0 _ rfl; (with_reducible repeat (first | refine bN_ ?_ _ | refine bD_ ?_ | refine bA_ ?_ _)); exact BK404.out) Try.underlying36 rfl (by kernel_rfl)) rfl ?_
     exact ⟨_, _, by first | rfl | (simp [errW_none, errW_some] <;> rfl) | (simp [*, errW_none, errW_some] <;> rfl), by first | exact Kd.R_nil _ _ _ _ _ | exact Kd.N_nil _ _ _ _ _ | exact Kd.V_nil _ _ _ _ _ | exact Kd.Q_nil _ _ _ _ _ | exact Kd.S_nil _ _ _ _ _, by first | exact Kd.R_nil _ _ _ _ _ | exact Kd.N_nil _ _ _ _ _ | exact Kd.V_nil _ _ _ _ _ | exact Kd.Q_nil _ _ _ _ _ | exact Kd.S_nil _ _ _ _ _, bw_⟩
   ·rw [if_neg c7] at H
    exact absurd H (by simp)
  ·rw [if_neg c6] at H
   exact absurd H (by simp)
 ·replace c5 := Bool.eq_false_iff.mpr c5
  subst c5
  have H1 : (some (0, ([] : List Int), ([] : List Int), false)) = some (r1, r2, r3, r4) := by rw [if_neg (show ¬ (false = true) by decide)] at H; exact H
  clear H; have H := H1; clear H1
  simp only [Option.some.injEq, Prod.mk.injEq] at H
  obtain ⟨rfl, rfl, rfl, rfl⟩ := H
  go_enter Try.func9, Try.ntmps9
  go_wp2_with (first | ((with_reducible refine gate_dst (N := 3) rfl ?_); (try (refine gate_guard (by rfl) ?_; dsimp only)); refine box_event ?hg (N := 3) ?hd (cs := #[.int .i64 a0_0, .int .i64 a0_1, .int .i64 a0_2, .slice A0_3 l0_3.length c0_3]) (t := 29) ?hr ?_; (case hd => rfl); (case hg => rfl); (case hr => first | (go_simp; done) | (go_simp; rfl)); intro gb403 hg w26 hbox hb; have n0_ := aM_ (wS_ (bw_) hb); have n1_ := aM_ (hbox); have n2_ := aM_ ((by rw [hg]; exact (sZ_ (bw_)) : w.heap.size ≤ gb403)); have n3_ := aM_ ((by rw [hg]; exact (sZ_ (bw_)) : w.heap.size ≤ gb403)); clear HB; have HB := n0_; have BK403 := n1_; have GW403 := n2_; have GE403 := n3_; clear n0_ n1_ n2_ n3_ hb hbox hg) | ((with_reducible refine gate_dst (N := 6) rfl ?_); (try (refine gate_guard (by rfl) ?_; dsimp only)); refine box_event ?hg (N := 6) ?hd (cs := #[.int .i64 0, .slice none 0 0, .slice none 0 0]) (t := 36) ?hr ?_; (case hd => rfl); (case hg => rfl); (case hr => first | (go_simp; done) | (go_simp; rfl)); intro gb404 hg w27 hbox hb; have n0_ := aM_ (bB_ (kb_ BK403.out) hb); have n1_ := aM_ (wS_ (bw_) hb); have n2_ := aM_ (hbox); have n3_ := aM_ ((by rw [hg]; exact (sZ_ (bw_)) : w.heap.size ≤ gb404)); have n4_ := aM_ ((by rw [hg]; exact (sZ_ (bw_)) : w.heap.size ≤ gb404)); have n5_ := aM_ ((by rw [hg]; exact Nat.ne_of_lt (blk_lt (kb_ BK403.out)) : gb403 ≠ gb404)); have n6_ := aM_ ((by rw [hg]; exact Nat.ne_of_gt (blk_lt (kb_ BK403.out)) : gb404 ≠ gb403)); clear BK403 HB; have BK403 := n0_; have HB := n1_; have BK404 := n2_; have GW404 := n3_; have GE404 := n4_; have NB403_404 := n5_; have NB404_403 := n6_; clear n0_ n1_ n2_ n3_ n4_ n5_ n6_ hb hbox hg; have hnb28 := NB403_404.out; have hnc28 := NB404_403.out; obtain ⟨hcz29_0, hcz29_1, hcz29_2, hcz29_3, hfz29_0, hfz29_1, hfz29_2, hfz29_3⟩ := bk4_ BK403.out) | ((with_reducible refine gate_callee (f := 18) rfl ?_); refine goesL_ (some 12) rfl rfl Try.func18 (by kernel_rfl) rfl #[.int .i64 a1, .int .i64 (l0_3.length : Int)] rfl (by (try simp only [List.map_toArray, List.map_cons, List.map_nil]); first | done | rfl | (simp only [List.length_drop, List.length_take]; rfl)) ?_; (with_reducible refine (impl_isIndex.calls a1 (l0_3.length : Int) false _ A4.out).mono ?_); rintro e w' ⟨rfl, ⟨nd, rfl⟩⟩; refine ⟨_, rfl, ?_⟩; skip; obtain ⟨hcz30_0, hcz30_1, hcz30_2, hfz30_0, hfz30_1, hfz30_2⟩ := bk3_ BK404.out))
  refine bodyPost_ret (results_ct rfl _ _ gb404 36 #[.int .i64 0, .slice none 0 0, .slice none 0 0] (0, 0) _ rfl (by (with_reducible repeat (first | refine bN_ ?_ _ | refine bD_ ?_ | refine bA_ ?_ _)); refine blk_put (cs := #[.int .i64 0, .slice none 0 0, .slice none 0 0]) ?_ 2 _ rfl; (with_reducible repeat (first | refine bN_ ?_ _ | refine bD_ ?_ | refine bA_ ?_ _)); refine blk_put (cs := #[.int .i64 0, .slice none 0 0, .slice none 0 0]) ?_ 1 _ rfl; (with_reducible repeat (first | refine bN_ ?_ _ | refine bD_ ?_ | refine bA_ ?_ _)); refine blk_put (cs := #[.int .i64 0, .slice none 0 0, .slice none 0 0]) ?_ 0 _ rfl; (with_reducible repeat (first | refine bN_ ?_ _ | refine bD_ ?_ | refine bA_ ?_ _)); exact BK404.out) Try.underlying36 rfl (by kernel_rfl)) rfl ?_
  exact ⟨_, _, by first | rfl | (simp [errW_none, errW_some] <;> rfl) | (simp [*, errW_none, errW_some] <;> rfl), by first | exact Kd.R_nil _ _ _ _ _ | exact Kd.N_nil _ _ _ _ _ | exact Kd.V_nil _ _ _ _ _ | exact Kd.Q_nil _ _ _ _ _ | exact Kd.S_nil _ _ _ _ _, by first | exact Kd.R_nil _ _ _ _ _ | exact Kd.N_nil _ _ _ _ _ | exact Kd.V_nil _ _ _ _ _ | exact Kd.Q_nil _ _ _ _ _ | exact Kd.S_nil _ _ _ _ _, bw_⟩

/-! ### impl_LandingFor: function 6 -/
mutual
def impl_LandingFor.l0 : Nat → Int → Int → Int → Int → List Int → Int → Int → Int → Int → Int → List (S60) → Option (Int)
  | 0, _, _, _, _, _, _, _, _, _, _, _ => none
  | k + 1, x2, x9, x10, x11, x21, x22, x23, x419000, x419001, x419002, x419003 => if x23 < x22 then (if 0 ≤ x23 then (if x23 < (x21.length : Int) then ((impl_TableIn.f x419000 x419001 x419002 x419003 x11 (rd x21 x23)).bind fun bt421 => (if bt421.2.2.2 = true then ((impl_isIndex.f x2 (bt421.2.1.length : Int)).bind fun t430 => (if t430 = true then (if 0 ≤ x2 then (if x2 < (bt421.2.1.length : Int) then (impl_LandingFor.j1 k x2 x9 x10 x11 (rd x21 x23) x21 x22 x23 (decide ((rd bt421.2.1 x2) < 0)) x419000 x419001 x419002 x419003 bt421.1 bt421.2.1 bt421.2.2.1) else (none)) else (none)) else (impl_LandingFor.j1 k x2 x9 x10 x11 (rd x21 x23) x21 x22 x23 true x419000 x419001 x419002 x419003 bt421.1 bt421.2.1 bt421.2.2.1))) else (impl_LandingFor.j1 k x2 x9 x10 x11 (rd x21 x23) x21 x22 x23 true x419000 x419001 x419002 x419003 bt421.1 bt421.2.1 bt421.2.2.1))) else (none)) else (none)) else (some x9)
def impl_LandingFor.j1 : Nat → Int → Int → Int → Int → Int → List Int → Int → Int → Bool → Int → Int → Int → List (S60) → Int → List Int → List Int → Option (Int)
  | 0, _, _, _, _, _, _, _, _, _, _, _, _, _, _, _, _ => none
  | k + 1, x2, x9, x10, x11, x13, x21, x22, x23, x51, x419000, x419001, x419002, x419003, x430000, x430001, x430002 => if x51 = true then (impl_LandingFor.l0 k x2 x9 x10 x11 x21 x22 (wrap64 (x23 + 1)) x419000 x419001 x419002 x419003) else (if 0 ≤ x2 then (if x2 < (x430001.length : Int) then (if x9 < 0 then (impl_LandingFor.l0 k x2 x13 (rd x430001 x2) x11 x21 x22 (wrap64 (x23 + 1)) x419000 x419001 x419002 x419003) else (if (rd x430001 x2) < x10 then (impl_LandingFor.l0 k x2 x13 (rd x430001 x2) x11 x21 x22 (wrap64 (x23 + 1)) x419000 x419001 x419002 x419003) else (if (rd x430001 x2) = x10 then (if x13 < x9 then (impl_LandingFor.l0 k x2 x13 (rd x430001 x2) x11 x21 x22 (wrap64 (x23 + 1)) x419000 x419001 x419002 x419003) else (impl_LandingFor.l0 k x2 x9 x10 x11 x21 x22 (wrap64 (x23 + 1)) x419000 x419001 x419002 x419003)) else (impl_LandingFor.l0 k x2 x9 x10 x11 x21 x22 (wrap64 (x23 + 1)) x419000 x419001 x419002 x419003)))) else (none)) else (none))
end
def impl_LandingFor.f (k : Nat) (l0_0 : List Int) (a1_0 : Int) (a1_1 : Int) (a1_2 : Int) (l1_3 : List (S60)) (a2 : Int) (a3 : Int) : Option (Int) := (impl_PieceAt.f a1_0 a1_1 a1_2 l1_3 a3).bind fun t419 => (impl_LandingFor.l0 k a2 (-1) 0 t419 l0_0 (l0_0.length : Int) 0 a1_0 a1_1 a1_2 l1_3)
set_option maxHeartbeats 8000000 in
set_option maxRecDepth 100000 in
theorem impl_LandingFor.calls (k : Nat) (A0_0 : Option Addr) (c0_0 : Nat) (l0_0 : List Int) (a1_0 : Int) (a1_1 : Int) (a1_2 : Int) (A1_3 : Option Addr) (c1_3 : Nat) (l1_3 : List (S60)) (a2 : Int) (a3 : Int) (r : Int) (w : World) (hr0_0 : Kd.C (Kd.int .i64) w A0_0 l0_0.length l0_0) (hc0_0 : l0_0.length ≤ c0_0) (hr1_3 : Kd.C k60 w A1_3 l1_3.length l1_3) (hc1_3 : l1_3.length ≤ c1_3) (h : impl_LandingFor.f k l0_0 a1_0 a1_1 a1_2 l1_3 a2 a3 = some r) :
  Calls Try.prog 6 #[.agg #[.slice A0_0 l0_0.length c0_0], .agg #[.int .i64 a1_0, .int .i64 a1_1, .int .i64 a1_2, .slice A1_3 l1_3.length c1_3], .int .i64 a2, .int .i64 a3] w fun e w' => e = .returned (.int .i64 r) ∧ Below w.heap.size w w' := by
 have hu26 := Try.underlying26; have hu29 := Try.underlying29; have hu36 := Try.underlying36; have HR0_0 := aM_ hr0_0; have HC0_0 := aM_ hc0_0; clear hr0_0 hc0_0; have HR1_3 := aM_ hr1_3; have HC1_3 := aM_ hc1_3; clear hr1_3 hc1_3; have HB := aM_ (Below.refl w.heap.size w)
 have H : ((impl_PieceAt.f a1_0 a1_1 a1_2 l1_3 a3).bind fun t419 => (impl_LandingFor.l0 k a2 (-1) 0 t419 l0_0 (l0_0.length : Int) 0 a1_0 a1_1 a1_2 l1_3)) = some r := h
 clear h
 replace H := Option.bind_eq_some_iff.mp H
 obtain ⟨t419, A50, H⟩ := H
 (try dsimp only at H)
 have A5 := aM_ A50; clear A50
 have H' := aM_ H
 clear H
 go_enter Try.func6, Try.ntmps6
 go_wp2_with (first | ((with_reducible refine gate_dst (N := 4) rfl ?_); (try (refine gate_guard (by rfl) ?_; dsimp only)); refine box_event ?hg (N := 4) ?hd (cs := #[.slice A0_0 l0_0.length c0_0]) (t := 26) ?hr ?_; (case hd => rfl); (case hg => rfl); (case hr => first | (go_simp; done) | (go_simp; rfl)); intro gb417 hg w6 hbox hb; have n0_ := aM_ (wS_ (bw_) hb); have n1_ := aM_ (hbox); have n2_ := aM_ ((by rw [hg]; exact (sZ_ (bw_)) : w.heap.size ≤ gb417)); have n3_ := aM_ ((by rw [hg]; exact (sZ_ (bw_)) : w.heap.size ≤ gb417)); clear HB; have HB := n0_; have BK417 := n1_; have GW417 := n2_; have GE417 := n3_; clear n0_ n1_ n2_ n3_ hb hbox hg) | ((with_reducible refine gate_dst (N := 5) rfl ?_); (try (refine gate_guard (by rfl) ?_; dsimp only)); refine box_event ?hg (N := 5) ?hd (cs := #[.int .i64 a1_0, .int .i64 a1_1, .int .i64 a1_2, .slice A1_3 l1_3.length c1_3]) (t := 29) ?hr ?_; (case hd => rfl); (case hg => rfl); (case hr => first | (go_simp; done) | (go_simp; rfl)); intro gb418 hg w7 hbox hb; have n0_ := aM_ (bB_ (kb_ BK417.out) hb); have n1_ := aM_ (wS_ (bw_) hb); have n2_ := aM_ (hbox); have n3_ := aM_ ((by rw [hg]; exact (sZ_ (bw_)) : w.heap.size ≤ gb418)); have n4_ := aM_ ((by rw [hg]; exact (sZ_ (bw_)) : w.heap.size ≤ gb418)); have n5_ := aM_ ((by rw [hg]; exact Nat.ne_of_lt (blk_lt (kb_ BK417.out)) : gb417 ≠ gb418)); have n6_ := aM_ ((by rw [hg]; exact Nat.ne_of_gt (blk_lt (kb_ BK417.out)) : gb418 ≠ gb417)); clear BK417 HB; have BK417 := n0_; have HB := n1_; have BK418 := n2_; have GW418 := n3_; have GE418 := n4_; have NB417_418 := n5_; have NB418_417 := n6_; clear n0_ n1_ n2_ n3_ n4_ n5_ n6_ hb hbox hg; have hnb8 := NB418_417.out; have hnc8 := NB417_418.out; obtain ⟨hcz9_0, hcz9_1, hcz9_2, hcz9_3, hfz9_0, hfz9_1, hfz9_2, hfz9_3⟩ := bk4_ BK418.out) | ((with_reducible refine gate_callee (f := 7) rfl ?_); refine goesL_ (some 19) rfl rfl Try.func7 (by kernel_rfl) rfl #[.agg #[.int .i64 a1_0, .int .i64 a1_1, .int .i64 a1_2, .slice A1_3 l1_3.length c1_3], .int .i64 a3] rfl (by (try simp only [List.map_toArray, List.map_cons, List.map_nil]); first | done | rfl | (simp only [List.length_drop, List.length_take]; rfl)) ?_; (with_reducible refine (impl_PieceAt.calls a1_0 a1_1 a1_2 _ _ l1_3 a3 t419 _ ?side1 ?side2 A5.out).mono ?_); (case side1 => repeat (first | exact (Kd.C_below HR1_3.out HB.out) | (with_reducible refine cA_ ?_ _) | (with_reducible refine cN_ ?_ _) | (with_reducible refine cD_ ?_))); (case side2 => exact HC1_3.out); rintro e w10 ⟨rfl, hb⟩; refine ⟨_, rfl, ?_⟩; have n0_ := aM_ (bB_ (kb_ BK417.out) hb); have n1_ := aM_ (bB_ (kb_ BK418.out) hb); have n2_ := aM_ (wS_ (bw_) hb); clear BK417 BK418 HB; have BK417 := n0_; have BK418 := n1_; have HB := n2_; clear n0_ n1_ n2_; (try clear hb); (try clear hb2); (try clear hk); (try clear hi); have hcz11_0 : w10.cell? ⟨gb417, 0, none⟩ = some (.slice A0_0 l0_0.length c0_0) := (blk_cell BK417.out 0).trans rfl; have hfz11_0 := blk_frozen BK417.out 0))
 go_loopg [9, 10, 23] k (fun kq v9 v10 v23 w' => ∃ (x9_1 : Int) (x10_1 : Int) (x23_1 : Int), v9 = .int .i64 x9_1 ∧ v10 = .int .i64 x10_1 ∧ v23 = .int .i64 x23_1 ∧ Aside0 (impl_LandingFor.l0 kq a2 x9_1 x10_1 t419 l0_0 (l0_0.length : Int) x23_1 a1_0 a1_1 a1_2 l1_3 = some r) ∧ Aside0 (kq ≤ k) ∧ Aside0 (w'.heap[gb417]? = some (.cells #[(.slice A0_0 l0_0.length c0_0)] 26 (0, 0))) ∧ Aside0 (w'.heap[gb418]? = some (.cells #[.int .i64 a1_0, .int .i64 a1_1, .int .i64 a1_2, (.slice A1_3 l1_3.length c1_3)] 29 (0, 0))) ∧ Aside0 (Below w.heap.size w w'))
 case atStart => exact ⟨((-1)), (0), (0), (by first | rfl | (simp; done) | (simp [*]; done)), (by first | rfl | (simp; done) | (simp [*]; done)), (by first | rfl | (simp; done) | (simp [*]; done)), H', ⟨Nat.le_refl _⟩, ⟨by (with_reducible repeat (first | refine bN_ ?_ _ | refine bD_ ?_ | refine bA_ ?_ _)); exact BK417.out⟩, ⟨by (with_reducible repeat (first | refine bN_ ?_ _ | refine bD_ ?_ | refine bA_ ?_ _)); exact BK418.out⟩, ⟨bw_⟩⟩
 case round =>
  clear H'
  try clear hcz11_0
  try clear hcz9_0
  try clear hcz9_1
  try clear hcz9_2
  try clear hcz9_3
  try clear hfz11_0
  try clear hfz9_0
  try clear hfz9_1
  try clear hfz9_2
  try clear hfz9_3
  obtain ⟨x9_1, x10_1, x23_1, rfl, rfl, rfl, HA, HK1, BK417, BK418, HB⟩ := hrel
  cases gk with
  | zero => exact absurd HA.out (by simp [impl_LandingFor.l0])
  | succ k1 =>
   have H := HA.out; clear HA
   simp only [impl_LandingFor.l0] at H
   by_cases c12 : x23_1 < (l0_0.length : Int)
   ·rw [if_pos c12] at H
    have c12b0 : decide (x23_1 < (l0_0.length : Int)) = true := decide_eq_true c12
    clear c12
    by_cases c13 : 0 ≤ x23_1
    ·rw [if_pos c13] at H
     have c13b0 : decide (0 ≤ x23_1) = true := decide_eq_true c13
     clear c13
     by_cases c14 : x23_1 < (l0_0.length : Int)
     ·rw [if_pos c14] at H
      have c14b0 : decide (x23_1 < (l0_0.length : Int)) = true := decide_eq_true c14
      clear c14
      replace H := Option.bind_eq_some_iff.mp H
      obtain ⟨⟨t421, t422, t425, t428⟩, A150, H⟩ := H
      (try dsimp only at H)
      have A15 := aM_ A150; clear A150; have HC16 := aM_ H; clear H
      have p420 : 0 ≤ (x23_1 : Int) := dT_
      have q420 : x23_1 < (l0_0.length : Int) := dT_
      obtain ⟨ad420, e420, hx420_0⟩ := Kd.at_int HR0_0.out x23_1 p420 q420
      cases e420
      replace hx420_0 := (HB.out.cell (World.block_lt_of_cell? w _ hx420_0)).trans hx420_0
      replace p420 := eq_true p420; replace q420 := eq_true q420; have hnb17 := NB418_417.out; have hnc17 := NB417_418.out
      have hcz18_0 : wr.cell? ⟨gb418, 0, none⟩ = some (.int .i64 a1_0) := (blk_cell BK418.out 0).trans rfl
      have hcz18_1 : wr.cell? ⟨gb418, 1, none⟩ = some (.int .i64 a1_1) := (blk_cell BK418.out 1).trans rfl
      have hcz18_2 : wr.cell? ⟨gb418, 2, none⟩ = some (.int .i64 a1_2) := (blk_cell BK418.out 2).trans rfl
      have hcz18_3 : wr.cell? ⟨gb418, 3, none⟩ = some (.slice A1_3 l1_3.length c1_3) := (blk_cell BK418.out 3).trans rfl
      have hfz18_0 := blk_frozen BK418.out 0; have hfz18_1 := blk_frozen BK418.out 1; have hfz18_2 := blk_frozen BK418.out 2; have hfz18_3 := blk_frozen BK418.out 3
      go_upto_region 7 with (first | ((with_reducible refine gate_callee (f := 9) rfl ?_); refine goesL_ (some 31) rfl rfl Try.func9 (by kernel_rfl) rfl #[.agg #[.int .i64 a1_0, .int .i64 a1_1, .int .i64 a1_2, .slice A1_3 l1_3.length c1_3], .int .i64 t419, .int .i64 (rd l0_0 x23_1)] rfl (by (try simp only [List.map_toArray, List.map_cons, List.map_nil]); first | done | rfl | (simp only [List.length_drop, List.length_take]; rfl)) ?_; (with_reducible refine (impl_TableIn.calls a1_0 a1_1 a1_2 _ _ l1_3 t419 (rd l0_0 x23_1) t421 t422 t425 t428 _ ?side1 ?side2 A15.out).mono ?_); (case side1 => repeat (first | exact (Kd.C_below HR1_3.out HB.out) | (with_reducible refine cA_ ?_ _) | (with_reducible refine cN_ ?_ _) | (with_reducible refine cD_ ?_))); (case side2 => exact HC1_3.out); rintro e w19 ⟨v423, v426, rfl, ho0, ho1, hb⟩; refine ⟨_, rfl, ?_⟩; have n0_ := aM_ (Kd.R_lower ho0 (sZ_ (bw_))); have n1_ := aM_ (Kd.R_lower ho1 (sZ_ (bw_))); have n2_ := aM_ (bB_ (kb_ BK417.out) hb); have n3_ := aM_ (bB_ (kb_ BK418.out) hb); have n4_ := aM_ (wS_ (bw_) hb); clear BK417 BK418 HB; have HO424 := n0_; have HO427 := n1_; have BK417 := n2_; have BK418 := n3_; have HB := n4_; clear n0_ n1_ n2_ n3_ n4_; (try clear hb); (try clear hb2); (try clear hk); (try clear hi); (try clear ho0); (try clear ho1)) | ((with_reducible refine gate_dst (N := 14) rfl ?_); (try (refine gate_guard (by rfl) ?_; dsimp only)); refine box_event ?hg (N := 14) ?hd (cs := #[.int .i64 0, .slice none 0 0, .slice none 0 0]) (t := 36) ?hr ?_; (case hd => rfl); (case hg => rfl); (case hr => first | (go_simp; done) | (go_simp; rfl)); intro gb429 hg w20 hbox hb; have n0_ := aM_ (rB_ (rb_ HO424.out) hb); have n1_ := aM_ (rB_ (rb_ HO427.out) hb); have n2_ := aM_ (bB_ (kb_ BK417.out) hb); have n3_ := aM_ (bB_ (kb_ BK418.out) hb); have n4_ := aM_ (wS_ (bw_) hb); have n5_ := aM_ (hbox); have n6_ := aM_ ((by rw [hg]; exact (sZ_ (bw_)) : w.heap.size ≤ gb429)); have n7_ := aM_ ((by rw [hg]; exact (sZ_ (bw_)) : w.heap.size ≤ gb429)); have n8_ := aM_ ((by rw [hg]; exact Nat.ne_of_lt (blk_lt (kb_ BK417.out)) : gb417 ≠ gb429)); have n9_ := aM_ ((by rw [hg]; exact Nat.ne_of_gt (blk_lt (kb_ BK417.out)) : gb429 ≠ gb417)); have n10_ := aM_ ((by rw [hg]; exact Nat.ne_of_lt (blk_lt (kb_ BK418.out)) : gb418 ≠ gb429)); have n11_ := aM_ ((by rw [hg]; exact Nat.ne_of_gt (blk_lt (kb_ BK418.out)) : gb429 ≠ gb418)); clear HO424 HO427 BK417 BK418 HB; have HO424 := n0_; have HO427 := n1_; have BK417 := n2_; have BK418 := n3_; have HB := n4_; have BK429 := n5_; have GW429 := n6_; have GE429 := n7_; have NB417_429 := n8_; have NB429_417 := n9_; have NB418_429 := n10_; have NB429_418 := n11_; clear n0_ n1_ n2_ n3_ n4_ n5_ n6_ n7_ n8_ n9_ n10_ n11_ hb hbox hg; have hnb21 := NB429_417.out; have hnc21 := NB417_429.out; have hnb22 := NB429_418.out; have hnc22 := NB418_429.out; obtain ⟨hcz23_0, hcz23_1, hcz23_2, hfz23_0, hfz23_1, hfz23_2⟩ := bk3_ BK429.out; obtain ⟨Ao24, co24, eo24⟩ := Kd.R_slice HO424.out; subst eo24; obtain ⟨Ao25, co25, eo25⟩ := Kd.R_slice HO427.out; subst eo25))
      (try simp only [Act.put, List.setIfInBounds_toArray, List.set_cons_zero, List.set_cons_succ])
      go_cut [51] (fun v51 wc => ∃ (kq : Nat) (x51_15 : Bool), v51 = .bool x51_15 ∧ Aside0 (impl_LandingFor.j1 kq a2 x9_1 x10_1 t419 (rd l0_0 x23_1) l0_0 (l0_0.length : Int) x23_1 x51_15 a1_0 a1_1 a1_2 l1_3 t421 t422 t425 = some r) ∧ Aside0 (kq ≤ k1) ∧ Aside0 (Kd.R (Kd.int .i64) 3 wc w.heap.size (fun k_ => some k_ ≠ ((.slice Ao25 t425.length co25) : Value).ownBlock) (.slice Ao24 t422.length co24) t422) ∧ Aside0 (Kd.R (Kd.int .i64) 3 wc w.heap.size (fun k_ => some k_ ≠ ((.slice Ao24 t422.length co24) : Value).ownBlock) (.slice Ao25 t425.length co25) t425) ∧ Aside0 (wc.heap[gb417]? = some (.cells #[(.slice (some ad420) l0_0.length c0_0)] 26 (0, 0))) ∧ Aside0 (wc.heap[gb418]? = some (.cells #[.int .i64 a1_0, .int .i64 a1_1, .int .i64 a1_2, (.slice A1_3 l1_3.length c1_3)] 29 (0, 0))) ∧ Aside0 (wc.heap[gb429]? = some (.cells #[.int .i64 t421, (.slice Ao24 t422.length co24), (.slice Ao25 t425.length co25)] 36 (0, 0))) ∧ Aside0 (Below w.heap.size w wc))
      case first =>
       have H := HC16.out; clear HC16
       by_cases c26 : t428 = true
       ·subst c26
        have H1 : ((impl_isIndex.f a2 (t422.length : Int)).bind fun t430 => (if t430 = true then (if 0 ≤ a2 then (if a2 < (t422.length : Int) then (impl_LandingFor.j1 k1 a2 x9_1 x10_1 t419 (rd l0_0 x23_1) l0_0 (l0_0.length : Int) x23_1 (decide ((rd t422 a2) < 0)) a1_0 a1_1 a1_2 l1_3 t421 t422 t425) else (none)) else (none)) else (impl_LandingFor.j1 k1 a2 x9_1 x10_1 t419 (rd l0_0 x23_1) l0_0 (l0_0.length : Int) x23_1 true a1_0 a1_1 a1_2 l1_3 t421 t422 t425))) = some r := by rw [if_pos rfl] at H; exact H
        clear H; have H := H1; clear H1
        replace H := Option.bind_eq_some_iff.mp H
        obtain ⟨t430, A270, H⟩ := H
        (try dsimp only at H)
        have A27 := aM_ A270; clear A270
        by_cases c28 : t430 = true
        ·subst c28
         have H1 : (if 0 ≤ a2 then (if a2 < (t422.length : Int) then (impl_LandingFor.j1 k1 a2 x9_1 x10_1 t419 (rd l0_0 x23_1) l0_0 (l0_0.length : Int) x23_1 (decide ((rd t422 a2) < 0)) a1_0 a1_1 a1_2 l1_3 t421 t422 t425) else (none)) else (none)) = some r := by rw [if_pos rfl] at H; exact H
         clear H; have H := H1; clear H1
         by_cases c29 : 0 ≤ a2
         ·rw [if_pos c29] at H
          have c29b0 : decide (0 ≤ a2) = true := decide_eq_true c29
          clear c29
          (first | rw [c29b0] | (simp only [i64_w, i32_w]; rw [c29b0]) | skip)
          by_cases c30 : a2 < (t422.length : Int)
          ·rw [if_pos c30] at H
           have c30b0 : decide (a2 < (t422.length : Int)) = true := decide_eq_true c30
           clear c30
           have H' := aM_ H
           clear H; have hnb31 := NB429_417.out; have hnc31 := NB417_429.out; have hnb32 := NB429_418.out; have hnc32 := NB418_429.out
           have hcz33_0 : w20.cell? ⟨gb429, 0, none⟩ = some (.int .i64 0) := (blk_cell BK429.out 0).trans rfl
           have hcz33_1 : w20.cell? ⟨gb429, 1, none⟩ = some (.slice none 0 0) := (blk_cell BK429.out 1).trans rfl
           have hcz33_2 : w20.cell? ⟨gb429, 2, none⟩ = some (.slice none 0 0) := (blk_cell BK429.out 2).trans rfl
           have hfz33_0 := blk_frozen BK429.out 0; have hfz33_1 := blk_frozen BK429.out 1; have hfz33_2 := blk_frozen BK429.out 2
           go_wp2_with (first | (go_at_call 18; (with_reducible refine (impl_isIndex.calls a2 (t422.length : Int) true _ A27.out).mono ?_); rintro e w' ⟨rfl, ⟨nd, rfl⟩⟩; have p431 : 0 ≤ (a2 : Int) := dT_; have q431 : a2 < (t422.length : Int) := dT_; obtain ⟨ad431, e431, hx431_0⟩ := Kd.at_int (Kd.R_reads' HO424.out).2.2 a2 p431 q431; cases e431; have hn431_0 : ad431.block ≠ gb429 := Kd.own_blk (Kd.R_ne HO424.out BK429.out (by decide)); have hn431_1 : ad431.block ≠ gb429 := Kd.own_blk (Kd.R_ne HO424.out BK429.out (by decide)); have hn431_2 : ad431.block ≠ gb429 := Kd.own_blk (Kd.R_ne HO424.out BK429.out (by decide)); replace hx431_0 := (cell_far (p := ⟨gb429, 0, none⟩) (by first | (rw [add_block]; exact hn431_0) | (show (Addr.add _ _).block ≠ _; rw [add_block]; exact hn431_0) | exact hn431_0) (.int .i64 t421)).trans hx431_0; replace hx431_0 := (cell_far (p := ⟨gb429, 1, none⟩) (by first | (rw [add_block]; exact hn431_1) | (show (Addr.add _ _).block ≠ _; rw [add_block]; exact hn431_1) | exact hn431_1) (.slice (some ad431) t422.length co24)).trans hx431_0; replace hx431_0 := (cell_far (p := ⟨gb429, 2, none⟩) (by first | (rw [add_block]; exact hn431_2) | (show (Addr.add _ _).block ≠ _; rw [add_block]; exact hn431_2) | exact hn431_2) (.slice Ao25 t425.length co25)).trans hx431_0; clear hn431_0 hn431_1 hn431_2; replace p431 := eq_true p431; replace q431 := eq_true q431))
           go_meet
           case rel => exact ⟨_, (decide ((rd t422 a2) < 0)), (by first | rfl | (simp; done) | (simp [*]; done)), H', ⟨by have := HK1.out; first | omega | exact Nat.le_refl _⟩, ⟨by (with_reducible repeat (first | apply rA_ | apply rN_ | apply rD_)); exact Kd.R_mono (Kd.R_far (p := ⟨gb429, 2, none⟩) (Kd.R_far (p := ⟨gb429, 1, none⟩) (Kd.R_far (p := ⟨gb429, 0, none⟩) (Kd.R_types HO424.out BK429.out (by decide)) (fun _ hk => hk.2) (.int .i64 t421)) (fun _ hk => hk.2) (.slice (some ad431) t422.length co24)) (fun _ hk => hk.2) (.slice Ao25 t425.length co25)) (fun _ hk => hk.1)⟩, ⟨by (with_reducible repeat (first | apply rA_ | apply rN_ | apply rD_)); exact Kd.R_mono (Kd.R_far (p := ⟨gb429, 2, none⟩) (Kd.R_far (p := ⟨gb429, 1, none⟩) (Kd.R_far (p := ⟨gb429, 0, none⟩) (Kd.R_types HO427.out BK429.out (by decide)) (fun _ hk => hk.2) (.int .i64 t421)) (fun _ hk => hk.2) (.slice (some ad431) t422.length co24)) (fun _ hk => hk.2) (.slice Ao25 t425.length co25)) (fun _ hk => hk.1)⟩, ⟨by (with_reducible repeat (first | refine bN_ ?_ _ | refine bD_ ?_ | refine bA_ ?_ _)); refine blk_far ?_ NB417_429.out _; (with_reducible repeat (first | refine bN_ ?_ _ | refine bD_ ?_ | refine bA_ ?_ _)); refine blk_far ?_ NB417_429.out _; (with_reducible repeat (first | refine bN_ ?_ _ | refine bD_ ?_ | refine bA_ ?_ _)); refine blk_far ?_ NB417_429.out _; (with_reducible repeat (first | refine bN_ ?_ _ | refine bD_ ?_ | refine bA_ ?_ _)); exact BK417.out⟩, ⟨by (with_reducible repeat (first | refine bN_ ?_ _ | refine bD_ ?_ | refine bA_ ?_ _)); refine blk_far ?_ NB418_429.out _; (with_reducible repeat (first | refine bN_ ?_ _ | refine bD_ ?_ | refine bA_ ?_ _)); refine blk_far ?_ NB418_429.out _; (with_reducible repeat (first | refine bN_ ?_ _ | refine bD_ ?_ | refine bA_ ?_ _)); refine blk_far ?_ NB418_429.out _; (with_reducible repeat (first | refine bN_ ?_ _ | refine bD_ ?_ | refine bA_ ?_ _)); exact BK418.out⟩, ⟨by (with_reducible repeat (first | refine bN_ ?_ _ | refine bD_ ?_ | refine bA_ ?_ _)); refine blk_put (cs := #[.int .i64 t421, .slice (some ad431) t422.length co24, .slice none 0 0]) ?_ 2 _ rfl; (with_reducible repeat (first | refine bN_ ?_ _ | refine bD_ ?_ | refine bA_ ?_ _)); refine blk_put (cs := #[.int .i64 t421, .slice none 0 0, .slice none 0 0]) ?_ 1 _ rfl; (with_reducible repeat (first | refine bN_ ?_ _ | refine bD_ ?_ | refine bA_ ?_ _)); refine blk_put (cs := #[.int .i64 0, .slice none 0 0, .slice none 0 0]) ?_ 0 _ rfl; (with_reducible repeat (first | refine bN_ ?_ _ | refine bD_ ?_ | refine bA_ ?_ _)); exact BK429.out⟩, ⟨bw_⟩⟩
          ·rw [if_neg c30] at H
           exact absurd H (by simp)
         ·rw [if_neg c29] at H
          exact absurd H (by simp)
        ·replace c28 := Bool.eq_false_iff.mpr c28
         subst c28
         have H1 : (impl_LandingFor.j1 k1 a2 x9_1 x10_1 t419 (rd l0_0 x23_1) l0_0 (l0_0.length : Int) x23_1 true a1_0 a1_1 a1_2 l1_3 t421 t422 t425) = some r := by rw [if_neg (show ¬ (false = true) by decide)] at H; exact H
         clear H; have H := H1; clear H1
         have H' := aM_ H
         clear H; have hnb34 := NB429_417.out; have hnc34 := NB417_429.out; have hnb35 := NB429_418.out; have hnc35 := NB418_429.out
         have hcz36_0 : w20.cell? ⟨gb429, 0, none⟩ = some (.int .i64 0) := (blk_cell BK429.out 0).trans rfl
         have hcz36_1 : w20.cell? ⟨gb429, 1, none⟩ = some (.slice none 0 0) := (blk_cell BK429.out 1).trans rfl
         have hcz36_2 : w20.cell? ⟨gb429, 2, none⟩ = some (.slice none 0 0) := (blk_cell BK429.out 2).trans rfl
         have hfz36_0 := blk_frozen BK429.out 0; have hfz36_1 := blk_frozen BK429.out 1; have hfz36_2 := blk_frozen BK429.out 2
         go_wp2_with (first | (go_at_call 18; (with_reducible refine (impl_isIndex.calls a2 (t422.length : Int) false _ A27.out).mono ?_); rintro e w' ⟨rfl, ⟨nd, rfl⟩⟩))
         go_meet
         case rel => exact ⟨_, (true), (by first | rfl | (simp; done) | (simp [*]; done)), H', ⟨by have := HK1.out; first | omega | exact Nat.le_refl _⟩, ⟨by (with_reducible repeat (first | apply rA_ | apply rN_ | apply rD_)); exact Kd.R_mono (Kd.R_far (p := ⟨gb429, 2, none⟩) (Kd.R_far (p := ⟨gb429, 1, none⟩) (Kd.R_far (p := ⟨gb429, 0, none⟩) (Kd.R_types HO424.out BK429.out (by decide)) (fun _ hk => hk.2) (.int .i64 t421)) (fun _ hk => hk.2) (.slice Ao24 t422.length co24)) (fun _ hk => hk.2) (.slice Ao25 t425.length co25)) (fun _ hk => hk.1)⟩, ⟨by (with_reducible repeat (first | apply rA_ | apply rN_ | apply rD_)); exact Kd.R_mono (Kd.R_far (p := ⟨gb429, 2, none⟩) (Kd.R_far (p := ⟨gb429, 1, none⟩) (Kd.R_far (p := ⟨gb429, 0, none⟩) (Kd.R_types HO427.out BK429.out (by decide)) (fun _ hk => hk.2) (.int .i64 t421)) (fun _ hk => hk.2) (.slice Ao24 t422.length co24)) (fun _ hk => hk.2) (.slice Ao25 t425.length co25)) (fun _ hk => hk.1)⟩, ⟨by (with_reducible repeat (first | refine bN_ ?_ _ | refine bD_ ?_ | refine bA_ ?_ _)); refine blk_far ?_ NB417_429.out _; (with_reducible repeat (first | refine bN_ ?_ _ | refine bD_ ?_ | refine bA_ ?_ _)); refine blk_far ?_ NB417_429.out _; (with_reducible repeat (first | refine bN_ ?_ _ | refine bD_ ?_ | refine bA_ ?_ _)); refine blk_far ?_ NB417_429.out _; (with_reducible repeat (first | refine bN_ ?_ _ | refine bD_ ?_ | refine bA_ ?_ _)); exact BK417.out⟩, ⟨by (with_reducible repeat (first | refine bN_ ?_ _ | refine bD_ ?_ | refine bA_ ?_ _)); refine blk_far ?_ NB418_429.out _; (with_reducible repeat (first | refine bN_ ?_ _ | refine bD_ ?_ | refine bA_ ?_ _)); refine blk_far ?_ NB418_429.out _; (with_reducible repeat (first | refine bN_ ?_ _ | refine bD_ ?_ | refine bA_ ?_ _)); refine blk_far ?_ NB418_429.out _; (with_reducible repeat (first | refine bN_ ?_ _ | refine bD_ ?_ | refine bA_ ?_ _)); exact BK418.out⟩, ⟨by (with_reducible repeat (first | refine bN_ ?_ _ | refine bD_ ?_ | refine bA_ ?_ _)); refine blk_put (cs := #[.int .i64 t421, .slice Ao24 t422.length co24, .slice none 0 0]) ?_ 2 _ rfl; (with_reducible repeat (first | refine bN_ ?_ _ | refine bD_ ?_ | refine bA_ ?_ _)); refine blk_put (cs := #[.int .i64 t421, .slice none 0 0, .slice none 0 0]) ?_ 1 _ rfl; (with_reducible repeat (first | refine bN_ ?_ _ | refine bD_ ?_ | refine bA_ ?_ _)); refine blk_put (cs := #[.int .i64 0, .slice none 0 0, .slice none 0 0]) ?_ 0 _ rfl; (with_reducible repeat (first | refine bN_ ?_ _ | refine bD_ ?_ | refine bA_ ?_ _)); exact BK429.out⟩, ⟨bw_⟩⟩
       ·replace c26 := Bool.eq_false_iff.mpr c26
        subst c26
        have H1 : (impl_LandingFor.j1 k1 a2 x9_1 x10_1 t419 (rd l0_0 x23_1) l0_0 (l0_0.length : Int) x23_1 true a1_0 a1_1 a1_2 l1_3 t421 t422 t425) = some r := by rw [if_neg (show ¬ (false = true) by decide)] at H; exact H
        clear H; have H := H1; clear H1
        have H' := aM_ H
        clear H
        go_wp2
        go_meet
        case rel => exact ⟨_, (true), (by first | rfl | (simp; done) | (simp [*]; done)), H', ⟨by have := HK1.out; first | omega | exact Nat.le_refl _⟩, ⟨by (with_reducible repeat (first | apply rA_ | apply rN_ | apply rD_)); exact Kd.R_mono (Kd.R_far (p := ⟨gb429, 2, none⟩) (Kd.R_far (p := ⟨gb429, 1, none⟩) (Kd.R_far (p := ⟨gb429, 0, none⟩) (Kd.R_types HO424.out BK429.out (by decide)) (fun _ hk => hk.2) (.int .i64 t421)) (fun _ hk => hk.2) (.slice Ao24 t422.length co24)) (fun _ hk => hk.2) (.slice Ao25 t425.length co25)) (fun _ hk => hk.1)⟩, ⟨by (with_reducible repeat (first | apply rA_ | apply rN_ | apply rD_)); exact Kd.R_mono (Kd.R_far (p := ⟨gb429, 2, none⟩) (Kd.R_far (p := ⟨gb429, 1, none⟩) (Kd.R_far (p := ⟨gb429, 0, none⟩) (Kd.R_types HO427.out BK429.out (by decide)) (fun _ hk => hk.2) (.int .i64 t421)) (fun _ hk => hk.2) (.slice Ao24 t422.length co24)) (fun _ hk => hk.2) (.slice Ao25 t425.length co25)) (fun _ hk => hk.1)⟩, ⟨by (with_reducible repeat (first | refine bN_ ?_ _ | refine bD_ ?_ | refine bA_ ?_ _)); refine blk_far ?_ NB417_429.out _; (with_reducible repeat (first | refine bN_ ?_ _ | refine bD_ ?_ | refine bA_ ?_ _)); refine blk_far ?_ NB417_429.out _; (with_reducible repeat (first | refine bN_ ?_ _ | refine bD_ ?_ | refine bA_ ?_ _)); refine blk_far ?_ NB417_429.out _; (with_reducible repeat (first | refine bN_ ?_ _ | refine bD_ ?_ | refine bA_ ?_ _)); exact BK417.out⟩, ⟨by (with_reducible repeat (first | refine bN_ ?_ _ | refine bD_ ?_ | refine bA_ ?_ _)); refine blk_far ?_ NB418_429.out _; (with_reducible repeat (first | refine bN_ ?_ _ | refine bD_ ?_ | refine bA_ ?_ _)); refine blk_far ?_ NB418_429.out _; (with_reducible repeat (first | refine bN_ ?_ _ | refine bD_ ?_ | refine bA_ ?_ _)); refine blk_far ?_ NB418_429.out _; (with_reducible repeat (first | refine bN_ ?_ _ | refine bD_ ?_ | refine bA_ ?_ _)); exact BK418.out⟩, ⟨by (with_reducible repeat (first | refine bN_ ?_ _ | refine bD_ ?_ | refine bA_ ?_ _)); refine blk_put (cs := #[.int .i64 t421, .slice Ao24 t422.length co24, .slice none 0 0]) ?_ 2 _ rfl; (with_reducible repeat (first | refine bN_ ?_ _ | refine bD_ ?_ | refine bA_ ?_ _)); refine blk_put (cs := #[.int .i64 t421, .slice none 0 0, .slice none 0 0]) ?_ 1 _ rfl; (with_reducible repeat (first | refine bN_ ?_ _ | refine bD_ ?_ | refine bA_ ?_ _)); refine blk_put (cs := #[.int .i64 0, .slice none 0 0, .slice none 0 0]) ?_ 0 _ rfl; (with_reducible repeat (first | refine bN_ ?_ _ | refine bD_ ?_ | refine bA_ ?_ _)); exact BK429.out⟩, ⟨bw_⟩⟩
      case rest =>
       clear HC16
       try clear hx4
       try clear c12b0
       try clear c13b0
       try clear c14b0
       try clear c29b0
       try clear c30b0
       try clear hcz11_0
       try clear hcz18_0
       try clear hcz18_1
       try clear hcz18_2
       try clear hcz18_3
       try clear hcz23_0
       try clear hcz23_1
       try clear hcz23_2
       try clear hcz33_0
       try clear hcz33_1
       try clear hcz33_2
       try clear hcz36_0
       try clear hcz36_1
       try clear hcz36_2
       try clear hcz9_0
       try clear hcz9_1
       try clear hcz9_2
       try clear hcz9_3
       try clear hfz11_0
       try clear hfz18_0
       try clear hfz18_1
       try clear hfz18_2
       try clear hfz18_3
       try clear hfz23_0
       try clear hfz23_1
       try clear hfz23_2
       try clear hfz33_0
       try clear hfz33_1
       try clear hfz33_2
       try clear hfz36_0
       try clear hfz36_1
       try clear hfz36_2
       try clear hfz9_0
       try clear hfz9_1
       try clear hfz9_2
       try clear hfz9_3
       try clear hx420_0
       try clear hx431_0
       obtain ⟨kq, x51_15, rfl, HA, HJ15, HO_430001, HO_430002, BK417, BK418, BK429, HB⟩ := hcut
       cases kq with
       | zero => exact absurd HA.out (by simp [impl_LandingFor.j1])
       | succ kj15 =>
        have H := HA.out; clear HA
        simp only [impl_LandingFor.j1] at H
        by_cases c37 : x51_15 = true
        ·subst c37
         have H1 : (impl_LandingFor.l0 kj15 a2 x9_1 x10_1 t419 l0_0 (l0_0.length : Int) (wrap64 (x23_1 + 1)) a1_0 a1_1 a1_2 l1_3) = some r := by rw [if_pos rfl] at H; exact H
         clear H; have H := H1; clear H1
         have H' := aM_ H
         clear H
         go_wp2
         go_roundg kj15
         case measure => have := HK1.out; have := HJ15.out; omega
         case rel => exact ⟨(x9_1), (x10_1), (wrap64 (x23_1 + 1)), (by first | rfl | (simp; done) | (simp [*]; done)), (by first | rfl | (simp; done) | (simp [*]; done)), (by first | rfl | (simp; done) | (simp [*]; done)), H', ⟨by have := HK1.out; have := HJ15.out; omega⟩, ⟨by (with_reducible repeat (first | refine bN_ ?_ _ | refine bD_ ?_ | refine bA_ ?_ _)); exact BK417.out⟩, ⟨by (with_reducible repeat (first | refine bN_ ?_ _ | refine bD_ ?_ | refine bA_ ?_ _)); exact BK418.out⟩, ⟨bw_⟩⟩
        ·replace c37 := Bool.eq_false_iff.mpr c37
         subst c37
         have H1 : (if 0 ≤ a2 then (if a2 < (t422.length : Int) then (if x9_1 < 0 then (impl_LandingFor.l0 kj15 a2 (rd l0_0 x23_1) (rd t422 a2) t419 l0_0 (l0_0.length : Int) (wrap64 (x23_1 + 1)) a1_0 a1_1 a1_2 l1_3) else (if (rd t422 a2) < x10_1 then (impl_LandingFor.l0 kj15 a2 (rd l0_0 x23_1) (rd t422 a2) t419 l0_0 (l0_0.length : Int) (wrap64 (x23_1 + 1)) a1_0 a1_1 a1_2 l1_3) else (if (rd t422 a2) = x10_1 then (if (rd l0_0 x23_1) < x9_1 then (impl_LandingFor.l0 kj15 a2 (rd l0_0 x23_1) (rd t422 a2) t419 l0_0 (l0_0.length : Int) (wrap64 (x23_1 + 1)) a1_0 a1_1 a1_2 l1_3) else (impl_LandingFor.l0 kj15 a2 x9_1 x10_1 t419 l0_0 (l0_0.length : Int) (wrap64 (x23_1 + 1)) a1_0 a1_1 a1_2 l1_3)) else (impl_LandingFor.l0 kj15 a2 x9_1 x10_1 t419 l0_0 (l0_0.length : Int) (wrap64 (x23_1 + 1)) a1_0 a1_1 a1_2 l1_3)))) else (none)) else (none)) = some r := by rw [if_neg (show ¬ (false = true) by decide)] at H; exact H
         clear H; have H := H1; clear H1
         by_cases c38 : 0 ≤ a2
         ·rw [if_pos c38] at H
          have c38b0 : decide (0 ≤ a2) = true := decide_eq_true c38
          clear c38
          by_cases c39 : a2 < (t422.length : Int)
          ·rw [if_pos c39] at H
           have c39b0 : decide (a2 < (t422.length : Int)) = true := decide_eq_true c39
           clear c39
           by_cases c40 : x9_1 < 0
           ·rw [if_pos c40] at H
            have c40b0 : decide (x9_1 < 0) = true := decide_eq_true c40
            clear c40
            have H' := aM_ H
            clear H; have hnb41 := NB429_417.out; have hnc41 := NB417_429.out; have hnb42 := NB429_418.out; have hnc42 := NB418_429.out
            have hcz43_0 : wc.cell? ⟨gb429, 0, none⟩ = some (.int .i64 t421) := (blk_cell BK429.out 0).trans rfl
            have hcz43_1 : wc.cell? ⟨gb429, 1, none⟩ = some (.slice Ao24 t422.length co24) := (blk_cell BK429.out 1).trans rfl
            have hcz43_2 : wc.cell? ⟨gb429, 2, none⟩ = some (.slice Ao25 t425.length co25) := (blk_cell BK429.out 2).trans rfl
            have hfz43_0 := blk_frozen BK429.out 0; have hfz43_1 := blk_frozen BK429.out 1; have hfz43_2 := blk_frozen BK429.out 2
            have p432 : 0 ≤ (a2 : Int) := dT_
            have q432 : a2 < (t422.length : Int) := dT_
            obtain ⟨ad432, e432, hx432_0⟩ := Kd.at_int (Kd.R_reads' HO_430001.out).2.2 a2 p432 q432
            cases e432
            replace p432 := eq_true p432; replace q432 := eq_true q432
            go_wp2
            go_roundg kj15
            case measure => have := HK1.out; have := HJ15.out; omega
            case rel => exact ⟨((rd l0_0 x23_1)), (rd t422 a2), (wrap64 (x23_1 + 1)), (by first | rfl | (simp; done) | (simp [*]; done)), (by first | rfl | (simp; done) | (simp [*]; done)), (by first | rfl | (simp; done) | (simp [*]; done)), H', ⟨by have := HK1.out; have := HJ15.out; omega⟩, ⟨by (with_reducible repeat (first | refine bN_ ?_ _ | refine bD_ ?_ | refine bA_ ?_ _)); exact BK417.out⟩, ⟨by (with_reducible repeat (first | refine bN_ ?_ _ | refine bD_ ?_ | refine bA_ ?_ _)); exact BK418.out⟩, ⟨bw_⟩⟩
           ·rw [if_neg c40] at H
            have c40b0 : decide (x9_1 < 0) = false := decide_eq_false c40
            clear c40
            by_cases c44 : (rd t422 a2) < x10_1
            ·rw [if_pos c44] at H
             have c44b0 : decide ((rd t422 a2) < x10_1) = true := decide_eq_true c44
             clear c44
             have H' := aM_ H
             clear H; have hnb45 := NB429_417.out; have hnc45 := NB417_429.out; have hnb46 := NB429_418.out; have hnc46 := NB418_429.out
             have hcz47_0 : wc.cell? ⟨gb429, 0, none⟩ = some (.int .i64 t421) := (blk_cell BK429.out 0).trans rfl
             have hcz47_1 : wc.cell? ⟨gb429, 1, none⟩ = some (.slice Ao24 t422.length co24) := (blk_cell BK429.out 1).trans rfl
             have hcz47_2 : wc.cell? ⟨gb429, 2, none⟩ = some (.slice Ao25 t425.length co25) := (blk_cell BK429.out 2).trans rfl
             have hfz47_0 := blk_frozen BK429.out 0; have hfz47_1 := blk_frozen BK429.out 1; have hfz47_2 := blk_frozen BK429.out 2
             have p432 : 0 ≤ (a2 : Int) := dT_
             have q432 : a2 < (t422.length : Int) := dT_
             obtain ⟨ad432, e432, hx432_0⟩ := Kd.at_int (Kd.R_reads' HO_430001.out).2.2 a2 p432 q432
             cases e432
             replace p432 := eq_true p432; replace q432 := eq_true q432
             go_wp2
             go_roundg kj15
             case measure => have := HK1.out; have := HJ15.out; omega
             case rel => exact ⟨((rd l0_0 x23_1)), (rd t422 a2), (wrap64 (x23_1 + 1)), (by first | rfl | (simp; done) | (simp [*]; done)), (by first | rfl | (simp; done) | (simp [*]; done)), (by first | rfl | (simp; done) | (simp [*]; done)), H', ⟨by have := HK1.out; have := HJ15.out; omega⟩, ⟨by (with_reducible repeat (first | refine bN_ ?_ _ | refine bD_ ?_ | refine bA_ ?_ _)); exact BK417.out⟩, ⟨by (with_reducible repeat (first | refine bN_ ?_ _ | refine bD_ ?_ | refine bA_ ?_ _)); exact BK418.out⟩, ⟨bw_⟩⟩
            ·rw [if_neg c44] at H
             have c44b0 : decide ((rd t422 a2) < x10_1) = false := decide_eq_false c44
             clear c44
             by_cases c48 : (rd t422 a2) = x10_1
             ·rw [if_pos c48] at H
              have c48b0 : ((rd t422 a2) == x10_1) = true := beq_iff_eq.mpr c48
              have c48b1 : ((rd t422 a2) != x10_1) = false := bne_eq_false_iff_eq.mpr c48
              clear c48
              by_cases c49 : (rd l0_0 x23_1) < x9_1
              ·rw [if_pos c49] at H
               have c49b0 : decide ((rd l0_0 x23_1) < x9_1) = true := decide_eq_true c49
               clear c49
               have H' := aM_ H
               clear H; have hnb50 := NB429_417.out; have hnc50 := NB417_429.out; have hnb51 := NB429_418.out; have hnc51 := NB418_429.out
               have hcz52_0 : wc.cell? ⟨gb429, 0, none⟩ = some (.int .i64 t421) := (blk_cell BK429.out 0).trans rfl
               have hcz52_1 : wc.cell? ⟨gb429, 1, none⟩ = some (.slice Ao24 t422.length co24) := (blk_cell BK429.out 1).trans rfl
               have hcz52_2 : wc.cell? ⟨gb429, 2, none⟩ = some (.slice Ao25 t425.length co25) := (blk_cell BK429.out 2).trans rfl
               have hfz52_0 := blk_frozen BK429.out 0; have hfz52_1 := blk_frozen BK429.out 1; have hfz52_2 := blk_frozen BK429.out 2
               have p432 : 0 ≤ (a2 : Int) := dT_
               have q432 : a2 < (t422.length : Int) := dT_
               obtain ⟨ad432, e432, hx432_0⟩ := Kd.at_int (Kd.R_reads' HO_430001.out).2.2 a2 p432 q432
               cases e432
               replace p432 := eq_true p432; replace q432 := eq_true q432
               go_wp2
               go_roundg kj15
               case measure => have := HK1.out; have := HJ15.out; omega
               case rel => exact ⟨((rd l0_0 x23_1)), (rd t422 a2), (wrap64 (x23_1 + 1)), (by first | rfl | (simp; done) | (simp [*]; done)), (by first | rfl | (simp; done) | (simp [*]; done)), (by first | rfl | (simp; done) | (simp [*]; done)), H', ⟨by have := HK1.out; have := HJ15.out; omega⟩, ⟨by (with_reducible repeat (first | refine bN_ ?_ _ | refine bD_ ?_ | refine bA_ ?_ _)); exact BK417.out⟩, ⟨by (with_reducible repeat (first | refine bN_ ?_ _ | refine bD_ ?_ | refine bA_ ?_ _)); exact BK418.out⟩, ⟨bw_⟩⟩
              ·rw [if_neg c49] at H
               have c49b0 : decide ((rd l0_0 x23_1) < x9_1) = false := decide_eq_false c49
               clear c49
               have H' := aM_ H
               clear H; have hnb53 := NB429_417.out; have hnc53 := NB417_429.out; have hnb54 := NB429_418.out; have hnc54 := NB418_429.out
               have hcz55_0 : wc.cell? ⟨gb429, 0, none⟩ = some (.int .i64 t421) := (blk_cell BK429.out 0).trans rfl
               have hcz55_1 : wc.cell? ⟨gb429, 1, none⟩ = some (.slice Ao24 t422.length co24) := (blk_cell BK429.out 1).trans rfl
               have hcz55_2 : wc.cell? ⟨gb429, 2, none⟩ = some (.slice Ao25 t425.length co25) := (blk_cell BK429.out 2).trans rfl
               have hfz55_0 := blk_frozen BK429.out 0; have hfz55_1 := blk_frozen BK429.out 1; have hfz55_2 := blk_frozen BK429.out 2
               have p432 : 0 ≤ (a2 : Int) := dT_
               have q432 : a2 < (t422.length : Int) := dT_
               obtain ⟨ad432, e432, hx432_0⟩ := Kd.at_int (Kd.R_reads' HO_430001.out).2.2 a2 p432 q432
               cases e432
               replace p432 := eq_true p432; replace q432 := eq_true q432
               go_wp2
               go_roundg kj15
               case measure => have := HK1.out; have := HJ15.out; omega
               case rel => exact ⟨(x9_1), (x10_1), (wrap64 (x23_1 + 1)), (by first | rfl | (simp; done) | (simp [*]; done)), (by first | rfl | (simp; done) | (simp [*]; done)), (by first | rfl | (simp; done) | (simp [*]; done)), H', ⟨by have := HK1.out; have := HJ15.out; omega⟩, ⟨by (with_reducible repeat (first | refine bN_ ?_ _ | refine bD_ ?_ | refine bA_ ?_ _)); exact BK417.out⟩, ⟨by (with_reducible repeat (first | refine bN_ ?_ _ | refine bD_ ?_ | refine bA_ ?_ _)); exact BK418.out⟩, ⟨bw_⟩⟩
             ·rw [if_neg c48] at H
              have c48b0 : ((rd t422 a2) == x10_1) = false := beq_eq_false_iff_ne.mpr c48
              have c48b1 : ((rd t422 a2) != x10_1) = true := bne_iff_ne.mpr c48
              have H' := aM_ H
              clear H; have hnb56 := NB429_417.out; have hnc56 := NB417_429.out; have hnb57 := NB429_418.out; have hnc57 := NB418_429.out
              have hcz58_0 : wc.cell? ⟨gb429, 0, none⟩ = some (.int .i64 t421) := (blk_cell BK429.out 0).trans rfl
              have hcz58_1 : wc.cell? ⟨gb429, 1, none⟩ = some (.slice Ao24 t422.length co24) := (blk_cell BK429.out 1).trans rfl
              have hcz58_2 : wc.cell? ⟨gb429, 2, none⟩ = some (.slice Ao25 t425.length co25) := (blk_cell BK429.out 2).trans rfl
              have hfz58_0 := blk_frozen BK429.out 0; have hfz58_1 := blk_frozen BK429.out 1; have hfz58_2 := blk_frozen BK429.out 2
              have p432 : 0 ≤ (a2 : Int) := dT_
              have q432 : a2 < (t422.length : Int) := dT_
              obtain ⟨ad432, e432, hx432_0⟩ := Kd.at_int (Kd.R_reads' HO_430001.out).2.2 a2 p432 q432
              cases e432
              replace p432 := eq_true p432; replace q432 := eq_true q432
              go_wp2
              go_roundg kj15
              case measure => have := HK1.out; have := HJ15.out; omega
              case rel => exact ⟨(x9_1), (x10_1), (wrap64 (x23_1 + 1)), (by first | rfl | (simp; done) | (simp [*]; done)), (by first | rfl | (simp; done) | (simp [*]; done)), (by first | rfl | (simp; done) | (simp [*]; done)), H', ⟨by have := HK1.out; have := HJ15.out; omega⟩, ⟨by (with_reducible repeat (first | refine bN_ ?_ _ | refine bD_ ?_ | refine bA_ ?_ _)); exact BK417.out⟩, ⟨by (with_reducible repeat (first | refine bN_ ?_ _ | refine bD_ ?_ | refine bA_ ?_ _)); exact BK418.out⟩, ⟨bw_⟩⟩
          ·rw [if_neg c39] at H
           exact absurd H (by simp)
         ·rw [if_neg c38] at H
          exact absurd H (by simp)
     ·rw [if_neg c14] at H
      exact absurd H (by simp)
    ·rw [if_neg c13] at H
     exact absurd H (by simp)
   ·rw [if_neg c12] at H
    have c12b0 : decide (x23_1 < (l0_0.length : Int)) = false := decide_eq_false c12
    clear c12
    obtain rfl := Option.some.inj H
    go_wp2
    go_ret
    exact ⟨by first | rfl | (simp [errW_none, errW_some] <;> rfl) | (simp [*, errW_none, errW_some] <;> rfl), bw_⟩

/-! ### laws_contains: function 8 -/
def laws_contains.l0 : Nat → List Int → Int → Int → Option (Bool)
  | 0, _, _, _ => none
  | k + 1, x0, x1, x5 => if x5 < (x0.length : Int) then (if 0 ≤ x5 then (if (rd x0 x5) = x1 then (some true) else (laws_contains.l0 k x0 x1 (wrap64 (x5 + 1)))) else (none)) else (some false)
def laws_contains.f (k : Nat) (l0 : List Int) (a1 : Int) : Option (Bool) := laws_contains.l0 k l0 a1 0
set_option maxHeartbeats 8000000 in
set_option maxRecDepth 100000 in
theorem laws_contains.calls (k : Nat) (A0 : Option Addr) (c0 : Nat) (l0 : List Int) (a1 : Int) (r : Bool) (w : World) (hr0 : Kd.C (Kd.int .i64) w A0 l0.length l0) (hc0 : l0.length ≤ c0) (h : laws_contains.f k l0 a1 = some r) :
    Calls Try.prog 8 #[.slice A0 l0.length c0, .int .i64 a1] w fun e w' => e = .returned (.bool r) ∧ Drawn0 w w' := by
  have HR0 := aM_ hr0
  have HC0 := aM_ hc0
  clear hr0 hc0
  have H : (laws_contains.l0 k l0 a1 0) = some r := h
  clear h
  have H' := aM_ H
  clear H
  go_enter Try.func8, Try.ntmps8
  go_wp2
  go_loopg [5] k (fun kq v5 w' => ∃ (x5_1 : Int), v5 = .int .i64 x5_1 ∧ Aside0 (laws_contains.l0 kq l0 a1 x5_1 = some r) ∧ Aside0 (kq ≤ k) ∧ Drawn0 w w')
  case atStart => exact ⟨(0), (by first | rfl | (simp; done) | (simp [*]; done)), H', ⟨Nat.le_refl _⟩, by repeat (first | exact Drawn0.refl _ | apply Drawn0.step)⟩
  case round =>
    clear H'
    obtain ⟨x5_1, rfl, HA, HK1, ⟨m1, rfl⟩⟩ := hrel
    cases gk with
    | zero => exact absurd HA.out (by simp [laws_contains.l0])
    | succ k1 =>
      have H := HA.out
      clear HA
      simp only [laws_contains.l0] at H
      by_cases c3 : x5_1 < (l0.length : Int)
      · rw [if_pos c3] at H
        have c3b0 : decide (x5_1 < (l0.length : Int)) = true := decide_eq_true c3
        clear c3
        by_cases c4 : 0 ≤ x5_1
        · rw [if_pos c4] at H
          have c4b0 : decide (0 ≤ x5_1) = true := decide_eq_true c4
          clear c4
          by_cases c5 : (rd l0 x5_1) = a1
          · rw [if_pos c5] at H
            have c5b0 : ((rd l0 x5_1) == a1) = true := beq_iff_eq.mpr c5
            have c5b1 : ((rd l0 x5_1) != a1) = false := bne_eq_false_iff_eq.mpr c5
            clear c5
            obtain rfl := Option.some.inj H
            have p433 : 0 ≤ (x5_1 : Int) := dT_
            have q433 : x5_1 < (l0.length : Int) := dT_
            obtain ⟨ad433, e433, hx433_0⟩ := Kd.at_int HR0.out x5_1 p433 q433
            cases e433
            replace p433 := eq_true p433
            replace q433 := eq_true q433
            go_wp2
            go_ret
            exact ⟨by first | rfl | (simp; done) | (simp [*]; done), by repeat (first | exact Drawn0.refl _ | apply Drawn0.step)⟩
          · rw [if_neg c5] at H
            have c5b0 : ((rd l0 x5_1) == a1) = false := beq_eq_false_iff_ne.mpr c5
            have c5b1 : ((rd l0 x5_1) != a1) = true := bne_iff_ne.mpr c5
            have H' := aM_ H
            clear H
            have p433 : 0 ≤ (x5_1 : Int) := dT_
            have q433 : x5_1 < (l0.length : Int) := dT_
            obtain ⟨ad433, e433, hx433_0⟩ := Kd.at_int HR0.out x5_1 p433 q433
            cases e433
            replace p433 := eq_true p433
            replace q433 := eq_true q433
            go_wp2
            go_roundg k1
            case measure => have := HK1.out; omega
            case rel => exact ⟨(wrap64 (x5_1 + 1)), (by first | rfl | (simp; done) | (simp [*]; done)), H', ⟨by have := HK1.out; omega⟩, by repeat (first | exact Drawn0.refl _ | apply Drawn0.step)⟩
        · rw [if_neg c4] at H
          exact absurd H (by simp)
      · rw [if_neg c3] at H
        have c3b0 : decide (x5_1 < (l0.length : Int)) = false := decide_eq_false c3
        clear c3
        obtain rfl := Option.some.inj H
        go_wp2
        go_ret
        exact ⟨by first | rfl | (simp; done) | (simp [*]; done), by repeat (first | exact Drawn0.refl _ | apply Drawn0.step)⟩

end Go.Proofs.Ythdknilfkbhalaa.PFnBorders
