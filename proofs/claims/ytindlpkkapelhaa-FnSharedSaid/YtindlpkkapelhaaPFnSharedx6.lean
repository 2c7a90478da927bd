/- The functions that the law reaches, as plain Lean functions, each with the proof that the Go code comes to its answers; conditions: those that each theorem names. (printed by a program of this session) -/
import Derived.Test.YtindlpkkapelhaaPFnSharedx0
import Derived.Test.YtindlpkkapelhaaPFnSharedx4
import Derived.Test.YtindlpkkapelhaaPFnSharedx5
namespace Go.Proofs.Ytindlpkkapelhaa.PFnShared
open Go.RowKit Go.Proofs.YtindlpkkapelhaaW.PrintWords Go.Proofs.YtindlpkkapelhaaW.PrintLast Go.Proofs.YtindlpkkapelhaaW.PrintMore
attribute [local go_sem] max2_int min2_int max_two min_two max_three min_three max_four min_four   -- for this text's walks alone
set_option linter.unusedVariables false
set_option linter.unusedSimpArgs false

/-! ### spec_DrawLendParts: function 67 -/
def spec_DrawLendParts.f (k : Nat) (l0 : List Int) : Option (List Int × Int × Int × Int) := (spec_l1New.f k l0).bind fun bt227 => ((spec_l28Any.f k bt227.1 bt227.2.1 bt227.2.2).bind fun bt231 => ((spec_l1Below.f bt227.1 bt231.2.1 bt231.2.2 8).bind fun bt237 => ((spec_l1Below.f bt227.1 bt237.2.1 bt237.2.2 8).bind fun bt240 => ((spec_l1Below.f bt227.1 bt240.2.1 bt240.2.2 10).bind fun bt243 => (some (bt231.1, wrap64 (bt237.1 - 1), wrap64 (bt240.1 - 1), wrap64 (bt243.1 - 1)))))))
theorem spec_DrawLendParts.mono : ∀ a0 k, LeO (spec_DrawLendParts.f k a0) (spec_DrawLendParts.f (k + 1) a0) := by
  intro a0 k
  unfold spec_DrawLendParts.f
  repeat' first
      | (with_reducible exact spec_l1New.mono _ _)
      | (with_reducible exact spec_l28Any.mono _ _ _ _)
      | (with_reducible exact LeO.refl _)
      | (with_reducible exact LeO.none _)
      | (with_reducible refine LeO.ite ?_ ?_)
      | (with_reducible refine LeO.bind ?_ (fun _ => ?_))
      | exact spec_l1New.mono _ _
      | exact spec_l28Any.mono _ _ _ _
      | exact LeO.none _
      | refine LeO.ite ?_ ?_
      | refine LeO.bind ?_ (fun _ => ?_)
def spec_DrawLendParts.T5 : Bool × List (List Nat × List Nat) := (true, [([], []), ([], []), ([], []), ([], []), ([3], [3]), ([4], [4]), ([0, 4, 0], [0]), ([1, 6, 0, 1, 6], [1]), ([2, 7, 0, 1, 2, 6, 7], [2]), ([5, 8, 0, 1, 2, 3, 4, 5, 6, 7, 8], [5])])
def spec_DrawLendParts.B5 : List Nat := [0, 0, 0, 0, 8, 24, 25, 91, 223, 511]
theorem spec_DrawLendParts.tab5 : rtab .any (opsOf Try.f67 5) = spec_DrawLendParts.T5 := by kernel_rfl
theorem spec_DrawLendParts.bits5 : waitsOk spec_DrawLendParts.T5.2 spec_DrawLendParts.B5 = true := by kernel_rfl
set_option maxHeartbeats 8000000 in
set_option maxRecDepth 100000 in
theorem spec_DrawLendParts.calls (k : Nat) (A0 : Option Addr) (c0 : Nat) (l0 : List Int) (r1 : List Int) (r2 : Int) (r3 : Int) (r4 : Int) (w : World) (hr0 : Kd.C (Kd.int .u8) w A0 l0.length l0) (hc0 : l0.length ≤ c0) (h : spec_DrawLendParts.f k l0 = some (r1, r2, r3, r4)) :
    Calls Try.prog 67 #[.slice A0 l0.length c0] w fun e w' => ∃ v0_ : Value, e = .returned (.tuple #[.agg #[v0_], .int .i64 r2, .int .i64 r3, .int .i64 r4]) ∧ Kd.R (Kd.int .i64) 3 w' w.heap.size (fun _ => True) v0_ r1 ∧ Below w.heap.size w w' := by
  have hu35 := Try.underlying35
  have HR0 := Aside0.mk hr0
  have HC0 := Aside0.mk hc0
  clear hr0 hc0
  have HB := Aside0.mk (Below.refl w.heap.size w)
  have H : ((spec_l1New.f k l0).bind fun bt227 => ((spec_l28Any.f k bt227.1 bt227.2.1 bt227.2.2).bind fun bt231 => ((spec_l1Below.f bt227.1 bt231.2.1 bt231.2.2 8).bind fun bt237 => ((spec_l1Below.f bt227.1 bt237.2.1 bt237.2.2 8).bind fun bt240 => ((spec_l1Below.f bt227.1 bt240.2.1 bt240.2.2 10).bind fun bt243 => (some (bt231.1, wrap64 (bt237.1 - 1), wrap64 (bt240.1 - 1), wrap64 (bt243.1 - 1)))))))) = some (r1, r2, r3, r4) := h
  clear h
  replace H := Option.bind_eq_some_iff.mp H
  obtain ⟨⟨t227, t228, t229⟩, A20, H⟩ := H
  replace H : ((spec_l28Any.f k t227 t228 t229).bind fun bt231 => ((spec_l1Below.f t227 bt231.2.1 bt231.2.2 8).bind fun bt237 => ((spec_l1Below.f t227 bt237.2.1 bt237.2.2 8).bind fun bt240 => ((spec_l1Below.f t227 bt240.2.1 bt240.2.2 10).bind fun bt243 => (some (bt231.1, wrap64 (bt237.1 - 1), wrap64 (bt240.1 - 1), wrap64 (bt243.1 - 1))))))) = some (r1, r2, r3, r4) := H
  have A2 := Aside0.mk A20
  clear A20
  replace H := Option.bind_eq_some_iff.mp H
  obtain ⟨⟨t231, t234, t235⟩, A30, H⟩ := H
  replace H : ((spec_l1Below.f t227 t234 t235 8).bind fun bt237 => ((spec_l1Below.f t227 bt237.2.1 bt237.2.2 8).bind fun bt240 => ((spec_l1Below.f t227 bt240.2.1 bt240.2.2 10).bind fun bt243 => (some (t231, wrap64 (bt237.1 - 1), wrap64 (bt240.1 - 1), wrap64 (bt243.1 - 1)))))) = some (r1, r2, r3, r4) := H
  have A3 := Aside0.mk A30
  clear A30
  replace H := Option.bind_eq_some_iff.mp H
  obtain ⟨⟨t237, t238, t239⟩, A40, H⟩ := H
  replace H : ((spec_l1Below.f t227 t238 t239 8).bind fun bt240 => ((spec_l1Below.f t227 bt240.2.1 bt240.2.2 10).bind fun bt243 => (some (t231, wrap64 (t237 - 1), wrap64 (bt240.1 - 1), wrap64 (bt243.1 - 1))))) = some (r1, r2, r3, r4) := H
  have A4 := Aside0.mk A40
  clear A40
  replace H := Option.bind_eq_some_iff.mp H
  obtain ⟨⟨t240, t241, t242⟩, A50, H⟩ := H
  replace H : ((spec_l1Below.f t227 t241 t242 10).bind fun bt243 => (some (t231, wrap64 (t237 - 1), wrap64 (t240 - 1), wrap64 (bt243.1 - 1)))) = some (r1, r2, r3, r4) := H
  have A5 := Aside0.mk A50
  clear A50
  replace H := Option.bind_eq_some_iff.mp H
  obtain ⟨⟨t243, t244, t245⟩, A60, H⟩ := H
  replace H : (some (t231, wrap64 (t237 - 1), wrap64 (t240 - 1), wrap64 (t243 - 1))) = some (r1, r2, r3, r4) := H
  have A6 := Aside0.mk A60
  clear A60
  simp only [Option.some.injEq, Prod.mk.injEq] at H
  obtain ⟨rfl, rfl, rfl, rfl⟩ := H
  go_enter Try.func67, Try.ntmps67
  try go_wp2_with (first | ((with_reducible refine gate_dst (N := 2) rfl ?_); refine box_event ?hg (N := 2) ?hd (cs := #[.slice none 0 0]) (t := 35) ?hr ?_; (case hd => rfl); (case hg => rfl); (case hr => first | (go_simp; done) | (go_simp; rfl)); intro gb226 hg w7 hbox hb; have n0_ := Aside0.mk (below_step (by repeat (first | (with_reducible first | exact HB.out | apply below_alloc | apply pw_below_drewN | apply below_drew1) | exact HB.out)) hb); have n1_ := Aside0.mk (hbox); have n2_ := Aside0.mk ((by rw [hg]; exact (below_size (by repeat (first | (with_reducible first | exact HB.out | apply below_alloc | apply pw_below_drewN | apply below_drew1) | exact HB.out))) : w.heap.size ≤ gb226)); have n3_ := Aside0.mk ((by rw [hg]; exact (below_size (by repeat (first | (with_reducible first | exact HB.out | apply below_alloc | apply pw_below_drewN | apply below_drew1) | exact HB.out))) : w.heap.size ≤ gb226)); clear HB; have HB := n0_; have BK226 := n1_; have GW226 := n2_; have GE226 := n3_; clear n0_ n1_ n2_ n3_; clear hb hbox hg) | ((with_reducible refine gate_callee (f := 106) rfl ?_); refine goesL_ (some 11) rfl rfl Try.func106 (by kernel_rfl) rfl #[.slice A0 l0.length c0] rfl (by (try simp only [List.map_toArray, List.map_cons, List.map_nil]); first | done | rfl | (simp only [List.length_drop, List.length_take]; rfl)) ?_; (with_reducible refine (spec_l1New.calls k _ _ l0 t227 t228 t229 w _ ?side1 ?side2 ?side3 A2.out).mono ?_); (case side1 => repeat (first | (with_reducible first | exact HB.out | apply below_alloc | apply pw_below_drewN | apply below_drew1 | refine below_set ?_ GE226.out) | exact HB.out)); (case side2 => exact HR0.out); (case side3 => exact HC0.out); rintro e w8 ⟨g230, rfl, hi, hb, hb2⟩; refine ⟨_, rfl, ?_⟩; have n0_ := Aside0.mk (blk_below (g := gb226) (o := .cells #[.slice none 0 0] 35 (0, 0)) (by (with_reducible repeat (first | refine blk_drewN ?_ _ | refine blk_drew ?_ | refine blk_alloc ?_ _)); exact BK226.out) hb2); have n1_ := Aside0.mk (hb); have n2_ := Aside0.mk (hi); have n3_ := Aside0.mk (IsS163.ne_blk hi (blk_below (g := gb226) (o := .cells #[.slice none 0 0] 35 (0, 0)) (by (with_reducible repeat (first | refine blk_drewN ?_ _ | refine blk_drew ?_ | refine blk_alloc ?_ _)); exact BK226.out) hb2) (by decide)); have n4_ := Aside0.mk (Ne.symm (IsS163.ne_blk hi (blk_below (g := gb226) (o := .cells #[.slice none 0 0] 35 (0, 0)) (by (with_reducible repeat (first | refine blk_drewN ?_ _ | refine blk_drew ?_ | refine blk_alloc ?_ _)); exact BK226.out) hb2) (by decide))); clear BK226; clear HB; have BK226 := n0_; have HB := n1_; have HI230 := n2_; have NB230_226 := n3_; have NB226_230 := n4_; clear n0_ n1_ n2_ n3_ n4_; (try clear hb); (try clear hb2); (try clear hk); (try clear hi)) | ((with_reducible refine gate_callee (f := 111) rfl ?_); refine goesL_ (some 13) rfl rfl Try.func111 (by kernel_rfl) rfl #[.pointer (some ⟨g230, 0, none⟩)] rfl (by (try simp only [List.map_toArray, List.map_cons, List.map_nil]); first | done | rfl | (simp only [List.length_drop, List.length_take]; rfl)) ?_; (with_reducible refine (spec_l28Any.calls k g230 t227 t228 t229 t231 t234 t235 w _ ?side1 ?side2 A3.out).mono ?_); (case side1 => repeat (first | (with_reducible first | exact HI230.out | apply IsS163.alloc | apply IsS163.drewN | apply IsS163.drew | apply IsS163.set_1 | apply IsS163.set_2 | refine IsS163.far ?_ NB230_226.out _) | exact HI230.out)); (case side2 => repeat (first | (with_reducible first | exact HB.out | apply below_alloc | apply pw_below_drewN | apply below_drew1 | refine below_set ?_ (IsS163.ge HI230.out) | refine below_set ?_ GE226.out) | exact HB.out)); rintro e w9 ⟨v232, rfl, ho0, hi, hb, hk⟩; refine ⟨_, rfl, ?_⟩; have n0_ := Aside0.mk (KeepBut.blk hk (g' := gb226) (o := .cells #[.slice none 0 0] 35 (0, 0)) (by (with_reducible repeat (first | refine blk_drewN ?_ _ | refine blk_drew ?_ | refine blk_alloc ?_ _)); exact BK226.out) NB226_230.out (by simp)); have n1_ := Aside0.mk (Kd.R_lower ho0 (below_size (by repeat (first | (with_reducible first | exact HB.out | apply below_alloc | apply pw_below_drewN | apply below_drew1 | refine below_set ?_ (IsS163.ge HI230.out) | refine below_set ?_ GE226.out) | exact HB.out)))); have n2_ := Aside0.mk (hb); have n3_ := Aside0.mk (hi); clear BK226; clear HB; clear HI230; have BK226 := n0_; have HO233 := n1_; have HB := n2_; have HI230 := n3_; clear n0_ n1_ n2_ n3_; (try clear hb); (try clear hb2); (try clear hk); (try clear hi); (try clear ho0)) | ((with_reducible refine gate_dst (N := 7) rfl ?_); refine box_event ?hg (N := 7) ?hd (cs := #[.slice none 0 0]) (t := 35) ?hr ?_; (case hd => rfl); (case hg => rfl); (case hr => first | (go_simp; done) | (go_simp; rfl)); intro gb236 hg w10 hbox hb; have n0_ := Aside0.mk (Kd.R_below (by (with_reducible repeat (first | apply Kd.R_alloc | apply Kd.R_drewN | apply Kd.R_drew)); exact HO233.out) hb); have n1_ := Aside0.mk (blk_below (g := gb226) (o := .cells #[.slice none 0 0] 35 (0, 0)) (by (with_reducible repeat (first | refine blk_drewN ?_ _ | refine blk_drew ?_ | refine blk_alloc ?_ _)); exact BK226.out) hb); have n2_ := Aside0.mk (IsS163.below (by repeat (first | (with_reducible first | exact HI230.out | apply IsS163.alloc | apply IsS163.drewN | apply IsS163.drew | apply IsS163.set_1 | apply IsS163.set_2 | refine IsS163.far ?_ NB230_226.out _) | exact HI230.out)) hb); have n3_ := Aside0.mk (below_step (by repeat (first | (with_reducible first | exact HB.out | apply below_alloc | apply pw_below_drewN | apply below_drew1 | refine below_set ?_ (IsS163.ge HI230.out) | refine below_set ?_ GE226.out) | exact HB.out)) hb); have n4_ := Aside0.mk (hbox); have n5_ := Aside0.mk ((by rw [hg]; exact (below_size (by repeat (first | (with_reducible first | exact HB.out | apply below_alloc | apply pw_below_drewN | apply below_drew1 | refine below_set ?_ (IsS163.ge HI230.out) | refine below_set ?_ GE226.out) | exact HB.out))) : w.heap.size ≤ gb236)); have n6_ := Aside0.mk ((by rw [hg]; exact (below_size (by repeat (first | (with_reducible first | exact HB.out | apply below_alloc | apply pw_below_drewN | apply below_drew1 | refine below_set ?_ (IsS163.ge HI230.out) | refine below_set ?_ GE226.out) | exact HB.out))) : w.heap.size ≤ gb236)); have n7_ := Aside0.mk ((by rw [hg]; exact Nat.ne_of_lt (blk_lt (g := gb226) (o := .cells #[.slice none 0 0] 35 (0, 0)) (by (with_reducible repeat (first | refine blk_drewN ?_ _ | refine blk_drew ?_ | refine blk_alloc ?_ _)); exact BK226.out)) : gb226 ≠ gb236)); have n8_ := Aside0.mk ((by rw [hg]; exact Nat.ne_of_gt (blk_lt (g := gb226) (o := .cells #[.slice none 0 0] 35 (0, 0)) (by (with_reducible repeat (first | refine blk_drewN ?_ _ | refine blk_drew ?_ | refine blk_alloc ?_ _)); exact BK226.out)) : gb236 ≠ gb226)); have n9_ := Aside0.mk ((by rw [hg]; exact Nat.ne_of_lt (IsS163.lt (show IsS163 w _ g230 t227 t234 t235 from by repeat (first | (with_reducible first | exact HI230.out | apply IsS163.alloc | apply IsS163.drewN | apply IsS163.drew | apply IsS163.set_1 | apply IsS163.set_2 | refine IsS163.far ?_ NB230_226.out _) | exact HI230.out))) : g230 ≠ gb236)); have n10_ := Aside0.mk ((by rw [hg]; exact Nat.ne_of_gt (IsS163.lt (show IsS163 w _ g230 t227 t234 t235 from by repeat (first | (with_reducible first | exact HI230.out | apply IsS163.alloc | apply IsS163.drewN | apply IsS163.drew | apply IsS163.set_1 | apply IsS163.set_2 | refine IsS163.far ?_ NB230_226.out _) | exact HI230.out))) : gb236 ≠ g230)); clear HO233; clear BK226; clear HI230; clear HB; have HO233 := n0_; have BK226 := n1_; have HI230 := n2_; have HB := n3_; have BK236 := n4_; have GW236 := n5_; have GE236 := n6_; have NB226_236 := n7_; have NB236_226 := n8_; have NB230_236 := n9_; have NB236_230 := n10_; clear n0_ n1_ n2_ n3_ n4_ n5_ n6_ n7_ n8_ n9_ n10_; clear hb hbox hg; obtain ⟨Ao11, co11, eo11⟩ := Kd.R_slice HO233.out; subst eo11; have hnb12 := NB236_226.out; have hnc12 := NB226_236.out; have hnb13 := NB236_230.out; have hnc13 := NB230_236.out; have hcz14_0 : w10.cell? ⟨gb236, 0, none⟩ = some (.slice none 0 0) := (blk_cell BK236.out 0).trans rfl; have hfz14_0 := blk_frozen BK236.out 0) | ((with_reducible refine gate_callee (f := 107) rfl ?_); refine goesL_ (some 15) rfl rfl Try.func107 (by kernel_rfl) rfl #[.pointer (some ⟨g230, 0, none⟩), .int .i64 8] rfl (by (try simp only [List.map_toArray, List.map_cons, List.map_nil]); first | done | rfl | (simp only [List.length_drop, List.length_take]; rfl)) ?_; (with_reducible refine (spec_l1Below.calls g230 t227 t234 t235 8 t237 t238 t239 w _ ?side1 ?side2 A4.out).mono ?_); (case side1 => repeat (first | (with_reducible first | exact HI230.out | apply IsS163.alloc | apply IsS163.drewN | apply IsS163.drew | apply IsS163.set_1 | apply IsS163.set_2 | refine IsS163.far ?_ NB230_226.out _ | refine IsS163.far ?_ NB230_236.out _) | exact HI230.out)); (case side2 => repeat (first | (with_reducible first | exact HB.out | apply below_alloc | apply pw_below_drewN | apply below_drew1 | refine below_set ?_ (IsS163.ge HI230.out) | refine below_set ?_ GE226.out | refine below_set ?_ GE236.out) | exact HB.out)); rintro e w15 ⟨rfl, hi, hb, hk⟩; refine ⟨_, rfl, ?_⟩; have n0_ := Aside0.mk (KeepBut.blk hk (g' := gb226) (o := .cells #[.slice none 0 0] 35 (0, 0)) (by (with_reducible repeat (first | refine blk_drewN ?_ _ | refine blk_drew ?_ | refine blk_alloc ?_ _)); refine blk_far ?_ NB226_236.out _; (with_reducible repeat (first | refine blk_drewN ?_ _ | refine blk_drew ?_ | refine blk_alloc ?_ _)); exact BK226.out) NB226_230.out (by simp)); have n1_ := Aside0.mk (Kd.R_mono (Kd.R_keep (IsS163.apart (show IsS163 w _ g230 t227 t234 t235 from by repeat (first | (with_reducible first | exact HI230.out | apply IsS163.alloc | apply IsS163.drewN | apply IsS163.drew | apply IsS163.set_1 | apply IsS163.set_2 | refine IsS163.far ?_ NB230_226.out _ | refine IsS163.far ?_ NB230_236.out _) | exact HI230.out)) (by (with_reducible repeat (first | apply Kd.R_alloc | apply Kd.R_drewN | apply Kd.R_drew)); exact (Kd.R_mono (Kd.R_far (p := ⟨gb236, 0, none⟩) (Kd.R_types HO233.out BK236.out (by decide)) (fun _ hk => hk.2) (.slice Ao11 t231.length co11)) (fun _ h_ => h_.1))) (by decide)) hk (fun _ h => h.2)) (fun _ h => h.1)); have n2_ := Aside0.mk (KeepBut.blk hk (g' := gb236) (o := .cells #[.slice Ao11 t231.length co11] 35 (0, 0)) (by (with_reducible repeat (first | refine blk_drewN ?_ _ | refine blk_drew ?_ | refine blk_alloc ?_ _)); refine blk_put (cs := #[.slice none 0 0]) ?_ 0 _ rfl; (with_reducible repeat (first | refine blk_drewN ?_ _ | refine blk_drew ?_ | refine blk_alloc ?_ _)); exact BK236.out) NB236_230.out (by simp)); have n3_ := Aside0.mk (hb); have n4_ := Aside0.mk (hi); clear BK226; clear HO233; clear BK236; clear HB; clear HI230; have BK226 := n0_; have HO233 := n1_; have BK236 := n2_; have HB := n3_; have HI230 := n4_; clear n0_ n1_ n2_ n3_ n4_; (try clear hb); (try clear hb2); (try clear hk); (try clear hi)) | ((with_reducible refine gate_callee (f := 107) rfl ?_); refine goesL_ (some 18) rfl rfl Try.func107 (by kernel_rfl) rfl #[.pointer (some ⟨g230, 0, none⟩), .int .i64 8] rfl (by (try simp only [List.map_toArray, List.map_cons, List.map_nil]); first | done | rfl | (simp only [List.length_drop, List.length_take]; rfl)) ?_; (with_reducible refine (spec_l1Below.calls g230 t227 t238 t239 8 t240 t241 t242 w _ ?side1 ?side2 A5.out).mono ?_); (case side1 => repeat (first | (with_reducible first | exact HI230.out | apply IsS163.alloc | apply IsS163.drewN | apply IsS163.drew | apply IsS163.set_1 | apply IsS163.set_2 | refine IsS163.far ?_ NB230_226.out _ | refine IsS163.far ?_ NB230_236.out _) | exact HI230.out)); (case side2 => repeat (first | (with_reducible first | exact HB.out | apply below_alloc | apply pw_below_drewN | apply below_drew1 | refine below_set ?_ (IsS163.ge HI230.out) | refine below_set ?_ GE226.out | refine below_set ?_ GE236.out) | exact HB.out)); rintro e w16 ⟨rfl, hi, hb, hk⟩; refine ⟨_, rfl, ?_⟩; have n0_ := Aside0.mk (KeepBut.blk hk (g' := gb226) (o := .cells #[.slice none 0 0] 35 (0, 0)) (by (with_reducible repeat (first | refine blk_drewN ?_ _ | refine blk_drew ?_ | refine blk_alloc ?_ _)); exact BK226.out) NB226_230.out (by simp)); have n1_ := Aside0.mk (Kd.R_mono (Kd.R_keep (IsS163.apart (show IsS163 w _ g230 t227 t238 t239 from by repeat (first | (with_reducible first | exact HI230.out | apply IsS163.alloc | apply IsS163.drewN | apply IsS163.drew | apply IsS163.set_1 | apply IsS163.set_2 | refine IsS163.far ?_ NB230_226.out _ | refine IsS163.far ?_ NB230_236.out _) | exact HI230.out)) (by (with_reducible repeat (first | apply Kd.R_alloc | apply Kd.R_drewN | apply Kd.R_drew)); exact HO233.out) (by decide)) hk (fun _ h => h.2)) (fun _ h => h.1)); have n2_ := Aside0.mk (KeepBut.blk hk (g' := gb236) (o := .cells #[.slice Ao11 t231.length co11] 35 (0, 0)) (by (with_reducible repeat (first | refine blk_drewN ?_ _ | refine blk_drew ?_ | refine blk_alloc ?_ _)); exact BK236.out) NB236_230.out (by simp)); have n3_ := Aside0.mk (hb); have n4_ := Aside0.mk (hi); clear BK226; clear HO233; clear BK236; clear HB; clear HI230; have BK226 := n0_; have HO233 := n1_; have BK236 := n2_; have HB := n3_; have HI230 := n4_; clear n0_ n1_ n2_ n3_ n4_; (try clear hb); (try clear hb2); (try clear hk); (try clear hi)))
  have n0_ := Aside0.mk (Kd.R_drew HO233.out)
  have n1_ := Aside0.mk (blk_drew BK226.out)
  have n2_ := Aside0.mk (blk_drew BK236.out)
  have n3_ := Aside0.mk (IsS163.drew HI230.out)
  have n4_ := Aside0.mk (below_drew1 HB.out)
  clear HO233
  clear BK226
  clear BK236
  clear HI230
  clear HB
  have HO233 := n0_
  have BK226 := n1_
  have BK236 := n2_
  have HI230 := n3_
  have HB := n4_
  clear n0_ n1_ n2_ n3_ n4_
  refine start_ (n := 10) (S := fun w' => w'.cell? ⟨gb236, 0, none⟩ = some (.slice Ao11 t231.length co11)) (ds := []) #[false, false, false, false, false, false, false, false, false, false] (by kernel_rfl) rfl rfl ((blk_cell BK236.out 0).trans rfl) (fun hHeld => ?_); refine with_tabW spec_DrawLendParts.tab5 spec_DrawLendParts.bits5 (fun HT_ HW_ => ?_)
  generalize w16.drew = w17 at HO233 BK226 BK236 HI230 HB hHeld ⊢
  refine pure_ (i := 1) (N := some 21) (v := ?_) (a' := ?_) #[false, true, false, false, false, false, false, false, false, false] rfl rfl (any_of HT_.out (by kernel_rfl)) (fun _ _ _ h => h) (Or.inl ⟨by rfl, ?_⟩) ?_ ?_
  rotate_left
  · intro w'
    go_simp
    with_reducible rfl
  rotate_left
  · simp only [Act.put, List.setIfInBounds_toArray, List.set_cons_zero, List.set_cons_succ, i64_w, i32_w]
    rfl
  refine pure_ (i := 2) (N := some 22) (v := ?_) (a' := ?_) #[false, true, true, false, false, false, false, false, false, false] rfl rfl (any_of HT_.out (by kernel_rfl)) (fun _ _ _ h => h) (Or.inl ⟨by rfl, ?_⟩) ?_ ?_
  rotate_left
  · intro w'
    go_simp
    with_reducible rfl
  rotate_left
  · simp only [Act.put, List.setIfInBounds_toArray, List.set_cons_zero, List.set_cons_succ, i64_w, i32_w]
    rfl
  refine pure_ (i := 3) (N := some 23) (v := ?_) (a' := ?_) #[false, true, true, true, false, false, false, false, false, false] rfl rfl (any_of HT_.out (by kernel_rfl)) (fun _ _ _ h => h) (Or.inl ⟨by rfl, ?_⟩) ?_ ?_
  rotate_left
  · intro w'
    go_simp
    with_reducible rfl
  rotate_left
  · simp only [Act.put, List.setIfInBounds_toArray, List.set_cons_zero, List.set_cons_succ, i64_w, i32_w]
    rfl
  refine take_ (i := 0) (N := some 20) (v := ?_) (a' := ?_) #[true, true, true, true, false, false, false, false, false, false] rfl rfl (take_ofW HT_.out HW_.out (by kernel_rfl)) (fun _ _ _ h => h) (Or.inl ⟨by rfl, ?_⟩) hHeld ?_ ?_
  rotate_left
  · intro w' s0
    go_simp
    with_reducible rfl
  rotate_left
  · simp only [Act.put, List.setIfInBounds_toArray, List.set_cons_zero, List.set_cons_succ, i64_w, i32_w]
    rfl
  refine one_ (i := 4) (N := some 24) #[true, true, true, true, true, false, false, false, false, false] rfl rfl (one_of HT_.out (by kernel_rfl)) (by decide) (fun K hK => ?_)
  refine goes_ Try.func107 (by kernel_rfl) rfl #[.pointer (some ⟨g230, 0, none⟩), .int .i64 10] (by rfl) rfl rfl (by (try simp only [List.map_toArray, List.map_cons, List.map_nil]); first | done | rfl | (simp only [List.length_drop, List.length_take]; rfl)) ?_
  with_reducible refine (spec_l1Below.calls g230 t227 t241 t242 10 t243 t244 t245 w _ ?side1 ?side2 A6.out).mono ?_
  (case side1 => repeat (first | (with_reducible first | exact HI230.out | apply IsS163.alloc | apply IsS163.drewN | apply IsS163.drew | apply IsS163.set_1 | apply IsS163.set_2 | refine IsS163.far ?_ NB230_226.out _ | refine IsS163.far ?_ NB230_236.out _) | exact HI230.out))
  (case side2 => repeat (first | (with_reducible first | exact HB.out | apply below_alloc | apply pw_below_drewN | apply below_drew1 | refine below_set ?_ (IsS163.ge HI230.out) | refine below_set ?_ GE226.out | refine below_set ?_ GE236.out) | exact HB.out))
  rintro e w18 ⟨rfl, hi, hb, hk⟩
  refine ⟨_, rfl, ?_⟩
  have n0_ := Aside0.mk (KeepBut.blk hk (g' := gb226) (o := .cells #[.slice none 0 0] 35 (0, 0)) (by (with_reducible repeat (first | refine blk_drewN ?_ _ | refine blk_drew ?_ | refine blk_alloc ?_ _)); exact BK226.out) NB226_230.out (by simp))
  have n1_ := Aside0.mk (Kd.R_mono (Kd.R_keep (IsS163.apart (show IsS163 w _ g230 t227 t241 t242 from by repeat (first | (with_reducible first | exact HI230.out | apply IsS163.alloc | apply IsS163.drewN | apply IsS163.drew | apply IsS163.set_1 | apply IsS163.set_2 | refine IsS163.far ?_ NB230_226.out _ | refine IsS163.far ?_ NB230_236.out _) | exact HI230.out)) (by (with_reducible repeat (first | apply Kd.R_alloc | apply Kd.R_drewN | apply Kd.R_drew)); exact HO233.out) (by decide)) hk (fun _ h => h.2)) (fun _ h => h.1))
  have n2_ := Aside0.mk (KeepBut.blk hk (g' := gb236) (o := .cells #[.slice Ao11 t231.length co11] 35 (0, 0)) (by (with_reducible repeat (first | refine blk_drewN ?_ _ | refine blk_drew ?_ | refine blk_alloc ?_ _)); exact BK236.out) NB236_230.out (by simp))
  have n3_ := Aside0.mk (hb)
  have n4_ := Aside0.mk (hi)
  clear BK226
  clear HO233
  clear BK236
  clear HB
  clear HI230
  have BK226 := n0_
  have HO233 := n1_
  have BK236 := n2_
  have HB := n3_
  have HI230 := n4_
  clear n0_ n1_ n2_ n3_ n4_
  (try clear hb)
  (try clear hb2)
  (try clear hk)
  (try clear hi)
  refine hK.out _ _ ((blk_cell BK236.out 0).trans rfl) (fun hHeld => ?_)
  clear hK K
  refine norm_ (a' := ?_) ?_ ?_
  rotate_left
  · show Act.put _ (some 24) _ = _
    simp only [Act.put, List.setIfInBounds_toArray, List.set_cons_zero, List.set_cons_succ, i64_w, i32_w]
    rfl
  refine pure_ (i := 5) (N := some 25) (v := ?_) (a' := ?_) #[true, true, true, true, true, true, false, false, false, false] rfl rfl (any_of HT_.out (by kernel_rfl)) (fun _ _ _ h => h) (Or.inl ⟨by rfl, ?_⟩) ?_ ?_
  rotate_left
  · intro w'
    go_simp
    with_reducible rfl
  rotate_left
  · simp only [Act.put, List.setIfInBounds_toArray, List.set_cons_zero, List.set_cons_succ, i64_w, i32_w]
    rfl
  refine one_ (i := 6) (N := none) #[true, true, true, true, true, true, true, false, false, false] rfl rfl (one_of HT_.out (by kernel_rfl)) (by decide) (fun K hK => ?_)
  have hs19 : w18.cell? ⟨gb226, 0, none⟩ = some (.slice none 0 0) := (blk_cell BK226.out 0).trans rfl
  have hfs19 := blk_frozen BK226.out 0
  have hns19_1 := NB236_226.out
  have hms19_1 := NB226_236.out
  refine skip_ (w1 := ?_) (by rfl) rfl ?_ ?_
  rotate_left
  · go_simp
    rfl
  refine hK.out _ _ (((cell_far (p := ⟨gb226, _, none⟩) NB236_226.out _).trans (hHeld))) (fun hHeld => ?_)
  clear hK K
  refine pure_ (i := 7) (N := some 3) (v := ?_) (a' := ?_) #[true, true, true, true, true, true, true, true, false, false] rfl rfl (any_of HT_.out (by kernel_rfl)) (fun _ _ _ h => h) (Or.inl ⟨by rfl, ?_⟩) ?_ ?_
  rotate_left
  · intro w'
    go_simp
    with_reducible rfl
  rotate_left
  · simp only [Act.put, List.setIfInBounds_toArray, List.set_cons_zero, List.set_cons_succ, i64_w, i32_w]
    rfl
  refine pure_ (i := 8) (N := some 4) (v := ?_) (a' := ?_) #[true, true, true, true, true, true, true, true, true, false] rfl rfl (any_of HT_.out (by kernel_rfl)) (fun _ _ _ h => h) (Or.inl ⟨by rfl, ?_⟩) ?_ ?_
  rotate_left
  · intro w'
    go_simp
    with_reducible rfl
  rotate_left
  · simp only [Act.put, List.setIfInBounds_toArray, List.set_cons_zero, List.set_cons_succ, i64_w, i32_w]
    rfl
  refine pure_ (i := 9) (N := some 5) (v := ?_) (a' := ?_) #[true, true, true, true, true, true, true, true, true, true] rfl rfl (any_of HT_.out (by kernel_rfl)) (fun _ _ _ h => h) (Or.inl ⟨by rfl, ?_⟩) ?_ ?_
  rotate_left
  · intro w'
    go_simp
    with_reducible rfl
  rotate_left
  · simp only [Act.put, List.setIfInBounds_toArray, List.set_cons_zero, List.set_cons_succ, i64_w, i32_w]
    rfl
  refine done_ (done_of HT_.out (by kernel_rfl)) ?_
  try go_wp2
  refine bodyPost_ret (results_list (rs := [.cell 2 35, .tmp 3, .tmp 4, .tmp 5]) rfl (by simp) (.cell gb226 35 #[.slice Ao11 t231.length co11] (0, 0) _ rfl (by (with_reducible repeat (first | refine blk_drewN ?_ _ | refine blk_drew ?_ | refine blk_alloc ?_ _)); refine blk_put (cs := #[.slice none 0 0]) ?_ 0 _ rfl; (with_reducible repeat (first | refine blk_drewN ?_ _ | refine blk_drew ?_ | refine blk_alloc ?_ _)); exact BK226.out) Try.underlying35 rfl (by kernel_rfl) (.tmp (.tmp (.tmp .nil))))) rfl ?_
  exact ⟨_, by first | rfl | (simp [errW_none, errW_some] <;> rfl) | (simp [*, errW_none, errW_some] <;> rfl), by (with_reducible repeat (first | apply Kd.R_alloc | apply Kd.R_drewN | apply Kd.R_drew)); exact Kd.R_mono (Kd.R_far (p := ⟨gb226, 0, none⟩) (Kd.R_types HO233.out BK226.out (by decide)) (fun _ hk => hk.2) (.slice Ao11 t231.length co11)) (fun _ hk => trivial), by repeat (first | (with_reducible first | exact HB.out | apply below_alloc | apply pw_below_drewN | apply below_drew1 | refine below_set ?_ (IsS163.ge HI230.out) | refine below_set ?_ GE226.out | refine below_set ?_ GE236.out) | exact HB.out)⟩

end Go.Proofs.Ytindlpkkapelhaa.PFnShared
