-- Written by the session's own program wip/allprint.py, which drives the kit's print; Lean checks it.
import Derived.Test.YtojgpnobbnihdaaAllx0
import Derived.Test.YtojgpnobbnihdaaAllx10
import Derived.Test.YtojgpnobbnihdaaAllx12
import Derived.Test.YtojgpnobbnihdaaAllx13
import Derived.Test.YtojgpnobbnihdaaAllx14
namespace Go.Proofs.Ytojgpnobbnihdaa.All
open Go.RowKit Go.Proofs.YtojgpnobbnihdaaW.PrintWords Go.Proofs.YtojgpnobbnihdaaW.PrintLast Go.Proofs.YtojgpnobbnihdaaW.PrintMore
attribute [local go_sem] max2_int min2_int max_two min_two max_three min_three max_four min_four   -- for this text's walks alone
set_option linter.unusedVariables false
set_option linter.unusedSimpArgs false

-- GROUP FnStaState FnStaTime
/-! ### spec_DrawStaState: function 29 -/
def spec_DrawStaState.j0 : Nat → Int → Int → List Int → Int → Int → Int → Int → List Int → Int → Option (Int × Int × Int × List Int × Int × Int × Int × Int)
  | 0, _, _, _, _, _, _, _, _, _ => none
  | k + 1, x8, x9, x489000, x489001, x498000, x498001, x498002, x498003, x498004 => (spec_l20Near.f k x489000 x489001 x498000 x498001 x498002 x498003 x498004 x8).bind fun bt504 => ((spec_l20Near.f k x489000 bt504.2 x498000 x498001 x498002 x498003 x498004 x8).bind fun bt506 => ((some (([bt504.1, bt506.1, (-1), 109573] : List Int) : List Int)).bind fun y508 => ((spec_l20Rd_pick.f k x489000 bt506.2 4).bind fun bt511 => (if 0 ≤ bt511.1 then (if bt511.1 < (y508.length : Int) then (some (x498000, x498001, x498002, x498003, x498004, x8, rd y508 bt511.1, x9)) else (none)) else (none)))))
def spec_DrawStaState.f (k : Nat) (l0 : List Int) : Option (Int × Int × Int × List Int × Int × Int × Int × Int) := (spec_l20Open.f l0).bind fun bt486 => ((spec_l20Plan.f k bt486.1 bt486.2 12).bind fun bt489 => ((spec_l20Rd_pick.f k bt486.1 bt489.2.2.2.2.2 (wrap64 ((bt489.2.2.2.1.length : Int) + 2))).bind fun bt498 => ((spec_l20Rd_pick.f k bt486.1 bt498.2 2).bind fun bt500 => (if bt500.1 = 0 then ((spec_l20Near.f k bt486.1 bt500.2 bt489.1 bt489.2.1 bt489.2.2.1 bt489.2.2.2.1 bt489.2.2.2.2.1 (wrap64 (bt498.1 - 1))).bind fun bt502 => (spec_DrawStaState.j0 k (wrap64 (bt498.1 - 1)) bt502.1 bt486.1 bt502.2 bt489.1 bt489.2.1 bt489.2.2.1 bt489.2.2.2.1 bt489.2.2.2.2.1)) else (spec_DrawStaState.j0 k (wrap64 (bt498.1 - 1)) (-1) bt486.1 bt500.2 bt489.1 bt489.2.1 bt489.2.2.1 bt489.2.2.2.1 bt489.2.2.2.2.1)))))
theorem spec_DrawStaState.mono_l : ∀ k, (∀ y0 y1 y2 y3 y4 y5 y6 y7 y8, LeO (spec_DrawStaState.j0 k y0 y1 y2 y3 y4 y5 y6 y7 y8) (spec_DrawStaState.j0 (k + 1) y0 y1 y2 y3 y4 y5 y6 y7 y8))
  | 0 => fun _ _ _ _ _ _ _ _ _ r h => by simp [spec_DrawStaState.j0] at h
  | k + 1 => by
    have ih0 := spec_DrawStaState.mono_l k
    · intro y0 y1 y2 y3 y4 y5 y6 y7 y8
      unfold spec_DrawStaState.j0
      repeat' first
      | (with_reducible exact ih0 _ _ _ _ _ _ _ _ _)
      | (with_reducible exact spec_l20Near.mono _ _ _ _ _ _ _ _ _)
      | (with_reducible exact spec_l20Plan.mono _ _ _ _)
      | (with_reducible exact spec_l20Rd_pick.mono _ _ _ _)
      | (with_reducible exact LeO.refl _)
      | (with_reducible exact LeO.none _)
      | (with_reducible refine LeO.ite ?_ ?_)
      | (with_reducible refine LeO.bind ?_ (fun _ => ?_))
      | exact ih0 _ _ _ _ _ _ _ _ _
      | exact spec_l20Near.mono _ _ _ _ _ _ _ _ _
      | exact spec_l20Plan.mono _ _ _ _
      | exact spec_l20Rd_pick.mono _ _ _ _
      | exact LeO.none _
      | refine LeO.ite ?_ ?_
      | refine LeO.bind ?_ (fun _ => ?_)
theorem spec_DrawStaState.mono : ∀ a0 k, LeO (spec_DrawStaState.f k a0) (spec_DrawStaState.f (k + 1) a0) := by
  intro a0 k
  have ih0 := spec_DrawStaState.mono_l k
  unfold spec_DrawStaState.f
  repeat' first
      | (with_reducible exact ih0 _ _ _ _ _ _ _ _ _)
      | (with_reducible exact spec_l20Near.mono _ _ _ _ _ _ _ _ _)
      | (with_reducible exact spec_l20Plan.mono _ _ _ _)
      | (with_reducible exact spec_l20Rd_pick.mono _ _ _ _)
      | (with_reducible exact LeO.refl _)
      | (with_reducible exact LeO.none _)
      | (with_reducible refine LeO.ite ?_ ?_)
      | (with_reducible refine LeO.bind ?_ (fun _ => ?_))
      | exact ih0 _ _ _ _ _ _ _ _ _
      | exact spec_l20Near.mono _ _ _ _ _ _ _ _ _
      | exact spec_l20Plan.mono _ _ _ _
      | exact spec_l20Rd_pick.mono _ _ _ _
      | exact LeO.none _
      | refine LeO.ite ?_ ?_
      | refine LeO.bind ?_ (fun _ => ?_)
def spec_DrawStaState.T7 : Bool × List (List Nat × List Nat) := (true, [([], []), ([], []), ([], []), ([], []), ([], []), ([2, 3, 4], [2, 3, 4]), ([], []), ([], []), ([], []), ([6, 7, 8, 5], [6, 7, 8]), ([5, 9], [5, 9]), ([], []), ([11, 9], [11]), ([10, 12], [10, 12]), ([13], [13]), ([], []), ([0, 12, 0], [0]), ([1, 16, 0, 1, 16], [1]), ([14, 17, 0, 1, 2, 3, 4, 5, 6, 7, 8, 9, 10, 11, 12, 13, 14, 16, 17], [14]), ([15, 18, 0, 1, 2, 3, 4, 5, 6, 7, 8, 9, 10, 11, 12, 13, 14, 15, 16, 17, 18], [15])])
def spec_DrawStaState.B7 : List Nat := [0, 0, 0, 0, 0, 28, 0, 0, 0, 508, 1020, 0, 3068, 8188, 16380, 0, 7165, 72703, 229375, 524287]
theorem spec_DrawStaState.tab7 : rtab .any (opsOf Try.f29 7) = spec_DrawStaState.T7 := by kernel_rfl
theorem spec_DrawStaState.bits7 : waitsOk spec_DrawStaState.T7.2 spec_DrawStaState.B7 = true := by kernel_rfl
set_option maxHeartbeats 8000000 in
set_option maxRecDepth 100000 in
theorem spec_DrawStaState.calls (k : Nat) (A0 : Option Addr) (c0 : Nat) (l0 : List Int) (r1 : Int) (r2 : Int) (r3 : Int) (r4 : List Int) (r5 : Int) (r6 : Int) (r7 : Int) (r8 : Int) (w : World) (hr0 : Kd.C (Kd.int .u8) w A0 l0.length l0) (hc0 : l0.length ≤ c0) (h : spec_DrawStaState.f k l0 = some (r1, r2, r3, r4, r5, r6, r7, r8)) :
    Calls Try.prog 29 #[.slice A0 l0.length c0] w fun e w' => ∃ v3_ : Value, e = .returned (.tuple #[.agg #[.int .i64 r1, .int .i64 r2, .int .i64 r3, v3_, .int .i64 r5], .int .i64 r6, .int .i64 r7, .int .i64 r8]) ∧ Kd.R (Kd.int .i64) 3 w' w.heap.size (fun _ => True) v3_ r4 ∧ Below w.heap.size w w' := by
  have hu31 := Try.underlying31
  have HR0 := Aside0.mk hr0
  have HC0 := Aside0.mk hc0
  clear hr0 hc0
  have HB := Aside0.mk (Below.refl w.heap.size w)
  have H : ((spec_l20Open.f l0).bind fun bt486 => ((spec_l20Plan.f k bt486.1 bt486.2 12).bind fun bt489 => ((spec_l20Rd_pick.f k bt486.1 bt489.2.2.2.2.2 (wrap64 ((bt489.2.2.2.1.length : Int) + 2))).bind fun bt498 => ((spec_l20Rd_pick.f k bt486.1 bt498.2 2).bind fun bt500 => (if bt500.1 = 0 then ((spec_l20Near.f k bt486.1 bt500.2 bt489.1 bt489.2.1 bt489.2.2.1 bt489.2.2.2.1 bt489.2.2.2.2.1 (wrap64 (bt498.1 - 1))).bind fun bt502 => (spec_DrawStaState.j0 k (wrap64 (bt498.1 - 1)) bt502.1 bt486.1 bt502.2 bt489.1 bt489.2.1 bt489.2.2.1 bt489.2.2.2.1 bt489.2.2.2.2.1)) else (spec_DrawStaState.j0 k (wrap64 (bt498.1 - 1)) (-1) bt486.1 bt500.2 bt489.1 bt489.2.1 bt489.2.2.1 bt489.2.2.2.1 bt489.2.2.2.2.1)))))) = some (r1, r2, r3, r4, r5, r6, r7, r8) := h
  clear h
  replace H := Option.bind_eq_some_iff.mp H
  obtain ⟨⟨t486, t487⟩, A20, H⟩ := H
  replace H : ((spec_l20Plan.f k t486 t487 12).bind fun bt489 => ((spec_l20Rd_pick.f k t486 bt489.2.2.2.2.2 (wrap64 ((bt489.2.2.2.1.length : Int) + 2))).bind fun bt498 => ((spec_l20Rd_pick.f k t486 bt498.2 2).bind fun bt500 => (if bt500.1 = 0 then ((spec_l20Near.f k t486 bt500.2 bt489.1 bt489.2.1 bt489.2.2.1 bt489.2.2.2.1 bt489.2.2.2.2.1 (wrap64 (bt498.1 - 1))).bind fun bt502 => (spec_DrawStaState.j0 k (wrap64 (bt498.1 - 1)) bt502.1 t486 bt502.2 bt489.1 bt489.2.1 bt489.2.2.1 bt489.2.2.2.1 bt489.2.2.2.2.1)) else (spec_DrawStaState.j0 k (wrap64 (bt498.1 - 1)) (-1) t486 bt500.2 bt489.1 bt489.2.1 bt489.2.2.1 bt489.2.2.2.1 bt489.2.2.2.2.1))))) = some (r1, r2, r3, r4, r5, r6, r7, r8) := H
  have A2 := Aside0.mk A20
  clear A20
  replace H := Option.bind_eq_some_iff.mp H
  obtain ⟨⟨t489, t490, t491, t492, t495, t496⟩, A30, H⟩ := H
  replace H : ((spec_l20Rd_pick.f k t486 t496 (wrap64 ((t492.length : Int) + 2))).bind fun bt498 => ((spec_l20Rd_pick.f k t486 bt498.2 2).bind fun bt500 => (if bt500.1 = 0 then ((spec_l20Near.f k t486 bt500.2 t489 t490 t491 t492 t495 (wrap64 (bt498.1 - 1))).bind fun bt502 => (spec_DrawStaState.j0 k (wrap64 (bt498.1 - 1)) bt502.1 t486 bt502.2 t489 t490 t491 t492 t495)) else (spec_DrawStaState.j0 k (wrap64 (bt498.1 - 1)) (-1) t486 bt500.2 t489 t490 t491 t492 t495)))) = some (r1, r2, r3, r4, r5, r6, r7, r8) := H
  have A3 := Aside0.mk A30
  clear A30
  replace H := Option.bind_eq_some_iff.mp H
  obtain ⟨⟨t498, t499⟩, A40, H⟩ := H
  replace H : ((spec_l20Rd_pick.f k t486 t499 2).bind fun bt500 => (if bt500.1 = 0 then ((spec_l20Near.f k t486 bt500.2 t489 t490 t491 t492 t495 (wrap64 (t498 - 1))).bind fun bt502 => (spec_DrawStaState.j0 k (wrap64 (t498 - 1)) bt502.1 t486 bt502.2 t489 t490 t491 t492 t495)) else (spec_DrawStaState.j0 k (wrap64 (t498 - 1)) (-1) t486 bt500.2 t489 t490 t491 t492 t495))) = some (r1, r2, r3, r4, r5, r6, r7, r8) := H
  have A4 := Aside0.mk A40
  clear A40
  replace H := Option.bind_eq_some_iff.mp H
  obtain ⟨⟨t500, t501⟩, A50, H⟩ := H
  replace H : (if t500 = 0 then ((spec_l20Near.f k t486 t501 t489 t490 t491 t492 t495 (wrap64 (t498 - 1))).bind fun bt502 => (spec_DrawStaState.j0 k (wrap64 (t498 - 1)) bt502.1 t486 bt502.2 t489 t490 t491 t492 t495)) else (spec_DrawStaState.j0 k (wrap64 (t498 - 1)) (-1) t486 t501 t489 t490 t491 t492 t495)) = some (r1, r2, r3, r4, r5, r6, r7, r8) := H
  have A5 := Aside0.mk A50
  clear A50
  have HC6 := Aside0.mk H
  clear H
  go_enter Try.func29, Try.ntmps29
  go_upto_if 23 with (first | ((with_reducible refine gate_dst (N := 2) rfl ?_); refine box_event ?hg (N := 2) ?hd (cs := #[.int .i64 0, .int .i64 0, .int .i64 0, .slice none 0 0, .int .i64 0]) (t := 31) ?hr ?_; (case hd => rfl); (case hg => rfl); (case hr => first | (go_simp; done) | (go_simp; rfl)); intro gb485 hg w7 hbox hb; have n0_ := Aside0.mk (below_step (by repeat (first | (with_reducible first | exact HB.out | apply below_alloc | apply pw_below_drewN | apply below_drew1) | exact HB.out)) hb); have n1_ := Aside0.mk (hbox); have n2_ := Aside0.mk ((by rw [hg]; exact (below_size (by repeat (first | (with_reducible first | exact HB.out | apply below_alloc | apply pw_below_drewN | apply below_drew1) | exact HB.out))) : w.heap.size ≤ gb485)); have n3_ := Aside0.mk ((by rw [hg]; exact (below_size (by repeat (first | (with_reducible first | exact HB.out | apply below_alloc | apply pw_below_drewN | apply below_drew1) | exact HB.out))) : w.heap.size ≤ gb485)); clear HB; have HB := n0_; have BK485 := n1_; have GW485 := n2_; have GE485 := n3_; clear n0_ n1_ n2_ n3_; clear hb hbox hg) | ((with_reducible refine gate_callee (f := 42) rfl ?_); refine goesL_ (some 11) rfl rfl Try.func42 (by kernel_rfl) rfl #[.slice A0 l0.length c0] rfl (by (try simp only [List.map_toArray, List.map_cons, List.map_nil]); first | done | rfl | (simp only [List.length_drop, List.length_take]; rfl)) ?_; (with_reducible refine (spec_l20Open.calls _ _ l0 t486 t487 w _ ?side1 ?side2 ?side3 A2.out).mono ?_); (case side1 => repeat (first | (with_reducible first | exact HB.out | apply below_alloc | apply pw_below_drewN | apply below_drew1 | refine below_set ?_ GE485.out) | exact HB.out)); (case side2 => exact HR0.out); (case side3 => exact HC0.out); rintro e w8 ⟨g488, rfl, hi, hb, hb2⟩; refine ⟨_, rfl, ?_⟩; have n0_ := Aside0.mk (blk_below (g := gb485) (o := .cells #[.int .i64 0, .int .i64 0, .int .i64 0, .slice none 0 0, .int .i64 0] 31 (0, 0)) (by (with_reducible repeat (first | refine blk_drewN ?_ _ | refine blk_drew ?_ | refine blk_alloc ?_ _)); exact BK485.out) hb2); have n1_ := Aside0.mk (hb); have n2_ := Aside0.mk (hi); have n3_ := Aside0.mk (IsS69.ne_blk hi (blk_below (g := gb485) (o := .cells #[.int .i64 0, .int .i64 0, .int .i64 0, .slice none 0 0, .int .i64 0] 31 (0, 0)) (by (with_reducible repeat (first | refine blk_drewN ?_ _ | refine blk_drew ?_ | refine blk_alloc ?_ _)); exact BK485.out) hb2) (by decide)); have n4_ := Aside0.mk (Ne.symm (IsS69.ne_blk hi (blk_below (g := gb485) (o := .cells #[.int .i64 0, .int .i64 0, .int .i64 0, .slice none 0 0, .int .i64 0] 31 (0, 0)) (by (with_reducible repeat (first | refine blk_drewN ?_ _ | refine blk_drew ?_ | refine blk_alloc ?_ _)); exact BK485.out) hb2) (by decide))); clear BK485; clear HB; have BK485 := n0_; have HB := n1_; have HI488 := n2_; have NB488_485 := n3_; have NB485_488 := n4_; clear n0_ n1_ n2_ n3_ n4_; (try clear hb); (try clear hb2); (try clear hk); (try clear hi)) | ((with_reducible refine gate_callee (f := 41) rfl ?_); refine goesL_ (some 13) rfl rfl Try.func41 (by kernel_rfl) rfl #[.pointer (some ⟨g488, 0, none⟩), .int .i64 12] rfl (by (try simp only [List.map_toArray, List.map_cons, List.map_nil]); first | done | rfl | (simp only [List.length_drop, List.length_take]; rfl)) ?_; (with_reducible refine (spec_l20Plan.calls k g488 t486 t487 12 t489 t490 t491 t492 t495 t496 w _ ?side1 ?side2 A3.out).mono ?_); (case side1 => repeat (first | (with_reducible first | exact HI488.out | apply IsS69.alloc | apply IsS69.drewN | apply IsS69.drew | apply IsS69.set_1 | refine IsS69.far ?_ NB488_485.out _) | exact HI488.out)); (case side2 => repeat (first | (with_reducible first | exact HB.out | apply below_alloc | apply pw_below_drewN | apply below_drew1 | refine below_set ?_ (IsS69.ge HI488.out) | refine below_set ?_ GE485.out) | exact HB.out)); rintro e w9 ⟨v493, rfl, ho0, hi, hb, hk⟩; refine ⟨_, rfl, ?_⟩; have n0_ := Aside0.mk (KeepBut.blk hk (g' := gb485) (o := .cells #[.int .i64 0, .int .i64 0, .int .i64 0, .slice none 0 0, .int .i64 0] 31 (0, 0)) (by (with_reducible repeat (first | refine blk_drewN ?_ _ | refine blk_drew ?_ | refine blk_alloc ?_ _)); exact BK485.out) NB485_488.out (by simp)); have n1_ := Aside0.mk (Kd.R_lower ho0 (below_size (by repeat (first | (with_reducible first | exact HB.out | apply below_alloc | apply pw_below_drewN | apply below_drew1 | refine below_set ?_ (IsS69.ge HI488.out) | refine below_set ?_ GE485.out) | exact HB.out)))); have n2_ := Aside0.mk (hb); have n3_ := Aside0.mk (hi); clear BK485; clear HB; clear HI488; have BK485 := n0_; have HO494 := n1_; have HB := n2_; have HI488 := n3_; clear n0_ n1_ n2_ n3_; (try clear hb); (try clear hb2); (try clear hk); (try clear hi); (try clear ho0)) | ((with_reducible refine gate_dst (N := 7) rfl ?_); refine box_event ?hg (N := 7) ?hd (cs := #[.int .i64 0, .int .i64 0, .int .i64 0, .slice none 0 0, .int .i64 0]) (t := 31) ?hr ?_; (case hd => rfl); (case hg => rfl); (case hr => first | (go_simp; done) | (go_simp; rfl)); intro gb497 hg w10 hbox hb; have n0_ := Aside0.mk (Kd.R_below (by (with_reducible repeat (first | apply Kd.R_alloc | apply Kd.R_drewN | apply Kd.R_drew)); exact HO494.out) hb); have n1_ := Aside0.mk (blk_below (g := gb485) (o := .cells #[.int .i64 0, .int .i64 0, .int .i64 0, .slice none 0 0, .int .i64 0] 31 (0, 0)) (by (with_reducible repeat (first | refine blk_drewN ?_ _ | refine blk_drew ?_ | refine blk_alloc ?_ _)); exact BK485.out) hb); have n2_ := Aside0.mk (IsS69.below (by repeat (first | (with_reducible first | exact HI488.out | apply IsS69.alloc | apply IsS69.drewN | apply IsS69.drew | apply IsS69.set_1 | refine IsS69.far ?_ NB488_485.out _) | exact HI488.out)) hb); have n3_ := Aside0.mk (below_step (by repeat (first | (with_reducible first | exact HB.out | apply below_alloc | apply pw_below_drewN | apply below_drew1 | refine below_set ?_ (IsS69.ge HI488.out) | refine below_set ?_ GE485.out) | exact HB.out)) hb); have n4_ := Aside0.mk (hbox); have n5_ := Aside0.mk ((by rw [hg]; exact (below_size (by repeat (first | (with_reducible first | exact HB.out | apply below_alloc | apply pw_below_drewN | apply below_drew1 | refine below_set ?_ (IsS69.ge HI488.out) | refine below_set ?_ GE485.out) | exact HB.out))) : w.heap.size ≤ gb497)); have n6_ := Aside0.mk ((by rw [hg]; exact (below_size (by repeat (first | (with_reducible first | exact HB.out | apply below_alloc | apply pw_below_drewN | apply below_drew1 | refine below_set ?_ (IsS69.ge HI488.out) | refine below_set ?_ GE485.out) | exact HB.out))) : w.heap.size ≤ gb497)); have n7_ := Aside0.mk ((by rw [hg]; exact Nat.ne_of_lt (blk_lt (g := gb485) (o := .cells #[.int .i64 0, .int .i64 0, .int .i64 0, .slice none 0 0, .int .i64 0] 31 (0, 0)) (by (with_reducible repeat (first | refine blk_drewN ?_ _ | refine blk_drew ?_ | refine blk_alloc ?_ _)); exact BK485.out)) : gb485 ≠ gb497)); have n8_ := Aside0.mk ((by rw [hg]; exact Nat.ne_of_gt (blk_lt (g := gb485) (o := .cells #[.int .i64 0, .int .i64 0, .int .i64 0, .slice none 0 0, .int .i64 0] 31 (0, 0)) (by (with_reducible repeat (first | refine blk_drewN ?_ _ | refine blk_drew ?_ | refine blk_alloc ?_ _)); exact BK485.out)) : gb497 ≠ gb485)); have n9_ := Aside0.mk ((by rw [hg]; exact Nat.ne_of_lt (IsS69.lt (show IsS69 w _ g488 t486 t496 from by repeat (first | (with_reducible first | exact HI488.out | apply IsS69.alloc | apply IsS69.drewN | apply IsS69.drew | apply IsS69.set_1 | refine IsS69.far ?_ NB488_485.out _) | exact HI488.out))) : g488 ≠ gb497)); have n10_ := Aside0.mk ((by rw [hg]; exact Nat.ne_of_gt (IsS69.lt (show IsS69 w _ g488 t486 t496 from by repeat (first | (with_reducible first | exact HI488.out | apply IsS69.alloc | apply IsS69.drewN | apply IsS69.drew | apply IsS69.set_1 | refine IsS69.far ?_ NB488_485.out _) | exact HI488.out))) : gb497 ≠ g488)); clear HO494; clear BK485; clear HI488; clear HB; have HO494 := n0_; have BK485 := n1_; have HI488 := n2_; have HB := n3_; have BK497 := n4_; have GW497 := n5_; have GE497 := n6_; have NB485_497 := n7_; have NB497_485 := n8_; have NB488_497 := n9_; have NB497_488 := n10_; clear n0_ n1_ n2_ n3_ n4_ n5_ n6_ n7_ n8_ n9_ n10_; clear hb hbox hg; have hnb11 := NB497_485.out; have hnc11 := NB485_497.out; have hnb12 := NB497_488.out; have hnc12 := NB488_497.out; have hcz13_0 : w10.cell? ⟨gb497, 0, none⟩ = some (.int .i64 0) := (blk_cell BK497.out 0).trans rfl; have hcz13_1 : w10.cell? ⟨gb497, 1, none⟩ = some (.int .i64 0) := (blk_cell BK497.out 1).trans rfl; have hcz13_2 : w10.cell? ⟨gb497, 2, none⟩ = some (.int .i64 0) := (blk_cell BK497.out 2).trans rfl; have hcz13_3 : w10.cell? ⟨gb497, 3, none⟩ = some (.slice none 0 0) := (blk_cell BK497.out 3).trans rfl; have hcz13_4 : w10.cell? ⟨gb497, 4, none⟩ = some (.int .i64 0) := (blk_cell BK497.out 4).trans rfl; have hfz13_0 := blk_frozen BK497.out 0; have hfz13_1 := blk_frozen BK497.out 1; have hfz13_2 := blk_frozen BK497.out 2; have hfz13_3 := blk_frozen BK497.out 3; have hfz13_4 := blk_frozen BK497.out 4; obtain ⟨Ao14, co14, eo14⟩ := Kd.R_slice HO494.out; subst eo14) | ((with_reducible refine gate_callee (f := 48) rfl ?_); refine goesL_ (some 19) rfl rfl Try.func48 (by kernel_rfl) rfl #[.pointer (some ⟨g488, 0, none⟩), .int .i64 (wrap64 ((t492.length : Int) + 2))] rfl (by (try simp only [List.map_toArray, List.map_cons, List.map_nil]); first | done | rfl | (simp only [List.length_drop, List.length_take]; rfl)) ?_; (with_reducible refine (spec_l20Rd_pick.calls k g488 t486 t496 (wrap64 ((t492.length : Int) + 2)) t498 t499 w _ ?side1 ?side2 A4.out).mono ?_); (case side1 => repeat (first | (with_reducible first | exact HI488.out | apply IsS69.alloc | apply IsS69.drewN | apply IsS69.drew | apply IsS69.set_1 | refine IsS69.far ?_ NB488_485.out _ | refine IsS69.far ?_ NB488_497.out _) | exact HI488.out)); (case side2 => repeat (first | (with_reducible first | exact HB.out | apply below_alloc | apply pw_below_drewN | apply below_drew1 | refine below_set ?_ (IsS69.ge HI488.out) | refine below_set ?_ GE485.out | refine below_set ?_ GE497.out) | exact HB.out)); rintro e w15 ⟨rfl, hi, hb, hk⟩; refine ⟨_, rfl, ?_⟩; have n0_ := Aside0.mk (KeepBut.blk hk (g' := gb485) (o := .cells #[.int .i64 0, .int .i64 0, .int .i64 0, .slice none 0 0, .int .i64 0] 31 (0, 0)) (by (with_reducible repeat (first | refine blk_drewN ?_ _ | refine blk_drew ?_ | refine blk_alloc ?_ _)); refine blk_far ?_ NB485_497.out _; (with_reducible repeat (first | refine blk_drewN ?_ _ | refine blk_drew ?_ | refine blk_alloc ?_ _)); refine blk_far ?_ NB485_497.out _; (with_reducible repeat (first | refine blk_drewN ?_ _ | refine blk_drew ?_ | refine blk_alloc ?_ _)); refine blk_far ?_ NB485_497.out _; (with_reducible repeat (first | refine blk_drewN ?_ _ | refine blk_drew ?_ | refine blk_alloc ?_ _)); refine blk_far ?_ NB485_497.out _; (with_reducible repeat (first | refine blk_drewN ?_ _ | refine blk_drew ?_ | refine blk_alloc ?_ _)); refine blk_far ?_ NB485_497.out _; (with_reducible repeat (first | refine blk_drewN ?_ _ | refine blk_drew ?_ | refine blk_alloc ?_ _)); exact BK485.out) NB485_488.out (by simp)); have n1_ := Aside0.mk (Kd.R_mono (Kd.R_keep (IsS69.apart (show IsS69 w _ g488 t486 t496 from by repeat (first | (with_reducible first | exact HI488.out | apply IsS69.alloc | apply IsS69.drewN | apply IsS69.drew | apply IsS69.set_1 | refine IsS69.far ?_ NB488_485.out _ | refine IsS69.far ?_ NB488_497.out _) | exact HI488.out)) (by (with_reducible repeat (first | apply Kd.R_alloc | apply Kd.R_drewN | apply Kd.R_drew)); exact (Kd.R_mono (Kd.R_far (p := ⟨gb497, 4, none⟩) (Kd.R_far (p := ⟨gb497, 3, none⟩) (Kd.R_far (p := ⟨gb497, 2, none⟩) (Kd.R_far (p := ⟨gb497, 1, none⟩) (Kd.R_far (p := ⟨gb497, 0, none⟩) (Kd.R_types HO494.out BK497.out (by decide)) (fun _ hk => by first | exact hk.2 | trivial | exact hk.1) (.int .i64 t489)) (fun _ hk => by first | exact hk.2 | trivial | exact hk.1) (.int .i64 t490)) (fun _ hk => by first | exact hk.2 | trivial | exact hk.1) (.int .i64 t491)) (fun _ hk => by first | exact hk.2 | trivial | exact hk.1) (.slice Ao14 t492.length co14)) (fun _ hk => by first | exact hk.2 | trivial | exact hk.1) (.int .i64 t495)) (fun _ h_ => h_.1))) (by decide)) hk (fun _ h => h.2)) (fun _ h => h.1)); have n2_ := Aside0.mk (KeepBut.blk hk (g' := gb497) (o := .cells #[.int .i64 t489, .int .i64 t490, .int .i64 t491, .slice Ao14 t492.length co14, .int .i64 t495] 31 (0, 0)) (by (with_reducible repeat (first | refine blk_drewN ?_ _ | refine blk_drew ?_ | refine blk_alloc ?_ _)); refine blk_put (cs := #[.int .i64 t489, .int .i64 t490, .int .i64 t491, .slice Ao14 t492.length co14, .int .i64 0]) ?_ 4 _ rfl; (with_reducible repeat (first | refine blk_drewN ?_ _ | refine blk_drew ?_ | refine blk_alloc ?_ _)); refine blk_put (cs := #[.int .i64 t489, .int .i64 t490, .int .i64 t491, .slice none 0 0, .int .i64 0]) ?_ 3 _ rfl; (with_reducible repeat (first | refine blk_drewN ?_ _ | refine blk_drew ?_ | refine blk_alloc ?_ _)); refine blk_put (cs := #[.int .i64 t489, .int .i64 t490, .int .i64 0, .slice none 0 0, .int .i64 0]) ?_ 2 _ rfl; (with_reducible repeat (first | refine blk_drewN ?_ _ | refine blk_drew ?_ | refine blk_alloc ?_ _)); refine blk_put (cs := #[.int .i64 t489, .int .i64 0, .int .i64 0, .slice none 0 0, .int .i64 0]) ?_ 1 _ rfl; (with_reducible repeat (first | refine blk_drewN ?_ _ | refine blk_drew ?_ | refine blk_alloc ?_ _)); refine blk_put (cs := #[.int .i64 0, .int .i64 0, .int .i64 0, .slice none 0 0, .int .i64 0]) ?_ 0 _ rfl; (with_reducible repeat (first | refine blk_drewN ?_ _ | refine blk_drew ?_ | refine blk_alloc ?_ _)); exact BK497.out) NB497_488.out (by simp)); have n3_ := Aside0.mk (hb); have n4_ := Aside0.mk (hi); clear BK485; clear HO494; clear BK497; clear HB; clear HI488; have BK485 := n0_; have HO494 := n1_; have BK497 := n2_; have HB := n3_; have HI488 := n4_; clear n0_ n1_ n2_ n3_ n4_; (try clear hb); (try clear hb2); (try clear hk); (try clear hi)) | ((with_reducible refine gate_callee (f := 48) rfl ?_); refine goesL_ (some 22) rfl rfl Try.func48 (by kernel_rfl) rfl #[.pointer (some ⟨g488, 0, none⟩), .int .i64 2] rfl (by (try simp only [List.map_toArray, List.map_cons, List.map_nil]); first | done | rfl | (simp only [List.length_drop, List.length_take]; rfl)) ?_; (with_reducible refine (spec_l20Rd_pick.calls k g488 t486 t499 2 t500 t501 w _ ?side1 ?side2 A5.out).mono ?_); (case side1 => repeat (first | (with_reducible first | exact HI488.out | apply IsS69.alloc | apply IsS69.drewN | apply IsS69.drew | apply IsS69.set_1 | refine IsS69.far ?_ NB488_485.out _ | refine IsS69.far ?_ NB488_497.out _) | exact HI488.out)); (case side2 => repeat (first | (with_reducible first | exact HB.out | apply below_alloc | apply pw_below_drewN | apply below_drew1 | refine below_set ?_ (IsS69.ge HI488.out) | refine below_set ?_ GE485.out | refine below_set ?_ GE497.out) | exact HB.out)); rintro e w16 ⟨rfl, hi, hb, hk⟩; refine ⟨_, rfl, ?_⟩; have n0_ := Aside0.mk (KeepBut.blk hk (g' := gb485) (o := .cells #[.int .i64 0, .int .i64 0, .int .i64 0, .slice none 0 0, .int .i64 0] 31 (0, 0)) (by (with_reducible repeat (first | refine blk_drewN ?_ _ | refine blk_drew ?_ | refine blk_alloc ?_ _)); exact BK485.out) NB485_488.out (by simp)); have n1_ := Aside0.mk (Kd.R_mono (Kd.R_keep (IsS69.apart (show IsS69 w _ g488 t486 t499 from by repeat (first | (with_reducible first | exact HI488.out | apply IsS69.alloc | apply IsS69.drewN | apply IsS69.drew | apply IsS69.set_1 | refine IsS69.far ?_ NB488_485.out _ | refine IsS69.far ?_ NB488_497.out _) | exact HI488.out)) (by (with_reducible repeat (first | apply Kd.R_alloc | apply Kd.R_drewN | apply Kd.R_drew)); exact HO494.out) (by decide)) hk (fun _ h => h.2)) (fun _ h => h.1)); have n2_ := Aside0.mk (KeepBut.blk hk (g' := gb497) (o := .cells #[.int .i64 t489, .int .i64 t490, .int .i64 t491, .slice Ao14 t492.length co14, .int .i64 t495] 31 (0, 0)) (by (with_reducible repeat (first | refine blk_drewN ?_ _ | refine blk_drew ?_ | refine blk_alloc ?_ _)); exact BK497.out) NB497_488.out (by simp)); have n3_ := Aside0.mk (hb); have n4_ := Aside0.mk (hi); clear BK485; clear HO494; clear BK497; clear HB; clear HI488; have BK485 := n0_; have HO494 := n1_; have BK497 := n2_; have HB := n3_; have HI488 := n4_; clear n0_ n1_ n2_ n3_ n4_; (try clear hb); (try clear hb2); (try clear hk); (try clear hi)))
  (try simp only [Act.put, List.setIfInBounds_toArray, List.set_cons_zero, List.set_cons_succ])
  go_cut [9] (fun v9 wc => ∃ (kq : Nat) (x9_5 : Int) (x489001_5 : Int), v9 = .int .i64 x9_5 ∧ Aside0 (spec_DrawStaState.j0 kq (wrap64 (t498 - 1)) x9_5 t486 x489001_5 t489 t490 t491 t492 t495 = some (r1, r2, r3, r4, r5, r6, r7, r8)) ∧ Aside0 (kq ≤ k) ∧ Aside0 (Kd.R (Kd.int .i64) 3 wc w.heap.size (fun _ => True) (.slice Ao14 t492.length co14) t492) ∧ Aside0 (wc.heap[gb485]? = some (.cells #[.int .i64 0, .int .i64 0, .int .i64 0, (.slice none 0 0), .int .i64 0] 31 (0, 0))) ∧ Aside0 (wc.heap[gb497]? = some (.cells #[.int .i64 t489, .int .i64 t490, .int .i64 t491, (.slice Ao14 t492.length co14), .int .i64 t495] 31 (0, 0))) ∧ Aside0 (IsS69 w wc g488 t486 x489001_5) ∧ Aside0 (Below w.heap.size w wc))
  case first =>
    have H := HC6.out
    clear HC6
    by_cases c17 : t500 = 0
    · rw [if_pos c17] at H
      have c17b0 : (t500 == 0) = true := beq_iff_eq.mpr c17
      have c17b1 : (t500 != 0) = false := bne_eq_false_iff_eq.mpr c17
      clear c17
      (first | rw [c17b0] | (simp only [i64_w, i32_w]; rw [c17b0]) | skip)
      replace H := Option.bind_eq_some_iff.mp H
      obtain ⟨⟨t502, t503⟩, A180, H⟩ := H
      replace H : (spec_DrawStaState.j0 k (wrap64 (t498 - 1)) t502 t486 t503 t489 t490 t491 t492 t495) = some (r1, r2, r3, r4, r5, r6, r7, r8) := H
      have A18 := Aside0.mk A180
      clear A180
      have H' := Aside0.mk H
      clear H
      have hnb19 := NB497_485.out
      have hnc19 := NB485_497.out
      have hnb20 := NB497_488.out
      have hnc20 := NB488_497.out
      have hcz21_0 : w16.cell? ⟨gb497, 0, none⟩ = some (.int .i64 t489) := (blk_cell BK497.out 0).trans rfl
      have hcz21_1 : w16.cell? ⟨gb497, 1, none⟩ = some (.int .i64 t490) := (blk_cell BK497.out 1).trans rfl
      have hcz21_2 : w16.cell? ⟨gb497, 2, none⟩ = some (.int .i64 t491) := (blk_cell BK497.out 2).trans rfl
      have hcz21_3 : w16.cell? ⟨gb497, 3, none⟩ = some (.slice Ao14 t492.length co14) := (blk_cell BK497.out 3).trans rfl
      have hcz21_4 : w16.cell? ⟨gb497, 4, none⟩ = some (.int .i64 t495) := (blk_cell BK497.out 4).trans rfl
      have hfz21_0 := blk_frozen BK497.out 0
      have hfz21_1 := blk_frozen BK497.out 1
      have hfz21_2 := blk_frozen BK497.out 2
      have hfz21_3 := blk_frozen BK497.out 3
      have hfz21_4 := blk_frozen BK497.out 4
      go_wp2_with (first | ((with_reducible refine gate_callee (f := 49) rfl ?_); refine goesL_ (some 27) rfl rfl Try.func49 (by kernel_rfl) rfl #[.pointer (some ⟨g488, 0, none⟩), .agg #[.int .i64 t489, .int .i64 t490, .int .i64 t491, .slice Ao14 t492.length co14, .int .i64 t495], .int .i64 (wrap64 (t498 - 1))] rfl (by (try simp only [List.map_toArray, List.map_cons, List.map_nil]); first | done | rfl | (simp only [List.length_drop, List.length_take]; rfl)) ?_; (with_reducible refine (spec_l20Near.calls k g488 t486 t501 t489 t490 t491 _ _ t492 t495 (wrap64 (t498 - 1)) t502 t503 w _ ?side1 ?side2 ?side3 ?side4 ?side5 A18.out).mono ?_); (case side1 => repeat (first | (with_reducible first | exact HI488.out | apply IsS69.alloc | apply IsS69.drewN | apply IsS69.drew | apply IsS69.set_1 | refine IsS69.far ?_ NB488_485.out _ | refine IsS69.far ?_ NB488_497.out _) | exact HI488.out)); (case side2 => repeat (first | (with_reducible first | exact HB.out | apply below_alloc | apply pw_below_drewN | apply below_drew1 | refine below_set ?_ (IsS69.ge HI488.out) | refine below_set ?_ GE485.out | refine below_set ?_ GE497.out) | exact HB.out)); (case side3 => repeat (first | exact (Kd.R_reads' HO494.out).2.2 | (with_reducible refine Kd.C_alloc ?_ _) | (with_reducible refine Kd.C_drewN ?_ _) | (with_reducible refine Kd.C_drew ?_))); (case side4 => exact (Kd.R_reads' HO494.out).2.1); (case side5 => exact far_slice (IsS69.own_ne HI488.out HO494.out (by decide))); rintro e w22 ⟨rfl, hi, hb, hk⟩; refine ⟨_, rfl, ?_⟩; have n0_ := Aside0.mk (KeepBut.blk hk (g' := gb485) (o := .cells #[.int .i64 0, .int .i64 0, .int .i64 0, .slice none 0 0, .int .i64 0] 31 (0, 0)) (by (with_reducible repeat (first | refine blk_drewN ?_ _ | refine blk_drew ?_ | refine blk_alloc ?_ _)); exact BK485.out) NB485_488.out (by simp)); have n1_ := Aside0.mk (Kd.R_mono (Kd.R_keep (IsS69.apart (show IsS69 w _ g488 t486 t501 from by repeat (first | (with_reducible first | exact HI488.out | apply IsS69.alloc | apply IsS69.drewN | apply IsS69.drew | apply IsS69.set_1 | refine IsS69.far ?_ NB488_485.out _ | refine IsS69.far ?_ NB488_497.out _) | exact HI488.out)) (by (with_reducible repeat (first | apply Kd.R_alloc | apply Kd.R_drewN | apply Kd.R_drew)); exact HO494.out) (by decide)) hk (fun _ h => h.2)) (fun _ h => h.1)); have n2_ := Aside0.mk (KeepBut.blk hk (g' := gb497) (o := .cells #[.int .i64 t489, .int .i64 t490, .int .i64 t491, .slice Ao14 t492.length co14, .int .i64 t495] 31 (0, 0)) (by (with_reducible repeat (first | refine blk_drewN ?_ _ | refine blk_drew ?_ | refine blk_alloc ?_ _)); exact BK497.out) NB497_488.out (by simp)); have n3_ := Aside0.mk (hb); have n4_ := Aside0.mk (hi); clear BK485; clear HO494; clear BK497; clear HB; clear HI488; have BK485 := n0_; have HO494 := n1_; have BK497 := n2_; have HB := n3_; have HI488 := n4_; clear n0_ n1_ n2_ n3_ n4_; (try clear hb); (try clear hb2); (try clear hk); (try clear hi)))
      go_meet
      case rel => exact ⟨_, (t502), (t503), (by first | rfl | (simp; done) | (simp [*]; done)), H', ⟨by first | omega | exact Nat.le_refl _⟩, ⟨by (with_reducible repeat (first | apply Kd.R_alloc | apply Kd.R_drewN | apply Kd.R_drew)); exact HO494.out⟩, ⟨by (with_reducible repeat (first | refine blk_drewN ?_ _ | refine blk_drew ?_ | refine blk_alloc ?_ _)); exact BK485.out⟩, ⟨by (with_reducible repeat (first | refine blk_drewN ?_ _ | refine blk_drew ?_ | refine blk_alloc ?_ _)); exact BK497.out⟩, ⟨by repeat (first | (with_reducible first | exact HI488.out | apply IsS69.alloc | apply IsS69.drewN | apply IsS69.drew | apply IsS69.set_1 | refine IsS69.far ?_ NB488_485.out _ | refine IsS69.far ?_ NB488_497.out _) | exact HI488.out)⟩, ⟨by repeat (first | (with_reducible first | exact HB.out | apply below_alloc | apply pw_below_drewN | apply below_drew1 | refine below_set ?_ (IsS69.ge HI488.out) | refine below_set ?_ GE485.out | refine below_set ?_ GE497.out) | exact HB.out)⟩⟩
    · rw [if_neg c17] at H
      have c17b0 : (t500 == 0) = false := beq_eq_false_iff_ne.mpr c17
      have c17b1 : (t500 != 0) = true := bne_iff_ne.mpr c17
      (first | rw [c17b0] | (simp only [i64_w, i32_w]; rw [c17b0]) | skip)
      have H' := Aside0.mk H
      clear H
      go_wp2
      go_meet
      case rel => exact ⟨_, ((-1)), (t501), (by first | rfl | (simp; done) | (simp [*]; done)), H', ⟨by first | omega | exact Nat.le_refl _⟩, ⟨by (with_reducible repeat (first | apply Kd.R_alloc | apply Kd.R_drewN | apply Kd.R_drew)); exact HO494.out⟩, ⟨by (with_reducible repeat (first | refine blk_drewN ?_ _ | refine blk_drew ?_ | refine blk_alloc ?_ _)); exact BK485.out⟩, ⟨by (with_reducible repeat (first | refine blk_drewN ?_ _ | refine blk_drew ?_ | refine blk_alloc ?_ _)); exact BK497.out⟩, ⟨by repeat (first | (with_reducible first | exact HI488.out | apply IsS69.alloc | apply IsS69.drewN | apply IsS69.drew | apply IsS69.set_1 | refine IsS69.far ?_ NB488_485.out _ | refine IsS69.far ?_ NB488_497.out _) | exact HI488.out)⟩, ⟨by repeat (first | (with_reducible first | exact HB.out | apply below_alloc | apply pw_below_drewN | apply below_drew1 | refine below_set ?_ (IsS69.ge HI488.out) | refine below_set ?_ GE485.out | refine below_set ?_ GE497.out) | exact HB.out)⟩⟩
  case rest =>
    clear HC6
    try clear c1
    try clear c2
    try clear p2
    try clear c4
    try clear p6
    try clear c11
    try clear c12
    try clear c17
    try clear c17b0
    try clear c17b1
    try clear c19
    try clear c20
    try clear hcz13_0
    try clear hcz13_1
    try clear hcz13_2
    try clear hcz13_3
    try clear hcz13_4
    try clear hcz21_0
    try clear hcz21_1
    try clear hcz21_2
    try clear hcz21_3
    try clear hcz21_4
    try clear hfz13_0
    try clear hfz13_1
    try clear hfz13_2
    try clear hfz13_3
    try clear hfz13_4
    try clear hfz21_0
    try clear hfz21_1
    try clear hfz21_2
    try clear hfz21_3
    try clear hfz21_4
    obtain ⟨kq, x9_5, x489001_5, rfl, HA, HJ5, HO_498003, BK485, BK497, HI488, HB⟩ := hcut
    cases kq with
    | zero => exact absurd HA.out (by simp [spec_DrawStaState.j0])
    | succ kj5 =>
      have H := HA.out
      clear HA
      simp only [spec_DrawStaState.j0] at H
      replace H := Option.bind_eq_some_iff.mp H
      obtain ⟨⟨t504, t505⟩, A230, H⟩ := H
      replace H : ((spec_l20Near.f kj5 t486 t505 t489 t490 t491 t492 t495 (wrap64 (t498 - 1))).bind fun bt506 => ((some (([t504, bt506.1, (-1), 109573] : List Int) : List Int)).bind fun y508 => ((spec_l20Rd_pick.f kj5 t486 bt506.2 4).bind fun bt511 => (if 0 ≤ bt511.1 then (if bt511.1 < (y508.length : Int) then (some (t489, t490, t491, t492, t495, (wrap64 (t498 - 1)), rd y508 bt511.1, x9_5)) else (none)) else (none))))) = some (r1, r2, r3, r4, r5, r6, r7, r8) := H
      have A23 := Aside0.mk A230
      clear A230
      replace H := Option.bind_eq_some_iff.mp H
      obtain ⟨⟨t506, t507⟩, A240, H⟩ := H
      replace H : ((some (([t504, t506, (-1), 109573] : List Int) : List Int)).bind fun y508 => ((spec_l20Rd_pick.f kj5 t486 t507 4).bind fun bt511 => (if 0 ≤ bt511.1 then (if bt511.1 < (y508.length : Int) then (some (t489, t490, t491, t492, t495, (wrap64 (t498 - 1)), rd y508 bt511.1, x9_5)) else (none)) else (none)))) = some (r1, r2, r3, r4, r5, r6, r7, r8) := H
      have A24 := Aside0.mk A240
      clear A240
      obtain ⟨y508, hy508⟩ : ∃ y_ : List Int, y_ = (([t504, t506, (-1), 109573] : List Int)) := ⟨_, rfl⟩
      replace H : ((spec_l20Rd_pick.f kj5 t486 t507 4).bind fun bt511 => (if 0 ≤ bt511.1 then (if bt511.1 < (y508.length : Int) then (some (t489, t490, t491, t492, t495, (wrap64 (t498 - 1)), rd y508 bt511.1, x9_5)) else (none)) else (none))) = some (r1, r2, r3, r4, r5, r6, r7, r8) := by first | (rw [hy508]; with_reducible exact H) | (have H2_ := (Option.bind_some _ _).symm.trans H; rw [hy508]; with_reducible exact H2_) | (have H2_ := (Option.bind_some _ _).symm.trans H; with_reducible exact H2_) | with_reducible exact H | (rw [hy508]; exact H) | exact H
      have Ny508 := Aside0.mk hy508
      clear hy508
      replace H := Option.bind_eq_some_iff.mp H
      obtain ⟨⟨t511, t512⟩, A250, H⟩ := H
      replace H : (if 0 ≤ t511 then (if t511 < (y508.length : Int) then (some (t489, t490, t491, t492, t495, (wrap64 (t498 - 1)), rd y508 t511, x9_5)) else (none)) else (none)) = some (r1, r2, r3, r4, r5, r6, r7, r8) := H
      have A25 := Aside0.mk A250
      clear A250
      by_cases c26 : 0 ≤ t511
      · rw [if_pos c26] at H
        have c26b0 : decide (0 ≤ t511) = true := decide_eq_true c26
        clear c26
        by_cases c27 : t511 < (y508.length : Int)
        · rw [if_pos c27] at H
          have c27b0 : decide (t511 < (y508.length : Int)) = true := decide_eq_true c27
          clear c27
          simp only [Option.some.injEq, Prod.mk.injEq] at H
          obtain ⟨rfl, rfl, rfl, rfl, rfl, rfl, rfl, rfl⟩ := H
          try go_wp2
          have pi513 : (0 ≤ (t511 : Int)) = True := eq_true (of_decide_eq_true (by first | (with_reducible assumption) | assumption))
          have qi513 : (t511 < (y508.length : Int)) = True := eq_true (of_decide_eq_true (by first | (with_reducible assumption) | assumption))
          have n0_ := Aside0.mk (Kd.R_drew HO_498003.out)
          have n1_ := Aside0.mk (blk_drew BK485.out)
          have n2_ := Aside0.mk (blk_drew BK497.out)
          have n3_ := Aside0.mk (IsS69.drew HI488.out)
          have n4_ := Aside0.mk (below_drew1 HB.out)
          clear HO_498003
          clear BK485
          clear BK497
          clear HI488
          clear HB
          have HO_498003 := n0_
          have BK485 := n1_
          have BK497 := n2_
          have HI488 := n3_
          have HB := n4_
          clear n0_ n1_ n2_ n3_ n4_
          refine start_ (n := 20) (S := fun w' => True) (ds := []) #[false, false, false, false, false, false, false, false, false, false, false, false, false, false, false, false, false, false, false, false] (by kernel_rfl) rfl rfl trivial (fun hHeld => ?_); refine with_tabW spec_DrawStaState.tab7 spec_DrawStaState.bits7 (fun HT_ HW_ => ?_)
          generalize wc.drew = w28 at HO_498003 BK485 BK497 HI488 HB hHeld ⊢
          refine pure_ (i := 1) (N := some 29) (v := ?_) (a' := ?_) #[false, true, false, false, false, false, false, false, false, false, false, false, false, false, false, false, false, false, false, false] rfl rfl (any_of HT_.out (by kernel_rfl)) (fun _ _ _ h => h) (Or.inl ⟨by rfl, ?_⟩) ?_ ?_
          rotate_left
          · intro w'
            go_simp
            with_reducible rfl
          rotate_left
          · simp only [Act.put, List.setIfInBounds_toArray, List.set_cons_zero, List.set_cons_succ, i64_w, i32_w]
            rfl
          refine pure_ (i := 2) (N := some 30) (v := ?_) (a' := ?_) #[false, true, true, false, false, false, false, false, false, false, false, false, false, false, false, false, false, false, false, false] rfl rfl (any_of HT_.out (by kernel_rfl)) (fun _ _ _ h => h) (Or.inl ⟨by rfl, ?_⟩) ?_ ?_
          rotate_left
          · intro w'
            go_simp
            with_reducible rfl
          rotate_left
          · simp only [Act.put, List.setIfInBounds_toArray, List.set_cons_zero, List.set_cons_succ, i64_w, i32_w]
            rfl
          refine pure_ (i := 4) (N := some 32) (v := ?_) (a' := ?_) #[false, true, true, false, true, false, false, false, false, false, false, false, false, false, false, false, false, false, false, false] rfl rfl (any_of HT_.out (by kernel_rfl)) (fun _ _ _ h => h) (Or.inl ⟨by rfl, ?_⟩) ?_ ?_
          rotate_left
          · intro w'
            go_simp
            with_reducible rfl
          rotate_left
          · simp only [Act.put, List.setIfInBounds_toArray, List.set_cons_zero, List.set_cons_succ, i64_w, i32_w]
            rfl
          refine pure_ (i := 6) (N := some 34) (v := ?_) (a' := ?_) #[false, true, true, false, true, false, true, false, false, false, false, false, false, false, false, false, false, false, false, false] rfl rfl (any_of HT_.out (by kernel_rfl)) (fun _ _ _ h => h) (Or.inl ⟨by rfl, ?_⟩) ?_ ?_
          rotate_left
          · intro w'
            go_simp
            with_reducible rfl
          rotate_left
          · simp only [Act.put, List.setIfInBounds_toArray, List.set_cons_zero, List.set_cons_succ, i64_w, i32_w]
            rfl
          refine pure_ (i := 8) (N := some 36) (v := ?_) (a' := ?_) #[false, true, true, false, true, false, true, false, true, false, false, false, false, false, false, false, false, false, false, false] rfl rfl (any_of HT_.out (by kernel_rfl)) (fun _ _ _ h => h) (Or.inl ⟨by rfl, ?_⟩) ?_ ?_
          rotate_left
          · intro w'
            go_simp
            with_reducible rfl
          rotate_left
          · simp only [Act.put, List.setIfInBounds_toArray, List.set_cons_zero, List.set_cons_succ, i64_w, i32_w]
            rfl
          refine pure_ (i := 11) (N := some 39) (v := ?_) (a' := ?_) #[false, true, true, false, true, false, true, false, true, false, false, true, false, false, false, false, false, false, false, false] rfl rfl (any_of HT_.out (by kernel_rfl)) (fun _ _ _ h => h) (Or.inl ⟨by rfl, ?_⟩) ?_ ?_
          rotate_left
          · intro w'
            go_simp
            with_reducible rfl
          rotate_left
          · simp only [Act.put, List.setIfInBounds_toArray, List.set_cons_zero, List.set_cons_succ, i64_w, i32_w]
            rfl
          refine pure_ (i := 15) (N := some 43) (v := ?_) (a' := ?_) #[false, true, true, false, true, false, true, false, true, false, false, true, false, false, false, true, false, false, false, false] rfl rfl (any_of HT_.out (by kernel_rfl)) (fun _ _ _ h => h) (Or.inl ⟨by rfl, ?_⟩) ?_ ?_
          rotate_left
          · intro w'
            go_simp
            with_reducible rfl
          rotate_left
          · simp only [Act.put, List.setIfInBounds_toArray, List.set_cons_zero, List.set_cons_succ, i64_w, i32_w]
            rfl
          refine inv_at [0, 3, 5, 7, 9, 10, 12, 13, 14, 16, 17, 18, 19] (fun a0_ b a w' => ∃ (v509 : Value) (adz_v509 : Addr) (m13_ : Value), a = putSel a0_ b [(0, 28, .agg #[.int .i64 t489, .int .i64 t490, .int .i64 t491, .slice Ao14 t492.length co14, .int .i64 t495]), (3, 31, .agg #[.int .i64 t489, .int .i64 t490, .int .i64 t491, .slice Ao14 t492.length co14, .int .i64 t495]), (5, 33, .int .i64 t504), (7, 35, .agg #[.int .i64 t489, .int .i64 t490, .int .i64 t491, .slice Ao14 t492.length co14, .int .i64 t495]), (9, 37, .int .i64 t506), (10, 38, v509), (12, 40, .int .i64 t511), (13, 41, m13_), (14, 42, .int .i64 (rd y508 t511)), (17, 3, .int .i64 (wrap64 (t498 - 1))), (18, 4, .int .i64 (rd y508 t511)), (19, 5, .int .i64 x9_5)] ∧ (Kd.R (Kd.int .i64) 3 w' w.heap.size (fun _ => True) (.slice Ao14 t492.length co14) t492) ∧ (b 16 = false → w'.heap[gb485]? = some (.cells #[.int .i64 0, .int .i64 0, .int .i64 0, .slice none 0 0, .int .i64 0] 31 (0, 0))) ∧ (w'.heap[gb497]? = some (.cells #[.int .i64 t489, .int .i64 t490, .int .i64 t491, .slice Ao14 t492.length co14, .int .i64 t495] 31 (0, 0))) ∧ (b 5 = false → IsS69 w w' g488 t486 x489001_5) ∧ (Below w.heap.size w w') ∧ (b 5 = true → b 9 = false → IsS69 w w' g488 t486 t505) ∧ (b 9 = true → b 12 = false → IsS69 w w' g488 t486 t507) ∧ (b 10 = true → Kd.R (Kd.int .i64) 3 w' w.heap.size (fun k_ => some k_ ≠ (.slice Ao14 t492.length co14 : Value).ownBlock) v509 y508) ∧ (b 10 = true → ∃ c_, (v509 : Value) = .slice (some adz_v509) y508.length c_) ∧ (b 12 = true → IsS69 w w' g488 t486 t512) ∧ (b 16 = true → w'.heap[gb485]? = some (.cells #[.int .i64 t489, .int .i64 t490, .int .i64 t491, .slice Ao14 t492.length co14, .int .i64 t495] 31 (0, 0))) ∧ (b 13 = true → (m13_ : Value) = .pointer (some (adz_v509.add (t511).toNat)))) HT_.out HW_.out (by kernel_rfl) (by kernel_rfl) ?_ ?_ ?_
          · exact ⟨.bool false, ⟨0, 0, none⟩, .bool false, by simp only [putSel, Bool.false_eq_true, if_false], HO_498003.out, fun _ => BK485.out, BK497.out, fun _ => HI488.out, HB.out, fun h_ => absurd h_ (by decide), fun h_ => absurd h_ (by decide), fun h_ => absurd h_ (by decide), fun h_ => absurd h_ (by decide), fun h_ => absurd h_ (by decide), fun h_ => absurd h_ (by decide), fun h_ => absurd h_ (by decide)⟩
          · skip
            clear BK485 BK497 HB HI488 HO_498003
            refine steps_cons ?_ ?_
            · rintro b a w' ⟨v509, adz_v509, m13_, ha, Q_HO_498003, Q_BK485, Q_BK497, Q_HI488, Q_HB, Q_HI488_e5, Q_HI488_e9, Q_HO510, Q_HA_HO510, Q_HI488_e12, Q_BK485_e16, Q_X13_⟩ hb_ hon hoff
              refine ⟨_, rfl, fun K hK => ?_⟩
              have e7 : a.tmps[7]? = some (.pointer (some ⟨gb497, 0, none⟩)) := by rw [ha]; exact (putSel_off rfl).trans rfl
              replace ha := Aside0.mk ha
              have HO_498003 := Aside0.mk Q_HO_498003
              have BK485 := Aside0.mk (Q_BK485 (hoff 16 (by kernel_rfl)))
              have BK497 := Aside0.mk Q_BK497
              have HB := Aside0.mk Q_HB
              have hc0_ : w'.cell? ⟨gb497, 0, none⟩ = some (.int .i64 t489) := (blk_cell BK497.out 0).trans rfl
              have hc1_ : w'.cell? ⟨gb497, 1, none⟩ = some (.int .i64 t490) := (blk_cell BK497.out 1).trans rfl
              have hc2_ : w'.cell? ⟨gb497, 2, none⟩ = some (.int .i64 t491) := (blk_cell BK497.out 2).trans rfl
              have hc3_ : w'.cell? ⟨gb497, 3, none⟩ = some (.slice Ao14 t492.length co14) := (blk_cell BK497.out 3).trans rfl
              have hc4_ : w'.cell? ⟨gb497, 4, none⟩ = some (.int .i64 t495) := (blk_cell BK497.out 4).trans rfl
              refine value_ (w1 := w') (v := .agg #[.int .i64 t489, .int .i64 t490, .int .i64 t491, .slice Ao14 t492.length co14, .int .i64 t495]) (by rfl) rfl ?_ ?_
              · go_simp
                (try simp only [i64_w])
                try rfl
              refine hK.out _ _ ⟨v509, adz_v509, m13_, (by rw [ha.out]; exact putSel_upk 0 hb_ rfl rfl rfl), Q_HO_498003, Q_BK485, Q_BK497, Q_HI488, Q_HB, Q_HI488_e5, Q_HI488_e9, Q_HO510, Q_HA_HO510, Q_HI488_e12, fun h0_ => absurd ((hoff 16 (by kernel_rfl)).symm.trans h0_) (by decide), Q_X13_⟩
            refine steps_cons ?_ ?_
            · rintro b a w' ⟨v509, adz_v509, m13_, ha, Q_HO_498003, Q_BK485, Q_BK497, Q_HI488, Q_HB, Q_HI488_e5, Q_HI488_e9, Q_HO510, Q_HA_HO510, Q_HI488_e12, Q_BK485_e16, Q_X13_⟩ hb_ hon hoff
              refine ⟨_, rfl, fun K hK => ?_⟩
              have e7 : a.tmps[7]? = some (.pointer (some ⟨gb497, 0, none⟩)) := by rw [ha]; exact (putSel_off rfl).trans rfl
              replace ha := Aside0.mk ha
              have HO_498003 := Aside0.mk Q_HO_498003
              have BK485 := Aside0.mk (Q_BK485 (hoff 16 (by kernel_rfl)))
              have BK497 := Aside0.mk Q_BK497
              have HI488 := Aside0.mk (Q_HI488 (hoff 5 (by kernel_rfl)))
              have HB := Aside0.mk Q_HB
              have hc0_ : w'.cell? ⟨gb497, 0, none⟩ = some (.int .i64 t489) := (blk_cell BK497.out 0).trans rfl
              have hc1_ : w'.cell? ⟨gb497, 1, none⟩ = some (.int .i64 t490) := (blk_cell BK497.out 1).trans rfl
              have hc2_ : w'.cell? ⟨gb497, 2, none⟩ = some (.int .i64 t491) := (blk_cell BK497.out 2).trans rfl
              have hc3_ : w'.cell? ⟨gb497, 3, none⟩ = some (.slice Ao14 t492.length co14) := (blk_cell BK497.out 3).trans rfl
              have hc4_ : w'.cell? ⟨gb497, 4, none⟩ = some (.int .i64 t495) := (blk_cell BK497.out 4).trans rfl
              refine value_ (w1 := w') (v := .agg #[.int .i64 t489, .int .i64 t490, .int .i64 t491, .slice Ao14 t492.length co14, .int .i64 t495]) (by rfl) rfl ?_ ?_
              · go_simp
                (try simp only [i64_w])
                try rfl
              refine hK.out _ _ ⟨v509, adz_v509, m13_, (by rw [ha.out]; exact putSel_upk 1 hb_ rfl rfl rfl), Q_HO_498003, Q_BK485, Q_BK497, Q_HI488, Q_HB, fun h0_ _ => absurd ((hoff 5 (by kernel_rfl)).symm.trans h0_) (by decide), fun h0_ _ => absurd ((hoff 9 (by kernel_rfl)).symm.trans h0_) (by decide), fun h0_ => absurd ((hoff 10 (by kernel_rfl)).symm.trans h0_) (by decide), fun h0_ => absurd ((hoff 10 (by kernel_rfl)).symm.trans h0_) (by decide), fun h0_ => absurd ((hoff 12 (by kernel_rfl)).symm.trans h0_) (by decide), fun h0_ => absurd ((hoff 16 (by kernel_rfl)).symm.trans h0_) (by decide), fun h0_ => absurd ((hoff 13 (by kernel_rfl)).symm.trans h0_) (by decide)⟩
            refine steps_cons ?_ ?_
            · rintro b a w' ⟨v509, adz_v509, m13_, ha, Q_HO_498003, Q_BK485, Q_BK497, Q_HI488, Q_HB, Q_HI488_e5, Q_HI488_e9, Q_HO510, Q_HA_HO510, Q_HI488_e12, Q_BK485_e16, Q_X13_⟩ hb_ hon hoff
              refine ⟨_, rfl, fun K hK => ?_⟩
              have e30 : a.tmps[30]? = some (.pointer (some ⟨g488, 0, none⟩)) := by rw [ha]; exact (putSel_off rfl).trans rfl
              have e31 : a.tmps[31]? = some (.agg #[.int .i64 t489, .int .i64 t490, .int .i64 t491, .slice Ao14 t492.length co14, .int .i64 t495]) := by rw [ha]; exact putSel_on (e := (3, 31, .agg #[.int .i64 t489, .int .i64 t490, .int .i64 t491, .slice Ao14 t492.length co14, .int .i64 t495])) 1 rfl rfl (hon 3 (by kernel_rfl)) rfl
              have e32 : a.tmps[32]? = some (.int .i64 (wrap64 (t498 - 1))) := by rw [ha]; exact (putSel_off rfl).trans rfl
              replace ha := Aside0.mk ha
              have HO_498003 := Aside0.mk Q_HO_498003
              have BK485 := Aside0.mk (Q_BK485 (hoff 16 (by kernel_rfl)))
              have BK497 := Aside0.mk Q_BK497
              have HI488 := Aside0.mk (Q_HI488 hb_)
              have HB := Aside0.mk Q_HB
              refine goes_ Try.func49 (by kernel_rfl) rfl #[.pointer (some ⟨g488, 0, none⟩), .agg #[.int .i64 t489, .int .i64 t490, .int .i64 t491, .slice Ao14 t492.length co14, .int .i64 t495], .int .i64 (wrap64 (t498 - 1))] (by rfl) rfl rfl (by first | (simp only [List.map_toArray, List.map_cons, List.map_nil, Act.eval, Array.getD_eq_getD_getElem?, Option.getD_some, e30, e31, e32]; done) | (simp only [List.map_toArray, List.map_cons, List.map_nil, Act.eval, Array.getD_eq_getD_getElem?, Option.getD_some, e30, e31, e32]; rfl)) ?_
              with_reducible refine (spec_l20Near.calls kj5 g488 t486 x489001_5 t489 t490 t491 _ _ t492 t495 (wrap64 (t498 - 1)) t504 t505 w _ ?side1 ?side2 ?side3 ?side4 ?side5 A23.out).mono ?_
              (case side1 => repeat (first | (with_reducible first | exact HI488.out | apply IsS69.alloc | apply IsS69.drewN | apply IsS69.drew | apply IsS69.set_1 | refine IsS69.far ?_ NB488_485.out _ | refine IsS69.far ?_ NB488_497.out _) | exact HI488.out))
              (case side2 => repeat (first | (with_reducible first | exact HB.out | apply below_alloc | apply pw_below_drewN | apply below_drew1 | refine below_set ?_ (IsS69.ge HI488.out) | refine below_set ?_ GE485.out | refine below_set ?_ GE497.out) | exact HB.out))
              (case side3 => repeat (first | exact (Kd.R_reads' HO_498003.out).2.2 | (with_reducible refine Kd.C_alloc ?_ _) | (with_reducible refine Kd.C_drewN ?_ _) | (with_reducible refine Kd.C_drew ?_)))
              (case side4 => exact (Kd.R_reads' HO_498003.out).2.1)
              (case side5 => exact far_slice (IsS69.own_ne HI488.out HO_498003.out (by decide)))
              rintro e w29 ⟨rfl, hi, hb, hk⟩
              refine ⟨_, rfl, ?_⟩
              have n0_ := Aside0.mk (Kd.R_mono (Kd.R_keep (IsS69.apart (show IsS69 w _ g488 t486 x489001_5 from by repeat (first | (with_reducible first | exact HI488.out | apply IsS69.alloc | apply IsS69.drewN | apply IsS69.drew | apply IsS69.set_1 | refine IsS69.far ?_ NB488_485.out _ | refine IsS69.far ?_ NB488_497.out _) | exact HI488.out)) (by (with_reducible repeat (first | apply Kd.R_alloc | apply Kd.R_drewN | apply Kd.R_drew)); exact HO_498003.out) (by decide)) hk (fun _ h => h.2)) (fun _ h => h.1))
              have n1_ := Aside0.mk (KeepBut.blk hk (g' := gb485) (o := .cells #[.int .i64 0, .int .i64 0, .int .i64 0, .slice none 0 0, .int .i64 0] 31 (0, 0)) (by (with_reducible repeat (first | refine blk_drewN ?_ _ | refine blk_drew ?_ | refine blk_alloc ?_ _)); exact BK485.out) NB485_488.out (by simp))
              have n2_ := Aside0.mk (KeepBut.blk hk (g' := gb497) (o := .cells #[.int .i64 t489, .int .i64 t490, .int .i64 t491, .slice Ao14 t492.length co14, .int .i64 t495] 31 (0, 0)) (by (with_reducible repeat (first | refine blk_drewN ?_ _ | refine blk_drew ?_ | refine blk_alloc ?_ _)); exact BK497.out) NB497_488.out (by simp))
              have n3_ := Aside0.mk (hb)
              have n4_ := Aside0.mk (hi)
              clear HO_498003
              clear BK485
              clear BK497
              clear HB
              clear HI488
              have HO_498003 := n0_
              have BK485 := n1_
              have BK497 := n2_
              have HB := n3_
              have HI488 := n4_
              clear n0_ n1_ n2_ n3_ n4_
              (try clear hb)
              (try clear hb2)
              (try clear hk)
              (try clear hi)
              refine hK.out _ _ ⟨v509, adz_v509, m13_, (by rw [ha.out]; exact putSel_upk 2 hb_ rfl rfl rfl), (by (with_reducible repeat (first | apply Kd.R_alloc | apply Kd.R_drewN | apply Kd.R_drew)); exact HO_498003.out), fun _ => (by (with_reducible repeat (first | refine blk_drewN ?_ _ | refine blk_drew ?_ | refine blk_alloc ?_ _)); exact BK485.out), (by (with_reducible repeat (first | refine blk_drewN ?_ _ | refine blk_drew ?_ | refine blk_alloc ?_ _)); exact BK497.out), fun h0_ => absurd ((up_self b 5).symm.trans h0_) (by decide), (by repeat (first | (with_reducible first | exact HB.out | apply below_alloc | apply pw_below_drewN | apply below_drew1 | refine below_set ?_ (IsS69.ge HI488.out) | refine below_set ?_ GE485.out | refine below_set ?_ GE497.out) | exact HB.out)), fun _ _ => (by repeat (first | (with_reducible first | exact HI488.out | apply IsS69.alloc | apply IsS69.drewN | apply IsS69.drew | apply IsS69.set_1 | refine IsS69.far ?_ NB488_485.out _ | refine IsS69.far ?_ NB488_497.out _) | exact HI488.out)), fun h0_ _ => absurd ((hoff 9 (by kernel_rfl)).symm.trans h0_) (by decide), fun h0_ => absurd ((hoff 10 (by kernel_rfl)).symm.trans h0_) (by decide), fun h0_ => absurd ((hoff 10 (by kernel_rfl)).symm.trans h0_) (by decide), fun h0_ => absurd ((hoff 12 (by kernel_rfl)).symm.trans h0_) (by decide), fun h0_ => absurd ((hoff 16 (by kernel_rfl)).symm.trans h0_) (by decide), fun h0_ => absurd ((hoff 13 (by kernel_rfl)).symm.trans h0_) (by decide)⟩
            refine steps_cons ?_ ?_
            · rintro b a w' ⟨v509, adz_v509, m13_, ha, Q_HO_498003, Q_BK485, Q_BK497, Q_HI488, Q_HB, Q_HI488_e5, Q_HI488_e9, Q_HO510, Q_HA_HO510, Q_HI488_e12, Q_BK485_e16, Q_X13_⟩ hb_ hon hoff
              refine ⟨_, rfl, fun K hK => ?_⟩
              have e7 : a.tmps[7]? = some (.pointer (some ⟨gb497, 0, none⟩)) := by rw [ha]; exact (putSel_off rfl).trans rfl
              replace ha := Aside0.mk ha
              have HO_498003 := Aside0.mk Q_HO_498003
              have BK485 := Aside0.mk (Q_BK485 (hoff 16 (by kernel_rfl)))
              have BK497 := Aside0.mk Q_BK497
              have HB := Aside0.mk Q_HB
              have hc0_ : w'.cell? ⟨gb497, 0, none⟩ = some (.int .i64 t489) := (blk_cell BK497.out 0).trans rfl
              have hc1_ : w'.cell? ⟨gb497, 1, none⟩ = some (.int .i64 t490) := (blk_cell BK497.out 1).trans rfl
              have hc2_ : w'.cell? ⟨gb497, 2, none⟩ = some (.int .i64 t491) := (blk_cell BK497.out 2).trans rfl
              have hc3_ : w'.cell? ⟨gb497, 3, none⟩ = some (.slice Ao14 t492.length co14) := (blk_cell BK497.out 3).trans rfl
              have hc4_ : w'.cell? ⟨gb497, 4, none⟩ = some (.int .i64 t495) := (blk_cell BK497.out 4).trans rfl
              refine value_ (w1 := w') (v := .agg #[.int .i64 t489, .int .i64 t490, .int .i64 t491, .slice Ao14 t492.length co14, .int .i64 t495]) (by rfl) rfl ?_ ?_
              · go_simp
                (try simp only [i64_w])
                try rfl
              refine hK.out _ _ ⟨v509, adz_v509, m13_, (by rw [ha.out]; exact putSel_upk 3 hb_ rfl rfl rfl), Q_HO_498003, Q_BK485, Q_BK497, Q_HI488, Q_HB, Q_HI488_e5, fun h0_ _ => absurd ((hoff 9 (by kernel_rfl)).symm.trans h0_) (by decide), fun h0_ => absurd ((hoff 10 (by kernel_rfl)).symm.trans h0_) (by decide), fun h0_ => absurd ((hoff 10 (by kernel_rfl)).symm.trans h0_) (by decide), fun h0_ => absurd ((hoff 12 (by kernel_rfl)).symm.trans h0_) (by decide), fun h0_ => absurd ((hoff 16 (by kernel_rfl)).symm.trans h0_) (by decide), fun h0_ => absurd ((hoff 13 (by kernel_rfl)).symm.trans h0_) (by decide)⟩
            refine steps_cons ?_ ?_
            · rintro b a w' ⟨v509, adz_v509, m13_, ha, Q_HO_498003, Q_BK485, Q_BK497, Q_HI488, Q_HB, Q_HI488_e5, Q_HI488_e9, Q_HO510, Q_HA_HO510, Q_HI488_e12, Q_BK485_e16, Q_X13_⟩ hb_ hon hoff
              refine ⟨_, rfl, fun K hK => ?_⟩
              have e34 : a.tmps[34]? = some (.pointer (some ⟨g488, 0, none⟩)) := by rw [ha]; exact (putSel_off rfl).trans rfl
              have e35 : a.tmps[35]? = some (.agg #[.int .i64 t489, .int .i64 t490, .int .i64 t491, .slice Ao14 t492.length co14, .int .i64 t495]) := by rw [ha]; exact putSel_on (e := (7, 35, .agg #[.int .i64 t489, .int .i64 t490, .int .i64 t491, .slice Ao14 t492.length co14, .int .i64 t495])) 3 rfl rfl (hon 7 (by kernel_rfl)) rfl
              have e36 : a.tmps[36]? = some (.int .i64 (wrap64 (t498 - 1))) := by rw [ha]; exact (putSel_off rfl).trans rfl
              replace ha := Aside0.mk ha
              have HO_498003 := Aside0.mk Q_HO_498003
              have BK485 := Aside0.mk (Q_BK485 (hoff 16 (by kernel_rfl)))
              have BK497 := Aside0.mk Q_BK497
              have HB := Aside0.mk Q_HB
              have HI488 := Aside0.mk (Q_HI488_e5 (hon 5 (by kernel_rfl)) hb_)
              refine goes_ Try.func49 (by kernel_rfl) rfl #[.pointer (some ⟨g488, 0, none⟩), .agg #[.int .i64 t489, .int .i64 t490, .int .i64 t491, .slice Ao14 t492.length co14, .int .i64 t495], .int .i64 (wrap64 (t498 - 1))] (by rfl) rfl rfl (by first | (simp only [List.map_toArray, List.map_cons, List.map_nil, Act.eval, Array.getD_eq_getD_getElem?, Option.getD_some, e34, e35, e36]; done) | (simp only [List.map_toArray, List.map_cons, List.map_nil, Act.eval, Array.getD_eq_getD_getElem?, Option.getD_some, e34, e35, e36]; rfl)) ?_
              with_reducible refine (spec_l20Near.calls kj5 g488 t486 t505 t489 t490 t491 _ _ t492 t495 (wrap64 (t498 - 1)) t506 t507 w _ ?side1 ?side2 ?side3 ?side4 ?side5 A24.out).mono ?_
              (case side1 => repeat (first | (with_reducible first | exact HI488.out | apply IsS69.alloc | apply IsS69.drewN | apply IsS69.drew | apply IsS69.set_1 | refine IsS69.far ?_ NB488_485.out _ | refine IsS69.far ?_ NB488_497.out _) | exact HI488.out))
              (case side2 => repeat (first | (with_reducible first | exact HB.out | apply below_alloc | apply pw_below_drewN | apply below_drew1 | refine below_set ?_ (IsS69.ge HI488.out) | refine below_set ?_ GE485.out | refine below_set ?_ GE497.out) | exact HB.out))
              (case side3 => repeat (first | exact (Kd.R_reads' HO_498003.out).2.2 | (with_reducible refine Kd.C_alloc ?_ _) | (with_reducible refine Kd.C_drewN ?_ _) | (with_reducible refine Kd.C_drew ?_)))
              (case side4 => exact (Kd.R_reads' HO_498003.out).2.1)
              (case side5 => exact far_slice (IsS69.own_ne HI488.out HO_498003.out (by decide)))
              rintro e w31 ⟨rfl, hi, hb, hk⟩
              refine ⟨_, rfl, ?_⟩
              have n0_ := Aside0.mk (Kd.R_mono (Kd.R_keep (IsS69.apart (show IsS69 w _ g488 t486 t505 from by repeat (first | (with_reducible first | exact HI488.out | apply IsS69.alloc | apply IsS69.drewN | apply IsS69.drew | apply IsS69.set_1 | refine IsS69.far ?_ NB488_485.out _ | refine IsS69.far ?_ NB488_497.out _) | exact HI488.out)) (by (with_reducible repeat (first | apply Kd.R_alloc | apply Kd.R_drewN | apply Kd.R_drew)); exact HO_498003.out) (by decide)) hk (fun _ h => h.2)) (fun _ h => h.1))
              have n1_ := Aside0.mk (KeepBut.blk hk (g' := gb485) (o := .cells #[.int .i64 0, .int .i64 0, .int .i64 0, .slice none 0 0, .int .i64 0] 31 (0, 0)) (by (with_reducible repeat (first | refine blk_drewN ?_ _ | refine blk_drew ?_ | refine blk_alloc ?_ _)); exact BK485.out) NB485_488.out (by simp))
              have n2_ := Aside0.mk (KeepBut.blk hk (g' := gb497) (o := .cells #[.int .i64 t489, .int .i64 t490, .int .i64 t491, .slice Ao14 t492.length co14, .int .i64 t495] 31 (0, 0)) (by (with_reducible repeat (first | refine blk_drewN ?_ _ | refine blk_drew ?_ | refine blk_alloc ?_ _)); exact BK497.out) NB497_488.out (by simp))
              have n3_ := Aside0.mk (hb)
              have n4_ := Aside0.mk (hi)
              clear HO_498003
              clear BK485
              clear BK497
              clear HB
              clear HI488
              have HO_498003 := n0_
              have BK485 := n1_
              have BK497 := n2_
              have HB := n3_
              have HI488 := n4_
              clear n0_ n1_ n2_ n3_ n4_
              (try clear hb)
              (try clear hb2)
              (try clear hk)
              (try clear hi)
              refine hK.out _ _ ⟨v509, adz_v509, m13_, (by rw [ha.out]; exact putSel_upk 4 hb_ rfl rfl rfl), (by (with_reducible repeat (first | apply Kd.R_alloc | apply Kd.R_drewN | apply Kd.R_drew)); exact HO_498003.out), fun _ => (by (with_reducible repeat (first | refine blk_drewN ?_ _ | refine blk_drew ?_ | refine blk_alloc ?_ _)); exact BK485.out), (by (with_reducible repeat (first | refine blk_drewN ?_ _ | refine blk_drew ?_ | refine blk_alloc ?_ _)); exact BK497.out), fun h0_ => absurd ((hon 5 (by kernel_rfl)).symm.trans h0_) (by decide), (by repeat (first | (with_reducible first | exact HB.out | apply below_alloc | apply pw_below_drewN | apply below_drew1 | refine below_set ?_ (IsS69.ge HI488.out) | refine below_set ?_ GE485.out | refine below_set ?_ GE497.out) | exact HB.out)), fun _ h1_ => absurd ((up_self b 9).symm.trans h1_) (by decide), fun _ _ => (by repeat (first | (with_reducible first | exact HI488.out | apply IsS69.alloc | apply IsS69.drewN | apply IsS69.drew | apply IsS69.set_1 | refine IsS69.far ?_ NB488_485.out _ | refine IsS69.far ?_ NB488_497.out _) | exact HI488.out)), fun h0_ => absurd ((hoff 10 (by kernel_rfl)).symm.trans h0_) (by decide), fun h0_ => absurd ((hoff 10 (by kernel_rfl)).symm.trans h0_) (by decide), fun h0_ => absurd ((hoff 12 (by kernel_rfl)).symm.trans h0_) (by decide), fun h0_ => absurd ((hoff 16 (by kernel_rfl)).symm.trans h0_) (by decide), fun h0_ => absurd ((hoff 13 (by kernel_rfl)).symm.trans h0_) (by decide)⟩
            refine steps_cons ?_ ?_
            · rintro b a w' ⟨v509, adz_v509, m13_, ha, Q_HO_498003, Q_BK485, Q_BK497, Q_HI488, Q_HB, Q_HI488_e5, Q_HI488_e9, Q_HO510, Q_HA_HO510, Q_HI488_e12, Q_BK485_e16, Q_X13_⟩ hb_ hon hoff
              refine ⟨_, rfl, fun K hK => ?_⟩
              have e33 : a.tmps[33]? = some (.int .i64 t504) := by rw [ha]; exact putSel_on (e := (5, 33, .int .i64 t504)) 2 rfl rfl (hon 5 (by kernel_rfl)) rfl
              have e37 : a.tmps[37]? = some (.int .i64 t506) := by rw [ha]; exact putSel_on (e := (9, 37, .int .i64 t506)) 4 rfl rfl (hon 9 (by kernel_rfl)) rfl
              replace ha := Aside0.mk ha
              have HO_498003 := Aside0.mk Q_HO_498003
              have BK497 := Aside0.mk Q_BK497
              have HB := Aside0.mk Q_HB
              refine Kd.R_lit_step (Kd.int .i64) _ 3 ?hg (N := 38) ?hd (xs := ([t504, t506, (-1), 109573] : List Int)) (inner := [.int .i64 t504, .int .i64 t506, .int .i64 (-1), .int .i64 109573]) (ok := fun _ => True) (okp := fun _ => True) ?hr ?hp (fun _ hk => hk) trivial (Below.refl _ _) (Nat.le_refl _) (by simp) ?_; (case hd => rfl); (case hg => rfl); (case hr => first | (go_simp; done) | (go_simp; rfl)); (case hp => exact (Reps.one (show Kd.M (Kd.int .i64) _ _ _ t504 [.int .i64 t504] from rfl) (Reps.one (show Kd.M (Kd.int .i64) _ _ _ t506 [.int .i64 t506] from rfl) (Reps.one (show Kd.M (Kd.int .i64) _ _ _ (-1) [.int .i64 (-1)] from rfl) (Reps.one (show Kd.M (Kd.int .i64) _ _ _ 109573 [.int .i64 109573] from rfl) (Reps.none _ _))))))
              intro v509 w32 ho33 hb hg_ hnew_
              clear hg_ hnew_
              (first | rw [← Ny508.out] at ho33 | (simp only [Int.reduceToNat] at ho33; rw [← Ny508.out] at ho33))
              have n0_ := Aside0.mk (Kd.R_elder' (by (with_reducible repeat (first | apply Kd.R_alloc | apply Kd.R_drewN | apply Kd.R_drew)); exact HO_498003.out) (Kd.R_base ho33) hb)
              have n1_ := Aside0.mk (Kd.R_lower (Kd.R_new' ho33 (Kd.R_lt (by (with_reducible repeat (first | apply Kd.R_alloc | apply Kd.R_drewN | apply Kd.R_drew)); exact HO_498003.out))) (below_size (by repeat (first | (with_reducible first | exact HB.out | apply below_alloc | apply pw_below_drewN | apply below_drew1 | refine below_set ?_ GE485.out | refine below_set ?_ GE497.out) | exact HB.out))))
              have n3_ := Aside0.mk (blk_below (g := gb497) (o := .cells #[.int .i64 t489, .int .i64 t490, .int .i64 t491, .slice Ao14 t492.length co14, .int .i64 t495] 31 (0, 0)) (by (with_reducible repeat (first | refine blk_drewN ?_ _ | refine blk_drew ?_ | refine blk_alloc ?_ _)); exact BK497.out) hb)
              have n5_ := Aside0.mk (below_step (by repeat (first | (with_reducible first | exact HB.out | apply below_alloc | apply pw_below_drewN | apply below_drew1 | refine below_set ?_ GE485.out | refine below_set ?_ GE497.out) | exact HB.out)) hb)
              have z_BK485 := fun (h0_ : b 16 = false) => (show w32.heap[gb485]? = some (.cells #[.int .i64 0, .int .i64 0, .int .i64 0, .slice none 0 0, .int .i64 0] 31 (0, 0)) from by first | exact (blk_below (g := gb485) (o := .cells #[.int .i64 0, .int .i64 0, .int .i64 0, .slice none 0 0, .int .i64 0] 31 (0, 0)) (by (with_reducible repeat (first | refine blk_drewN ?_ _ | refine blk_drew ?_ | refine blk_alloc ?_ _)); exact (Q_BK485 h0_)) hb))
              have z_HI488_e9 := fun (h0_ : b 9 = true) (h1_ : b 12 = false) => (show IsS69 w w32 g488 t486 t507 from by first | exact (IsS69.below (by repeat (first | (with_reducible first | exact (Q_HI488_e9 h0_ h1_) | apply IsS69.alloc | apply IsS69.drewN | apply IsS69.drew | apply IsS69.set_1 | refine IsS69.far ?_ NB488_485.out _ | refine IsS69.far ?_ NB488_497.out _) | exact (Q_HI488_e9 h0_ h1_))) hb))
              have z_HI488_e12 := fun (h0_ : b 12 = true) => (show IsS69 w w32 g488 t486 t512 from by first | exact (IsS69.below (by repeat (first | (with_reducible first | exact (Q_HI488_e12 h0_) | apply IsS69.alloc | apply IsS69.drewN | apply IsS69.drew | apply IsS69.set_1 | refine IsS69.far ?_ NB488_485.out _ | refine IsS69.far ?_ NB488_497.out _) | exact (Q_HI488_e12 h0_))) hb))
              have z_BK485_e16 := fun (h0_ : b 16 = true) => (show w32.heap[gb485]? = some (.cells #[.int .i64 t489, .int .i64 t490, .int .i64 t491, .slice Ao14 t492.length co14, .int .i64 t495] 31 (0, 0)) from by first | exact (blk_below (g := gb485) (o := .cells #[.int .i64 t489, .int .i64 t490, .int .i64 t491, .slice Ao14 t492.length co14, .int .i64 t495] 31 (0, 0)) (by (with_reducible repeat (first | refine blk_drewN ?_ _ | refine blk_drew ?_ | refine blk_alloc ?_ _)); exact (Q_BK485_e16 h0_)) hb))
              clear HO_498003
              clear BK497
              clear HB
              have HO_498003 := n0_
              have HO510 := n1_
              have BK497 := n3_
              have HB := n5_
              clear n0_ n1_ n3_ n5_
              clear hb ho33
              obtain ⟨Ao34, co34, eo34⟩ := Kd.R_slice HO510.out
              subst eo34
              obtain ⟨ado34, fo34, _⟩ := Kd.at_int (Kd.R_reads' HO510.out).2.2 0 (by decide) (by rw [Ny508.out]; simp)
              cases fo34
              refine hK.out _ _ ⟨.slice (some ado34) y508.length co34, ado34, m13_, (by rw [ha.out]; exact putSel_upk 5 hb_ rfl rfl rfl), (by (with_reducible repeat (first | apply Kd.R_alloc | apply Kd.R_drewN | apply Kd.R_drew)); exact Kd.R_mono HO_498003.out (fun _ hk => by first | exact hk.2 | trivial | exact hk.1)), z_BK485, (by (with_reducible repeat (first | refine blk_drewN ?_ _ | refine blk_drew ?_ | refine blk_alloc ?_ _)); exact BK497.out), fun h0_ => absurd ((hon 5 (by kernel_rfl)).symm.trans h0_) (by decide), (by repeat (first | (with_reducible first | exact HB.out | apply below_alloc | apply pw_below_drewN | apply below_drew1 | refine below_set ?_ GE485.out | refine below_set ?_ GE497.out) | exact HB.out)), fun _ h1_ => absurd ((hon 9 (by kernel_rfl)).symm.trans h1_) (by decide), z_HI488_e9, fun _ => (by (with_reducible repeat (first | apply Kd.R_alloc | apply Kd.R_drewN | apply Kd.R_drew)); exact Kd.R_mono HO510.out (fun _ hk => by first | exact hk.2 | trivial | exact hk.1)), fun _ => ⟨_, rfl⟩, z_HI488_e12, z_BK485_e16, fun h0_ => absurd ((hoff 13 (by kernel_rfl)).symm.trans h0_) (by decide)⟩
            refine steps_cons ?_ ?_
            · rintro b a w' ⟨v509, adz_v509, m13_, ha, Q_HO_498003, Q_BK485, Q_BK497, Q_HI488, Q_HB, Q_HI488_e5, Q_HI488_e9, Q_HO510, Q_HA_HO510, Q_HI488_e12, Q_BK485_e16, Q_X13_⟩ hb_ hon hoff
              refine ⟨_, rfl, fun K hK => ?_⟩
              have e39 : a.tmps[39]? = some (.pointer (some ⟨g488, 0, none⟩)) := by rw [ha]; exact (putSel_off rfl).trans rfl
              replace ha := Aside0.mk ha
              have HO_498003 := Aside0.mk Q_HO_498003
              have BK485 := Aside0.mk (Q_BK485 (hoff 16 (by kernel_rfl)))
              have BK497 := Aside0.mk Q_BK497
              have HB := Aside0.mk Q_HB
              have HI488 := Aside0.mk (Q_HI488_e9 (hon 9 (by kernel_rfl)) hb_)
              refine goes_ Try.func48 (by kernel_rfl) rfl #[.pointer (some ⟨g488, 0, none⟩), .int .i64 4] (by rfl) rfl rfl (by first | (simp only [List.map_toArray, List.map_cons, List.map_nil, Act.eval, Array.getD_eq_getD_getElem?, Option.getD_some, e39]; done) | (simp only [List.map_toArray, List.map_cons, List.map_nil, Act.eval, Array.getD_eq_getD_getElem?, Option.getD_some, e39]; rfl)) ?_
              with_reducible refine (spec_l20Rd_pick.calls kj5 g488 t486 t507 4 t511 t512 w _ ?side1 ?side2 A25.out).mono ?_
              (case side1 => repeat (first | (with_reducible first | exact HI488.out | apply IsS69.alloc | apply IsS69.drewN | apply IsS69.drew | apply IsS69.set_1 | refine IsS69.far ?_ NB488_485.out _ | refine IsS69.far ?_ NB488_497.out _) | exact HI488.out))
              (case side2 => repeat (first | (with_reducible first | exact HB.out | apply below_alloc | apply pw_below_drewN | apply below_drew1 | refine below_set ?_ (IsS69.ge HI488.out) | refine below_set ?_ GE485.out | refine below_set ?_ GE497.out) | exact HB.out))
              rintro e w32 ⟨rfl, hi, hb, hk⟩
              refine ⟨_, rfl, ?_⟩
              have n0_ := Aside0.mk (Kd.R_mono (Kd.R_keep (IsS69.apart (show IsS69 w _ g488 t486 t507 from by repeat (first | (with_reducible first | exact HI488.out | apply IsS69.alloc | apply IsS69.drewN | apply IsS69.drew | apply IsS69.set_1 | refine IsS69.far ?_ NB488_485.out _ | refine IsS69.far ?_ NB488_497.out _) | exact HI488.out)) (by (with_reducible repeat (first | apply Kd.R_alloc | apply Kd.R_drewN | apply Kd.R_drew)); exact HO_498003.out) (by decide)) hk (fun _ h => h.2)) (fun _ h => h.1))
              have n1_ := Aside0.mk (KeepBut.blk hk (g' := gb485) (o := .cells #[.int .i64 0, .int .i64 0, .int .i64 0, .slice none 0 0, .int .i64 0] 31 (0, 0)) (by (with_reducible repeat (first | refine blk_drewN ?_ _ | refine blk_drew ?_ | refine blk_alloc ?_ _)); exact BK485.out) NB485_488.out (by simp))
              have n2_ := Aside0.mk (KeepBut.blk hk (g' := gb497) (o := .cells #[.int .i64 t489, .int .i64 t490, .int .i64 t491, .slice Ao14 t492.length co14, .int .i64 t495] 31 (0, 0)) (by (with_reducible repeat (first | refine blk_drewN ?_ _ | refine blk_drew ?_ | refine blk_alloc ?_ _)); exact BK497.out) NB497_488.out (by simp))
              have n3_ := Aside0.mk (hb)
              have n4_ := Aside0.mk (hi)
              have z_HO510 := fun (h0_ : b 10 = true) => (show Kd.R (Kd.int .i64) 3 w32 w.heap.size (fun k_ => some k_ ≠ (.slice Ao14 t492.length co14 : Value).ownBlock) v509 y508 from by first | exact (Kd.R_mono (Kd.R_keep (IsS69.apart (show IsS69 w _ g488 t486 t507 from by repeat (first | (with_reducible first | exact HI488.out | apply IsS69.alloc | apply IsS69.drewN | apply IsS69.drew | apply IsS69.set_1 | refine IsS69.far ?_ NB488_485.out _ | refine IsS69.far ?_ NB488_497.out _) | exact HI488.out)) (by (with_reducible repeat (first | apply Kd.R_alloc | apply Kd.R_drewN | apply Kd.R_drew)); exact (Q_HO510 h0_)) (by decide)) hk (fun _ h => h.2)) (fun _ h => h.1)) | exact Kd.R_mono (Kd.R_mono (Kd.R_keep (IsS69.apart (show IsS69 w _ g488 t486 t507 from by repeat (first | (with_reducible first | exact HI488.out | apply IsS69.alloc | apply IsS69.drewN | apply IsS69.drew | apply IsS69.set_1 | refine IsS69.far ?_ NB488_485.out _ | refine IsS69.far ?_ NB488_497.out _) | exact HI488.out)) (by (with_reducible repeat (first | apply Kd.R_alloc | apply Kd.R_drewN | apply Kd.R_drew)); exact (Q_HO510 h0_)) (by decide)) hk (fun _ h => h.2)) (fun _ h => h.1)) (fun _ h_ => by first | trivial | exact h_ | exact h_.1))
              clear HO_498003
              clear BK485
              clear BK497
              clear HB
              clear HI488
              have HO_498003 := n0_
              have BK485 := n1_
              have BK497 := n2_
              have HB := n3_
              have HI488 := n4_
              clear n0_ n1_ n2_ n3_ n4_
              (try clear hb)
              (try clear hb2)
              (try clear hk)
              (try clear hi)
              refine hK.out _ _ ⟨v509, adz_v509, m13_, (by rw [ha.out]; exact putSel_upk 6 hb_ rfl rfl rfl), (by (with_reducible repeat (first | apply Kd.R_alloc | apply Kd.R_drewN | apply Kd.R_drew)); exact HO_498003.out), fun _ => (by (with_reducible repeat (first | refine blk_drewN ?_ _ | refine blk_drew ?_ | refine blk_alloc ?_ _)); exact BK485.out), (by (with_reducible repeat (first | refine blk_drewN ?_ _ | refine blk_drew ?_ | refine blk_alloc ?_ _)); exact BK497.out), fun h0_ => absurd ((hon 5 (by kernel_rfl)).symm.trans h0_) (by decide), (by repeat (first | (with_reducible first | exact HB.out | apply below_alloc | apply pw_below_drewN | apply below_drew1 | refine below_set ?_ (IsS69.ge HI488.out) | refine below_set ?_ GE485.out | refine below_set ?_ GE497.out) | exact HB.out)), fun _ h1_ => absurd ((hon 9 (by kernel_rfl)).symm.trans h1_) (by decide), fun _ h1_ => absurd ((up_self b 12).symm.trans h1_) (by decide), z_HO510, Q_HA_HO510, fun _ => (by repeat (first | (with_reducible first | exact HI488.out | apply IsS69.alloc | apply IsS69.drewN | apply IsS69.drew | apply IsS69.set_1 | refine IsS69.far ?_ NB488_485.out _ | refine IsS69.far ?_ NB488_497.out _) | exact HI488.out)), fun h0_ => absurd ((hoff 16 (by kernel_rfl)).symm.trans h0_) (by decide), fun h0_ => absurd ((hoff 13 (by kernel_rfl)).symm.trans h0_) (by decide)⟩
            refine steps_cons ?_ ?_
            · rintro b a w' ⟨v509, adz_v509, m13_, ha, Q_HO_498003, Q_BK485, Q_BK497, Q_HI488, Q_HB, Q_HI488_e5, Q_HI488_e9, Q_HO510, Q_HA_HO510, Q_HI488_e12, Q_BK485_e16, Q_X13_⟩ hb_ hon hoff
              refine ⟨_, rfl, fun K hK => ?_⟩
              have e38 : a.tmps[38]? = some (v509) := by rw [ha]; exact putSel_on (e := (10, 38, v509)) 5 rfl rfl (hon 10 (by kernel_rfl)) rfl
              have e40 : a.tmps[40]? = some (.int .i64 t511) := by rw [ha]; exact putSel_on (e := (12, 40, .int .i64 t511)) 6 rfl rfl (hon 12 (by kernel_rfl)) rfl
              replace ha := Aside0.mk ha
              have HO_498003 := Aside0.mk Q_HO_498003
              have BK497 := Aside0.mk Q_BK497
              have HB := Aside0.mk Q_HB
              have HO510 := Aside0.mk (Q_HO510 (hon 10 (by kernel_rfl)))
              have HA_HO510 := Aside0.mk (Q_HA_HO510 (hon 10 (by kernel_rfl)))
              have HI488 := Aside0.mk (Q_HI488_e12 (hon 12 (by kernel_rfl)))
              obtain ⟨c_, hv_⟩ := HA_HO510.out
              rw [hv_] at e38
              refine value_ (w1 := w') (v := .pointer (some (adz_v509.add (t511).toNat))) (by rfl) rfl ?_ ?_
              · go_simp
                (try simp only [i64_w])
                try rfl
              refine hK.out _ _ ⟨v509, adz_v509, (.pointer (some (adz_v509.add (t511).toNat))), (by rw [ha.out]; exact putSel_upk 7 hb_ rfl rfl rfl), Q_HO_498003, Q_BK485, Q_BK497, fun h0_ => absurd ((hon 5 (by kernel_rfl)).symm.trans h0_) (by decide), Q_HB, fun _ h1_ => absurd ((hon 9 (by kernel_rfl)).symm.trans h1_) (by decide), fun _ h1_ => absurd ((hon 12 (by kernel_rfl)).symm.trans h1_) (by decide), Q_HO510, Q_HA_HO510, Q_HI488_e12, Q_BK485_e16, fun _ => rfl⟩
            refine steps_cons ?_ ?_
            · rintro b a w' ⟨v509, adz_v509, m13_, ha, Q_HO_498003, Q_BK485, Q_BK497, Q_HI488, Q_HB, Q_HI488_e5, Q_HI488_e9, Q_HO510, Q_HA_HO510, Q_HI488_e12, Q_BK485_e16, Q_X13_⟩ hb_ hon hoff
              refine ⟨_, rfl, fun K hK => ?_⟩
              have e41 : a.tmps[41]? = some (m13_) := by rw [ha]; exact putSel_on (e := (13, 41, m13_)) 7 rfl rfl (hon 13 (by kernel_rfl)) rfl
              rw [Q_X13_ (hon 13 (by kernel_rfl))] at e41
              replace ha := Aside0.mk ha
              have HO_498003 := Aside0.mk Q_HO_498003
              have BK497 := Aside0.mk Q_BK497
              have HB := Aside0.mk Q_HB
              have HO510 := Aside0.mk (Q_HO510 (hon 10 (by kernel_rfl)))
              have HA_HO510 := Aside0.mk (Q_HA_HO510 (hon 10 (by kernel_rfl)))
              have HI488 := Aside0.mk (Q_HI488_e12 (hon 12 (by kernel_rfl)))
              obtain ⟨c_, hv_⟩ := HA_HO510.out
              have hF_ := HO510.out
              rw [hv_] at hF_
              obtain ⟨ad_, ea_, hx_⟩ := Kd.at_int (Kd.R_reads' hF_).2.2 t511 (of_eq_true pi513) (of_eq_true qi513)
              cases ea_
              refine value_ (w1 := w') (v := .int .i64 (rd y508 t511)) (by rfl) rfl ?_ ?_
              · go_simp
                (try simp only [i64_w])
                try rfl
              refine hK.out _ _ ⟨v509, adz_v509, m13_, (by rw [ha.out]; exact putSel_upk 8 hb_ rfl rfl rfl), Q_HO_498003, Q_BK485, Q_BK497, fun h0_ => absurd ((hon 5 (by kernel_rfl)).symm.trans h0_) (by decide), Q_HB, fun _ h1_ => absurd ((hon 9 (by kernel_rfl)).symm.trans h1_) (by decide), fun _ h1_ => absurd ((hon 12 (by kernel_rfl)).symm.trans h1_) (by decide), Q_HO510, Q_HA_HO510, Q_HI488_e12, Q_BK485_e16, Q_X13_⟩
            refine steps_cons ?_ ?_
            · rintro b a w' ⟨v509, adz_v509, m13_, ha, Q_HO_498003, Q_BK485, Q_BK497, Q_HI488, Q_HB, Q_HI488_e5, Q_HI488_e9, Q_HO510, Q_HA_HO510, Q_HI488_e12, Q_BK485_e16, Q_X13_⟩ hb_ hon hoff
              refine ⟨_, rfl, fun K hK => ?_⟩
              have e2 : a.tmps[2]? = some (.pointer (some ⟨gb485, 0, none⟩)) := by rw [ha]; exact (putSel_off rfl).trans rfl
              have e28 : a.tmps[28]? = some (.agg #[.int .i64 t489, .int .i64 t490, .int .i64 t491, .slice Ao14 t492.length co14, .int .i64 t495]) := by rw [ha]; exact putSel_on (e := (0, 28, .agg #[.int .i64 t489, .int .i64 t490, .int .i64 t491, .slice Ao14 t492.length co14, .int .i64 t495])) 0 rfl rfl (hon 0 (by kernel_rfl)) rfl
              replace ha := Aside0.mk ha
              have HO_498003 := Aside0.mk Q_HO_498003
              have BK485 := Aside0.mk (Q_BK485 hb_)
              have BK497 := Aside0.mk Q_BK497
              have HB := Aside0.mk Q_HB
              have HI488 := Aside0.mk (Q_HI488_e12 (hon 12 (by kernel_rfl)))
              have hs33 : w'.cell? ⟨gb485, 0, none⟩ = some (.int .i64 0) := (blk_cell BK485.out 0).trans rfl
              have hfs33 := blk_frozen BK485.out 0
              have hns33_1 := NB497_485.out
              have hms33_1 := NB485_497.out
              have hs34 : w'.cell? ⟨gb485, 1, none⟩ = some (.int .i64 0) := (blk_cell BK485.out 1).trans rfl
              have hfs34 := blk_frozen BK485.out 1
              have hns34_1 := NB497_485.out
              have hms34_1 := NB485_497.out
              have hs35 : w'.cell? ⟨gb485, 2, none⟩ = some (.int .i64 0) := (blk_cell BK485.out 2).trans rfl
              have hfs35 := blk_frozen BK485.out 2
              have hns35_1 := NB497_485.out
              have hms35_1 := NB485_497.out
              have hs36 : w'.cell? ⟨gb485, 3, none⟩ = some (.slice none 0 0) := (blk_cell BK485.out 3).trans rfl
              have hfs36 := blk_frozen BK485.out 3
              have hns36_1 := NB497_485.out
              have hms36_1 := NB485_497.out
              have hs37 : w'.cell? ⟨gb485, 4, none⟩ = some (.int .i64 0) := (blk_cell BK485.out 4).trans rfl
              have hfs37 := blk_frozen BK485.out 4
              have hns37_1 := NB497_485.out
              have hms37_1 := NB485_497.out
              refine skip_ (w1 := ?_) (by rfl) rfl ?_ ?_
              rotate_left
              · go_simp
                rfl
              refine hK.out _ _ ⟨v509, adz_v509, m13_, (by rw [ha.out]; exact putSel_none (v := undef) rfl), (by (with_reducible repeat (first | apply Kd.R_alloc | apply Kd.R_drewN | apply Kd.R_drew)); exact Kd.R_mono (Kd.R_far (p := ⟨gb485, 4, none⟩) (Kd.R_far (p := ⟨gb485, 3, none⟩) (Kd.R_far (p := ⟨gb485, 2, none⟩) (Kd.R_far (p := ⟨gb485, 1, none⟩) (Kd.R_far (p := ⟨gb485, 0, none⟩) (Kd.R_types HO_498003.out BK485.out (by decide)) (fun _ hk => by first | exact hk.2 | trivial | exact hk.1) (.int .i64 t489)) (fun _ hk => by first | exact hk.2 | trivial | exact hk.1) (.int .i64 t490)) (fun _ hk => by first | exact hk.2 | trivial | exact hk.1) (.int .i64 t491)) (fun _ hk => by first | exact hk.2 | trivial | exact hk.1) (.slice Ao14 t492.length co14)) (fun _ hk => by first | exact hk.2 | trivial | exact hk.1) (.int .i64 t495)) (fun _ hk => trivial)), fun h0_ => absurd ((up_self b 16).symm.trans h0_) (by decide), (by (with_reducible repeat (first | refine blk_drewN ?_ _ | refine blk_drew ?_ | refine blk_alloc ?_ _)); refine blk_far ?_ NB497_485.out _; (with_reducible repeat (first | refine blk_drewN ?_ _ | refine blk_drew ?_ | refine blk_alloc ?_ _)); refine blk_far ?_ NB497_485.out _; (with_reducible repeat (first | refine blk_drewN ?_ _ | refine blk_drew ?_ | refine blk_alloc ?_ _)); refine blk_far ?_ NB497_485.out _; (with_reducible repeat (first | refine blk_drewN ?_ _ | refine blk_drew ?_ | refine blk_alloc ?_ _)); refine blk_far ?_ NB497_485.out _; (with_reducible repeat (first | refine blk_drewN ?_ _ | refine blk_drew ?_ | refine blk_alloc ?_ _)); refine blk_far ?_ NB497_485.out _; (with_reducible repeat (first | refine blk_drewN ?_ _ | refine blk_drew ?_ | refine blk_alloc ?_ _)); exact BK497.out), fun h0_ => absurd ((hon 5 (by kernel_rfl)).symm.trans h0_) (by decide), (by repeat (first | (with_reducible first | exact HB.out | apply below_alloc | apply pw_below_drewN | apply below_drew1 | refine below_set ?_ (IsS69.ge HI488.out) | refine below_set ?_ GE485.out | refine below_set ?_ GE497.out) | exact HB.out)), fun _ h1_ => absurd ((hon 9 (by kernel_rfl)).symm.trans h1_) (by decide), fun _ h1_ => absurd ((hon 12 (by kernel_rfl)).symm.trans h1_) (by decide), fun h0_ => (by (with_reducible repeat (first | apply Kd.R_alloc | apply Kd.R_drewN | apply Kd.R_drew)); exact Kd.R_mono (Kd.R_far (p := ⟨gb485, 4, none⟩) (Kd.R_far (p := ⟨gb485, 3, none⟩) (Kd.R_far (p := ⟨gb485, 2, none⟩) (Kd.R_far (p := ⟨gb485, 1, none⟩) (Kd.R_far (p := ⟨gb485, 0, none⟩) (Kd.R_types (Q_HO510 h0_) BK485.out (by decide)) (fun _ hk => by first | exact hk.2 | trivial | exact hk.1) (.int .i64 t489)) (fun _ hk => by first | exact hk.2 | trivial | exact hk.1) (.int .i64 t490)) (fun _ hk => by first | exact hk.2 | trivial | exact hk.1) (.int .i64 t491)) (fun _ hk => by first | exact hk.2 | trivial | exact hk.1) (.slice Ao14 t492.length co14)) (fun _ hk => by first | exact hk.2 | trivial | exact hk.1) (.int .i64 t495)) (fun _ hk => hk.1)), Q_HA_HO510, fun _ => (by repeat (first | (with_reducible first | exact HI488.out | apply IsS69.alloc | apply IsS69.drewN | apply IsS69.drew | apply IsS69.set_1 | refine IsS69.far ?_ NB488_485.out _ | refine IsS69.far ?_ NB488_497.out _) | exact HI488.out)), fun _ => (by (with_reducible repeat (first | refine blk_drewN ?_ _ | refine blk_drew ?_ | refine blk_alloc ?_ _)); refine blk_put (cs := #[.int .i64 t489, .int .i64 t490, .int .i64 t491, .slice Ao14 t492.length co14, .int .i64 0]) ?_ 4 _ rfl; (with_reducible repeat (first | refine blk_drewN ?_ _ | refine blk_drew ?_ | refine blk_alloc ?_ _)); refine blk_put (cs := #[.int .i64 t489, .int .i64 t490, .int .i64 t491, .slice none 0 0, .int .i64 0]) ?_ 3 _ rfl; (with_reducible repeat (first | refine blk_drewN ?_ _ | refine blk_drew ?_ | refine blk_alloc ?_ _)); refine blk_put (cs := #[.int .i64 t489, .int .i64 t490, .int .i64 0, .slice none 0 0, .int .i64 0]) ?_ 2 _ rfl; (with_reducible repeat (first | refine blk_drewN ?_ _ | refine blk_drew ?_ | refine blk_alloc ?_ _)); refine blk_put (cs := #[.int .i64 t489, .int .i64 0, .int .i64 0, .slice none 0 0, .int .i64 0]) ?_ 1 _ rfl; (with_reducible repeat (first | refine blk_drewN ?_ _ | refine blk_drew ?_ | refine blk_alloc ?_ _)); refine blk_put (cs := #[.int .i64 0, .int .i64 0, .int .i64 0, .slice none 0 0, .int .i64 0]) ?_ 0 _ rfl; (with_reducible repeat (first | refine blk_drewN ?_ _ | refine blk_drew ?_ | refine blk_alloc ?_ _)); exact BK485.out), Q_X13_⟩
            refine steps_cons ?_ ?_
            · rintro b a w' ⟨v509, adz_v509, m13_, ha, Q_HO_498003, Q_BK485, Q_BK497, Q_HI488, Q_HB, Q_HI488_e5, Q_HI488_e9, Q_HO510, Q_HA_HO510, Q_HI488_e12, Q_BK485_e16, Q_X13_⟩ hb_ hon hoff
              refine ⟨_, rfl, fun K hK => ?_⟩
              have e29 : a.tmps[29]? = some (.int .i64 (wrap64 (t498 - 1))) := by rw [ha]; exact (putSel_off rfl).trans rfl
              replace ha := Aside0.mk ha
              have HO_498003 := Aside0.mk Q_HO_498003
              have BK497 := Aside0.mk Q_BK497
              have HB := Aside0.mk Q_HB
              have HI488 := Aside0.mk (Q_HI488_e12 (hon 12 (by kernel_rfl)))
              have BK485 := Aside0.mk (Q_BK485_e16 (hon 16 (by kernel_rfl)))
              refine value_ (w1 := w') (v := .int .i64 (wrap64 (t498 - 1))) (by rfl) rfl ?_ ?_
              · go_simp
                (try simp only [i64_w])
                try rfl
              refine hK.out _ _ ⟨v509, adz_v509, m13_, (by rw [ha.out]; exact putSel_upk 9 hb_ rfl rfl rfl), Q_HO_498003, fun h0_ => absurd ((hon 16 (by kernel_rfl)).symm.trans h0_) (by decide), Q_BK497, fun h0_ => absurd ((hon 5 (by kernel_rfl)).symm.trans h0_) (by decide), Q_HB, fun _ h1_ => absurd ((hon 9 (by kernel_rfl)).symm.trans h1_) (by decide), fun _ h1_ => absurd ((hon 12 (by kernel_rfl)).symm.trans h1_) (by decide), Q_HO510, Q_HA_HO510, Q_HI488_e12, Q_BK485_e16, Q_X13_⟩
            refine steps_cons ?_ ?_
            · rintro b a w' ⟨v509, adz_v509, m13_, ha, Q_HO_498003, Q_BK485, Q_BK497, Q_HI488, Q_HB, Q_HI488_e5, Q_HI488_e9, Q_HO510, Q_HA_HO510, Q_HI488_e12, Q_BK485_e16, Q_X13_⟩ hb_ hon hoff
              refine ⟨_, rfl, fun K hK => ?_⟩
              have e42 : a.tmps[42]? = some (.int .i64 (rd y508 t511)) := by rw [ha]; exact putSel_on (e := (14, 42, .int .i64 (rd y508 t511))) 8 rfl rfl (hon 14 (by kernel_rfl)) rfl
              replace ha := Aside0.mk ha
              have HO_498003 := Aside0.mk Q_HO_498003
              have BK497 := Aside0.mk Q_BK497
              have HB := Aside0.mk Q_HB
              have HO510 := Aside0.mk (Q_HO510 (hon 10 (by kernel_rfl)))
              have HA_HO510 := Aside0.mk (Q_HA_HO510 (hon 10 (by kernel_rfl)))
              have HI488 := Aside0.mk (Q_HI488_e12 (hon 12 (by kernel_rfl)))
              have BK485 := Aside0.mk (Q_BK485_e16 (hon 16 (by kernel_rfl)))
              refine value_ (w1 := w') (v := .int .i64 (rd y508 t511)) (by rfl) rfl ?_ ?_
              · go_simp
                (try simp only [i64_w])
                try rfl
              refine hK.out _ _ ⟨v509, adz_v509, m13_, (by rw [ha.out]; exact putSel_upk 10 hb_ rfl rfl rfl), Q_HO_498003, fun h0_ => absurd ((hon 16 (by kernel_rfl)).symm.trans h0_) (by decide), Q_BK497, fun h0_ => absurd ((hon 5 (by kernel_rfl)).symm.trans h0_) (by decide), Q_HB, fun _ h1_ => absurd ((hon 9 (by kernel_rfl)).symm.trans h1_) (by decide), fun _ h1_ => absurd ((hon 12 (by kernel_rfl)).symm.trans h1_) (by decide), Q_HO510, Q_HA_HO510, Q_HI488_e12, Q_BK485_e16, Q_X13_⟩
            refine steps_cons ?_ ?_
            · rintro b a w' ⟨v509, adz_v509, m13_, ha, Q_HO_498003, Q_BK485, Q_BK497, Q_HI488, Q_HB, Q_HI488_e5, Q_HI488_e9, Q_HO510, Q_HA_HO510, Q_HI488_e12, Q_BK485_e16, Q_X13_⟩ hb_ hon hoff
              refine ⟨_, rfl, fun K hK => ?_⟩
              have e43 : a.tmps[43]? = some (.int .i64 x9_5) := by rw [ha]; exact (putSel_off rfl).trans rfl
              replace ha := Aside0.mk ha
              have HO_498003 := Aside0.mk Q_HO_498003
              have BK497 := Aside0.mk Q_BK497
              have HB := Aside0.mk Q_HB
              have HO510 := Aside0.mk (Q_HO510 (hon 10 (by kernel_rfl)))
              have HA_HO510 := Aside0.mk (Q_HA_HO510 (hon 10 (by kernel_rfl)))
              have HI488 := Aside0.mk (Q_HI488_e12 (hon 12 (by kernel_rfl)))
              have BK485 := Aside0.mk (Q_BK485_e16 (hon 16 (by kernel_rfl)))
              refine value_ (w1 := w') (v := .int .i64 x9_5) (by rfl) rfl ?_ ?_
              · go_simp
                (try simp only [i64_w])
                try rfl
              refine hK.out _ _ ⟨v509, adz_v509, m13_, (by rw [ha.out]; exact putSel_upk 11 hb_ rfl rfl rfl), Q_HO_498003, fun h0_ => absurd ((hon 16 (by kernel_rfl)).symm.trans h0_) (by decide), Q_BK497, fun h0_ => absurd ((hon 5 (by kernel_rfl)).symm.trans h0_) (by decide), Q_HB, fun _ h1_ => absurd ((hon 9 (by kernel_rfl)).symm.trans h1_) (by decide), fun _ h1_ => absurd ((hon 12 (by kernel_rfl)).symm.trans h1_) (by decide), Q_HO510, Q_HA_HO510, Q_HI488_e12, Q_BK485_e16, Q_X13_⟩
            exact steps_nil
          rintro b a w40 hall ⟨v509, adz_v509, m13_, ha, Q_HO_498003, Q_BK485, Q_BK497, Q_HI488, Q_HB, Q_HI488_e5, Q_HI488_e9, Q_HO510, Q_HA_HO510, Q_HI488_e12, Q_BK485_e16, Q_X13_⟩
          clear BK485 BK497 HB HI488 HO_498003
          have hb0_ := hall 0 (by kernel_rfl)
          have hb3_ := hall 3 (by kernel_rfl)
          have hb5_ := hall 5 (by kernel_rfl)
          have hb7_ := hall 7 (by kernel_rfl)
          have hb9_ := hall 9 (by kernel_rfl)
          have hb10_ := hall 10 (by kernel_rfl)
          have hb12_ := hall 12 (by kernel_rfl)
          have hb13_ := hall 13 (by kernel_rfl)
          have hb14_ := hall 14 (by kernel_rfl)
          have hb16_ := hall 16 (by kernel_rfl)
          have hb17_ := hall 17 (by kernel_rfl)
          have hb18_ := hall 18 (by kernel_rfl)
          have hb19_ := hall 19 (by kernel_rfl)
          subst ha
          obtain rfl := Q_X13_ hb13_
          simp only [putSel, hb0_, hb3_, hb5_, hb7_, hb9_, hb10_, hb12_, hb13_, hb14_, hb16_, hb17_, hb18_, hb19_, if_true, Act.put, List.setIfInBounds_toArray, List.set_cons_zero, List.set_cons_succ]
          have HO_498003 := Aside0.mk Q_HO_498003
          clear Q_HO_498003
          clear Q_BK485
          have BK497 := Aside0.mk Q_BK497
          clear Q_BK497
          clear Q_HI488
          have HB := Aside0.mk Q_HB
          clear Q_HB
          clear Q_HI488_e5
          clear Q_HI488_e9
          have HO510 := Aside0.mk (Q_HO510 hb10_)
          clear Q_HO510
          have HA_HO510 := Aside0.mk (Q_HA_HO510 hb10_)
          clear Q_HA_HO510
          have HI488 := Aside0.mk (Q_HI488_e12 hb12_)
          clear Q_HI488_e12
          have BK485 := Aside0.mk (Q_BK485_e16 hb16_)
          clear Q_BK485_e16
          clear hall hb0_ hb3_ hb5_ hb7_ hb9_ hb10_ hb12_ hb13_ hb14_ hb16_ hb17_ hb18_ hb19_
          obtain ⟨co41, eo41⟩ := HA_HO510.out
          clear HA_HO510
          subst eo41
          try go_wp2
          refine bodyPost_ret (results_list (rs := [.cell 2 31, .tmp 3, .tmp 4, .tmp 5]) rfl (by simp) (.cell gb485 31 #[.int .i64 t489, .int .i64 t490, .int .i64 t491, .slice Ao14 t492.length co14, .int .i64 t495] (0, 0) _ rfl (by (with_reducible repeat (first | refine blk_drewN ?_ _ | refine blk_drew ?_ | refine blk_alloc ?_ _)); exact BK485.out) Try.underlying31 rfl (by kernel_rfl) (.tmp (.tmp (.tmp .nil))))) rfl ?_
          exact ⟨_, by first | rfl | (simp [errW_none, errW_some] <;> rfl) | (simp [*, errW_none, errW_some] <;> rfl), by (with_reducible repeat (first | apply Kd.R_alloc | apply Kd.R_drewN | apply Kd.R_drew)); exact Kd.R_mono HO_498003.out (fun _ hk => trivial), by repeat (first | (with_reducible first | exact HB.out | apply below_alloc | apply pw_below_drewN | apply below_drew1 | refine below_set ?_ (IsS69.ge HI488.out) | refine below_set ?_ GE485.out | refine below_set ?_ GE497.out) | exact HB.out)⟩
        · rw [if_neg c27] at H
          exact absurd H (by simp)
      · rw [if_neg c26] at H
        exact absurd H (by simp)

end Go.Proofs.Ytojgpnobbnihdaa.All
