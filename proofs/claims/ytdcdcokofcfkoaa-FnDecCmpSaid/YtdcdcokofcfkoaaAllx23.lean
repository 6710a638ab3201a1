-- Written by the session's own program wip/allprint.py, which drives the kit's print; Lean checks it.
import Derived.Test.YtdcdcokofcfkoaaAllx0
import Derived.Test.YtdcdcokofcfkoaaAllx3
import Derived.Test.YtdcdcokofcfkoaaAllx6
import Derived.Test.YtdcdcokofcfkoaaAllx11
namespace Go.Proofs.Ytdcdcokofcfkoaa.All
open Go.RowKit Go.Proofs.YtdcdcokofcfkoaaW.PrintWords Go.Proofs.YtdcdcokofcfkoaaW.PrintLast Go.Proofs.YtdcdcokofcfkoaaW.PrintMore
attribute [local go_sem] max2_int min2_int max_two min_two max_three min_three max_four min_four   -- for this text's walks alone
set_option linter.unusedVariables false
set_option linter.unusedSimpArgs false

-- GROUP FnDecCmp
/-! ### spec_DrawDecCmp: function 53 -/
def spec_DrawDecCmp.j0 : Nat → Bool → List Int → Int → Int → Int → Int → Int → Option (Int × Int × Int × Int)
  | 0, _, _, _, _, _, _, _ => none
  | k + 1, x19, x584000, x584001, x588000, x588001, x592000, x592001 => if x19 = true then ((spec_l20Rd_pick.f k x584000 x584001 4).bind fun bt595 => ((spec_DecAt.f k x588000 x588001 bt595.1).bind fun bt597 => ((spec_l20Rd_pick.f k x584000 bt595.2 3).bind fun bt599 => (some (x588000, x588001, wrap64 ((wrap64 (bt597.1 + bt599.1)) - 1), bt597.2))))) else (some (x588000, x588001, x592000, x592001))
def spec_DrawDecCmp.f (k : Nat) (l0 : List Int) : Option (Int × Int × Int × Int) := (spec_l20Open.f l0).bind fun bt581 => ((spec_l20Dec.f k bt581.1 bt581.2 16).bind fun bt584 => ((spec_l20Dec.f k bt581.1 bt584.2.2 16).bind fun bt588 => ((spec_l20Rd_pick.f k bt581.1 bt588.2.2 2).bind fun bt592 => (if bt592.1 = 0 then ((spec_DecOk.f k bt584.1 bt584.2.1).bind fun t594 => (spec_DrawDecCmp.j0 k t594 bt581.1 bt592.2 bt584.1 bt584.2.1 bt588.1 bt588.2.1)) else (spec_DrawDecCmp.j0 k false bt581.1 bt592.2 bt584.1 bt584.2.1 bt588.1 bt588.2.1)))))
theorem spec_DrawDecCmp.mono_l : ∀ k, (∀ y0 y1 y2 y3 y4 y5 y6, LeO (spec_DrawDecCmp.j0 k y0 y1 y2 y3 y4 y5 y6) (spec_DrawDecCmp.j0 (k + 1) y0 y1 y2 y3 y4 y5 y6))
  | 0 => fun _ _ _ _ _ _ _ r h => by simp [spec_DrawDecCmp.j0] at h
  | k + 1 => by
    have ih0 := spec_DrawDecCmp.mono_l k
    · intro y0 y1 y2 y3 y4 y5 y6
      unfold spec_DrawDecCmp.j0
      repeat' first
      | (with_reducible exact ih0 _ _ _ _ _ _ _)
      | (with_reducible exact spec_DecAt.mono _ _ _ _)
      | (with_reducible exact spec_DecOk.mono _ _ _)
      | (with_reducible exact spec_l20Dec.mono _ _ _ _)
      | (with_reducible exact spec_l20Rd_pick.mono _ _ _ _)
      | (with_reducible exact LeO.refl _)
      | (with_reducible exact LeO.none _)
      | (with_reducible refine LeO.ite ?_ ?_)
      | (with_reducible refine LeO.bind ?_ (fun _ => ?_))
      | exact ih0 _ _ _ _ _ _ _
      | exact spec_DecAt.mono _ _ _ _
      | exact spec_DecOk.mono _ _ _
      | exact spec_l20Dec.mono _ _ _ _
      | exact spec_l20Rd_pick.mono _ _ _ _
      | exact LeO.none _
      | refine LeO.ite ?_ ?_
      | refine LeO.bind ?_ (fun _ => ?_)
theorem spec_DrawDecCmp.mono : ∀ a0 k, LeO (spec_DrawDecCmp.f k a0) (spec_DrawDecCmp.f (k + 1) a0) := by
  intro a0 k
  have ih0 := spec_DrawDecCmp.mono_l k
  unfold spec_DrawDecCmp.f
  repeat' first
      | (with_reducible exact ih0 _ _ _ _ _ _ _)
      | (with_reducible exact spec_DecAt.mono _ _ _ _)
      | (with_reducible exact spec_DecOk.mono _ _ _)
      | (with_reducible exact spec_l20Dec.mono _ _ _ _)
      | (with_reducible exact spec_l20Rd_pick.mono _ _ _ _)
      | (with_reducible exact LeO.refl _)
      | (with_reducible exact LeO.none _)
      | (with_reducible refine LeO.ite ?_ ?_)
      | (with_reducible refine LeO.bind ?_ (fun _ => ?_))
      | exact ih0 _ _ _ _ _ _ _
      | exact spec_DecAt.mono _ _ _ _
      | exact spec_DecOk.mono _ _ _
      | exact spec_l20Dec.mono _ _ _ _
      | exact spec_l20Rd_pick.mono _ _ _ _
      | exact LeO.none _
      | refine LeO.ite ?_ ?_
      | refine LeO.bind ?_ (fun _ => ?_)
def spec_DrawDecCmp.T6 : Bool × List (List Nat × List Nat) := (true, [([], []), ([0], [0]), ([], []), ([2], [2]), ([1, 3], [1, 3]), ([4], [4]), ([0, 1, 2, 3, 4, 5], []), ([6, 5, 3, 0, 1, 2, 3, 4, 5], [5, 6])])
def spec_DrawDecCmp.B6 : List Nat := [0, 1, 0, 4, 15, 31, 63, 127]
theorem spec_DrawDecCmp.tab6 : rtab .any (opsOf Try.f53 6) = spec_DrawDecCmp.T6 := by kernel_rfl
theorem spec_DrawDecCmp.bits6 : waitsOk spec_DrawDecCmp.T6.2 spec_DrawDecCmp.B6 = true := by kernel_rfl
set_option maxHeartbeats 8000000 in
set_option maxRecDepth 100000 in
theorem spec_DrawDecCmp.calls (k : Nat) (A0 : Option Addr) (c0 : Nat) (l0 : List Int) (r1 : Int) (r2 : Int) (r3 : Int) (r4 : Int) (w : World) (hr0 : Kd.C (Kd.int .u8) w A0 l0.length l0) (hc0 : l0.length ≤ c0) (h : spec_DrawDecCmp.f k l0 = some (r1, r2, r3, r4)) :
    Calls Try.prog 53 #[.slice A0 l0.length c0] w fun e w' => e = .returned (.tuple #[.agg #[.int .i64 r1, .int .i64 r2], .agg #[.int .i64 r3, .int .i64 r4]]) ∧ Below w.heap.size w w' := by
  have hu24 := Try.underlying24
  have HR0 := Aside0.mk hr0
  have HC0 := Aside0.mk hc0
  clear hr0 hc0
  have HB := Aside0.mk (Below.refl w.heap.size w)
  have H : ((spec_l20Open.f l0).bind fun bt581 => ((spec_l20Dec.f k bt581.1 bt581.2 16).bind fun bt584 => ((spec_l20Dec.f k bt581.1 bt584.2.2 16).bind fun bt588 => ((spec_l20Rd_pick.f k bt581.1 bt588.2.2 2).bind fun bt592 => (if bt592.1 = 0 then ((spec_DecOk.f k bt584.1 bt584.2.1).bind fun t594 => (spec_DrawDecCmp.j0 k t594 bt581.1 bt592.2 bt584.1 bt584.2.1 bt588.1 bt588.2.1)) else (spec_DrawDecCmp.j0 k false bt581.1 bt592.2 bt584.1 bt584.2.1 bt588.1 bt588.2.1)))))) = some (r1, r2, r3, r4) := h
  clear h
  replace H := Option.bind_eq_some_iff.mp H
  obtain ⟨⟨t581, t582⟩, A20, H⟩ := H
  replace H : ((spec_l20Dec.f k t581 t582 16).bind fun bt584 => ((spec_l20Dec.f k t581 bt584.2.2 16).bind fun bt588 => ((spec_l20Rd_pick.f k t581 bt588.2.2 2).bind fun bt592 => (if bt592.1 = 0 then ((spec_DecOk.f k bt584.1 bt584.2.1).bind fun t594 => (spec_DrawDecCmp.j0 k t594 t581 bt592.2 bt584.1 bt584.2.1 bt588.1 bt588.2.1)) else (spec_DrawDecCmp.j0 k false t581 bt592.2 bt584.1 bt584.2.1 bt588.1 bt588.2.1))))) = some (r1, r2, r3, r4) := H
  have A2 := Aside0.mk A20
  clear A20
  replace H := Option.bind_eq_some_iff.mp H
  obtain ⟨⟨t584, t585, t586⟩, A30, H⟩ := H
  replace H : ((spec_l20Dec.f k t581 t586 16).bind fun bt588 => ((spec_l20Rd_pick.f k t581 bt588.2.2 2).bind fun bt592 => (if bt592.1 = 0 then ((spec_DecOk.f k t584 t585).bind fun t594 => (spec_DrawDecCmp.j0 k t594 t581 bt592.2 t584 t585 bt588.1 bt588.2.1)) else (spec_DrawDecCmp.j0 k false t581 bt592.2 t584 t585 bt588.1 bt588.2.1)))) = some (r1, r2, r3, r4) := H
  have A3 := Aside0.mk A30
  clear A30
  replace H := Option.bind_eq_some_iff.mp H
  obtain ⟨⟨t588, t589, t590⟩, A40, H⟩ := H
  replace H : ((spec_l20Rd_pick.f k t581 t590 2).bind fun bt592 => (if bt592.1 = 0 then ((spec_DecOk.f k t584 t585).bind fun t594 => (spec_DrawDecCmp.j0 k t594 t581 bt592.2 t584 t585 t588 t589)) else (spec_DrawDecCmp.j0 k false t581 bt592.2 t584 t585 t588 t589))) = some (r1, r2, r3, r4) := H
  have A4 := Aside0.mk A40
  clear A40
  have HC5 := Aside0.mk H
  clear H
  go_enter Try.func53, Try.ntmps53
  go_upto_region 4 with (first | ((with_reducible refine gate_dst (N := 2) rfl ?_); refine box_event ?hg (N := 2) ?hd (cs := #[.int .i64 0, .int .i64 0]) (t := 24) ?hr ?_; (case hd => rfl); (case hg => rfl); (case hr => first | (go_simp; done) | (go_simp; rfl)); intro gb579 hg w6 hbox hb; have n0_ := Aside0.mk (below_step (by repeat (first | (with_reducible first | exact HB.out | apply below_alloc | apply pw_below_drewN | apply below_drew1) | exact HB.out)) hb); have n1_ := Aside0.mk (hbox); have n2_ := Aside0.mk ((by rw [hg]; exact (below_size (by repeat (first | (with_reducible first | exact HB.out | apply below_alloc | apply pw_below_drewN | apply below_drew1) | exact HB.out))) : w.heap.size ≤ gb579)); have n3_ := Aside0.mk ((by rw [hg]; exact (below_size (by repeat (first | (with_reducible first | exact HB.out | apply below_alloc | apply pw_below_drewN | apply below_drew1) | exact HB.out))) : w.heap.size ≤ gb579)); clear HB; have HB := n0_; have BK579 := n1_; have GW579 := n2_; have GE579 := n3_; clear n0_ n1_ n2_ n3_; clear hb hbox hg) | ((with_reducible refine gate_dst (N := 3) rfl ?_); refine box_event ?hg (N := 3) ?hd (cs := #[.int .i64 0, .int .i64 0]) (t := 24) ?hr ?_; (case hd => rfl); (case hg => rfl); (case hr => first | (go_simp; done) | (go_simp; rfl)); intro gb580 hg w7 hbox hb; have n0_ := Aside0.mk (blk_below (g := gb579) (o := .cells #[.int .i64 0, .int .i64 0] 24 (0, 0)) (by (with_reducible repeat (first | refine blk_drewN ?_ _ | refine blk_drew ?_ | refine blk_alloc ?_ _)); exact BK579.out) hb); have n1_ := Aside0.mk (below_step (by repeat (first | (with_reducible first | exact HB.out | apply below_alloc | apply pw_below_drewN | apply below_drew1 | refine below_set ?_ GE579.out) | exact HB.out)) hb); have n2_ := Aside0.mk (hbox); have n3_ := Aside0.mk ((by rw [hg]; exact (below_size (by repeat (first | (with_reducible first | exact HB.out | apply below_alloc | apply pw_below_drewN | apply below_drew1 | refine below_set ?_ GE579.out) | exact HB.out))) : w.heap.size ≤ gb580)); have n4_ := Aside0.mk ((by rw [hg]; exact (below_size (by repeat (first | (with_reducible first | exact HB.out | apply below_alloc | apply pw_below_drewN | apply below_drew1 | refine below_set ?_ GE579.out) | exact HB.out))) : w.heap.size ≤ gb580)); have n5_ := Aside0.mk ((by rw [hg]; exact Nat.ne_of_lt (blk_lt (g := gb579) (o := .cells #[.int .i64 0, .int .i64 0] 24 (0, 0)) (by (with_reducible repeat (first | refine blk_drewN ?_ _ | refine blk_drew ?_ | refine blk_alloc ?_ _)); exact BK579.out)) : gb579 ≠ gb580)); have n6_ := Aside0.mk ((by rw [hg]; exact Nat.ne_of_gt (blk_lt (g := gb579) (o := .cells #[.int .i64 0, .int .i64 0] 24 (0, 0)) (by (with_reducible repeat (first | refine blk_drewN ?_ _ | refine blk_drew ?_ | refine blk_alloc ?_ _)); exact BK579.out)) : gb580 ≠ gb579)); clear BK579; clear HB; have BK579 := n0_; have HB := n1_; have BK580 := n2_; have GW580 := n3_; have GE580 := n4_; have NB579_580 := n5_; have NB580_579 := n6_; clear n0_ n1_ n2_ n3_ n4_ n5_ n6_; clear hb hbox hg) | ((with_reducible refine gate_callee (f := 66) rfl ?_); refine goesL_ (some 8) rfl rfl Try.func66 (by kernel_rfl) rfl #[.slice A0 l0.length c0] rfl (by (try simp only [List.map_toArray, List.map_cons, List.map_nil]); first | done | rfl | (simp only [List.length_drop, List.length_take]; rfl)) ?_; (with_reducible refine (spec_l20Open.calls _ _ l0 t581 t582 w _ ?side1 ?side2 ?side3 A2.out).mono ?_); (case side1 => repeat (first | (with_reducible first | exact HB.out | apply below_alloc | apply pw_below_drewN | apply below_drew1 | refine below_set ?_ GE579.out | refine below_set ?_ GE580.out) | exact HB.out)); (case side2 => exact HR0.out); (case side3 => exact HC0.out); rintro e w8 ⟨g583, rfl, hi, hb, hb2⟩; refine ⟨_, rfl, ?_⟩; have n0_ := Aside0.mk (blk_below (g := gb579) (o := .cells #[.int .i64 0, .int .i64 0] 24 (0, 0)) (by (with_reducible repeat (first | refine blk_drewN ?_ _ | refine blk_drew ?_ | refine blk_alloc ?_ _)); exact BK579.out) hb2); have n1_ := Aside0.mk (blk_below (g := gb580) (o := .cells #[.int .i64 0, .int .i64 0] 24 (0, 0)) (by (with_reducible repeat (first | refine blk_drewN ?_ _ | refine blk_drew ?_ | refine blk_alloc ?_ _)); exact BK580.out) hb2); have n2_ := Aside0.mk (hb); have n3_ := Aside0.mk (hi); have n4_ := Aside0.mk (IsS115.ne_blk hi (blk_below (g := gb579) (o := .cells #[.int .i64 0, .int .i64 0] 24 (0, 0)) (by (with_reducible repeat (first | refine blk_drewN ?_ _ | refine blk_drew ?_ | refine blk_alloc ?_ _)); exact BK579.out) hb2) (by decide)); have n5_ := Aside0.mk (Ne.symm (IsS115.ne_blk hi (blk_below (g := gb579) (o := .cells #[.int .i64 0, .int .i64 0] 24 (0, 0)) (by (with_reducible repeat (first | refine blk_drewN ?_ _ | refine blk_drew ?_ | refine blk_alloc ?_ _)); exact BK579.out) hb2) (by decide))); have n6_ := Aside0.mk (IsS115.ne_blk hi (blk_below (g := gb580) (o := .cells #[.int .i64 0, .int .i64 0] 24 (0, 0)) (by (with_reducible repeat (first | refine blk_drewN ?_ _ | refine blk_drew ?_ | refine blk_alloc ?_ _)); exact BK580.out) hb2) (by decide)); have n7_ := Aside0.mk (Ne.symm (IsS115.ne_blk hi (blk_below (g := gb580) (o := .cells #[.int .i64 0, .int .i64 0] 24 (0, 0)) (by (with_reducible repeat (first | refine blk_drewN ?_ _ | refine blk_drew ?_ | refine blk_alloc ?_ _)); exact BK580.out) hb2) (by decide))); clear BK579; clear BK580; clear HB; have BK579 := n0_; have BK580 := n1_; have HB := n2_; have HI583 := n3_; have NB583_579 := n4_; have NB579_583 := n5_; have NB583_580 := n6_; have NB580_583 := n7_; clear n0_ n1_ n2_ n3_ n4_ n5_ n6_ n7_; (try clear hb); (try clear hb2); (try clear hk); (try clear hi)) | ((with_reducible refine gate_callee (f := 78) rfl ?_); refine goesL_ (some 10) rfl rfl Try.func78 (by kernel_rfl) rfl #[.pointer (some ⟨g583, 0, none⟩), .int .i64 16] rfl (by (try simp only [List.map_toArray, List.map_cons, List.map_nil]); first | done | rfl | (simp only [List.length_drop, List.length_take]; rfl)) ?_; (with_reducible refine (spec_l20Dec.calls k g583 t581 t582 16 t584 t585 t586 w _ ?side1 ?side2 A3.out).mono ?_); (case side1 => repeat (first | (with_reducible first | exact HI583.out | apply IsS115.alloc | apply IsS115.drewN | apply IsS115.drew | apply IsS115.set_1 | refine IsS115.far ?_ NB583_579.out _ | refine IsS115.far ?_ NB583_580.out _) | exact HI583.out)); (case side2 => repeat (first | (with_reducible first | exact HB.out | apply below_alloc | apply pw_below_drewN | apply below_drew1 | refine below_set ?_ (IsS115.ge HI583.out) | refine below_set ?_ GE579.out | refine below_set ?_ GE580.out) | exact HB.out)); rintro e w9 ⟨rfl, hi, hb, hk⟩; refine ⟨_, rfl, ?_⟩; have n0_ := Aside0.mk (KeepBut.blk hk (g' := gb579) (o := .cells #[.int .i64 0, .int .i64 0] 24 (0, 0)) (by (with_reducible repeat (first | refine blk_drewN ?_ _ | refine blk_drew ?_ | refine blk_alloc ?_ _)); exact BK579.out) NB579_583.out (by simp)); have n1_ := Aside0.mk (KeepBut.blk hk (g' := gb580) (o := .cells #[.int .i64 0, .int .i64 0] 24 (0, 0)) (by (with_reducible repeat (first | refine blk_drewN ?_ _ | refine blk_drew ?_ | refine blk_alloc ?_ _)); exact BK580.out) NB580_583.out (by simp)); have n2_ := Aside0.mk (hb); have n3_ := Aside0.mk (hi); clear BK579; clear BK580; clear HB; clear HI583; have BK579 := n0_; have BK580 := n1_; have HB := n2_; have HI583 := n3_; clear n0_ n1_ n2_ n3_; (try clear hb); (try clear hb2); (try clear hk); (try clear hi)) | ((with_reducible refine gate_dst (N := 5) rfl ?_); refine box_event ?hg (N := 5) ?hd (cs := #[.int .i64 0, .int .i64 0]) (t := 24) ?hr ?_; (case hd => rfl); (case hg => rfl); (case hr => first | (go_simp; done) | (go_simp; rfl)); intro gb587 hg w10 hbox hb; have n0_ := Aside0.mk (blk_below (g := gb579) (o := .cells #[.int .i64 0, .int .i64 0] 24 (0, 0)) (by (with_reducible repeat (first | refine blk_drewN ?_ _ | refine blk_drew ?_ | refine blk_alloc ?_ _)); exact BK579.out) hb); have n1_ := Aside0.mk (blk_below (g := gb580) (o := .cells #[.int .i64 0, .int .i64 0] 24 (0, 0)) (by (with_reducible repeat (first | refine blk_drewN ?_ _ | refine blk_drew ?_ | refine blk_alloc ?_ _)); exact BK580.out) hb); have n2_ := Aside0.mk (IsS115.below (by repeat (first | (with_reducible first | exact HI583.out | apply IsS115.alloc | apply IsS115.drewN | apply IsS115.drew | apply IsS115.set_1 | refine IsS115.far ?_ NB583_579.out _ | refine IsS115.far ?_ NB583_580.out _) | exact HI583.out)) hb); have n3_ := Aside0.mk (below_step (by repeat (first | (with_reducible first | exact HB.out | apply below_alloc | apply pw_below_drewN | apply below_drew1 | refine below_set ?_ (IsS115.ge HI583.out) | refine below_set ?_ GE579.out | refine below_set ?_ GE580.out) | exact HB.out)) hb); have n4_ := Aside0.mk (hbox); have n5_ := Aside0.mk ((by rw [hg]; exact (below_size (by repeat (first | (with_reducible first | exact HB.out | apply below_alloc | apply pw_below_drewN | apply below_drew1 | refine below_set ?_ (IsS115.ge HI583.out) | refine below_set ?_ GE579.out | refine below_set ?_ GE580.out) | exact HB.out))) : w.heap.size ≤ gb587)); have n6_ := Aside0.mk ((by rw [hg]; exact (below_size (by repeat (first | (with_reducible first | exact HB.out | apply below_alloc | apply pw_below_drewN | apply below_drew1 | refine below_set ?_ (IsS115.ge HI583.out) | refine below_set ?_ GE579.out | refine below_set ?_ GE580.out) | exact HB.out))) : w.heap.size ≤ gb587)); have n7_ := Aside0.mk ((by rw [hg]; exact Nat.ne_of_lt (blk_lt (g := gb579) (o := .cells #[.int .i64 0, .int .i64 0] 24 (0, 0)) (by (with_reducible repeat (first | refine blk_drewN ?_ _ | refine blk_drew ?_ | refine blk_alloc ?_ _)); exact BK579.out)) : gb579 ≠ gb587)); have n8_ := Aside0.mk ((by rw [hg]; exact Nat.ne_of_gt (blk_lt (g := gb579) (o := .cells #[.int .i64 0, .int .i64 0] 24 (0, 0)) (by (with_reducible repeat (first | refine blk_drewN ?_ _ | refine blk_drew ?_ | refine blk_alloc ?_ _)); exact BK579.out)) : gb587 ≠ gb579)); have n9_ := Aside0.mk ((by rw [hg]; exact Nat.ne_of_lt (blk_lt (g := gb580) (o := .cells #[.int .i64 0, .int .i64 0] 24 (0, 0)) (by (with_reducible repeat (first | refine blk_drewN ?_ _ | refine blk_drew ?_ | refine blk_alloc ?_ _)); exact BK580.out)) : gb580 ≠ gb587)); have n10_ := Aside0.mk ((by rw [hg]; exact Nat.ne_of_gt (blk_lt (g := gb580) (o := .cells #[.int .i64 0, .int .i64 0] 24 (0, 0)) (by (with_reducible repeat (first | refine blk_drewN ?_ _ | refine blk_drew ?_ | refine blk_alloc ?_ _)); exact BK580.out)) : gb587 ≠ gb580)); have n11_ := Aside0.mk ((by rw [hg]; exact Nat.ne_of_lt (IsS115.lt (show IsS115 w _ g583 t581 t586 from by repeat (first | (with_reducible first | exact HI583.out | apply IsS115.alloc | apply IsS115.drewN | apply IsS115.drew | apply IsS115.set_1 | refine IsS115.far ?_ NB583_579.out _ | refine IsS115.far ?_ NB583_580.out _) | exact HI583.out))) : g583 ≠ gb587)); have n12_ := Aside0.mk ((by rw [hg]; exact Nat.ne_of_gt (IsS115.lt (show IsS115 w _ g583 t581 t586 from by repeat (first | (with_reducible first | exact HI583.out | apply IsS115.alloc | apply IsS115.drewN | apply IsS115.drew | apply IsS115.set_1 | refine IsS115.far ?_ NB583_579.out _ | refine IsS115.far ?_ NB583_580.out _) | exact HI583.out))) : gb587 ≠ g583)); clear BK579; clear BK580; clear HI583; clear HB; have BK579 := n0_; have BK580 := n1_; have HI583 := n2_; have HB := n3_; have BK587 := n4_; have GW587 := n5_; have GE587 := n6_; have NB579_587 := n7_; have NB587_579 := n8_; have NB580_587 := n9_; have NB587_580 := n10_; have NB583_587 := n11_; have NB587_583 := n12_; clear n0_ n1_ n2_ n3_ n4_ n5_ n6_ n7_ n8_ n9_ n10_ n11_ n12_; clear hb hbox hg; have hnb11 := NB587_579.out; have hnc11 := NB579_587.out; have hnb12 := NB587_580.out; have hnc12 := NB580_587.out; have hnb13 := NB587_583.out; have hnc13 := NB583_587.out; have hcz14_0 : w10.cell? ⟨gb587, 0, none⟩ = some (.int .i64 0) := (blk_cell BK587.out 0).trans rfl; have hcz14_1 : w10.cell? ⟨gb587, 1, none⟩ = some (.int .i64 0) := (blk_cell BK587.out 1).trans rfl; have hfz14_0 := blk_frozen BK587.out 0; have hfz14_1 := blk_frozen BK587.out 1) | ((with_reducible refine gate_callee (f := 78) rfl ?_); refine goesL_ (some 12) rfl rfl Try.func78 (by kernel_rfl) rfl #[.pointer (some ⟨g583, 0, none⟩), .int .i64 16] rfl (by (try simp only [List.map_toArray, List.map_cons, List.map_nil]); first | done | rfl | (simp only [List.length_drop, List.length_take]; rfl)) ?_; (with_reducible refine (spec_l20Dec.calls k g583 t581 t586 16 t588 t589 t590 w _ ?side1 ?side2 A4.out).mono ?_); (case side1 => repeat (first | (with_reducible first | exact HI583.out | apply IsS115.alloc | apply IsS115.drewN | apply IsS115.drew | apply IsS115.set_1 | refine IsS115.far ?_ NB583_579.out _ | refine IsS115.far ?_ NB583_580.out _ | refine IsS115.far ?_ NB583_587.out _) | exact HI583.out)); (case side2 => repeat (first | (with_reducible first | exact HB.out | apply below_alloc | apply pw_below_drewN | apply below_drew1 | refine below_set ?_ (IsS115.ge HI583.out) | refine below_set ?_ GE579.out | refine below_set ?_ GE580.out | refine below_set ?_ GE587.out) | exact HB.out)); rintro e w15 ⟨rfl, hi, hb, hk⟩; refine ⟨_, rfl, ?_⟩; have n0_ := Aside0.mk (KeepBut.blk hk (g' := gb579) (o := .cells #[.int .i64 0, .int .i64 0] 24 (0, 0)) (by (with_reducible repeat (first | refine blk_drewN ?_ _ | refine blk_drew ?_ | refine blk_alloc ?_ _)); refine blk_far ?_ NB579_587.out _; (with_reducible repeat (first | refine blk_drewN ?_ _ | refine blk_drew ?_ | refine blk_alloc ?_ _)); refine blk_far ?_ NB579_587.out _; (with_reducible repeat (first | refine blk_drewN ?_ _ | refine blk_drew ?_ | refine blk_alloc ?_ _)); exact BK579.out) NB579_583.out (by simp)); have n1_ := Aside0.mk (KeepBut.blk hk (g' := gb580) (o := .cells #[.int .i64 0, .int .i64 0] 24 (0, 0)) (by (with_reducible repeat (first | refine blk_drewN ?_ _ | refine blk_drew ?_ | refine blk_alloc ?_ _)); refine blk_far ?_ NB580_587.out _; (with_reducible repeat (first | refine blk_drewN ?_ _ | refine blk_drew ?_ | refine blk_alloc ?_ _)); refine blk_far ?_ NB580_587.out _; (with_reducible repeat (first | refine blk_drewN ?_ _ | refine blk_drew ?_ | refine blk_alloc ?_ _)); exact BK580.out) NB580_583.out (by simp)); have n2_ := Aside0.mk (KeepBut.blk hk (g' := gb587) (o := .cells #[.int .i64 t584, .int .i64 t585] 24 (0, 0)) (by (with_reducible repeat (first | refine blk_drewN ?_ _ | refine blk_drew ?_ | refine blk_alloc ?_ _)); refine blk_put (cs := #[.int .i64 t584, .int .i64 0]) ?_ 1 _ rfl; (with_reducible repeat (first | refine blk_drewN ?_ _ | refine blk_drew ?_ | refine blk_alloc ?_ _)); refine blk_put (cs := #[.int .i64 0, .int .i64 0]) ?_ 0 _ rfl; (with_reducible repeat (first | refine blk_drewN ?_ _ | refine blk_drew ?_ | refine blk_alloc ?_ _)); exact BK587.out) NB587_583.out (by simp)); have n3_ := Aside0.mk (hb); have n4_ := Aside0.mk (hi); clear BK579; clear BK580; clear BK587; clear HB; clear HI583; have BK579 := n0_; have BK580 := n1_; have BK587 := n2_; have HB := n3_; have HI583 := n4_; clear n0_ n1_ n2_ n3_ n4_; (try clear hb); (try clear hb2); (try clear hk); (try clear hi)) | ((with_reducible refine gate_dst (N := 6) rfl ?_); refine box_event ?hg (N := 6) ?hd (cs := #[.int .i64 0, .int .i64 0]) (t := 24) ?hr ?_; (case hd => rfl); (case hg => rfl); (case hr => first | (go_simp; done) | (go_simp; rfl)); intro gb591 hg w16 hbox hb; have n0_ := Aside0.mk (blk_below (g := gb579) (o := .cells #[.int .i64 0, .int .i64 0] 24 (0, 0)) (by (with_reducible repeat (first | refine blk_drewN ?_ _ | refine blk_drew ?_ | refine blk_alloc ?_ _)); exact BK579.out) hb); have n1_ := Aside0.mk (blk_below (g := gb580) (o := .cells #[.int .i64 0, .int .i64 0] 24 (0, 0)) (by (with_reducible repeat (first | refine blk_drewN ?_ _ | refine blk_drew ?_ | refine blk_alloc ?_ _)); exact BK580.out) hb); have n2_ := Aside0.mk (IsS115.below (by repeat (first | (with_reducible first | exact HI583.out | apply IsS115.alloc | apply IsS115.drewN | apply IsS115.drew | apply IsS115.set_1 | refine IsS115.far ?_ NB583_579.out _ | refine IsS115.far ?_ NB583_580.out _ | refine IsS115.far ?_ NB583_587.out _) | exact HI583.out)) hb); have n3_ := Aside0.mk (blk_below (g := gb587) (o := .cells #[.int .i64 t584, .int .i64 t585] 24 (0, 0)) (by (with_reducible repeat (first | refine blk_drewN ?_ _ | refine blk_drew ?_ | refine blk_alloc ?_ _)); exact BK587.out) hb); have n4_ := Aside0.mk (below_step (by repeat (first | (with_reducible first | exact HB.out | apply below_alloc | apply pw_below_drewN | apply below_drew1 | refine below_set ?_ (IsS115.ge HI583.out) | refine below_set ?_ GE579.out | refine below_set ?_ GE580.out | refine below_set ?_ GE587.out) | exact HB.out)) hb); have n5_ := Aside0.mk (hbox); have n6_ := Aside0.mk ((by rw [hg]; exact (below_size (by repeat (first | (with_reducible first | exact HB.out | apply below_alloc | apply pw_below_drewN | apply below_drew1 | refine below_set ?_ (IsS115.ge HI583.out) | refine below_set ?_ GE579.out | refine below_set ?_ GE580.out | refine below_set ?_ GE587.out) | exact HB.out))) : w.heap.size ≤ gb591)); have n7_ := Aside0.mk ((by rw [hg]; exact (below_size (by repeat (first | (with_reducible first | exact HB.out | apply below_alloc | apply pw_below_drewN | apply below_drew1 | refine below_set ?_ (IsS115.ge HI583.out) | refine below_set ?_ GE579.out | refine below_set ?_ GE580.out | refine below_set ?_ GE587.out) | exact HB.out))) : w.heap.size ≤ gb591)); have n8_ := Aside0.mk ((by rw [hg]; exact Nat.ne_of_lt (blk_lt (g := gb579) (o := .cells #[.int .i64 0, .int .i64 0] 24 (0, 0)) (by (with_reducible repeat (first | refine blk_drewN ?_ _ | refine blk_drew ?_ | refine blk_alloc ?_ _)); exact BK579.out)) : gb579 ≠ gb591)); have n9_ := Aside0.mk ((by rw [hg]; exact Nat.ne_of_gt (blk_lt (g := gb579) (o := .cells #[.int .i64 0, .int .i64 0] 24 (0, 0)) (by (with_reducible repeat (first | refine blk_drewN ?_ _ | refine blk_drew ?_ | refine blk_alloc ?_ _)); exact BK579.out)) : gb591 ≠ gb579)); have n10_ := Aside0.mk ((by rw [hg]; exact Nat.ne_of_lt (blk_lt (g := gb580) (o := .cells #[.int .i64 0, .int .i64 0] 24 (0, 0)) (by (with_reducible repeat (first | refine blk_drewN ?_ _ | refine blk_drew ?_ | refine blk_alloc ?_ _)); exact BK580.out)) : gb580 ≠ gb591)); have n11_ := Aside0.mk ((by rw [hg]; exact Nat.ne_of_gt (blk_lt (g := gb580) (o := .cells #[.int .i64 0, .int .i64 0] 24 (0, 0)) (by (with_reducible repeat (first | refine blk_drewN ?_ _ | refine blk_drew ?_ | refine blk_alloc ?_ _)); exact BK580.out)) : gb591 ≠ gb580)); have n12_ := Aside0.mk ((by rw [hg]; exact Nat.ne_of_lt (blk_lt (g := gb587) (o := .cells #[.int .i64 t584, .int .i64 t585] 24 (0, 0)) (by (with_reducible repeat (first | refine blk_drewN ?_ _ | refine blk_drew ?_ | refine blk_alloc ?_ _)); exact BK587.out)) : gb587 ≠ gb591)); have n13_ := Aside0.mk ((by rw [hg]; exact Nat.ne_of_gt (blk_lt (g := gb587) (o := .cells #[.int .i64 t584, .int .i64 t585] 24 (0, 0)) (by (with_reducible repeat (first | refine blk_drewN ?_ _ | refine blk_drew ?_ | refine blk_alloc ?_ _)); exact BK587.out)) : gb591 ≠ gb587)); have n14_ := Aside0.mk ((by rw [hg]; exact Nat.ne_of_lt (IsS115.lt (show IsS115 w _ g583 t581 t590 from by repeat (first | (with_reducible first | exact HI583.out | apply IsS115.alloc | apply IsS115.drewN | apply IsS115.drew | apply IsS115.set_1 | refine IsS115.far ?_ NB583_579.out _ | refine IsS115.far ?_ NB583_580.out _ | refine IsS115.far ?_ NB583_587.out _) | exact HI583.out))) : g583 ≠ gb591)); have n15_ := Aside0.mk ((by rw [hg]; exact Nat.ne_of_gt (IsS115.lt (show IsS115 w _ g583 t581 t590 from by repeat (first | (with_reducible first | exact HI583.out | apply IsS115.alloc | apply IsS115.drewN | apply IsS115.drew | apply IsS115.set_1 | refine IsS115.far ?_ NB583_579.out _ | refine IsS115.far ?_ NB583_580.out _ | refine IsS115.far ?_ NB583_587.out _) | exact HI583.out))) : gb591 ≠ g583)); clear BK579; clear BK580; clear HI583; clear BK587; clear HB; have BK579 := n0_; have BK580 := n1_; have HI583 := n2_; have BK587 := n3_; have HB := n4_; have BK591 := n5_; have GW591 := n6_; have GE591 := n7_; have NB579_591 := n8_; have NB591_579 := n9_; have NB580_591 := n10_; have NB591_580 := n11_; have NB587_591 := n12_; have NB591_587 := n13_; have NB583_591 := n14_; have NB591_583 := n15_; clear n0_ n1_ n2_ n3_ n4_ n5_ n6_ n7_ n8_ n9_ n10_ n11_ n12_ n13_ n14_ n15_; clear hb hbox hg; have hnb17 := NB591_579.out; have hnc17 := NB579_591.out; have hnb18 := NB591_580.out; have hnc18 := NB580_591.out; have hnb19 := NB591_587.out; have hnc19 := NB587_591.out; have hnb20 := NB591_583.out; have hnc20 := NB583_591.out; have hcz21_0 : w16.cell? ⟨gb591, 0, none⟩ = some (.int .i64 0) := (blk_cell BK591.out 0).trans rfl; have hcz21_1 : w16.cell? ⟨gb591, 1, none⟩ = some (.int .i64 0) := (blk_cell BK591.out 1).trans rfl; have hfz21_0 := blk_frozen BK591.out 0; have hfz21_1 := blk_frozen BK591.out 1))
  (try simp only [Act.put, List.setIfInBounds_toArray, List.set_cons_zero, List.set_cons_succ])
  go_cut [19] (fun v19 wc => ∃ (kq : Nat) (x19_4 : Bool) (x584001_4 : Int), v19 = .bool x19_4 ∧ Aside0 (spec_DrawDecCmp.j0 kq x19_4 t581 x584001_4 t584 t585 t588 t589 = some (r1, r2, r3, r4)) ∧ Aside0 (kq ≤ k) ∧ Aside0 (wc.heap[gb579]? = some (.cells #[.int .i64 0, .int .i64 0] 24 (0, 0))) ∧ Aside0 (wc.heap[gb580]? = some (.cells #[.int .i64 0, .int .i64 0] 24 (0, 0))) ∧ Aside0 (wc.heap[gb587]? = some (.cells #[.int .i64 t584, .int .i64 t585] 24 (0, 0))) ∧ Aside0 (wc.heap[gb591]? = some (.cells #[.int .i64 t588, .int .i64 t589] 24 (0, 0))) ∧ Aside0 (IsS115 w wc g583 t581 x584001_4) ∧ Aside0 (Below w.heap.size w wc))
  case first =>
    have H := HC5.out
    clear HC5
    replace H := Option.bind_eq_some_iff.mp H
    obtain ⟨⟨t592, t593⟩, A220, H⟩ := H
    replace H : (if t592 = 0 then ((spec_DecOk.f k t584 t585).bind fun t594 => (spec_DrawDecCmp.j0 k t594 t581 t593 t584 t585 t588 t589)) else (spec_DrawDecCmp.j0 k false t581 t593 t584 t585 t588 t589)) = some (r1, r2, r3, r4) := H
    have A22 := Aside0.mk A220
    clear A220
    by_cases c23 : t592 = 0
    · rw [if_pos c23] at H
      have c23b0 : (t592 == 0) = true := beq_iff_eq.mpr c23
      have c23b1 : (t592 != 0) = false := bne_eq_false_iff_eq.mpr c23
      clear c23
      (first | rw [c23b0] | (simp only [i64_w, i32_w]; rw [c23b0]) | skip)
      replace H := Option.bind_eq_some_iff.mp H
      obtain ⟨t594, A240, H⟩ := H
      replace H : (spec_DrawDecCmp.j0 k t594 t581 t593 t584 t585 t588 t589) = some (r1, r2, r3, r4) := H
      have A24 := Aside0.mk A240
      clear A240
      have H' := Aside0.mk H
      clear H
      go_wp2_with (first | ((with_reducible refine gate_callee (f := 68) rfl ?_); refine goesL_ (some 14) rfl rfl Try.func68 (by kernel_rfl) rfl #[.pointer (some ⟨g583, 0, none⟩), .int .i64 2] rfl (by (try simp only [List.map_toArray, List.map_cons, List.map_nil]); first | done | rfl | (simp only [List.length_drop, List.length_take]; rfl)) ?_; (with_reducible refine (spec_l20Rd_pick.calls k g583 t581 t590 2 t592 t593 w _ ?side1 ?side2 A22.out).mono ?_); (case side1 => repeat (first | (with_reducible first | exact HI583.out | apply IsS115.alloc | apply IsS115.drewN | apply IsS115.drew | apply IsS115.set_1 | refine IsS115.far ?_ NB583_579.out _ | refine IsS115.far ?_ NB583_580.out _ | refine IsS115.far ?_ NB583_587.out _ | refine IsS115.far ?_ NB583_591.out _) | exact HI583.out)); (case side2 => repeat (first | (with_reducible first | exact HB.out | apply below_alloc | apply pw_below_drewN | apply below_drew1 | refine below_set ?_ (IsS115.ge HI583.out) | refine below_set ?_ GE579.out | refine below_set ?_ GE580.out | refine below_set ?_ GE587.out | refine below_set ?_ GE591.out) | exact HB.out)); rintro e w25 ⟨rfl, hi, hb, hk⟩; refine ⟨_, rfl, ?_⟩; have n0_ := Aside0.mk (KeepBut.blk hk (g' := gb579) (o := .cells #[.int .i64 0, .int .i64 0] 24 (0, 0)) (by (with_reducible repeat (first | refine blk_drewN ?_ _ | refine blk_drew ?_ | refine blk_alloc ?_ _)); refine blk_far ?_ NB579_591.out _; (with_reducible repeat (first | refine blk_drewN ?_ _ | refine blk_drew ?_ | refine blk_alloc ?_ _)); refine blk_far ?_ NB579_591.out _; (with_reducible repeat (first | refine blk_drewN ?_ _ | refine blk_drew ?_ | refine blk_alloc ?_ _)); exact BK579.out) NB579_583.out (by simp)); have n1_ := Aside0.mk (KeepBut.blk hk (g' := gb580) (o := .cells #[.int .i64 0, .int .i64 0] 24 (0, 0)) (by (with_reducible repeat (first | refine blk_drewN ?_ _ | refine blk_drew ?_ | refine blk_alloc ?_ _)); refine blk_far ?_ NB580_591.out _; (with_reducible repeat (first | refine blk_drewN ?_ _ | refine blk_drew ?_ | refine blk_alloc ?_ _)); refine blk_far ?_ NB580_591.out _; (with_reducible repeat (first | refine blk_drewN ?_ _ | refine blk_drew ?_ | refine blk_alloc ?_ _)); exact BK580.out) NB580_583.out (by simp)); have n2_ := Aside0.mk (KeepBut.blk hk (g' := gb587) (o := .cells #[.int .i64 t584, .int .i64 t585] 24 (0, 0)) (by (with_reducible repeat (first | refine blk_drewN ?_ _ | refine blk_drew ?_ | refine blk_alloc ?_ _)); refine blk_far ?_ NB587_591.out _; (with_reducible repeat (first | refine blk_drewN ?_ _ | refine blk_drew ?_ | refine blk_alloc ?_ _)); refine blk_far ?_ NB587_591.out _; (with_reducible repeat (first | refine blk_drewN ?_ _ | refine blk_drew ?_ | refine blk_alloc ?_ _)); exact BK587.out) NB587_583.out (by simp)); have n3_ := Aside0.mk (KeepBut.blk hk (g' := gb591) (o := .cells #[.int .i64 t588, .int .i64 t589] 24 (0, 0)) (by (with_reducible repeat (first | refine blk_drewN ?_ _ | refine blk_drew ?_ | refine blk_alloc ?_ _)); refine blk_put (cs := #[.int .i64 t588, .int .i64 0]) ?_ 1 _ rfl; (with_reducible repeat (first | refine blk_drewN ?_ _ | refine blk_drew ?_ | refine blk_alloc ?_ _)); refine blk_put (cs := #[.int .i64 0, .int .i64 0]) ?_ 0 _ rfl; (with_reducible repeat (first | refine blk_drewN ?_ _ | refine blk_drew ?_ | refine blk_alloc ?_ _)); exact BK591.out) NB591_583.out (by simp)); have n4_ := Aside0.mk (hb); have n5_ := Aside0.mk (hi); clear BK579; clear BK580; clear BK587; clear BK591; clear HB; clear HI583; have BK579 := n0_; have BK580 := n1_; have BK587 := n2_; have BK591 := n3_; have HB := n4_; have HI583 := n5_; clear n0_ n1_ n2_ n3_ n4_ n5_; (try clear hb); (try clear hb2); (try clear hk); (try clear hi); have hnb26 := NB587_579.out; have hnc26 := NB579_587.out; have hnb27 := NB587_580.out; have hnc27 := NB580_587.out; have hnb28 := NB587_591.out; have hnc28 := NB591_587.out; have hnb29 := NB587_583.out; have hnc29 := NB583_587.out; have hcz30_0 : w25.cell? ⟨gb587, 0, none⟩ = some (.int .i64 t584) := (blk_cell BK587.out 0).trans rfl; have hcz30_1 : w25.cell? ⟨gb587, 1, none⟩ = some (.int .i64 t585) := (blk_cell BK587.out 1).trans rfl; have hfz30_0 := blk_frozen BK587.out 0; have hfz30_1 := blk_frozen BK587.out 1) | (go_at_call 51; (with_reducible refine (spec_DecOk.calls k t584 t585 t594 _ A24.out).mono ?_); rintro e w31 ⟨rfl, hb⟩; have n0_ := Aside0.mk (blk_below (g := gb579) (o := .cells #[.int .i64 0, .int .i64 0] 24 (0, 0)) (by (with_reducible repeat (first | refine blk_drewN ?_ _ | refine blk_drew ?_ | refine blk_alloc ?_ _)); exact BK579.out) hb); have n1_ := Aside0.mk (blk_below (g := gb580) (o := .cells #[.int .i64 0, .int .i64 0] 24 (0, 0)) (by (with_reducible repeat (first | refine blk_drewN ?_ _ | refine blk_drew ?_ | refine blk_alloc ?_ _)); exact BK580.out) hb); have n2_ := Aside0.mk (IsS115.below (by repeat (first | (with_reducible first | exact HI583.out | apply IsS115.alloc | apply IsS115.drewN | apply IsS115.drew | apply IsS115.set_1 | refine IsS115.far ?_ NB583_579.out _ | refine IsS115.far ?_ NB583_580.out _ | refine IsS115.far ?_ NB583_587.out _ | refine IsS115.far ?_ NB583_591.out _) | exact HI583.out)) hb); have n3_ := Aside0.mk (blk_below (g := gb587) (o := .cells #[.int .i64 t584, .int .i64 t585] 24 (0, 0)) (by (with_reducible repeat (first | refine blk_drewN ?_ _ | refine blk_drew ?_ | refine blk_alloc ?_ _)); exact BK587.out) hb); have n4_ := Aside0.mk (blk_below (g := gb591) (o := .cells #[.int .i64 t588, .int .i64 t589] 24 (0, 0)) (by (with_reducible repeat (first | refine blk_drewN ?_ _ | refine blk_drew ?_ | refine blk_alloc ?_ _)); exact BK591.out) hb); have n5_ := Aside0.mk (below_step (by repeat (first | (with_reducible first | exact HB.out | apply below_alloc | apply pw_below_drewN | apply below_drew1 | refine below_set ?_ (IsS115.ge HI583.out) | refine below_set ?_ GE579.out | refine below_set ?_ GE580.out | refine below_set ?_ GE587.out | refine below_set ?_ GE591.out) | exact HB.out)) hb); clear BK579; clear BK580; clear HI583; clear BK587; clear BK591; clear HB; have BK579 := n0_; have BK580 := n1_; have HI583 := n2_; have BK587 := n3_; have BK591 := n4_; have HB := n5_; clear n0_ n1_ n2_ n3_ n4_ n5_; (try clear hb); (try clear hb2); (try clear hk); (try clear hi)))
      go_meet
      case rel => exact ⟨_, (t594), (t593), (by first | rfl | (simp; done) | (simp [*]; done)), H', ⟨by first | omega | exact Nat.le_refl _⟩, ⟨by (with_reducible repeat (first | refine blk_drewN ?_ _ | refine blk_drew ?_ | refine blk_alloc ?_ _)); exact BK579.out⟩, ⟨by (with_reducible repeat (first | refine blk_drewN ?_ _ | refine blk_drew ?_ | refine blk_alloc ?_ _)); exact BK580.out⟩, ⟨by (with_reducible repeat (first | refine blk_drewN ?_ _ | refine blk_drew ?_ | refine blk_alloc ?_ _)); exact BK587.out⟩, ⟨by (with_reducible repeat (first | refine blk_drewN ?_ _ | refine blk_drew ?_ | refine blk_alloc ?_ _)); exact BK591.out⟩, ⟨by repeat (first | (with_reducible first | exact HI583.out | apply IsS115.alloc | apply IsS115.drewN | apply IsS115.drew | apply IsS115.set_1 | refine IsS115.far ?_ NB583_579.out _ | refine IsS115.far ?_ NB583_580.out _ | refine IsS115.far ?_ NB583_587.out _ | refine IsS115.far ?_ NB583_591.out _) | exact HI583.out)⟩, ⟨by repeat (first | (with_reducible first | exact HB.out | apply below_alloc | apply pw_below_drewN | apply below_drew1 | refine below_set ?_ (IsS115.ge HI583.out) | refine below_set ?_ GE579.out | refine below_set ?_ GE580.out | refine below_set ?_ GE587.out | refine below_set ?_ GE591.out) | exact HB.out)⟩⟩
    · rw [if_neg c23] at H
      have c23b0 : (t592 == 0) = false := beq_eq_false_iff_ne.mpr c23
      have c23b1 : (t592 != 0) = true := bne_iff_ne.mpr c23
      (first | rw [c23b0] | (simp only [i64_w, i32_w]; rw [c23b0]) | skip)
      have H' := Aside0.mk H
      clear H
      go_wp2_with (first | ((with_reducible refine gate_callee (f := 68) rfl ?_); refine goesL_ (some 14) rfl rfl Try.func68 (by kernel_rfl) rfl #[.pointer (some ⟨g583, 0, none⟩), .int .i64 2] rfl (by (try simp only [List.map_toArray, List.map_cons, List.map_nil]); first | done | rfl | (simp only [List.length_drop, List.length_take]; rfl)) ?_; (with_reducible refine (spec_l20Rd_pick.calls k g583 t581 t590 2 t592 t593 w _ ?side1 ?side2 A22.out).mono ?_); (case side1 => repeat (first | (with_reducible first | exact HI583.out | apply IsS115.alloc | apply IsS115.drewN | apply IsS115.drew | apply IsS115.set_1 | refine IsS115.far ?_ NB583_579.out _ | refine IsS115.far ?_ NB583_580.out _ | refine IsS115.far ?_ NB583_587.out _ | refine IsS115.far ?_ NB583_591.out _) | exact HI583.out)); (case side2 => repeat (first | (with_reducible first | exact HB.out | apply below_alloc | apply pw_below_drewN | apply below_drew1 | refine below_set ?_ (IsS115.ge HI583.out) | refine below_set ?_ GE579.out | refine below_set ?_ GE580.out | refine below_set ?_ GE587.out | refine below_set ?_ GE591.out) | exact HB.out)); rintro e w32 ⟨rfl, hi, hb, hk⟩; refine ⟨_, rfl, ?_⟩; have n0_ := Aside0.mk (KeepBut.blk hk (g' := gb579) (o := .cells #[.int .i64 0, .int .i64 0] 24 (0, 0)) (by (with_reducible repeat (first | refine blk_drewN ?_ _ | refine blk_drew ?_ | refine blk_alloc ?_ _)); refine blk_far ?_ NB579_591.out _; (with_reducible repeat (first | refine blk_drewN ?_ _ | refine blk_drew ?_ | refine blk_alloc ?_ _)); refine blk_far ?_ NB579_591.out _; (with_reducible repeat (first | refine blk_drewN ?_ _ | refine blk_drew ?_ | refine blk_alloc ?_ _)); exact BK579.out) NB579_583.out (by simp)); have n1_ := Aside0.mk (KeepBut.blk hk (g' := gb580) (o := .cells #[.int .i64 0, .int .i64 0] 24 (0, 0)) (by (with_reducible repeat (first | refine blk_drewN ?_ _ | refine blk_drew ?_ | refine blk_alloc ?_ _)); refine blk_far ?_ NB580_591.out _; (with_reducible repeat (first | refine blk_drewN ?_ _ | refine blk_drew ?_ | refine blk_alloc ?_ _)); refine blk_far ?_ NB580_591.out _; (with_reducible repeat (first | refine blk_drewN ?_ _ | refine blk_drew ?_ | refine blk_alloc ?_ _)); exact BK580.out) NB580_583.out (by simp)); have n2_ := Aside0.mk (KeepBut.blk hk (g' := gb587) (o := .cells #[.int .i64 t584, .int .i64 t585] 24 (0, 0)) (by (with_reducible repeat (first | refine blk_drewN ?_ _ | refine blk_drew ?_ | refine blk_alloc ?_ _)); refine blk_far ?_ NB587_591.out _; (with_reducible repeat (first | refine blk_drewN ?_ _ | refine blk_drew ?_ | refine blk_alloc ?_ _)); refine blk_far ?_ NB587_591.out _; (with_reducible repeat (first | refine blk_drewN ?_ _ | refine blk_drew ?_ | refine blk_alloc ?_ _)); exact BK587.out) NB587_583.out (by simp)); have n3_ := Aside0.mk (KeepBut.blk hk (g' := gb591) (o := .cells #[.int .i64 t588, .int .i64 t589] 24 (0, 0)) (by (with_reducible repeat (first | refine blk_drewN ?_ _ | refine blk_drew ?_ | refine blk_alloc ?_ _)); refine blk_put (cs := #[.int .i64 t588, .int .i64 0]) ?_ 1 _ rfl; (with_reducible repeat (first | refine blk_drewN ?_ _ | refine blk_drew ?_ | refine blk_alloc ?_ _)); refine blk_put (cs := #[.int .i64 0, .int .i64 0]) ?_ 0 _ rfl; (with_reducible repeat (first | refine blk_drewN ?_ _ | refine blk_drew ?_ | refine blk_alloc ?_ _)); exact BK591.out) NB591_583.out (by simp)); have n4_ := Aside0.mk (hb); have n5_ := Aside0.mk (hi); clear BK579; clear BK580; clear BK587; clear BK591; clear HB; clear HI583; have BK579 := n0_; have BK580 := n1_; have BK587 := n2_; have BK591 := n3_; have HB := n4_; have HI583 := n5_; clear n0_ n1_ n2_ n3_ n4_ n5_; (try clear hb); (try clear hb2); (try clear hk); (try clear hi)))
      go_meet
      case rel => exact ⟨_, (false), (t593), (by first | rfl | (simp; done) | (simp [*]; done)), H', ⟨by first | omega | exact Nat.le_refl _⟩, ⟨by (with_reducible repeat (first | refine blk_drewN ?_ _ | refine blk_drew ?_ | refine blk_alloc ?_ _)); exact BK579.out⟩, ⟨by (with_reducible repeat (first | refine blk_drewN ?_ _ | refine blk_drew ?_ | refine blk_alloc ?_ _)); exact BK580.out⟩, ⟨by (with_reducible repeat (first | refine blk_drewN ?_ _ | refine blk_drew ?_ | refine blk_alloc ?_ _)); exact BK587.out⟩, ⟨by (with_reducible repeat (first | refine blk_drewN ?_ _ | refine blk_drew ?_ | refine blk_alloc ?_ _)); exact BK591.out⟩, ⟨by repeat (first | (with_reducible first | exact HI583.out | apply IsS115.alloc | apply IsS115.drewN | apply IsS115.drew | apply IsS115.set_1 | refine IsS115.far ?_ NB583_579.out _ | refine IsS115.far ?_ NB583_580.out _ | refine IsS115.far ?_ NB583_587.out _ | refine IsS115.far ?_ NB583_591.out _) | exact HI583.out)⟩, ⟨by repeat (first | (with_reducible first | exact HB.out | apply below_alloc | apply pw_below_drewN | apply below_drew1 | refine below_set ?_ (IsS115.ge HI583.out) | refine below_set ?_ GE579.out | refine below_set ?_ GE580.out | refine below_set ?_ GE587.out | refine below_set ?_ GE591.out) | exact HB.out)⟩⟩
  case rest =>
    clear HC5
    try clear c1
    try clear c2
    try clear p2
    try clear c5
    try clear c6
    try clear c7
    try clear c11
    try clear c12
    try clear c13
    try clear c17
    try clear c18
    try clear c19
    try clear c20
    try clear c23
    try clear c23b0
    try clear c23b1
    try clear c26
    try clear c27
    try clear c28
    try clear c29
    try clear hcz14_0
    try clear hcz14_1
    try clear hcz21_0
    try clear hcz21_1
    try clear hcz30_0
    try clear hcz30_1
    try clear hfz14_0
    try clear hfz14_1
    try clear hfz21_0
    try clear hfz21_1
    try clear hfz30_0
    try clear hfz30_1
    obtain ⟨kq, x19_4, x584001_4, rfl, HA, HJ4, BK579, BK580, BK587, BK591, HI583, HB⟩ := hcut
    cases kq with
    | zero => exact absurd HA.out (by simp [spec_DrawDecCmp.j0])
    | succ kj4 =>
      have H := HA.out
      clear HA
      simp only [spec_DrawDecCmp.j0] at H
      by_cases c33 : x19_4 = true
      · subst c33
        have H1 : ((spec_l20Rd_pick.f kj4 t581 x584001_4 4).bind fun bt595 => ((spec_DecAt.f kj4 t584 t585 bt595.1).bind fun bt597 => ((spec_l20Rd_pick.f kj4 t581 bt595.2 3).bind fun bt599 => (some (t584, t585, wrap64 ((wrap64 (bt597.1 + bt599.1)) - 1), bt597.2))))) = some (r1, r2, r3, r4) := by rw [if_pos rfl] at H; exact H
        clear H
        have H := H1
        clear H1
        replace H := Option.bind_eq_some_iff.mp H
        obtain ⟨⟨t595, t596⟩, A340, H⟩ := H
        replace H : ((spec_DecAt.f kj4 t584 t585 t595).bind fun bt597 => ((spec_l20Rd_pick.f kj4 t581 t596 3).bind fun bt599 => (some (t584, t585, wrap64 ((wrap64 (bt597.1 + bt599.1)) - 1), bt597.2)))) = some (r1, r2, r3, r4) := H
        have A34 := Aside0.mk A340
        clear A340
        replace H := Option.bind_eq_some_iff.mp H
        obtain ⟨⟨t597, t598⟩, A350, H⟩ := H
        replace H : ((spec_l20Rd_pick.f kj4 t581 t596 3).bind fun bt599 => (some (t584, t585, wrap64 ((wrap64 (t597 + bt599.1)) - 1), t598))) = some (r1, r2, r3, r4) := H
        have A35 := Aside0.mk A350
        clear A350
        replace H := Option.bind_eq_some_iff.mp H
        obtain ⟨⟨t599, t600⟩, A360, H⟩ := H
        replace H : (some (t584, t585, wrap64 ((wrap64 (t597 + t599)) - 1), t598)) = some (r1, r2, r3, r4) := H
        have A36 := Aside0.mk A360
        clear A360
        simp only [Option.some.injEq, Prod.mk.injEq] at H
        obtain ⟨rfl, rfl, rfl, rfl⟩ := H
        try go_wp2
        have n0_ := Aside0.mk (blk_drew BK579.out)
        have n1_ := Aside0.mk (blk_drew BK580.out)
        have n2_ := Aside0.mk (blk_drew BK587.out)
        have n3_ := Aside0.mk (blk_drew BK591.out)
        have n4_ := Aside0.mk (IsS115.drew HI583.out)
        have n5_ := Aside0.mk (below_drew1 HB.out)
        clear BK579
        clear BK580
        clear BK587
        clear BK591
        clear HI583
        clear HB
        have BK579 := n0_
        have BK580 := n1_
        have BK587 := n2_
        have BK591 := n3_
        have HI583 := n4_
        have HB := n5_
        clear n0_ n1_ n2_ n3_ n4_ n5_
        refine start_ (n := 5) (S := fun w' => w'.cell? ⟨gb587, 0, none⟩ = some (.int .i64 t584) ∧ w'.cell? ⟨gb587, 1, none⟩ = some (.int .i64 t585)) (ds := []) #[false, false, false, false, false] (by kernel_rfl) rfl rfl ⟨(blk_cell BK587.out 0).trans rfl, (blk_cell BK587.out 1).trans rfl⟩ (fun hHeld => ?_)
        generalize wc.drew = w37 at BK579 BK580 BK587 BK591 HI583 HB hHeld ⊢
        refine pure_ (i := 1) (N := some 21) (v := ?_) (a' := ?_) #[false, true, false, false, false] rfl rfl (by kernel_rfl) (fun _ _ _ h => h) (Or.inl ⟨by rfl, ?_⟩) ?_ ?_
        rotate_left
        · intro w'
          go_simp
          with_reducible rfl
        rotate_left
        · simp only [Act.put, List.setIfInBounds_toArray, List.set_cons_zero, List.set_cons_succ, i64_w, i32_w]
          rfl
        refine take_ (i := 0) (N := some 20) (v := ?_) (a' := ?_) #[true, true, false, false, false] rfl rfl (by kernel_rfl) (fun _ _ _ h => h) (Or.inl ⟨by rfl, ?_⟩) hHeld ?_ ?_
        rotate_left
        · rintro w' ⟨s0, s1⟩
          go_simp
          with_reducible rfl
        rotate_left
        · simp only [Act.put, List.setIfInBounds_toArray, List.set_cons_zero, List.set_cons_succ, i64_w, i32_w]
          rfl
        refine one_ (i := 2) (N := some 22) #[true, true, true, false, false] rfl rfl (by kernel_rfl) (by decide) (fun K hK => ?_)
        refine goes_ Try.func68 (by kernel_rfl) rfl #[.pointer (some ⟨g583, 0, none⟩), .int .i64 4] (by rfl) rfl rfl (by (try simp only [List.map_toArray, List.map_cons, List.map_nil]); first | done | rfl | (simp only [List.length_drop, List.length_take]; rfl)) ?_
        with_reducible refine (spec_l20Rd_pick.calls kj4 g583 t581 x584001_4 4 t595 t596 w _ ?side1 ?side2 A34.out).mono ?_
        (case side1 => repeat (first | (with_reducible first | exact HI583.out | apply IsS115.alloc | apply IsS115.drewN | apply IsS115.drew | apply IsS115.set_1 | refine IsS115.far ?_ NB583_579.out _ | refine IsS115.far ?_ NB583_580.out _ | refine IsS115.far ?_ NB583_587.out _ | refine IsS115.far ?_ NB583_591.out _) | exact HI583.out))
        (case side2 => repeat (first | (with_reducible first | exact HB.out | apply below_alloc | apply pw_below_drewN | apply below_drew1 | refine below_set ?_ (IsS115.ge HI583.out) | refine below_set ?_ GE579.out | refine below_set ?_ GE580.out | refine below_set ?_ GE587.out | refine below_set ?_ GE591.out) | exact HB.out))
        rintro e w38 ⟨rfl, hi, hb, hk⟩
        refine ⟨_, rfl, ?_⟩
        have n0_ := Aside0.mk (KeepBut.blk hk (g' := gb579) (o := .cells #[.int .i64 0, .int .i64 0] 24 (0, 0)) (by (with_reducible repeat (first | refine blk_drewN ?_ _ | refine blk_drew ?_ | refine blk_alloc ?_ _)); exact BK579.out) NB579_583.out (by simp))
        have n1_ := Aside0.mk (KeepBut.blk hk (g' := gb580) (o := .cells #[.int .i64 0, .int .i64 0] 24 (0, 0)) (by (with_reducible repeat (first | refine blk_drewN ?_ _ | refine blk_drew ?_ | refine blk_alloc ?_ _)); exact BK580.out) NB580_583.out (by simp))
        have n2_ := Aside0.mk (KeepBut.blk hk (g' := gb587) (o := .cells #[.int .i64 t584, .int .i64 t585] 24 (0, 0)) (by (with_reducible repeat (first | refine blk_drewN ?_ _ | refine blk_drew ?_ | refine blk_alloc ?_ _)); exact BK587.out) NB587_583.out (by simp))
        have n3_ := Aside0.mk (KeepBut.blk hk (g' := gb591) (o := .cells #[.int .i64 t588, .int .i64 t589] 24 (0, 0)) (by (with_reducible repeat (first | refine blk_drewN ?_ _ | refine blk_drew ?_ | refine blk_alloc ?_ _)); exact BK591.out) NB591_583.out (by simp))
        have n4_ := Aside0.mk (hb)
        have n5_ := Aside0.mk (hi)
        clear BK579
        clear BK580
        clear BK587
        clear BK591
        clear HB
        clear HI583
        have BK579 := n0_
        have BK580 := n1_
        have BK587 := n2_
        have BK591 := n3_
        have HB := n4_
        have HI583 := n5_
        clear n0_ n1_ n2_ n3_ n4_ n5_
        (try clear hb)
        (try clear hb2)
        (try clear hk)
        (try clear hi)
        refine hK.out _ _ ⟨(blk_cell BK587.out 0).trans rfl, (blk_cell BK587.out 1).trans rfl⟩ (fun hHeld => ?_)
        clear hK K
        refine norm_ (a' := ?_) ?_ ?_
        rotate_left
        · show Act.put _ (some 22) _ = _
          simp only [Act.put, List.setIfInBounds_toArray, List.set_cons_zero, List.set_cons_succ, i64_w, i32_w]
          rfl
        refine one_ (i := 3) (N := some 23) #[true, true, true, true, false] rfl rfl (by kernel_rfl) (by decide) (fun K hK => ?_)
        refine goes_ Try.func15 (by kernel_rfl) rfl #[.agg #[.int .i64 t584, .int .i64 t585], .int .i64 t595] (by rfl) rfl rfl (by (try simp only [List.map_toArray, List.map_cons, List.map_nil]); first | done | rfl | (simp only [List.length_drop, List.length_take]; rfl)) ?_
        with_reducible refine (spec_DecAt.calls kj4 t584 t585 t595 t597 t598 _ A35.out).mono ?_
        rintro e w39 ⟨rfl, hb⟩
        refine ⟨_, rfl, ?_⟩
        have n0_ := Aside0.mk (blk_below (g := gb579) (o := .cells #[.int .i64 0, .int .i64 0] 24 (0, 0)) (by (with_reducible repeat (first | refine blk_drewN ?_ _ | refine blk_drew ?_ | refine blk_alloc ?_ _)); exact BK579.out) hb)
        have n1_ := Aside0.mk (blk_below (g := gb580) (o := .cells #[.int .i64 0, .int .i64 0] 24 (0, 0)) (by (with_reducible repeat (first | refine blk_drewN ?_ _ | refine blk_drew ?_ | refine blk_alloc ?_ _)); exact BK580.out) hb)
        have n2_ := Aside0.mk (blk_below (g := gb587) (o := .cells #[.int .i64 t584, .int .i64 t585] 24 (0, 0)) (by (with_reducible repeat (first | refine blk_drewN ?_ _ | refine blk_drew ?_ | refine blk_alloc ?_ _)); exact BK587.out) hb)
        have n3_ := Aside0.mk (blk_below (g := gb591) (o := .cells #[.int .i64 t588, .int .i64 t589] 24 (0, 0)) (by (with_reducible repeat (first | refine blk_drewN ?_ _ | refine blk_drew ?_ | refine blk_alloc ?_ _)); exact BK591.out) hb)
        have n4_ := Aside0.mk (IsS115.below (by repeat (first | (with_reducible first | exact HI583.out | apply IsS115.alloc | apply IsS115.drewN | apply IsS115.drew | apply IsS115.set_1 | refine IsS115.far ?_ NB583_579.out _ | refine IsS115.far ?_ NB583_580.out _ | refine IsS115.far ?_ NB583_587.out _ | refine IsS115.far ?_ NB583_591.out _) | exact HI583.out)) hb)
        have n5_ := Aside0.mk (below_step (by repeat (first | (with_reducible first | exact HB.out | apply below_alloc | apply pw_below_drewN | apply below_drew1 | refine below_set ?_ (IsS115.ge HI583.out) | refine below_set ?_ GE579.out | refine below_set ?_ GE580.out | refine below_set ?_ GE587.out | refine below_set ?_ GE591.out) | exact HB.out)) hb)
        clear BK579
        clear BK580
        clear BK587
        clear BK591
        clear HI583
        clear HB
        have BK579 := n0_
        have BK580 := n1_
        have BK587 := n2_
        have BK591 := n3_
        have HI583 := n4_
        have HB := n5_
        clear n0_ n1_ n2_ n3_ n4_ n5_
        (try clear hb)
        (try clear hb2)
        (try clear hk)
        (try clear hi)
        refine hK.out _ _ ⟨(blk_cell BK587.out 0).trans rfl, (blk_cell BK587.out 1).trans rfl⟩ (fun hHeld => ?_)
        clear hK K
        refine norm_ (a' := ?_) ?_ ?_
        rotate_left
        · show Act.put _ (some 23) _ = _
          simp only [Act.put, List.setIfInBounds_toArray, List.set_cons_zero, List.set_cons_succ, i64_w, i32_w]
          rfl
        refine one_ (i := 4) (N := none) #[true, true, true, true, true] rfl rfl (by kernel_rfl) (by decide) (fun K hK => ?_)
        have hs40 : w39.cell? ⟨gb591, 0, none⟩ = some (.int .i64 t588) := (blk_cell BK591.out 0).trans rfl
        have hfs40 := blk_frozen BK591.out 0
        have hns40_0 := NB579_591.out
        have hns40_1 := NB580_591.out
        have hns40_2 := NB587_591.out
        have hms40_0 := NB591_579.out
        have hms40_1 := NB591_580.out
        have hms40_2 := NB591_587.out
        have hs41 : w39.cell? ⟨gb591, 1, none⟩ = some (.int .i64 t589) := (blk_cell BK591.out 1).trans rfl
        have hfs41 := blk_frozen BK591.out 1
        have hns41_0 := NB579_591.out
        have hns41_1 := NB580_591.out
        have hns41_2 := NB587_591.out
        have hms41_0 := NB591_579.out
        have hms41_1 := NB591_580.out
        have hms41_2 := NB591_587.out
        refine skip_ (w1 := ?_) (by rfl) rfl ?_ ?_
        rotate_left
        · go_simp
          rfl
        refine hK.out _ _ ⟨((cell_far (p := ⟨gb591, _, none⟩) NB587_591.out _).trans (((cell_far (p := ⟨gb591, _, none⟩) NB587_591.out _).trans (hHeld.1)))), ((cell_far (p := ⟨gb591, _, none⟩) NB587_591.out _).trans (((cell_far (p := ⟨gb591, _, none⟩) NB587_591.out _).trans (hHeld.2))))⟩ (fun hHeld => ?_)
        clear hK K
        refine done_ (by kernel_rfl) ?_
        try go_wp2
        have n0_ : Aside0 (((w39.setCell ⟨gb591, 0, none⟩ (.int .i64 t597)).setCell ⟨gb591, 1, none⟩ (.int .i64 t598)).heap[gb579]? = some (.cells #[.int .i64 0, .int .i64 0] 24 (0, 0))) := ⟨by (with_reducible repeat (first | refine blk_drewN ?_ _ | refine blk_drew ?_ | refine blk_alloc ?_ _)); refine blk_far ?_ NB579_591.out _; (with_reducible repeat (first | refine blk_drewN ?_ _ | refine blk_drew ?_ | refine blk_alloc ?_ _)); refine blk_far ?_ NB579_591.out _; (with_reducible repeat (first | refine blk_drewN ?_ _ | refine blk_drew ?_ | refine blk_alloc ?_ _)); exact BK579.out⟩
        have n1_ : Aside0 (((w39.setCell ⟨gb591, 0, none⟩ (.int .i64 t597)).setCell ⟨gb591, 1, none⟩ (.int .i64 t598)).heap[gb580]? = some (.cells #[.int .i64 0, .int .i64 0] 24 (0, 0))) := ⟨by (with_reducible repeat (first | refine blk_drewN ?_ _ | refine blk_drew ?_ | refine blk_alloc ?_ _)); refine blk_far ?_ NB580_591.out _; (with_reducible repeat (first | refine blk_drewN ?_ _ | refine blk_drew ?_ | refine blk_alloc ?_ _)); refine blk_far ?_ NB580_591.out _; (with_reducible repeat (first | refine blk_drewN ?_ _ | refine blk_drew ?_ | refine blk_alloc ?_ _)); exact BK580.out⟩
        have n2_ : Aside0 (((w39.setCell ⟨gb591, 0, none⟩ (.int .i64 t597)).setCell ⟨gb591, 1, none⟩ (.int .i64 t598)).heap[gb587]? = some (.cells #[.int .i64 t584, .int .i64 t585] 24 (0, 0))) := ⟨by (with_reducible repeat (first | refine blk_drewN ?_ _ | refine blk_drew ?_ | refine blk_alloc ?_ _)); refine blk_far ?_ NB587_591.out _; (with_reducible repeat (first | refine blk_drewN ?_ _ | refine blk_drew ?_ | refine blk_alloc ?_ _)); refine blk_far ?_ NB587_591.out _; (with_reducible repeat (first | refine blk_drewN ?_ _ | refine blk_drew ?_ | refine blk_alloc ?_ _)); exact BK587.out⟩
        have n3_ : Aside0 (((w39.setCell ⟨gb591, 0, none⟩ (.int .i64 t597)).setCell ⟨gb591, 1, none⟩ (.int .i64 t598)).heap[gb591]? = some (.cells #[.int .i64 t597, .int .i64 t598] 24 (0, 0))) := ⟨by (with_reducible repeat (first | refine blk_drewN ?_ _ | refine blk_drew ?_ | refine blk_alloc ?_ _)); refine blk_put (cs := #[.int .i64 t597, .int .i64 t589]) ?_ 1 _ rfl; (with_reducible repeat (first | refine blk_drewN ?_ _ | refine blk_drew ?_ | refine blk_alloc ?_ _)); refine blk_put (cs := #[.int .i64 t588, .int .i64 t589]) ?_ 0 _ rfl; (with_reducible repeat (first | refine blk_drewN ?_ _ | refine blk_drew ?_ | refine blk_alloc ?_ _)); exact BK591.out⟩
        have n4_ : Aside0 (IsS115 w ((w39.setCell ⟨gb591, 0, none⟩ (.int .i64 t597)).setCell ⟨gb591, 1, none⟩ (.int .i64 t598)) g583 t581 t596) := ⟨by repeat (first | (with_reducible first | exact HI583.out | apply IsS115.alloc | apply IsS115.drewN | apply IsS115.drew | apply IsS115.set_1 | refine IsS115.far ?_ NB583_579.out _ | refine IsS115.far ?_ NB583_580.out _ | refine IsS115.far ?_ NB583_587.out _ | refine IsS115.far ?_ NB583_591.out _) | exact HI583.out)⟩
        have n5_ : Aside0 (Below w.heap.size w ((w39.setCell ⟨gb591, 0, none⟩ (.int .i64 t597)).setCell ⟨gb591, 1, none⟩ (.int .i64 t598))) := ⟨by repeat (first | (with_reducible first | exact HB.out | apply below_alloc | apply pw_below_drewN | apply below_drew1 | refine below_set ?_ (IsS115.ge HI583.out) | refine below_set ?_ GE579.out | refine below_set ?_ GE580.out | refine below_set ?_ GE587.out | refine below_set ?_ GE591.out) | exact HB.out)⟩
        (try clear BK579)
        (try clear BK580)
        (try clear BK587)
        (try clear BK591)
        (try clear HI583)
        (try clear HB)
        generalize ((w39.setCell ⟨gb591, 0, none⟩ (.int .i64 t597)).setCell ⟨gb591, 1, none⟩ (.int .i64 t598)) = w42 at n0_ n1_ n2_ n3_ n4_ n5_ ⊢
        have BK579 := n0_
        have BK580 := n1_
        have BK587 := n2_
        have BK591 := n3_
        have HI583 := n4_
        have HB := n5_
        clear n0_ n1_ n2_ n3_ n4_ n5_
        have n0_ := Aside0.mk (blk_drew BK579.out)
        have n1_ := Aside0.mk (blk_drew BK580.out)
        have n2_ := Aside0.mk (blk_drew BK587.out)
        have n3_ := Aside0.mk (blk_drew BK591.out)
        have n4_ := Aside0.mk (IsS115.drew HI583.out)
        have n5_ := Aside0.mk (below_drew1 HB.out)
        clear BK579
        clear BK580
        clear BK587
        clear BK591
        clear HI583
        clear HB
        have BK579 := n0_
        have BK580 := n1_
        have BK587 := n2_
        have BK591 := n3_
        have HI583 := n4_
        have HB := n5_
        clear n0_ n1_ n2_ n3_ n4_ n5_
        refine start_ (n := 8) (S := fun w' => w'.cell? ⟨gb591, 0, none⟩ = some (.int .i64 t597) ∧ w'.cell? ⟨gb591, 1, none⟩ = some (.int .i64 t598)) (ds := [7]) #[false, false, false, false, false, false, false, false] (by kernel_rfl) rfl rfl ⟨(blk_cell BK591.out 0).trans rfl, (blk_cell BK591.out 1).trans rfl⟩ (fun hHeld => ?_); refine with_tabW spec_DrawDecCmp.tab6 spec_DrawDecCmp.bits6 (fun HT_ HW_ => ?_)
        generalize w42.drew = w43 at BK579 BK580 BK587 BK591 HI583 HB hHeld ⊢
        refine pure_ (i := 0) (N := some 24) (v := ?_) (a' := ?_) #[true, false, false, false, false, false, false, false] rfl rfl (any_of HT_.out (by kernel_rfl)) (fun _ _ _ h => h) (Or.inl ⟨by rfl, ?_⟩) ?_ ?_
        rotate_left
        · intro w'
          go_simp
          with_reducible rfl
        rotate_left
        · simp only [Act.put, List.setIfInBounds_toArray, List.set_cons_zero, List.set_cons_succ, i64_w, i32_w]
          rfl
        refine pure_ (i := 2) (N := some 26) (v := ?_) (a' := ?_) #[true, false, true, false, false, false, false, false] rfl rfl (any_of HT_.out (by kernel_rfl)) (fun _ _ _ h => h) (Or.inl ⟨by rfl, ?_⟩) ?_ ?_
        rotate_left
        · intro w'
          go_simp
          with_reducible rfl
        rotate_left
        · simp only [Act.put, List.setIfInBounds_toArray, List.set_cons_zero, List.set_cons_succ, i64_w, i32_w]
          rfl
        refine take_ (i := 1) (N := some 25) (v := ?_) (a' := ?_) #[true, true, true, false, false, false, false, false] rfl rfl (take_ofW HT_.out HW_.out (by kernel_rfl)) (fun _ _ _ h => h) (Or.inl ⟨by rfl, ?_⟩) hHeld ?_ ?_
        rotate_left
        · rintro w' ⟨s0, s1⟩
          go_simp
          with_reducible rfl
        rotate_left
        · simp only [Act.put, List.setIfInBounds_toArray, List.set_cons_zero, List.set_cons_succ, i64_w, i32_w]
          rfl
        refine one_ (i := 3) (N := some 27) #[true, true, true, true, false, false, false, false] rfl rfl (one_of HT_.out (by kernel_rfl)) (by decide) (fun K hK => ?_)
        refine goes_ Try.func68 (by kernel_rfl) rfl #[.pointer (some ⟨g583, 0, none⟩), .int .i64 3] (by rfl) rfl rfl (by (try simp only [List.map_toArray, List.map_cons, List.map_nil]); first | done | rfl | (simp only [List.length_drop, List.length_take]; rfl)) ?_
        with_reducible refine (spec_l20Rd_pick.calls kj4 g583 t581 t596 3 t599 t600 w _ ?side1 ?side2 A36.out).mono ?_
        (case side1 => repeat (first | (with_reducible first | exact HI583.out | apply IsS115.alloc | apply IsS115.drewN | apply IsS115.drew | apply IsS115.set_1 | refine IsS115.far ?_ NB583_579.out _ | refine IsS115.far ?_ NB583_580.out _ | refine IsS115.far ?_ NB583_587.out _ | refine IsS115.far ?_ NB583_591.out _) | exact HI583.out))
        (case side2 => repeat (first | (with_reducible first | exact HB.out | apply below_alloc | apply pw_below_drewN | apply below_drew1 | refine below_set ?_ (IsS115.ge HI583.out) | refine below_set ?_ GE579.out | refine below_set ?_ GE580.out | refine below_set ?_ GE587.out | refine below_set ?_ GE591.out) | exact HB.out))
        rintro e w44 ⟨rfl, hi, hb, hk⟩
        refine ⟨_, rfl, ?_⟩
        have n0_ := Aside0.mk (KeepBut.blk hk (g' := gb579) (o := .cells #[.int .i64 0, .int .i64 0] 24 (0, 0)) (by (with_reducible repeat (first | refine blk_drewN ?_ _ | refine blk_drew ?_ | refine blk_alloc ?_ _)); exact BK579.out) NB579_583.out (by simp))
        have n1_ := Aside0.mk (KeepBut.blk hk (g' := gb580) (o := .cells #[.int .i64 0, .int .i64 0] 24 (0, 0)) (by (with_reducible repeat (first | refine blk_drewN ?_ _ | refine blk_drew ?_ | refine blk_alloc ?_ _)); exact BK580.out) NB580_583.out (by simp))
        have n2_ := Aside0.mk (KeepBut.blk hk (g' := gb587) (o := .cells #[.int .i64 t584, .int .i64 t585] 24 (0, 0)) (by (with_reducible repeat (first | refine blk_drewN ?_ _ | refine blk_drew ?_ | refine blk_alloc ?_ _)); exact BK587.out) NB587_583.out (by simp))
        have n3_ := Aside0.mk (KeepBut.blk hk (g' := gb591) (o := .cells #[.int .i64 t597, .int .i64 t598] 24 (0, 0)) (by (with_reducible repeat (first | refine blk_drewN ?_ _ | refine blk_drew ?_ | refine blk_alloc ?_ _)); exact BK591.out) NB591_583.out (by simp))
        have n4_ := Aside0.mk (hb)
        have n5_ := Aside0.mk (hi)
        clear BK579
        clear BK580
        clear BK587
        clear BK591
        clear HB
        clear HI583
        have BK579 := n0_
        have BK580 := n1_
        have BK587 := n2_
        have BK591 := n3_
        have HB := n4_
        have HI583 := n5_
        clear n0_ n1_ n2_ n3_ n4_ n5_
        (try clear hb)
        (try clear hb2)
        (try clear hk)
        (try clear hi)
        refine hK.out _ _ ⟨(blk_cell BK591.out 0).trans rfl, (blk_cell BK591.out 1).trans rfl⟩ (fun hHeld => ?_)
        clear hK K
        refine norm_ (a' := ?_) ?_ ?_
        rotate_left
        · show Act.put _ (some 27) _ = _
          simp only [Act.put, List.setIfInBounds_toArray, List.set_cons_zero, List.set_cons_succ, i64_w, i32_w]
          rfl
        refine pure_ (i := 4) (N := some 28) (v := ?_) (a' := ?_) #[true, true, true, true, true, false, false, false] rfl rfl (any_of HT_.out (by kernel_rfl)) (fun _ _ _ h => h) (Or.inl ⟨by rfl, ?_⟩) ?_ ?_
        rotate_left
        · intro w'
          go_simp
          with_reducible rfl
        rotate_left
        · simp only [Act.put, List.setIfInBounds_toArray, List.set_cons_zero, List.set_cons_succ, i64_w, i32_w]
          rfl
        refine pure_ (i := 5) (N := some 29) (v := ?_) (a' := ?_) #[true, true, true, true, true, true, false, false] rfl rfl (any_of HT_.out (by kernel_rfl)) (fun _ _ _ h => h) (Or.inl ⟨by rfl, ?_⟩) ?_ ?_
        rotate_left
        · intro w'
          go_simp
          with_reducible rfl
        rotate_left
        · simp only [Act.put, List.setIfInBounds_toArray, List.set_cons_zero, List.set_cons_succ, i64_w, i32_w]
          rfl
        refine pure_ (i := 6) (N := some 30) (v := ?_) (a' := ?_) #[true, true, true, true, true, true, true, false] rfl rfl (any_of HT_.out (by kernel_rfl)) (fun _ _ _ h => h) (Or.inl ⟨by rfl, ?_⟩) ?_ ?_
        rotate_left
        · intro w'
          go_simp
          with_reducible rfl
        rotate_left
        · simp only [Act.put, List.setIfInBounds_toArray, List.set_cons_zero, List.set_cons_succ, i64_w, i32_w]
          rfl
        refine last_ (i := 7) (N := none) #[true, true, true, true, true, true, true, true] rfl rfl (one_of HT_.out (by kernel_rfl)) (by decide) (fun K hK => ?_)
        have hs45 : w44.cell? ⟨gb591, 0, none⟩ = some (.int .i64 t597) := (blk_cell BK591.out 0).trans rfl
        have hfs45 := blk_frozen BK591.out 0
        have hns45_0 := NB579_591.out
        have hns45_1 := NB580_591.out
        have hns45_2 := NB587_591.out
        have hms45_0 := NB591_579.out
        have hms45_1 := NB591_580.out
        have hms45_2 := NB591_587.out
        refine skip_ (w1 := ?_) (by rfl) rfl ?_ ?_
        rotate_left
        · go_simp
          rfl
        refine hK.out _ _ ?_
        clear hK K
        refine done_ (done_of HT_.out (by kernel_rfl)) ?_
        try go_wp2
        have n0_ : Aside0 ((w44.setCell ⟨gb591, 0, none⟩ (.int .i64 (wrap64 ((wrap64 (t597 + t599)) - 1)))).heap[gb579]? = some (.cells #[.int .i64 0, .int .i64 0] 24 (0, 0))) := ⟨by (with_reducible repeat (first | refine blk_drewN ?_ _ | refine blk_drew ?_ | refine blk_alloc ?_ _)); refine blk_far ?_ NB579_591.out _; (with_reducible repeat (first | refine blk_drewN ?_ _ | refine blk_drew ?_ | refine blk_alloc ?_ _)); exact BK579.out⟩
        have n1_ : Aside0 ((w44.setCell ⟨gb591, 0, none⟩ (.int .i64 (wrap64 ((wrap64 (t597 + t599)) - 1)))).heap[gb580]? = some (.cells #[.int .i64 0, .int .i64 0] 24 (0, 0))) := ⟨by (with_reducible repeat (first | refine blk_drewN ?_ _ | refine blk_drew ?_ | refine blk_alloc ?_ _)); refine blk_far ?_ NB580_591.out _; (with_reducible repeat (first | refine blk_drewN ?_ _ | refine blk_drew ?_ | refine blk_alloc ?_ _)); exact BK580.out⟩
        have n2_ : Aside0 ((w44.setCell ⟨gb591, 0, none⟩ (.int .i64 (wrap64 ((wrap64 (t597 + t599)) - 1)))).heap[gb587]? = some (.cells #[.int .i64 t584, .int .i64 t585] 24 (0, 0))) := ⟨by (with_reducible repeat (first | refine blk_drewN ?_ _ | refine blk_drew ?_ | refine blk_alloc ?_ _)); refine blk_far ?_ NB587_591.out _; (with_reducible repeat (first | refine blk_drewN ?_ _ | refine blk_drew ?_ | refine blk_alloc ?_ _)); exact BK587.out⟩
        have n3_ : Aside0 ((w44.setCell ⟨gb591, 0, none⟩ (.int .i64 (wrap64 ((wrap64 (t597 + t599)) - 1)))).heap[gb591]? = some (.cells #[.int .i64 (wrap64 ((wrap64 (t597 + t599)) - 1)), .int .i64 t598] 24 (0, 0))) := ⟨by (with_reducible repeat (first | refine blk_drewN ?_ _ | refine blk_drew ?_ | refine blk_alloc ?_ _)); refine blk_put (cs := #[.int .i64 t597, .int .i64 t598]) ?_ 0 _ rfl; (with_reducible repeat (first | refine blk_drewN ?_ _ | refine blk_drew ?_ | refine blk_alloc ?_ _)); exact BK591.out⟩
        have n4_ : Aside0 (IsS115 w (w44.setCell ⟨gb591, 0, none⟩ (.int .i64 (wrap64 ((wrap64 (t597 + t599)) - 1)))) g583 t581 t600) := ⟨by repeat (first | (with_reducible first | exact HI583.out | apply IsS115.alloc | apply IsS115.drewN | apply IsS115.drew | apply IsS115.set_1 | refine IsS115.far ?_ NB583_579.out _ | refine IsS115.far ?_ NB583_580.out _ | refine IsS115.far ?_ NB583_587.out _ | refine IsS115.far ?_ NB583_591.out _) | exact HI583.out)⟩
        have n5_ : Aside0 (Below w.heap.size w (w44.setCell ⟨gb591, 0, none⟩ (.int .i64 (wrap64 ((wrap64 (t597 + t599)) - 1))))) := ⟨by repeat (first | (with_reducible first | exact HB.out | apply below_alloc | apply pw_below_drewN | apply below_drew1 | refine below_set ?_ (IsS115.ge HI583.out) | refine below_set ?_ GE579.out | refine below_set ?_ GE580.out | refine below_set ?_ GE587.out | refine below_set ?_ GE591.out) | exact HB.out)⟩
        (try clear BK579)
        (try clear BK580)
        (try clear BK587)
        (try clear BK591)
        (try clear HI583)
        (try clear HB)
        generalize (w44.setCell ⟨gb591, 0, none⟩ (.int .i64 (wrap64 ((wrap64 (t597 + t599)) - 1)))) = w46 at n0_ n1_ n2_ n3_ n4_ n5_ ⊢
        have BK579 := n0_
        have BK580 := n1_
        have BK587 := n2_
        have BK591 := n3_
        have HI583 := n4_
        have HB := n5_
        clear n0_ n1_ n2_ n3_ n4_ n5_
        have n0_ := Aside0.mk (blk_drew BK579.out)
        have n1_ := Aside0.mk (blk_drew BK580.out)
        have n2_ := Aside0.mk (blk_drew BK587.out)
        have n3_ := Aside0.mk (blk_drew BK591.out)
        have n4_ := Aside0.mk (IsS115.drew HI583.out)
        have n5_ := Aside0.mk (below_drew1 HB.out)
        clear BK579
        clear BK580
        clear BK587
        clear BK591
        clear HI583
        clear HB
        have BK579 := n0_
        have BK580 := n1_
        have BK587 := n2_
        have BK591 := n3_
        have HI583 := n4_
        have HB := n5_
        clear n0_ n1_ n2_ n3_ n4_ n5_
        refine start_ (n := 4) (S := fun w' => w'.cell? ⟨gb587, 0, none⟩ = some (.int .i64 t584) ∧ w'.cell? ⟨gb587, 1, none⟩ = some (.int .i64 t585) ∧ w'.cell? ⟨gb591, 0, none⟩ = some (.int .i64 (wrap64 ((wrap64 (t597 + t599)) - 1))) ∧ w'.cell? ⟨gb591, 1, none⟩ = some (.int .i64 t598)) (ds := []) #[false, false, false, false] (by kernel_rfl) rfl rfl ⟨(blk_cell BK587.out 0).trans rfl, (blk_cell BK587.out 1).trans rfl, (blk_cell BK591.out 0).trans rfl, (blk_cell BK591.out 1).trans rfl⟩ (fun hHeld => ?_)
        generalize w46.drew = w47 at BK579 BK580 BK587 BK591 HI583 HB hHeld ⊢
        refine take_ (i := 0) (N := some 31) (v := ?_) (a' := ?_) #[true, false, false, false] rfl rfl (by kernel_rfl) (fun _ _ _ h => h) (Or.inl ⟨by rfl, ?_⟩) hHeld ?_ ?_
        rotate_left
        · rintro w' ⟨s0, s1, s2, s3⟩
          go_simp
          with_reducible rfl
        rotate_left
        · simp only [Act.put, List.setIfInBounds_toArray, List.set_cons_zero, List.set_cons_succ, i64_w, i32_w]
          rfl
        refine take_ (i := 1) (N := some 32) (v := ?_) (a' := ?_) #[true, true, false, false] rfl rfl (by kernel_rfl) (fun _ _ _ h => h) (Or.inl ⟨by rfl, ?_⟩) hHeld ?_ ?_
        rotate_left
        · rintro w' ⟨s0, s1, s2, s3⟩
          go_simp
          with_reducible rfl
        rotate_left
        · simp only [Act.put, List.setIfInBounds_toArray, List.set_cons_zero, List.set_cons_succ, i64_w, i32_w]
          rfl
        refine one_ (i := 2) (N := none) #[true, true, true, false] rfl rfl (by kernel_rfl) (by decide) (fun K hK => ?_)
        have hs48 : w47.cell? ⟨gb579, 0, none⟩ = some (.int .i64 0) := (blk_cell BK579.out 0).trans rfl
        have hfs48 := blk_frozen BK579.out 0
        have hns48_1 := NB580_579.out
        have hns48_2 := NB587_579.out
        have hns48_3 := NB591_579.out
        have hms48_1 := NB579_580.out
        have hms48_2 := NB579_587.out
        have hms48_3 := NB579_591.out
        have hs49 : w47.cell? ⟨gb579, 1, none⟩ = some (.int .i64 0) := (blk_cell BK579.out 1).trans rfl
        have hfs49 := blk_frozen BK579.out 1
        have hns49_1 := NB580_579.out
        have hns49_2 := NB587_579.out
        have hns49_3 := NB591_579.out
        have hms49_1 := NB579_580.out
        have hms49_2 := NB579_587.out
        have hms49_3 := NB579_591.out
        refine skip_ (w1 := ?_) (by rfl) rfl ?_ ?_
        rotate_left
        · go_simp
          rfl
        refine hK.out _ _ ⟨((cell_far (p := ⟨gb579, _, none⟩) NB587_579.out _).trans (((cell_far (p := ⟨gb579, _, none⟩) NB587_579.out _).trans (hHeld.1)))), ((cell_far (p := ⟨gb579, _, none⟩) NB587_579.out _).trans (((cell_far (p := ⟨gb579, _, none⟩) NB587_579.out _).trans (hHeld.2.1)))), ((cell_far (p := ⟨gb579, _, none⟩) NB591_579.out _).trans (((cell_far (p := ⟨gb579, _, none⟩) NB591_579.out _).trans (hHeld.2.2.1)))), ((cell_far (p := ⟨gb579, _, none⟩) NB591_579.out _).trans (((cell_far (p := ⟨gb579, _, none⟩) NB591_579.out _).trans (hHeld.2.2.2))))⟩ (fun hHeld => ?_)
        clear hK K
        refine one_ (i := 3) (N := none) #[true, true, true, true] rfl rfl (by kernel_rfl) (by decide) (fun K hK => ?_)
        have hs50 : w47.cell? ⟨gb580, 0, none⟩ = some (.int .i64 0) := (blk_cell BK580.out 0).trans rfl
        have hfs50 := blk_frozen BK580.out 0
        have hns50_0 := NB579_580.out
        have hns50_2 := NB587_580.out
        have hns50_3 := NB591_580.out
        have hms50_0 := NB580_579.out
        have hms50_2 := NB580_587.out
        have hms50_3 := NB580_591.out
        have hs51 : w47.cell? ⟨gb580, 1, none⟩ = some (.int .i64 0) := (blk_cell BK580.out 1).trans rfl
        have hfs51 := blk_frozen BK580.out 1
        have hns51_0 := NB579_580.out
        have hns51_2 := NB587_580.out
        have hns51_3 := NB591_580.out
        have hms51_0 := NB580_579.out
        have hms51_2 := NB580_587.out
        have hms51_3 := NB580_591.out
        refine skip_ (w1 := ?_) (by rfl) rfl ?_ ?_
        rotate_left
        · go_simp
          rfl
        refine hK.out _ _ ⟨((cell_far (p := ⟨gb580, _, none⟩) NB587_580.out _).trans (((cell_far (p := ⟨gb580, _, none⟩) NB587_580.out _).trans (hHeld.1)))), ((cell_far (p := ⟨gb580, _, none⟩) NB587_580.out _).trans (((cell_far (p := ⟨gb580, _, none⟩) NB587_580.out _).trans (hHeld.2.1)))), ((cell_far (p := ⟨gb580, _, none⟩) NB591_580.out _).trans (((cell_far (p := ⟨gb580, _, none⟩) NB591_580.out _).trans (hHeld.2.2.1)))), ((cell_far (p := ⟨gb580, _, none⟩) NB591_580.out _).trans (((cell_far (p := ⟨gb580, _, none⟩) NB591_580.out _).trans (hHeld.2.2.2))))⟩ (fun hHeld => ?_)
        clear hK K
        refine done_ (by kernel_rfl) ?_
        try go_wp2
        refine bodyPost_ret (results_cc rfl _ _ gb579 gb580 24 24 #[.int .i64 t584, .int .i64 t585] #[.int .i64 (wrap64 ((wrap64 (t597 + t599)) - 1)), .int .i64 t598] (0, 0) (0, 0) _ _ rfl (by (with_reducible repeat (first | refine blk_drewN ?_ _ | refine blk_drew ?_ | refine blk_alloc ?_ _)); refine blk_far ?_ NB579_580.out _; (with_reducible repeat (first | refine blk_drewN ?_ _ | refine blk_drew ?_ | refine blk_alloc ?_ _)); refine blk_far ?_ NB579_580.out _; (with_reducible repeat (first | refine blk_drewN ?_ _ | refine blk_drew ?_ | refine blk_alloc ?_ _)); refine blk_put (cs := #[.int .i64 t584, .int .i64 0]) ?_ 1 _ rfl; (with_reducible repeat (first | refine blk_drewN ?_ _ | refine blk_drew ?_ | refine blk_alloc ?_ _)); refine blk_put (cs := #[.int .i64 0, .int .i64 0]) ?_ 0 _ rfl; (with_reducible repeat (first | refine blk_drewN ?_ _ | refine blk_drew ?_ | refine blk_alloc ?_ _)); exact BK579.out) Try.underlying24 rfl (by kernel_rfl) rfl (by (with_reducible repeat (first | refine blk_drewN ?_ _ | refine blk_drew ?_ | refine blk_alloc ?_ _)); refine blk_put (cs := #[.int .i64 (wrap64 ((wrap64 (t597 + t599)) - 1)), .int .i64 0]) ?_ 1 _ rfl; (with_reducible repeat (first | refine blk_drewN ?_ _ | refine blk_drew ?_ | refine blk_alloc ?_ _)); refine blk_put (cs := #[.int .i64 0, .int .i64 0]) ?_ 0 _ rfl; (with_reducible repeat (first | refine blk_drewN ?_ _ | refine blk_drew ?_ | refine blk_alloc ?_ _)); refine blk_far ?_ NB580_579.out _; (with_reducible repeat (first | refine blk_drewN ?_ _ | refine blk_drew ?_ | refine blk_alloc ?_ _)); refine blk_far ?_ NB580_579.out _; (with_reducible repeat (first | refine blk_drewN ?_ _ | refine blk_drew ?_ | refine blk_alloc ?_ _)); exact BK580.out) Try.underlying24 rfl (by kernel_rfl)) rfl ?_
        exact ⟨by first | rfl | (simp [errW_none, errW_some] <;> rfl) | (simp [*, errW_none, errW_some] <;> rfl), by repeat (first | (with_reducible first | exact HB.out | apply below_alloc | apply pw_below_drewN | apply below_drew1 | refine below_set ?_ (IsS115.ge HI583.out) | refine below_set ?_ GE579.out | refine below_set ?_ GE580.out | refine below_set ?_ GE587.out | refine below_set ?_ GE591.out) | exact HB.out)⟩
      · replace c33 := Bool.eq_false_iff.mpr c33
        subst c33
        have H1 : (some (t584, t585, t588, t589)) = some (r1, r2, r3, r4) := by rw [if_neg (show ¬ (false = true) by decide)] at H; exact H
        clear H
        have H := H1
        clear H1
        simp only [Option.some.injEq, Prod.mk.injEq] at H
        obtain ⟨rfl, rfl, rfl, rfl⟩ := H
        try go_wp2
        have n0_ := Aside0.mk (blk_drew BK579.out)
        have n1_ := Aside0.mk (blk_drew BK580.out)
        have n2_ := Aside0.mk (blk_drew BK587.out)
        have n3_ := Aside0.mk (blk_drew BK591.out)
        have n4_ := Aside0.mk (IsS115.drew HI583.out)
        have n5_ := Aside0.mk (below_drew1 HB.out)
        clear BK579
        clear BK580
        clear BK587
        clear BK591
        clear HI583
        clear HB
        have BK579 := n0_
        have BK580 := n1_
        have BK587 := n2_
        have BK591 := n3_
        have HI583 := n4_
        have HB := n5_
        clear n0_ n1_ n2_ n3_ n4_ n5_
        refine start_ (n := 4) (S := fun w' => w'.cell? ⟨gb587, 0, none⟩ = some (.int .i64 t584) ∧ w'.cell? ⟨gb587, 1, none⟩ = some (.int .i64 t585) ∧ w'.cell? ⟨gb591, 0, none⟩ = some (.int .i64 t588) ∧ w'.cell? ⟨gb591, 1, none⟩ = some (.int .i64 t589)) (ds := []) #[false, false, false, false] (by kernel_rfl) rfl rfl ⟨(blk_cell BK587.out 0).trans rfl, (blk_cell BK587.out 1).trans rfl, (blk_cell BK591.out 0).trans rfl, (blk_cell BK591.out 1).trans rfl⟩ (fun hHeld => ?_)
        generalize wc.drew = w52 at BK579 BK580 BK587 BK591 HI583 HB hHeld ⊢
        refine take_ (i := 0) (N := some 31) (v := ?_) (a' := ?_) #[true, false, false, false] rfl rfl (by kernel_rfl) (fun _ _ _ h => h) (Or.inl ⟨by rfl, ?_⟩) hHeld ?_ ?_
        rotate_left
        · rintro w' ⟨s0, s1, s2, s3⟩
          go_simp
          with_reducible rfl
        rotate_left
        · simp only [Act.put, List.setIfInBounds_toArray, List.set_cons_zero, List.set_cons_succ, i64_w, i32_w]
          rfl
        refine take_ (i := 1) (N := some 32) (v := ?_) (a' := ?_) #[true, true, false, false] rfl rfl (by kernel_rfl) (fun _ _ _ h => h) (Or.inl ⟨by rfl, ?_⟩) hHeld ?_ ?_
        rotate_left
        · rintro w' ⟨s0, s1, s2, s3⟩
          go_simp
          with_reducible rfl
        rotate_left
        · simp only [Act.put, List.setIfInBounds_toArray, List.set_cons_zero, List.set_cons_succ, i64_w, i32_w]
          rfl
        refine one_ (i := 2) (N := none) #[true, true, true, false] rfl rfl (by kernel_rfl) (by decide) (fun K hK => ?_)
        have hs53 : w52.cell? ⟨gb579, 0, none⟩ = some (.int .i64 0) := (blk_cell BK579.out 0).trans rfl
        have hfs53 := blk_frozen BK579.out 0
        have hns53_1 := NB580_579.out
        have hns53_2 := NB587_579.out
        have hns53_3 := NB591_579.out
        have hms53_1 := NB579_580.out
        have hms53_2 := NB579_587.out
        have hms53_3 := NB579_591.out
        have hs54 : w52.cell? ⟨gb579, 1, none⟩ = some (.int .i64 0) := (blk_cell BK579.out 1).trans rfl
        have hfs54 := blk_frozen BK579.out 1
        have hns54_1 := NB580_579.out
        have hns54_2 := NB587_579.out
        have hns54_3 := NB591_579.out
        have hms54_1 := NB579_580.out
        have hms54_2 := NB579_587.out
        have hms54_3 := NB579_591.out
        refine skip_ (w1 := ?_) (by rfl) rfl ?_ ?_
        rotate_left
        · go_simp
          rfl
        refine hK.out _ _ ⟨((cell_far (p := ⟨gb579, _, none⟩) NB587_579.out _).trans (((cell_far (p := ⟨gb579, _, none⟩) NB587_579.out _).trans (hHeld.1)))), ((cell_far (p := ⟨gb579, _, none⟩) NB587_579.out _).trans (((cell_far (p := ⟨gb579, _, none⟩) NB587_579.out _).trans (hHeld.2.1)))), ((cell_far (p := ⟨gb579, _, none⟩) NB591_579.out _).trans (((cell_far (p := ⟨gb579, _, none⟩) NB591_579.out _).trans (hHeld.2.2.1)))), ((cell_far (p := ⟨gb579, _, none⟩) NB591_579.out _).trans (((cell_far (p := ⟨gb579, _, none⟩) NB591_579.out _).trans (hHeld.2.2.2))))⟩ (fun hHeld => ?_)
        clear hK K
        refine one_ (i := 3) (N := none) #[true, true, true, true] rfl rfl (by kernel_rfl) (by decide) (fun K hK => ?_)
        have hs55 : w52.cell? ⟨gb580, 0, none⟩ = some (.int .i64 0) := (blk_cell BK580.out 0).trans rfl
        have hfs55 := blk_frozen BK580.out 0
        have hns55_0 := NB579_580.out
        have hns55_2 := NB587_580.out
        have hns55_3 := NB591_580.out
        have hms55_0 := NB580_579.out
        have hms55_2 := NB580_587.out
        have hms55_3 := NB580_591.out
        have hs56 : w52.cell? ⟨gb580, 1, none⟩ = some (.int .i64 0) := (blk_cell BK580.out 1).trans rfl
        have hfs56 := blk_frozen BK580.out 1
        have hns56_0 := NB579_580.out
        have hns56_2 := NB587_580.out
        have hns56_3 := NB591_580.out
        have hms56_0 := NB580_579.out
        have hms56_2 := NB580_587.out
        have hms56_3 := NB580_591.out
        refine skip_ (w1 := ?_) (by rfl) rfl ?_ ?_
        rotate_left
        · go_simp
          rfl
        refine hK.out _ _ ⟨((cell_far (p := ⟨gb580, _, none⟩) NB587_580.out _).trans (((cell_far (p := ⟨gb580, _, none⟩) NB587_580.out _).trans (hHeld.1)))), ((cell_far (p := ⟨gb580, _, none⟩) NB587_580.out _).trans (((cell_far (p := ⟨gb580, _, none⟩) NB587_580.out _).trans (hHeld.2.1)))), ((cell_far (p := ⟨gb580, _, none⟩) NB591_580.out _).trans (((cell_far (p := ⟨gb580, _, none⟩) NB591_580.out _).trans (hHeld.2.2.1)))), ((cell_far (p := ⟨gb580, _, none⟩) NB591_580.out _).trans (((cell_far (p := ⟨gb580, _, none⟩) NB591_580.out _).trans (hHeld.2.2.2))))⟩ (fun hHeld => ?_)
        clear hK K
        refine done_ (by kernel_rfl) ?_
        try go_wp2
        refine bodyPost_ret (results_cc rfl _ _ gb579 gb580 24 24 #[.int .i64 t584, .int .i64 t585] #[.int .i64 t588, .int .i64 t589] (0, 0) (0, 0) _ _ rfl (by (with_reducible repeat (first | refine blk_drewN ?_ _ | refine blk_drew ?_ | refine blk_alloc ?_ _)); refine blk_far ?_ NB579_580.out _; (with_reducible repeat (first | refine blk_drewN ?_ _ | refine blk_drew ?_ | refine blk_alloc ?_ _)); refine blk_far ?_ NB579_580.out _; (with_reducible repeat (first | refine blk_drewN ?_ _ | refine blk_drew ?_ | refine blk_alloc ?_ _)); refine blk_put (cs := #[.int .i64 t584, .int .i64 0]) ?_ 1 _ rfl; (with_reducible repeat (first | refine blk_drewN ?_ _ | refine blk_drew ?_ | refine blk_alloc ?_ _)); refine blk_put (cs := #[.int .i64 0, .int .i64 0]) ?_ 0 _ rfl; (with_reducible repeat (first | refine blk_drewN ?_ _ | refine blk_drew ?_ | refine blk_alloc ?_ _)); exact BK579.out) Try.underlying24 rfl (by kernel_rfl) rfl (by (with_reducible repeat (first | refine blk_drewN ?_ _ | refine blk_drew ?_ | refine blk_alloc ?_ _)); refine blk_put (cs := #[.int .i64 t588, .int .i64 0]) ?_ 1 _ rfl; (with_reducible repeat (first | refine blk_drewN ?_ _ | refine blk_drew ?_ | refine blk_alloc ?_ _)); refine blk_put (cs := #[.int .i64 0, .int .i64 0]) ?_ 0 _ rfl; (with_reducible repeat (first | refine blk_drewN ?_ _ | refine blk_drew ?_ | refine blk_alloc ?_ _)); refine blk_far ?_ NB580_579.out _; (with_reducible repeat (first | refine blk_drewN ?_ _ | refine blk_drew ?_ | refine blk_alloc ?_ _)); refine blk_far ?_ NB580_579.out _; (with_reducible repeat (first | refine blk_drewN ?_ _ | refine blk_drew ?_ | refine blk_alloc ?_ _)); exact BK580.out) Try.underlying24 rfl (by kernel_rfl)) rfl ?_
        exact ⟨by first | rfl | (simp [errW_none, errW_some] <;> rfl) | (simp [*, errW_none, errW_some] <;> rfl), by repeat (first | (with_reducible first | exact HB.out | apply below_alloc | apply pw_below_drewN | apply below_drew1 | refine below_set ?_ (IsS115.ge HI583.out) | refine below_set ?_ GE579.out | refine below_set ?_ GE580.out | refine below_set ?_ GE587.out | refine below_set ?_ GE591.out) | exact HB.out)⟩

end Go.Proofs.Ytdcdcokofcfkoaa.All
