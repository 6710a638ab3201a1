-- Written by the session's own program wip/allprint.py, which drives the kit's print; Lean checks it.
import Derived.Test.YtojgpnobbnihdaaAllx0
import Derived.Test.YtojgpnobbnihdaaAllx10
import Derived.Test.YtojgpnobbnihdaaAllx12
import Derived.Test.YtojgpnobbnihdaaAllx13
import Derived.Test.YtojgpnobbnihdaaAllx14
namespace Go.Proofs.Ytojgpnobbnihdaa.All
open Go.RowKit Go.Proofs.YtojgpnobbnihdaaW.PrintWords Go.Proofs.YtojgpnobbnihdaaW.PrintLast Go.Proofs.YtojgpnobbnihdaaW.PrintMore
attribute [local go_sem] max2_int min2_int max_two min_two max_three min_three max_four min_four   -- for this text's walks alone
set_option linter.unusedVariables false
set_option linter.unusedSimpArgs false

-- GROUP FnStaNext
/-! ### spec_DrawStaNext: function 34 -/
def spec_DrawStaNext.l0 : Nat → Int → List Int → Int → List Int → Int → Int → Int → Int → List Int → Int → Option (Int × Int × Int × List Int × Int × Int × List Int)
  | 0, _, _, _, _, _, _, _, _, _, _ => none
  | k + 1, x7, x8, x9, x599000, x599001, x608000, x608001, x608002, x608003, x608004 => if x9 < (x608003.length : Int) then (if x9 < x7 then ((spec_l20Near.f k x599000 x599001 x608000 x608001 x608002 x608003 x608004 x9).bind fun bt613 => (if x8.length < 17592186044416 then (spec_DrawStaNext.l0 k x7 (x8 ++ [bt613.1]) (wrap64 (x9 + 1)) x599000 bt613.2 x608000 x608001 x608002 x608003 x608004) else (none))) else (if x8.length < 17592186044416 then (spec_DrawStaNext.l0 k x7 (x8 ++ [(-1)]) (wrap64 (x9 + 1)) x599000 x599001 x608000 x608001 x608002 x608003 x608004) else (none))) else ((spec_l20Rd_pick.f k x599000 x599001 12).bind fun bt621 => (if bt621.1 = 0 then (if x8.length < 17592186044416 then ((spec_l20Near.f k x599000 bt621.2 x608000 x608001 x608002 x608003 x608004 x7).bind fun bt626 => (some (x608000, x608001, x608002, x608003, x608004, bt626.1, (x8 ++ [(-1)])))) else (none)) else ((spec_l20Near.f k x599000 bt621.2 x608000 x608001 x608002 x608003 x608004 x7).bind fun bt628 => (some (x608000, x608001, x608002, x608003, x608004, bt628.1, x8)))))
def spec_DrawStaNext.f (k : Nat) (l0 : List Int) : Option (Int × Int × Int × List Int × Int × Int × List Int) := (spec_l20Open.f l0).bind fun bt596 => ((spec_l20Plan.f k bt596.1 bt596.2 12).bind fun bt599 => ((spec_l20Rd_pick.f k bt596.1 bt599.2.2.2.2.2 (wrap64 ((bt599.2.2.2.1.length : Int) + 1))).bind fun bt608 => (spec_DrawStaNext.l0 k bt608.1 (([] : List Int)) 0 bt596.1 bt608.2 bt599.1 bt599.2.1 bt599.2.2.1 bt599.2.2.2.1 bt599.2.2.2.2.1)))
theorem spec_DrawStaNext.mono_l : ∀ k, (∀ y0 y1 y2 y3 y4 y5 y6 y7 y8 y9, LeO (spec_DrawStaNext.l0 k y0 y1 y2 y3 y4 y5 y6 y7 y8 y9) (spec_DrawStaNext.l0 (k + 1) y0 y1 y2 y3 y4 y5 y6 y7 y8 y9))
  | 0 => fun _ _ _ _ _ _ _ _ _ _ r h => by simp [spec_DrawStaNext.l0] at h
  | k + 1 => by
    have ih0 := spec_DrawStaNext.mono_l k
    · intro y0 y1 y2 y3 y4 y5 y6 y7 y8 y9
      unfold spec_DrawStaNext.l0
      repeat' first
      | (with_reducible exact ih0 _ _ _ _ _ _ _ _ _ _)
      | (with_reducible exact spec_l20Near.mono _ _ _ _ _ _ _ _ _)
      | (with_reducible exact spec_l20Plan.mono _ _ _ _)
      | (with_reducible exact spec_l20Rd_pick.mono _ _ _ _)
      | (with_reducible exact LeO.refl _)
      | (with_reducible exact LeO.none _)
      | (with_reducible refine LeO.ite ?_ ?_)
      | (with_reducible refine LeO.bind ?_ (fun _ => ?_))
      | exact ih0 _ _ _ _ _ _ _ _ _ _
      | exact spec_l20Near.mono _ _ _ _ _ _ _ _ _
      | exact spec_l20Plan.mono _ _ _ _
      | exact spec_l20Rd_pick.mono _ _ _ _
      | exact LeO.none _
      | refine LeO.ite ?_ ?_
      | refine LeO.bind ?_ (fun _ => ?_)
theorem spec_DrawStaNext.mono : ∀ a0 k, LeO (spec_DrawStaNext.f k a0) (spec_DrawStaNext.f (k + 1) a0) := by
  intro a0 k
  have ih0 := spec_DrawStaNext.mono_l k
  unfold spec_DrawStaNext.f
  repeat' first
      | (with_reducible exact ih0 _ _ _ _ _ _ _ _ _ _)
      | (with_reducible exact spec_l20Near.mono _ _ _ _ _ _ _ _ _)
      | (with_reducible exact spec_l20Plan.mono _ _ _ _)
      | (with_reducible exact spec_l20Rd_pick.mono _ _ _ _)
      | (with_reducible exact LeO.refl _)
      | (with_reducible exact LeO.none _)
      | (with_reducible refine LeO.ite ?_ ?_)
      | (with_reducible refine LeO.bind ?_ (fun _ => ?_))
      | exact ih0 _ _ _ _ _ _ _ _ _ _
      | exact spec_l20Near.mono _ _ _ _ _ _ _ _ _
      | exact spec_l20Plan.mono _ _ _ _
      | exact spec_l20Rd_pick.mono _ _ _ _
      | exact LeO.none _
      | refine LeO.ite ?_ ?_
      | refine LeO.bind ?_ (fun _ => ?_)
def spec_DrawStaNext.T14 : Bool × List (List Nat × List Nat) := (true, [([], []), ([], []), ([], []), ([], []), ([1, 2, 3], [1, 2, 3]), ([], []), ([0, 4, 0], [0]), ([4, 6, 0, 1, 2, 3, 4, 6], [4]), ([5, 7, 0, 1, 2, 3, 4, 5, 6, 7], [5])])
def spec_DrawStaNext.B14 : List Nat := [0, 0, 0, 0, 14, 0, 31, 95, 255]
theorem spec_DrawStaNext.tab14 : rtab .any (opsOf Try.f34 14) = spec_DrawStaNext.T14 := by kernel_rfl
theorem spec_DrawStaNext.bits14 : waitsOk spec_DrawStaNext.T14.2 spec_DrawStaNext.B14 = true := by kernel_rfl
set_option maxHeartbeats 8000000 in
set_option maxRecDepth 100000 in
theorem spec_DrawStaNext.calls (k : Nat) (A0 : Option Addr) (c0 : Nat) (l0 : List Int) (r1 : Int) (r2 : Int) (r3 : Int) (r4 : List Int) (r5 : Int) (r6 : Int) (r7 : List Int) (w : World) (hr0 : Kd.C (Kd.int .u8) w A0 l0.length l0) (hc0 : l0.length ≤ c0) (h : spec_DrawStaNext.f k l0 = some (r1, r2, r3, r4, r5, r6, r7)) :
    Calls Try.prog 34 #[.slice A0 l0.length c0] w fun e w' => ∃ v3_ v6_ : Value, e = .returned (.tuple #[.agg #[.int .i64 r1, .int .i64 r2, .int .i64 r3, v3_, .int .i64 r5], .int .i64 r6, v6_]) ∧ Kd.R (Kd.int .i64) 3 w' w.heap.size (fun k_ => some k_ ≠ (v6_ : Value).ownBlock) v3_ r4 ∧ Kd.R (Kd.int .i64) 3 w' w.heap.size (fun k_ => some k_ ≠ (v3_ : Value).ownBlock) v6_ r7 ∧ Below w.heap.size w w' := by
  have hu31 := Try.underlying31
  have HR0 := Aside0.mk hr0
  have HC0 := Aside0.mk hc0
  clear hr0 hc0
  have HB := Aside0.mk (Below.refl w.heap.size w)
  have H : ((spec_l20Open.f l0).bind fun bt596 => ((spec_l20Plan.f k bt596.1 bt596.2 12).bind fun bt599 => ((spec_l20Rd_pick.f k bt596.1 bt599.2.2.2.2.2 (wrap64 ((bt599.2.2.2.1.length : Int) + 1))).bind fun bt608 => (spec_DrawStaNext.l0 k bt608.1 (([] : List Int)) 0 bt596.1 bt608.2 bt599.1 bt599.2.1 bt599.2.2.1 bt599.2.2.2.1 bt599.2.2.2.2.1)))) = some (r1, r2, r3, r4, r5, r6, r7) := h
  clear h
  replace H := Option.bind_eq_some_iff.mp H
  obtain ⟨⟨t596, t597⟩, A20, H⟩ := H
  replace H : ((spec_l20Plan.f k t596 t597 12).bind fun bt599 => ((spec_l20Rd_pick.f k t596 bt599.2.2.2.2.2 (wrap64 ((bt599.2.2.2.1.length : Int) + 1))).bind fun bt608 => (spec_DrawStaNext.l0 k bt608.1 (([] : List Int)) 0 t596 bt608.2 bt599.1 bt599.2.1 bt599.2.2.1 bt599.2.2.2.1 bt599.2.2.2.2.1))) = some (r1, r2, r3, r4, r5, r6, r7) := H
  have A2 := Aside0.mk A20
  clear A20
  replace H := Option.bind_eq_some_iff.mp H
  obtain ⟨⟨t599, t600, t601, t602, t605, t606⟩, A30, H⟩ := H
  replace H : ((spec_l20Rd_pick.f k t596 t606 (wrap64 ((t602.length : Int) + 1))).bind fun bt608 => (spec_DrawStaNext.l0 k bt608.1 (([] : List Int)) 0 t596 bt608.2 t599 t600 t601 t602 t605)) = some (r1, r2, r3, r4, r5, r6, r7) := H
  have A3 := Aside0.mk A30
  clear A30
  replace H := Option.bind_eq_some_iff.mp H
  obtain ⟨⟨t608, t609⟩, A40, H⟩ := H
  replace H : (spec_DrawStaNext.l0 k t608 (([] : List Int)) 0 t596 t609 t599 t600 t601 t602 t605) = some (r1, r2, r3, r4, r5, r6, r7) := H
  have A4 := Aside0.mk A40
  clear A40
  obtain ⟨y610, hy610⟩ : ∃ y_ : List Int, y_ = (([] : List Int)) := ⟨_, rfl⟩
  replace H : (spec_DrawStaNext.l0 k t608 y610 0 t596 t609 t599 t600 t601 t602 t605) = some (r1, r2, r3, r4, r5, r6, r7) := by first | (rw [hy610]; with_reducible exact H) | (have H2_ := (Option.bind_some _ _).symm.trans H; rw [hy610]; with_reducible exact H2_) | (have H2_ := (Option.bind_some _ _).symm.trans H; with_reducible exact H2_) | with_reducible exact H | (rw [hy610]; exact H) | exact H
  have Ny610 := Aside0.mk hy610
  clear hy610
  have H' := Aside0.mk H
  clear H
  go_enter Try.func34, Try.ntmps34
  go_wp2_with (first | ((with_reducible refine gate_dst (N := 2) rfl ?_); refine box_event ?hg (N := 2) ?hd (cs := #[.int .i64 0, .int .i64 0, .int .i64 0, .slice none 0 0, .int .i64 0]) (t := 31) ?hr ?_; (case hd => rfl); (case hg => rfl); (case hr => first | (go_simp; done) | (go_simp; rfl)); intro gb595 hg w5 hbox hb; have n0_ := Aside0.mk (below_step (by repeat (first | (with_reducible first | exact HB.out | apply below_alloc | apply pw_below_drewN | apply below_drew1) | exact HB.out)) hb); have n1_ := Aside0.mk (hbox); have n2_ := Aside0.mk ((by rw [hg]; exact (below_size (by repeat (first | (with_reducible first | exact HB.out | apply below_alloc | apply pw_below_drewN | apply below_drew1) | exact HB.out))) : w.heap.size ≤ gb595)); have n3_ := Aside0.mk ((by rw [hg]; exact (below_size (by repeat (first | (with_reducible first | exact HB.out | apply below_alloc | apply pw_below_drewN | apply below_drew1) | exact HB.out))) : w.heap.size ≤ gb595)); clear HB; have HB := n0_; have BK595 := n1_; have GW595 := n2_; have GE595 := n3_; clear n0_ n1_ n2_ n3_; clear hb hbox hg) | ((with_reducible refine gate_callee (f := 42) rfl ?_); refine goesL_ (some 12) rfl rfl Try.func42 (by kernel_rfl) rfl #[.slice A0 l0.length c0] rfl (by (try simp only [List.map_toArray, List.map_cons, List.map_nil]); first | done | rfl | (simp only [List.length_drop, List.length_take]; rfl)) ?_; (with_reducible refine (spec_l20Open.calls _ _ l0 t596 t597 w _ ?side1 ?side2 ?side3 A2.out).mono ?_); (case side1 => repeat (first | (with_reducible first | exact HB.out | apply below_alloc | apply pw_below_drewN | apply below_drew1 | refine below_set ?_ GE595.out) | exact HB.out)); (case side2 => exact HR0.out); (case side3 => exact HC0.out); rintro e w6 ⟨g598, rfl, hi, hb, hb2⟩; refine ⟨_, rfl, ?_⟩; have n0_ := Aside0.mk (blk_below (g := gb595) (o := .cells #[.int .i64 0, .int .i64 0, .int .i64 0, .slice none 0 0, .int .i64 0] 31 (0, 0)) (by (with_reducible repeat (first | refine blk_drewN ?_ _ | refine blk_drew ?_ | refine blk_alloc ?_ _)); exact BK595.out) hb2); have n1_ := Aside0.mk (hb); have n2_ := Aside0.mk (hi); have n3_ := Aside0.mk (IsS69.ne_blk hi (blk_below (g := gb595) (o := .cells #[.int .i64 0, .int .i64 0, .int .i64 0, .slice none 0 0, .int .i64 0] 31 (0, 0)) (by (with_reducible repeat (first | refine blk_drewN ?_ _ | refine blk_drew ?_ | refine blk_alloc ?_ _)); exact BK595.out) hb2) (by decide)); have n4_ := Aside0.mk (Ne.symm (IsS69.ne_blk hi (blk_below (g := gb595) (o := .cells #[.int .i64 0, .int .i64 0, .int .i64 0, .slice none 0 0, .int .i64 0] 31 (0, 0)) (by (with_reducible repeat (first | refine blk_drewN ?_ _ | refine blk_drew ?_ | refine blk_alloc ?_ _)); exact BK595.out) hb2) (by decide))); clear BK595; clear HB; have BK595 := n0_; have HB := n1_; have HI598 := n2_; have NB598_595 := n3_; have NB595_598 := n4_; clear n0_ n1_ n2_ n3_ n4_; (try clear hb); (try clear hb2); (try clear hk); (try clear hi)) | ((with_reducible refine gate_callee (f := 41) rfl ?_); refine goesL_ (some 14) rfl rfl Try.func41 (by kernel_rfl) rfl #[.pointer (some ⟨g598, 0, none⟩), .int .i64 12] rfl (by (try simp only [List.map_toArray, List.map_cons, List.map_nil]); first | done | rfl | (simp only [List.length_drop, List.length_take]; rfl)) ?_; (with_reducible refine (spec_l20Plan.calls k g598 t596 t597 12 t599 t600 t601 t602 t605 t606 w _ ?side1 ?side2 A3.out).mono ?_); (case side1 => repeat (first | (with_reducible first | exact HI598.out | apply IsS69.alloc | apply IsS69.drewN | apply IsS69.drew | apply IsS69.set_1 | refine IsS69.far ?_ NB598_595.out _) | exact HI598.out)); (case side2 => repeat (first | (with_reducible first | exact HB.out | apply below_alloc | apply pw_below_drewN | apply below_drew1 | refine below_set ?_ (IsS69.ge HI598.out) | refine below_set ?_ GE595.out) | exact HB.out)); rintro e w7 ⟨v603, rfl, ho0, hi, hb, hk⟩; refine ⟨_, rfl, ?_⟩; have n0_ := Aside0.mk (KeepBut.blk hk (g' := gb595) (o := .cells #[.int .i64 0, .int .i64 0, .int .i64 0, .slice none 0 0, .int .i64 0] 31 (0, 0)) (by (with_reducible repeat (first | refine blk_drewN ?_ _ | refine blk_drew ?_ | refine blk_alloc ?_ _)); exact BK595.out) NB595_598.out (by simp)); have n1_ := Aside0.mk (Kd.R_lower ho0 (below_size (by repeat (first | (with_reducible first | exact HB.out | apply below_alloc | apply pw_below_drewN | apply below_drew1 | refine below_set ?_ (IsS69.ge HI598.out) | refine below_set ?_ GE595.out) | exact HB.out)))); have n2_ := Aside0.mk (hb); have n3_ := Aside0.mk (hi); clear BK595; clear HB; clear HI598; have BK595 := n0_; have HO604 := n1_; have HB := n2_; have HI598 := n3_; clear n0_ n1_ n2_ n3_; (try clear hb); (try clear hb2); (try clear hk); (try clear hi); (try clear ho0)) | ((with_reducible refine gate_dst (N := 6) rfl ?_); refine box_event ?hg (N := 6) ?hd (cs := #[.int .i64 0, .int .i64 0, .int .i64 0, .slice none 0 0, .int .i64 0]) (t := 31) ?hr ?_; (case hd => rfl); (case hg => rfl); (case hr => first | (go_simp; done) | (go_simp; rfl)); intro gb607 hg w8 hbox hb; have n0_ := Aside0.mk (Kd.R_below (by (with_reducible repeat (first | apply Kd.R_alloc | apply Kd.R_drewN | apply Kd.R_drew)); exact HO604.out) hb); have n1_ := Aside0.mk (blk_below (g := gb595) (o := .cells #[.int .i64 0, .int .i64 0, .int .i64 0, .slice none 0 0, .int .i64 0] 31 (0, 0)) (by (with_reducible repeat (first | refine blk_drewN ?_ _ | refine blk_drew ?_ | refine blk_alloc ?_ _)); exact BK595.out) hb); have n2_ := Aside0.mk (IsS69.below (by repeat (first | (with_reducible first | exact HI598.out | apply IsS69.alloc | apply IsS69.drewN | apply IsS69.drew | apply IsS69.set_1 | refine IsS69.far ?_ NB598_595.out _) | exact HI598.out)) hb); have n3_ := Aside0.mk (below_step (by repeat (first | (with_reducible first | exact HB.out | apply below_alloc | apply pw_below_drewN | apply below_drew1 | refine below_set ?_ (IsS69.ge HI598.out) | refine below_set ?_ GE595.out) | exact HB.out)) hb); have n4_ := Aside0.mk (hbox); have n5_ := Aside0.mk ((by rw [hg]; exact (below_size (by repeat (first | (with_reducible first | exact HB.out | apply below_alloc | apply pw_below_drewN | apply below_drew1 | refine below_set ?_ (IsS69.ge HI598.out) | refine below_set ?_ GE595.out) | exact HB.out))) : w.heap.size ≤ gb607)); have n6_ := Aside0.mk ((by rw [hg]; exact (below_size (by repeat (first | (with_reducible first | exact HB.out | apply below_alloc | apply pw_below_drewN | apply below_drew1 | refine below_set ?_ (IsS69.ge HI598.out) | refine below_set ?_ GE595.out) | exact HB.out))) : w.heap.size ≤ gb607)); have n7_ := Aside0.mk ((by rw [hg]; exact Nat.ne_of_lt (blk_lt (g := gb595) (o := .cells #[.int .i64 0, .int .i64 0, .int .i64 0, .slice none 0 0, .int .i64 0] 31 (0, 0)) (by (with_reducible repeat (first | refine blk_drewN ?_ _ | refine blk_drew ?_ | refine blk_alloc ?_ _)); exact BK595.out)) : gb595 ≠ gb607)); have n8_ := Aside0.mk ((by rw [hg]; exact Nat.ne_of_gt (blk_lt (g := gb595) (o := .cells #[.int .i64 0, .int .i64 0, .int .i64 0, .slice none 0 0, .int .i64 0] 31 (0, 0)) (by (with_reducible repeat (first | refine blk_drewN ?_ _ | refine blk_drew ?_ | refine blk_alloc ?_ _)); exact BK595.out)) : gb607 ≠ gb595)); have n9_ := Aside0.mk ((by rw [hg]; exact Nat.ne_of_lt (IsS69.lt (show IsS69 w _ g598 t596 t606 from by repeat (first | (with_reducible first | exact HI598.out | apply IsS69.alloc | apply IsS69.drewN | apply IsS69.drew | apply IsS69.set_1 | refine IsS69.far ?_ NB598_595.out _) | exact HI598.out))) : g598 ≠ gb607)); have n10_ := Aside0.mk ((by rw [hg]; exact Nat.ne_of_gt (IsS69.lt (show IsS69 w _ g598 t596 t606 from by repeat (first | (with_reducible first | exact HI598.out | apply IsS69.alloc | apply IsS69.drewN | apply IsS69.drew | apply IsS69.set_1 | refine IsS69.far ?_ NB598_595.out _) | exact HI598.out))) : gb607 ≠ g598)); clear HO604; clear BK595; clear HI598; clear HB; have HO604 := n0_; have BK595 := n1_; have HI598 := n2_; have HB := n3_; have BK607 := n4_; have GW607 := n5_; have GE607 := n6_; have NB595_607 := n7_; have NB607_595 := n8_; have NB598_607 := n9_; have NB607_598 := n10_; clear n0_ n1_ n2_ n3_ n4_ n5_ n6_ n7_ n8_ n9_ n10_; clear hb hbox hg; have hnb9 := NB607_595.out; have hnc9 := NB595_607.out; have hnb10 := NB607_598.out; have hnc10 := NB598_607.out; have hcz11_0 : w8.cell? ⟨gb607, 0, none⟩ = some (.int .i64 0) := (blk_cell BK607.out 0).trans rfl; have hcz11_1 : w8.cell? ⟨gb607, 1, none⟩ = some (.int .i64 0) := (blk_cell BK607.out 1).trans rfl; have hcz11_2 : w8.cell? ⟨gb607, 2, none⟩ = some (.int .i64 0) := (blk_cell BK607.out 2).trans rfl; have hcz11_3 : w8.cell? ⟨gb607, 3, none⟩ = some (.slice none 0 0) := (blk_cell BK607.out 3).trans rfl; have hcz11_4 : w8.cell? ⟨gb607, 4, none⟩ = some (.int .i64 0) := (blk_cell BK607.out 4).trans rfl; have hfz11_0 := blk_frozen BK607.out 0; have hfz11_1 := blk_frozen BK607.out 1; have hfz11_2 := blk_frozen BK607.out 2; have hfz11_3 := blk_frozen BK607.out 3; have hfz11_4 := blk_frozen BK607.out 4; obtain ⟨Ao12, co12, eo12⟩ := Kd.R_slice HO604.out; subst eo12) | ((with_reducible refine gate_callee (f := 48) rfl ?_); refine goesL_ (some 20) rfl rfl Try.func48 (by kernel_rfl) rfl #[.pointer (some ⟨g598, 0, none⟩), .int .i64 (wrap64 ((t602.length : Int) + 1))] rfl (by (try simp only [List.map_toArray, List.map_cons, List.map_nil]); first | done | rfl | (simp only [List.length_drop, List.length_take]; rfl)) ?_; (with_reducible refine (spec_l20Rd_pick.calls k g598 t596 t606 (wrap64 ((t602.length : Int) + 1)) t608 t609 w _ ?side1 ?side2 A4.out).mono ?_); (case side1 => repeat (first | (with_reducible first | exact HI598.out | apply IsS69.alloc | apply IsS69.drewN | apply IsS69.drew | apply IsS69.set_1 | refine IsS69.far ?_ NB598_595.out _ | refine IsS69.far ?_ NB598_607.out _) | exact HI598.out)); (case side2 => repeat (first | (with_reducible first | exact HB.out | apply below_alloc | apply pw_below_drewN | apply below_drew1 | refine below_set ?_ (IsS69.ge HI598.out) | refine below_set ?_ GE595.out | refine below_set ?_ GE607.out) | exact HB.out)); rintro e w13 ⟨rfl, hi, hb, hk⟩; refine ⟨_, rfl, ?_⟩; have n0_ := Aside0.mk (KeepBut.blk hk (g' := gb595) (o := .cells #[.int .i64 0, .int .i64 0, .int .i64 0, .slice none 0 0, .int .i64 0] 31 (0, 0)) (by (with_reducible repeat (first | refine blk_drewN ?_ _ | refine blk_drew ?_ | refine blk_alloc ?_ _)); refine blk_far ?_ NB595_607.out _; (with_reducible repeat (first | refine blk_drewN ?_ _ | refine blk_drew ?_ | refine blk_alloc ?_ _)); refine blk_far ?_ NB595_607.out _; (with_reducible repeat (first | refine blk_drewN ?_ _ | refine blk_drew ?_ | refine blk_alloc ?_ _)); refine blk_far ?_ NB595_607.out _; (with_reducible repeat (first | refine blk_drewN ?_ _ | refine blk_drew ?_ | refine blk_alloc ?_ _)); refine blk_far ?_ NB595_607.out _; (with_reducible repeat (first | refine blk_drewN ?_ _ | refine blk_drew ?_ | refine blk_alloc ?_ _)); refine blk_far ?_ NB595_607.out _; (with_reducible repeat (first | refine blk_drewN ?_ _ | refine blk_drew ?_ | refine blk_alloc ?_ _)); exact BK595.out) NB595_598.out (by simp)); have n1_ := Aside0.mk (Kd.R_mono (Kd.R_keep (IsS69.apart (show IsS69 w _ g598 t596 t606 from by repeat (first | (with_reducible first | exact HI598.out | apply IsS69.alloc | apply IsS69.drewN | apply IsS69.drew | apply IsS69.set_1 | refine IsS69.far ?_ NB598_595.out _ | refine IsS69.far ?_ NB598_607.out _) | exact HI598.out)) (by (with_reducible repeat (first | apply Kd.R_alloc | apply Kd.R_drewN | apply Kd.R_drew)); exact (Kd.R_mono (Kd.R_far (p := ⟨gb607, 4, none⟩) (Kd.R_far (p := ⟨gb607, 3, none⟩) (Kd.R_far (p := ⟨gb607, 2, none⟩) (Kd.R_far (p := ⟨gb607, 1, none⟩) (Kd.R_far (p := ⟨gb607, 0, none⟩) (Kd.R_types HO604.out BK607.out (by decide)) (fun _ hk => hk.2) (.int .i64 t599)) (fun _ hk => hk.2) (.int .i64 t600)) (fun _ hk => hk.2) (.int .i64 t601)) (fun _ hk => hk.2) (.slice Ao12 t602.length co12)) (fun _ hk => hk.2) (.int .i64 t605)) (fun _ h_ => h_.1))) (by decide)) hk (fun _ h => h.2)) (fun _ h => h.1)); have n2_ := Aside0.mk (KeepBut.blk hk (g' := gb607) (o := .cells #[.int .i64 t599, .int .i64 t600, .int .i64 t601, .slice Ao12 t602.length co12, .int .i64 t605] 31 (0, 0)) (by (with_reducible repeat (first | refine blk_drewN ?_ _ | refine blk_drew ?_ | refine blk_alloc ?_ _)); refine blk_put (cs := #[.int .i64 t599, .int .i64 t600, .int .i64 t601, .slice Ao12 t602.length co12, .int .i64 0]) ?_ 4 _ rfl; (with_reducible repeat (first | refine blk_drewN ?_ _ | refine blk_drew ?_ | refine blk_alloc ?_ _)); refine blk_put (cs := #[.int .i64 t599, .int .i64 t600, .int .i64 t601, .slice none 0 0, .int .i64 0]) ?_ 3 _ rfl; (with_reducible repeat (first | refine blk_drewN ?_ _ | refine blk_drew ?_ | refine blk_alloc ?_ _)); refine blk_put (cs := #[.int .i64 t599, .int .i64 t600, .int .i64 0, .slice none 0 0, .int .i64 0]) ?_ 2 _ rfl; (with_reducible repeat (first | refine blk_drewN ?_ _ | refine blk_drew ?_ | refine blk_alloc ?_ _)); refine blk_put (cs := #[.int .i64 t599, .int .i64 0, .int .i64 0, .slice none 0 0, .int .i64 0]) ?_ 1 _ rfl; (with_reducible repeat (first | refine blk_drewN ?_ _ | refine blk_drew ?_ | refine blk_alloc ?_ _)); refine blk_put (cs := #[.int .i64 0, .int .i64 0, .int .i64 0, .slice none 0 0, .int .i64 0]) ?_ 0 _ rfl; (with_reducible repeat (first | refine blk_drewN ?_ _ | refine blk_drew ?_ | refine blk_alloc ?_ _)); exact BK607.out) NB607_598.out (by simp)); have n3_ := Aside0.mk (hb); have n4_ := Aside0.mk (hi); clear BK595; clear HO604; clear BK607; clear HB; clear HI598; have BK595 := n0_; have HO604 := n1_; have BK607 := n2_; have HB := n3_; have HI598 := n4_; clear n0_ n1_ n2_ n3_ n4_; (try clear hb); (try clear hb2); (try clear hk); (try clear hi)) | ((with_reducible refine gate_dst (N := 21) rfl ?_); refine Kd.R_lit (Kd.int .i64) _ 3 ?hg (N := 21) ?hd (xs := ([] : List Int)) (inner := []) (ok := fun _ => True) (okp := fun _ => True) ?hr ?hp (fun _ hk => hk) trivial (Below.refl _ _) (Nat.le_refl _) (by simp) ?_; (case hd => rfl); (case hg => rfl); (case hr => first | (go_simp; done) | (go_simp; rfl)); (case hp => exact (Reps.none _ _)); intro v611 w14 ho15 hb hg_ hnew_; clear hg_ hnew_; (first | rw [← Ny610.out] at ho15 | (simp only [Int.reduceToNat] at ho15; rw [← Ny610.out] at ho15)); have n0_ := Aside0.mk (Kd.R_elder' (by (with_reducible repeat (first | apply Kd.R_alloc | apply Kd.R_drewN | apply Kd.R_drew)); exact HO604.out) (Kd.R_base ho15) hb); have n1_ := Aside0.mk (Kd.R_lower (Kd.R_new' ho15 (Kd.R_lt (by (with_reducible repeat (first | apply Kd.R_alloc | apply Kd.R_drewN | apply Kd.R_drew)); exact HO604.out))) (below_size (by repeat (first | (with_reducible first | exact HB.out | apply below_alloc | apply pw_below_drewN | apply below_drew1 | refine below_set ?_ (IsS69.ge HI598.out) | refine below_set ?_ GE595.out | refine below_set ?_ GE607.out) | exact HB.out)))); have n2_ := Aside0.mk (blk_below (g := gb595) (o := .cells #[.int .i64 0, .int .i64 0, .int .i64 0, .slice none 0 0, .int .i64 0] 31 (0, 0)) (by (with_reducible repeat (first | refine blk_drewN ?_ _ | refine blk_drew ?_ | refine blk_alloc ?_ _)); exact BK595.out) hb); have n3_ := Aside0.mk (IsS69.below (by repeat (first | (with_reducible first | exact HI598.out | apply IsS69.alloc | apply IsS69.drewN | apply IsS69.drew | apply IsS69.set_1 | refine IsS69.far ?_ NB598_595.out _ | refine IsS69.far ?_ NB598_607.out _) | exact HI598.out)) hb); have n4_ := Aside0.mk (blk_below (g := gb607) (o := .cells #[.int .i64 t599, .int .i64 t600, .int .i64 t601, .slice Ao12 t602.length co12, .int .i64 t605] 31 (0, 0)) (by (with_reducible repeat (first | refine blk_drewN ?_ _ | refine blk_drew ?_ | refine blk_alloc ?_ _)); exact BK607.out) hb); have n5_ := Aside0.mk (below_step (by repeat (first | (with_reducible first | exact HB.out | apply below_alloc | apply pw_below_drewN | apply below_drew1 | refine below_set ?_ (IsS69.ge HI598.out) | refine below_set ?_ GE595.out | refine below_set ?_ GE607.out) | exact HB.out)) hb); clear HO604; clear BK595; clear HI598; clear BK607; clear HB; have HO604 := n0_; have HO612 := n1_; have BK595 := n2_; have HI598 := n3_; have BK607 := n4_; have HB := n5_; clear n0_ n1_ n2_ n3_ n4_ n5_; clear hb ho15))
  go_loopg [8, 9] k (fun kq v8 v9 w' => ∃ (x8_1 : List Int) (x9_1 : Int) (x599001_1 : Int), v9 = .int .i64 x9_1 ∧ Aside0 (spec_DrawStaNext.l0 kq t608 x8_1 x9_1 t596 x599001_1 t599 t600 t601 t602 t605 = some (r1, r2, r3, r4, r5, r6, r7)) ∧ Aside0 (kq ≤ k) ∧ Aside0 (Kd.R (Kd.int .i64) 3 w' w.heap.size (fun k_ => some k_ ≠ ((.slice Ao12 t602.length co12) : Value).ownBlock) v8 x8_1) ∧ Aside0 (Kd.R (Kd.int .i64) 3 w' w.heap.size (fun k_ => some k_ ≠ (v8 : Value).ownBlock) (.slice Ao12 t602.length co12) t602) ∧ Aside0 (w'.heap[gb595]? = some (.cells #[.int .i64 0, .int .i64 0, .int .i64 0, (.slice none 0 0), .int .i64 0] 31 (0, 0))) ∧ Aside0 (w'.heap[gb607]? = some (.cells #[.int .i64 t599, .int .i64 t600, .int .i64 t601, (.slice Ao12 t602.length co12), .int .i64 t605] 31 (0, 0))) ∧ Aside0 (IsS69 w w' g598 t596 x599001_1) ∧ Aside0 (Below w.heap.size w w'))
  case atStart => exact ⟨(y610), (0), (t609), (by first | rfl | (simp; done) | (simp [*]; done)), H', ⟨Nat.le_refl _⟩, ⟨by (with_reducible repeat (first | apply Kd.R_alloc | apply Kd.R_drewN | apply Kd.R_drew)); exact Kd.R_mono HO612.out (fun _ hk => hk.2)⟩, ⟨by (with_reducible repeat (first | apply Kd.R_alloc | apply Kd.R_drewN | apply Kd.R_drew)); exact Kd.R_mono HO604.out (fun _ hk => hk.2)⟩, ⟨by (with_reducible repeat (first | refine blk_drewN ?_ _ | refine blk_drew ?_ | refine blk_alloc ?_ _)); exact BK595.out⟩, ⟨by (with_reducible repeat (first | refine blk_drewN ?_ _ | refine blk_drew ?_ | refine blk_alloc ?_ _)); exact BK607.out⟩, ⟨by repeat (first | (with_reducible first | exact HI598.out | apply IsS69.alloc | apply IsS69.drewN | apply IsS69.drew | apply IsS69.set_1 | refine IsS69.far ?_ NB598_595.out _ | refine IsS69.far ?_ NB598_607.out _) | exact HI598.out)⟩, ⟨by repeat (first | (with_reducible first | exact HB.out | apply below_alloc | apply pw_below_drewN | apply below_drew1 | refine below_set ?_ (IsS69.ge HI598.out) | refine below_set ?_ GE595.out | refine below_set ?_ GE607.out) | exact HB.out)⟩⟩
  case round =>
    clear H'
    try clear c1
    try clear p2
    try clear c3
    try clear c4
    try clear p6
    try clear c9
    try clear c10
    try clear hcz11_0
    try clear hcz11_1
    try clear hcz11_2
    try clear hcz11_3
    try clear hcz11_4
    try clear hfz11_0
    try clear hfz11_1
    try clear hfz11_2
    try clear hfz11_3
    try clear hfz11_4
    obtain ⟨x8_1, x9_1, x599001_1, rfl, HA, HK1, HO_8, HO_608003, BK595, BK607, HI598, HB⟩ := hrel
    cases gk with
    | zero => exact absurd HA.out (by simp [spec_DrawStaNext.l0])
    | succ k1 =>
      have H := HA.out
      clear HA
      simp only [spec_DrawStaNext.l0] at H
      by_cases c16 : x9_1 < (t602.length : Int)
      · rw [if_pos c16] at H
        have c16b0 : decide (x9_1 < (t602.length : Int)) = true := decide_eq_true c16
        clear c16
        by_cases c17 : x9_1 < t608
        · rw [if_pos c17] at H
          have c17b0 : decide (x9_1 < t608) = true := decide_eq_true c17
          clear c17
          replace H := Option.bind_eq_some_iff.mp H
          obtain ⟨⟨t613, t614⟩, A180, H⟩ := H
          replace H : (if x8_1.length < 17592186044416 then (spec_DrawStaNext.l0 k1 t608 (x8_1 ++ [t613]) (wrap64 (x9_1 + 1)) t596 t614 t599 t600 t601 t602 t605) else (none)) = some (r1, r2, r3, r4, r5, r6, r7) := H
          have A18 := Aside0.mk A180
          clear A180
          by_cases c19 : x8_1.length < 17592186044416
          · rw [if_pos c19] at H
            have LMc19 := Aside0.mk c19
            clear c19
            obtain ⟨y615, hy615⟩ : ∃ y_ : List Int, y_ = (x8_1 ++ [t613]) := ⟨_, rfl⟩
            replace H : (spec_DrawStaNext.l0 k1 t608 y615 (wrap64 (x9_1 + 1)) t596 t614 t599 t600 t601 t602 t605) = some (r1, r2, r3, r4, r5, r6, r7) := by first | (rw [hy615]; with_reducible exact H) | (have H2_ := (Option.bind_some _ _).symm.trans H; rw [hy615]; with_reducible exact H2_) | (have H2_ := (Option.bind_some _ _).symm.trans H; with_reducible exact H2_) | with_reducible exact H | (rw [hy615]; exact H) | exact H
            have Ny615 := Aside0.mk hy615
            clear hy615
            have H' := Aside0.mk H
            clear H
            have hnb20 := NB607_595.out
            have hnc20 := NB595_607.out
            have hnb21 := NB607_598.out
            have hnc21 := NB598_607.out
            have hcz22_0 : wr.cell? ⟨gb607, 0, none⟩ = some (.int .i64 t599) := (blk_cell BK607.out 0).trans rfl
            have hcz22_1 : wr.cell? ⟨gb607, 1, none⟩ = some (.int .i64 t600) := (blk_cell BK607.out 1).trans rfl
            have hcz22_2 : wr.cell? ⟨gb607, 2, none⟩ = some (.int .i64 t601) := (blk_cell BK607.out 2).trans rfl
            have hcz22_3 : wr.cell? ⟨gb607, 3, none⟩ = some (.slice Ao12 t602.length co12) := (blk_cell BK607.out 3).trans rfl
            have hcz22_4 : wr.cell? ⟨gb607, 4, none⟩ = some (.int .i64 t605) := (blk_cell BK607.out 4).trans rfl
            have hfz22_0 := blk_frozen BK607.out 0
            have hfz22_1 := blk_frozen BK607.out 1
            have hfz22_2 := blk_frozen BK607.out 2
            have hfz22_3 := blk_frozen BK607.out 3
            have hfz22_4 := blk_frozen BK607.out 4
            go_wp2_with (first | ((with_reducible refine gate_callee (f := 49) rfl ?_); refine goesL_ (some 35) rfl rfl Try.func49 (by kernel_rfl) rfl #[.pointer (some ⟨g598, 0, none⟩), .agg #[.int .i64 t599, .int .i64 t600, .int .i64 t601, .slice Ao12 t602.length co12, .int .i64 t605], .int .i64 x9_1] rfl (by (try simp only [List.map_toArray, List.map_cons, List.map_nil]); first | done | rfl | (simp only [List.length_drop, List.length_take]; rfl)) ?_; (with_reducible refine (spec_l20Near.calls k1 g598 t596 x599001_1 t599 t600 t601 _ _ t602 t605 x9_1 t613 t614 w _ ?side1 ?side2 ?side3 ?side4 ?side5 A18.out).mono ?_); (case side1 => repeat (first | (with_reducible first | exact HI598.out | apply IsS69.alloc | apply IsS69.drewN | apply IsS69.drew | apply IsS69.set_1 | refine IsS69.far ?_ NB598_595.out _ | refine IsS69.far ?_ NB598_607.out _) | exact HI598.out)); (case side2 => repeat (first | (with_reducible first | exact HB.out | apply below_alloc | apply pw_below_drewN | apply below_drew1 | refine below_set ?_ (IsS69.ge HI598.out) | refine below_set ?_ GE595.out | refine below_set ?_ GE607.out) | exact HB.out)); (case side3 => repeat (first | exact (Kd.R_reads' HO_608003.out).2.2 | (with_reducible refine Kd.C_alloc ?_ _) | (with_reducible refine Kd.C_drewN ?_ _) | (with_reducible refine Kd.C_drew ?_))); (case side4 => exact (Kd.R_reads' HO_608003.out).2.1); (case side5 => exact far_slice (IsS69.own_ne HI598.out HO_608003.out (by decide))); rintro e w23 ⟨rfl, hi, hb, hk⟩; refine ⟨_, rfl, ?_⟩; have n0_ := Aside0.mk (Kd.R_mono (Kd.R_keep (IsS69.apart (show IsS69 w _ g598 t596 x599001_1 from by repeat (first | (with_reducible first | exact HI598.out | apply IsS69.alloc | apply IsS69.drewN | apply IsS69.drew | apply IsS69.set_1 | refine IsS69.far ?_ NB598_595.out _ | refine IsS69.far ?_ NB598_607.out _) | exact HI598.out)) (by (with_reducible repeat (first | apply Kd.R_alloc | apply Kd.R_drewN | apply Kd.R_drew)); exact HO_8.out) (by decide)) hk (fun _ h => h.2)) (fun _ h => h.1)); have n1_ := Aside0.mk (Kd.R_mono (Kd.R_keep (IsS69.apart (show IsS69 w _ g598 t596 x599001_1 from by repeat (first | (with_reducible first | exact HI598.out | apply IsS69.alloc | apply IsS69.drewN | apply IsS69.drew | apply IsS69.set_1 | refine IsS69.far ?_ NB598_595.out _ | refine IsS69.far ?_ NB598_607.out _) | exact HI598.out)) (by (with_reducible repeat (first | apply Kd.R_alloc | apply Kd.R_drewN | apply Kd.R_drew)); exact HO_608003.out) (by decide)) hk (fun _ h => h.2)) (fun _ h => h.1)); have n2_ := Aside0.mk (KeepBut.blk hk (g' := gb595) (o := .cells #[.int .i64 0, .int .i64 0, .int .i64 0, .slice none 0 0, .int .i64 0] 31 (0, 0)) (by (with_reducible repeat (first | refine blk_drewN ?_ _ | refine blk_drew ?_ | refine blk_alloc ?_ _)); exact BK595.out) NB595_598.out (by simp)); have n3_ := Aside0.mk (KeepBut.blk hk (g' := gb607) (o := .cells #[.int .i64 t599, .int .i64 t600, .int .i64 t601, .slice Ao12 t602.length co12, .int .i64 t605] 31 (0, 0)) (by (with_reducible repeat (first | refine blk_drewN ?_ _ | refine blk_drew ?_ | refine blk_alloc ?_ _)); exact BK607.out) NB607_598.out (by simp)); have n4_ := Aside0.mk (hb); have n5_ := Aside0.mk (hi); clear HO_8; clear HO_608003; clear BK595; clear BK607; clear HB; clear HI598; have HO_8 := n0_; have HO_608003 := n1_; have BK595 := n2_; have BK607 := n3_; have HB := n4_; have HI598 := n5_; clear n0_ n1_ n2_ n3_ n4_ n5_; (try clear hb); (try clear hb2); (try clear hk); (try clear hi)) | ((with_reducible refine gate_builtin (b := .append) (xs := #[.tmp 36, .tmp 38]) rfl ?_); at_builtin; refine Kd.R_append (Kd.int .i64) (w0 := w) w.heap.size rfl (.tmp 36) (.tmp 38) 24 3 (.int .i64 0) 8 rfl Try.underlying24 info3 rfl (by decide) (by omega) u8 x8_1 t613 [.int .i64 t613] (fun k_ => some k_ ≠ (.slice Ao12 t602.length co12 : Value).ownBlock) (fun _ => False) rfl rfl ?aP (fun _ hk => hk.elim) ?aF ?aO ?aB ?aS ?aL ?_; (case aP => exact rfl); (case aB => exact (by repeat (first | (with_reducible first | exact HB.out | apply below_alloc | apply pw_below_drewN | apply below_drew1 | refine below_set ?_ (IsS69.ge HI598.out) | refine below_set ?_ GE595.out | refine below_set ?_ GE607.out) | exact HB.out))); (case aF => exact (fun k_ hk => Kd.fresh' (Kd.R_lt (by (with_reducible repeat (first | apply Kd.R_alloc | apply Kd.R_drewN | apply Kd.R_drew)); exact HO_608003.out)) k_ hk)); (case aO => exact (by (with_reducible repeat (first | apply Kd.R_alloc | apply Kd.R_drewN | apply Kd.R_drew)); exact HO_8.out)); (case aS => exact (below_size (by repeat (first | (with_reducible first | exact HB.out | apply below_alloc | apply pw_below_drewN | apply below_drew1 | refine below_set ?_ (IsS69.ge HI598.out) | refine below_set ?_ GE595.out | refine below_set ?_ GE607.out) | exact HB.out)))); (case aL => have := LMc19.out; omega); intro v616 w24 ho hb hg hat; rw [← Ny615.out] at ho; have n0_ := Aside0.mk (Kd.R_after (ok := (fun _ => True)) (by (with_reducible repeat (first | apply Kd.R_alloc | apply Kd.R_drewN | apply Kd.R_drew)); exact Kd.R_mono HO_608003.out (fun _ hk => ⟨trivial, hk⟩)) hg hat); have n1_ := Aside0.mk (blk_grown (g := gb595) (o := .cells #[.int .i64 0, .int .i64 0, .int .i64 0, .slice none 0 0, .int .i64 0] 31 (0, 0)) (by (with_reducible repeat (first | refine blk_drewN ?_ _ | refine blk_drew ?_ | refine blk_alloc ?_ _)); exact BK595.out) hg (Kd.R_ne HO_8.out BK595.out (by decide))); have n2_ := Aside0.mk (blk_grown (g := gb607) (o := .cells #[.int .i64 t599, .int .i64 t600, .int .i64 t601, .slice Ao12 t602.length co12, .int .i64 t605] 31 (0, 0)) (by (with_reducible repeat (first | refine blk_drewN ?_ _ | refine blk_drew ?_ | refine blk_alloc ?_ _)); exact BK607.out) hg (Kd.R_ne HO_8.out BK607.out (by decide))); have n3_ := Aside0.mk (IsS69.grown (by repeat (first | (with_reducible first | exact HI598.out | apply IsS69.alloc | apply IsS69.drewN | apply IsS69.drew | apply IsS69.set_1 | refine IsS69.far ?_ NB598_595.out _ | refine IsS69.far ?_ NB598_607.out _) | exact HI598.out)) hg (IsS69.own_ne HI598.out HO_8.out (by decide))); have n4_ := Aside0.mk (hb); have n5_ := Aside0.mk (ho); clear HO_608003; clear BK595; clear BK607; clear HI598; clear HB; clear HO_8; have HO_608003 := n0_; have BK595 := n1_; have BK607 := n2_; have HI598 := n3_; have HB := n4_; have HO617 := n5_; clear n0_ n1_ n2_ n3_ n4_ n5_; clear ho hb hg hat))
            go_roundg k1
            case measure => have := HK1.out; omega
            case rel => exact ⟨(y615), (wrap64 (x9_1 + 1)), (t614), (by first | rfl | (simp; done) | (simp [*]; done)), H', ⟨by have := HK1.out; omega⟩, ⟨by (with_reducible repeat (first | apply Kd.R_alloc | apply Kd.R_drewN | apply Kd.R_drew)); exact HO617.out⟩, ⟨by (with_reducible repeat (first | apply Kd.R_alloc | apply Kd.R_drewN | apply Kd.R_drew)); exact Kd.R_mono HO_608003.out (fun _ hk => hk.2)⟩, ⟨by (with_reducible repeat (first | refine blk_drewN ?_ _ | refine blk_drew ?_ | refine blk_alloc ?_ _)); exact BK595.out⟩, ⟨by (with_reducible repeat (first | refine blk_drewN ?_ _ | refine blk_drew ?_ | refine blk_alloc ?_ _)); exact BK607.out⟩, ⟨by repeat (first | (with_reducible first | exact HI598.out | apply IsS69.alloc | apply IsS69.drewN | apply IsS69.drew | apply IsS69.set_1 | refine IsS69.far ?_ NB598_595.out _ | refine IsS69.far ?_ NB598_607.out _) | exact HI598.out)⟩, ⟨by repeat (first | (with_reducible first | exact HB.out | apply below_alloc | apply pw_below_drewN | apply below_drew1 | refine below_set ?_ (IsS69.ge HI598.out) | refine below_set ?_ GE595.out | refine below_set ?_ GE607.out) | exact HB.out)⟩⟩
          · rw [if_neg c19] at H
            exact absurd H (by simp)
        · rw [if_neg c17] at H
          have c17b0 : decide (x9_1 < t608) = false := decide_eq_false c17
          clear c17
          by_cases c25 : x8_1.length < 17592186044416
          · rw [if_pos c25] at H
            have LMc25 := Aside0.mk c25
            clear c25
            obtain ⟨y618, hy618⟩ : ∃ y_ : List Int, y_ = (x8_1 ++ [(-1)]) := ⟨_, rfl⟩
            replace H : (spec_DrawStaNext.l0 k1 t608 y618 (wrap64 (x9_1 + 1)) t596 x599001_1 t599 t600 t601 t602 t605) = some (r1, r2, r3, r4, r5, r6, r7) := by first | (rw [hy618]; with_reducible exact H) | (have H2_ := (Option.bind_some _ _).symm.trans H; rw [hy618]; with_reducible exact H2_) | (have H2_ := (Option.bind_some _ _).symm.trans H; with_reducible exact H2_) | with_reducible exact H | (rw [hy618]; exact H) | exact H
            have Ny618 := Aside0.mk hy618
            clear hy618
            have H' := Aside0.mk H
            clear H
            have hnb26 := NB607_595.out
            have hnc26 := NB595_607.out
            have hnb27 := NB607_598.out
            have hnc27 := NB598_607.out
            have hcz28_0 : wr.cell? ⟨gb607, 0, none⟩ = some (.int .i64 t599) := (blk_cell BK607.out 0).trans rfl
            have hcz28_1 : wr.cell? ⟨gb607, 1, none⟩ = some (.int .i64 t600) := (blk_cell BK607.out 1).trans rfl
            have hcz28_2 : wr.cell? ⟨gb607, 2, none⟩ = some (.int .i64 t601) := (blk_cell BK607.out 2).trans rfl
            have hcz28_3 : wr.cell? ⟨gb607, 3, none⟩ = some (.slice Ao12 t602.length co12) := (blk_cell BK607.out 3).trans rfl
            have hcz28_4 : wr.cell? ⟨gb607, 4, none⟩ = some (.int .i64 t605) := (blk_cell BK607.out 4).trans rfl
            have hfz28_0 := blk_frozen BK607.out 0
            have hfz28_1 := blk_frozen BK607.out 1
            have hfz28_2 := blk_frozen BK607.out 2
            have hfz28_3 := blk_frozen BK607.out 3
            have hfz28_4 := blk_frozen BK607.out 4
            go_wp2_with (first | ((with_reducible refine gate_builtin (b := .append) (xs := #[.tmp 36, .tmp 38]) rfl ?_); at_builtin; refine Kd.R_append (Kd.int .i64) (w0 := w) w.heap.size rfl (.tmp 36) (.tmp 38) 24 3 (.int .i64 0) 8 rfl Try.underlying24 info3 rfl (by decide) (by omega) u8 x8_1 (-1) [.int .i64 (-1)] (fun k_ => some k_ ≠ (.slice Ao12 t602.length co12 : Value).ownBlock) (fun _ => False) rfl rfl ?aP (fun _ hk => hk.elim) ?aF ?aO ?aB ?aS ?aL ?_; (case aP => exact rfl); (case aB => exact (by repeat (first | (with_reducible first | exact HB.out | apply below_alloc | apply pw_below_drewN | apply below_drew1 | refine below_set ?_ (IsS69.ge HI598.out) | refine below_set ?_ GE595.out | refine below_set ?_ GE607.out) | exact HB.out))); (case aF => exact (fun k_ hk => Kd.fresh' (Kd.R_lt (by (with_reducible repeat (first | apply Kd.R_alloc | apply Kd.R_drewN | apply Kd.R_drew)); exact HO_608003.out)) k_ hk)); (case aO => exact (by (with_reducible repeat (first | apply Kd.R_alloc | apply Kd.R_drewN | apply Kd.R_drew)); exact HO_8.out)); (case aS => exact (below_size (by repeat (first | (with_reducible first | exact HB.out | apply below_alloc | apply pw_below_drewN | apply below_drew1 | refine below_set ?_ (IsS69.ge HI598.out) | refine below_set ?_ GE595.out | refine below_set ?_ GE607.out) | exact HB.out)))); (case aL => have := LMc25.out; omega); intro v619 w29 ho hb hg hat; rw [← Ny618.out] at ho; have n0_ := Aside0.mk (Kd.R_after (ok := (fun _ => True)) (by (with_reducible repeat (first | apply Kd.R_alloc | apply Kd.R_drewN | apply Kd.R_drew)); exact Kd.R_mono HO_608003.out (fun _ hk => ⟨trivial, hk⟩)) hg hat); have n1_ := Aside0.mk (blk_grown (g := gb595) (o := .cells #[.int .i64 0, .int .i64 0, .int .i64 0, .slice none 0 0, .int .i64 0] 31 (0, 0)) (by (with_reducible repeat (first | refine blk_drewN ?_ _ | refine blk_drew ?_ | refine blk_alloc ?_ _)); exact BK595.out) hg (Kd.R_ne HO_8.out BK595.out (by decide))); have n2_ := Aside0.mk (blk_grown (g := gb607) (o := .cells #[.int .i64 t599, .int .i64 t600, .int .i64 t601, .slice Ao12 t602.length co12, .int .i64 t605] 31 (0, 0)) (by (with_reducible repeat (first | refine blk_drewN ?_ _ | refine blk_drew ?_ | refine blk_alloc ?_ _)); exact BK607.out) hg (Kd.R_ne HO_8.out BK607.out (by decide))); have n3_ := Aside0.mk (IsS69.grown (by repeat (first | (with_reducible first | exact HI598.out | apply IsS69.alloc | apply IsS69.drewN | apply IsS69.drew | apply IsS69.set_1 | refine IsS69.far ?_ NB598_595.out _ | refine IsS69.far ?_ NB598_607.out _) | exact HI598.out)) hg (IsS69.own_ne HI598.out HO_8.out (by decide))); have n4_ := Aside0.mk (hb); have n5_ := Aside0.mk (ho); clear HO_608003; clear BK595; clear BK607; clear HI598; clear HB; clear HO_8; have HO_608003 := n0_; have BK595 := n1_; have BK607 := n2_; have HI598 := n3_; have HB := n4_; have HO620 := n5_; clear n0_ n1_ n2_ n3_ n4_ n5_; clear ho hb hg hat))
            go_roundg k1
            case measure => have := HK1.out; omega
            case rel => exact ⟨(y618), (wrap64 (x9_1 + 1)), (x599001_1), (by first | rfl | (simp; done) | (simp [*]; done)), H', ⟨by have := HK1.out; omega⟩, ⟨by (with_reducible repeat (first | apply Kd.R_alloc | apply Kd.R_drewN | apply Kd.R_drew)); exact HO620.out⟩, ⟨by (with_reducible repeat (first | apply Kd.R_alloc | apply Kd.R_drewN | apply Kd.R_drew)); exact Kd.R_mono HO_608003.out (fun _ hk => hk.2)⟩, ⟨by (with_reducible repeat (first | refine blk_drewN ?_ _ | refine blk_drew ?_ | refine blk_alloc ?_ _)); exact BK595.out⟩, ⟨by (with_reducible repeat (first | refine blk_drewN ?_ _ | refine blk_drew ?_ | refine blk_alloc ?_ _)); exact BK607.out⟩, ⟨by repeat (first | (with_reducible first | exact HI598.out | apply IsS69.alloc | apply IsS69.drewN | apply IsS69.drew | apply IsS69.set_1 | refine IsS69.far ?_ NB598_595.out _ | refine IsS69.far ?_ NB598_607.out _) | exact HI598.out)⟩, ⟨by repeat (first | (with_reducible first | exact HB.out | apply below_alloc | apply pw_below_drewN | apply below_drew1 | refine below_set ?_ (IsS69.ge HI598.out) | refine below_set ?_ GE595.out | refine below_set ?_ GE607.out) | exact HB.out)⟩⟩
          · rw [if_neg c25] at H
            exact absurd H (by simp)
      · rw [if_neg c16] at H
        have c16b0 : decide (x9_1 < (t602.length : Int)) = false := decide_eq_false c16
        clear c16
        replace H := Option.bind_eq_some_iff.mp H
        obtain ⟨⟨t621, t622⟩, A300, H⟩ := H
        replace H : (if t621 = 0 then (if x8_1.length < 17592186044416 then ((spec_l20Near.f k1 t596 t622 t599 t600 t601 t602 t605 t608).bind fun bt626 => (some (t599, t600, t601, t602, t605, bt626.1, (x8_1 ++ [(-1)])))) else (none)) else ((spec_l20Near.f k1 t596 t622 t599 t600 t601 t602 t605 t608).bind fun bt628 => (some (t599, t600, t601, t602, t605, bt628.1, x8_1)))) = some (r1, r2, r3, r4, r5, r6, r7) := H
        have A30 := Aside0.mk A300
        clear A300
        by_cases c31 : t621 = 0
        · rw [if_pos c31] at H
          have c31b0 : (t621 == 0) = true := beq_iff_eq.mpr c31
          have c31b1 : (t621 != 0) = false := bne_eq_false_iff_eq.mpr c31
          clear c31
          by_cases c32 : x8_1.length < 17592186044416
          · rw [if_pos c32] at H
            have LMc32 := Aside0.mk c32
            clear c32
            obtain ⟨y623, hy623⟩ : ∃ y_ : List Int, y_ = (x8_1 ++ [(-1)]) := ⟨_, rfl⟩
            replace H : ((spec_l20Near.f k1 t596 t622 t599 t600 t601 t602 t605 t608).bind fun bt626 => (some (t599, t600, t601, t602, t605, bt626.1, y623))) = some (r1, r2, r3, r4, r5, r6, r7) := by first | (rw [hy623]; with_reducible exact H) | (have H2_ := (Option.bind_some _ _).symm.trans H; rw [hy623]; with_reducible exact H2_) | (have H2_ := (Option.bind_some _ _).symm.trans H; with_reducible exact H2_) | with_reducible exact H | (rw [hy623]; exact H) | exact H
            have Ny623 := Aside0.mk hy623
            clear hy623
            replace H := Option.bind_eq_some_iff.mp H
            obtain ⟨⟨t626, t627⟩, A330, H⟩ := H
            replace H : (some (t599, t600, t601, t602, t605, t626, y623)) = some (r1, r2, r3, r4, r5, r6, r7) := H
            have A33 := Aside0.mk A330
            clear A330
            simp only [Option.some.injEq, Prod.mk.injEq] at H
            obtain ⟨rfl, rfl, rfl, rfl, rfl, rfl, rfl⟩ := H
            have hnb34 := NB607_595.out
            have hnc34 := NB595_607.out
            have hnb35 := NB607_598.out
            have hnc35 := NB598_607.out
            have hcz36_0 : wr.cell? ⟨gb607, 0, none⟩ = some (.int .i64 t599) := (blk_cell BK607.out 0).trans rfl
            have hcz36_1 : wr.cell? ⟨gb607, 1, none⟩ = some (.int .i64 t600) := (blk_cell BK607.out 1).trans rfl
            have hcz36_2 : wr.cell? ⟨gb607, 2, none⟩ = some (.int .i64 t601) := (blk_cell BK607.out 2).trans rfl
            have hcz36_3 : wr.cell? ⟨gb607, 3, none⟩ = some (.slice Ao12 t602.length co12) := (blk_cell BK607.out 3).trans rfl
            have hcz36_4 : wr.cell? ⟨gb607, 4, none⟩ = some (.int .i64 t605) := (blk_cell BK607.out 4).trans rfl
            have hfz36_0 := blk_frozen BK607.out 0
            have hfz36_1 := blk_frozen BK607.out 1
            have hfz36_2 := blk_frozen BK607.out 2
            have hfz36_3 := blk_frozen BK607.out 3
            have hfz36_4 := blk_frozen BK607.out 4
            try go_wp2_with (first | ((with_reducible refine gate_callee (f := 48) rfl ?_); refine goesL_ (some 41) rfl rfl Try.func48 (by kernel_rfl) rfl #[.pointer (some ⟨g598, 0, none⟩), .int .i64 12] rfl (by (try simp only [List.map_toArray, List.map_cons, List.map_nil]); first | done | rfl | (simp only [List.length_drop, List.length_take]; rfl)) ?_; (with_reducible refine (spec_l20Rd_pick.calls k1 g598 t596 x599001_1 12 t621 t622 w _ ?side1 ?side2 A30.out).mono ?_); (case side1 => repeat (first | (with_reducible first | exact HI598.out | apply IsS69.alloc | apply IsS69.drewN | apply IsS69.drew | apply IsS69.set_1 | refine IsS69.far ?_ NB598_595.out _ | refine IsS69.far ?_ NB598_607.out _) | exact HI598.out)); (case side2 => repeat (first | (with_reducible first | exact HB.out | apply below_alloc | apply pw_below_drewN | apply below_drew1 | refine below_set ?_ (IsS69.ge HI598.out) | refine below_set ?_ GE595.out | refine below_set ?_ GE607.out) | exact HB.out)); rintro e w37 ⟨rfl, hi, hb, hk⟩; refine ⟨_, rfl, ?_⟩; have n0_ := Aside0.mk (Kd.R_mono (Kd.R_keep (IsS69.apart (show IsS69 w _ g598 t596 x599001_1 from by repeat (first | (with_reducible first | exact HI598.out | apply IsS69.alloc | apply IsS69.drewN | apply IsS69.drew | apply IsS69.set_1 | refine IsS69.far ?_ NB598_595.out _ | refine IsS69.far ?_ NB598_607.out _) | exact HI598.out)) (by (with_reducible repeat (first | apply Kd.R_alloc | apply Kd.R_drewN | apply Kd.R_drew)); exact HO_8.out) (by decide)) hk (fun _ h => h.2)) (fun _ h => h.1)); have n1_ := Aside0.mk (Kd.R_mono (Kd.R_keep (IsS69.apart (show IsS69 w _ g598 t596 x599001_1 from by repeat (first | (with_reducible first | exact HI598.out | apply IsS69.alloc | apply IsS69.drewN | apply IsS69.drew | apply IsS69.set_1 | refine IsS69.far ?_ NB598_595.out _ | refine IsS69.far ?_ NB598_607.out _) | exact HI598.out)) (by (with_reducible repeat (first | apply Kd.R_alloc | apply Kd.R_drewN | apply Kd.R_drew)); exact HO_608003.out) (by decide)) hk (fun _ h => h.2)) (fun _ h => h.1)); have n2_ := Aside0.mk (KeepBut.blk hk (g' := gb595) (o := .cells #[.int .i64 0, .int .i64 0, .int .i64 0, .slice none 0 0, .int .i64 0] 31 (0, 0)) (by (with_reducible repeat (first | refine blk_drewN ?_ _ | refine blk_drew ?_ | refine blk_alloc ?_ _)); exact BK595.out) NB595_598.out (by simp)); have n3_ := Aside0.mk (KeepBut.blk hk (g' := gb607) (o := .cells #[.int .i64 t599, .int .i64 t600, .int .i64 t601, .slice Ao12 t602.length co12, .int .i64 t605] 31 (0, 0)) (by (with_reducible repeat (first | refine blk_drewN ?_ _ | refine blk_drew ?_ | refine blk_alloc ?_ _)); exact BK607.out) NB607_598.out (by simp)); have n4_ := Aside0.mk (hb); have n5_ := Aside0.mk (hi); clear HO_8; clear HO_608003; clear BK595; clear BK607; clear HB; clear HI598; have HO_8 := n0_; have HO_608003 := n1_; have BK595 := n2_; have BK607 := n3_; have HB := n4_; have HI598 := n5_; clear n0_ n1_ n2_ n3_ n4_ n5_; (try clear hb); (try clear hb2); (try clear hk); (try clear hi)) | ((with_reducible refine gate_builtin (b := .append) (xs := #[.tmp 43, .tmp 44]) rfl ?_); at_builtin; refine Kd.R_append (Kd.int .i64) (w0 := w) w.heap.size rfl (.tmp 43) (.tmp 44) 24 3 (.int .i64 0) 8 rfl Try.underlying24 info3 rfl (by decide) (by omega) u8 x8_1 (-1) [.int .i64 (-1)] (fun k_ => some k_ ≠ (.slice Ao12 t602.length co12 : Value).ownBlock) (fun _ => False) rfl rfl ?aP (fun _ hk => hk.elim) ?aF ?aO ?aB ?aS ?aL ?_; (case aP => exact rfl); (case aB => exact (by repeat (first | (with_reducible first | exact HB.out | apply below_alloc | apply pw_below_drewN | apply below_drew1 | refine below_set ?_ (IsS69.ge HI598.out) | refine below_set ?_ GE595.out | refine below_set ?_ GE607.out) | exact HB.out))); (case aF => exact (fun k_ hk => Kd.fresh' (Kd.R_lt (by (with_reducible repeat (first | apply Kd.R_alloc | apply Kd.R_drewN | apply Kd.R_drew)); exact HO_608003.out)) k_ hk)); (case aO => exact (by (with_reducible repeat (first | apply Kd.R_alloc | apply Kd.R_drewN | apply Kd.R_drew)); exact HO_8.out)); (case aS => exact (below_size (by repeat (first | (with_reducible first | exact HB.out | apply below_alloc | apply pw_below_drewN | apply below_drew1 | refine below_set ?_ (IsS69.ge HI598.out) | refine below_set ?_ GE595.out | refine below_set ?_ GE607.out) | exact HB.out)))); (case aL => have := LMc32.out; omega); intro v624 w38 ho hb hg hat; rw [← Ny623.out] at ho; have n0_ := Aside0.mk (Kd.R_after (ok := (fun _ => True)) (by (with_reducible repeat (first | apply Kd.R_alloc | apply Kd.R_drewN | apply Kd.R_drew)); exact Kd.R_mono HO_608003.out (fun _ hk => ⟨trivial, hk⟩)) hg hat); have n1_ := Aside0.mk (blk_grown (g := gb595) (o := .cells #[.int .i64 0, .int .i64 0, .int .i64 0, .slice none 0 0, .int .i64 0] 31 (0, 0)) (by (with_reducible repeat (first | refine blk_drewN ?_ _ | refine blk_drew ?_ | refine blk_alloc ?_ _)); exact BK595.out) hg (Kd.R_ne HO_8.out BK595.out (by decide))); have n2_ := Aside0.mk (blk_grown (g := gb607) (o := .cells #[.int .i64 t599, .int .i64 t600, .int .i64 t601, .slice Ao12 t602.length co12, .int .i64 t605] 31 (0, 0)) (by (with_reducible repeat (first | refine blk_drewN ?_ _ | refine blk_drew ?_ | refine blk_alloc ?_ _)); exact BK607.out) hg (Kd.R_ne HO_8.out BK607.out (by decide))); have n3_ := Aside0.mk (IsS69.grown (by repeat (first | (with_reducible first | exact HI598.out | apply IsS69.alloc | apply IsS69.drewN | apply IsS69.drew | apply IsS69.set_1 | refine IsS69.far ?_ NB598_595.out _ | refine IsS69.far ?_ NB598_607.out _) | exact HI598.out)) hg (IsS69.own_ne HI598.out HO_8.out (by decide))); have n4_ := Aside0.mk (hb); have n5_ := Aside0.mk (ho); clear HO_608003; clear BK595; clear BK607; clear HI598; clear HB; clear HO_8; have HO_608003 := n0_; have BK595 := n1_; have BK607 := n2_; have HI598 := n3_; have HB := n4_; have HO625 := n5_; clear n0_ n1_ n2_ n3_ n4_ n5_; clear ho hb hg hat))
            have n0_ := Aside0.mk (Kd.R_drew HO_608003.out)
            have n1_ := Aside0.mk (Kd.R_drew HO625.out)
            have n2_ := Aside0.mk (blk_drew BK595.out)
            have n3_ := Aside0.mk (blk_drew BK607.out)
            have n4_ := Aside0.mk (IsS69.drew HI598.out)
            have n5_ := Aside0.mk (below_drew1 HB.out)
            clear HO_608003
            clear HO625
            clear BK595
            clear BK607
            clear HI598
            clear HB
            have HO_608003 := n0_
            have HO625 := n1_
            have BK595 := n2_
            have BK607 := n3_
            have HI598 := n4_
            have HB := n5_
            clear n0_ n1_ n2_ n3_ n4_ n5_
            refine start_ (n := 9) (S := fun w' => w'.cell? ⟨gb607, 0, none⟩ = some (.int .i64 t599) ∧ w'.cell? ⟨gb607, 1, none⟩ = some (.int .i64 t600) ∧ w'.cell? ⟨gb607, 2, none⟩ = some (.int .i64 t601) ∧ w'.cell? ⟨gb607, 3, none⟩ = some (.slice Ao12 t602.length co12) ∧ w'.cell? ⟨gb607, 4, none⟩ = some (.int .i64 t605)) (ds := []) #[false, false, false, false, false, false, false, false, false] (by kernel_rfl) rfl rfl ⟨(blk_cell BK607.out 0).trans rfl, (blk_cell BK607.out 1).trans rfl, (blk_cell BK607.out 2).trans rfl, (blk_cell BK607.out 3).trans rfl, (blk_cell BK607.out 4).trans rfl⟩ (fun hHeld => ?_); refine with_tabW spec_DrawStaNext.tab14 spec_DrawStaNext.bits14 (fun HT_ HW_ => ?_)
            generalize w38.drew = w39 at HO_608003 HO625 BK595 BK607 HI598 HB hHeld ⊢
            refine pure_ (i := 1) (N := some 47) (v := ?_) (a' := ?_) #[false, true, false, false, false, false, false, false, false] rfl rfl (any_of HT_.out (by kernel_rfl)) (fun _ _ _ h => h) (Or.inl ⟨by rfl, ?_⟩) ?_ ?_
            rotate_left
            · intro w'
              go_simp
              with_reducible rfl
            rotate_left
            · simp only [Act.put, List.setIfInBounds_toArray, List.set_cons_zero, List.set_cons_succ, i64_w, i32_w]
              rfl
            refine pure_ (i := 3) (N := some 49) (v := ?_) (a' := ?_) #[false, true, false, true, false, false, false, false, false] rfl rfl (any_of HT_.out (by kernel_rfl)) (fun _ _ _ h => h) (Or.inl ⟨by rfl, ?_⟩) ?_ ?_
            rotate_left
            · intro w'
              go_simp
              with_reducible rfl
            rotate_left
            · simp only [Act.put, List.setIfInBounds_toArray, List.set_cons_zero, List.set_cons_succ, i64_w, i32_w]
              rfl
            refine pure_ (i := 5) (N := some 51) (v := ?_) (a' := ?_) #[false, true, false, true, false, true, false, false, false] rfl rfl (any_of HT_.out (by kernel_rfl)) (fun _ _ _ h => h) (Or.inl ⟨by rfl, ?_⟩) ?_ ?_
            rotate_left
            · intro w'
              go_simp
              with_reducible rfl
            rotate_left
            · simp only [Act.put, List.setIfInBounds_toArray, List.set_cons_zero, List.set_cons_succ, i64_w, i32_w]
              rfl
            refine take_ (i := 0) (N := some 46) (v := ?_) (a' := ?_) #[true, true, false, true, false, true, false, false, false] rfl rfl (take_ofW HT_.out HW_.out (by kernel_rfl)) (fun _ _ _ h => h) (Or.inl ⟨by rfl, ?_⟩) hHeld ?_ ?_
            rotate_left
            · rintro w' ⟨s0, s1, s2, s3, s4⟩
              go_simp
              with_reducible rfl
            rotate_left
            · simp only [Act.put, List.setIfInBounds_toArray, List.set_cons_zero, List.set_cons_succ, i64_w, i32_w]
              rfl
            refine take_ (i := 2) (N := some 48) (v := ?_) (a' := ?_) #[true, true, true, true, false, true, false, false, false] rfl rfl (take_ofW HT_.out HW_.out (by kernel_rfl)) (fun _ _ _ h => h) (Or.inl ⟨by rfl, ?_⟩) hHeld ?_ ?_
            rotate_left
            · rintro w' ⟨s0, s1, s2, s3, s4⟩
              go_simp
              with_reducible rfl
            rotate_left
            · simp only [Act.put, List.setIfInBounds_toArray, List.set_cons_zero, List.set_cons_succ, i64_w, i32_w]
              rfl
            refine one_ (i := 4) (N := some 50) #[true, true, true, true, true, true, false, false, false] rfl rfl (one_of HT_.out (by kernel_rfl)) (by decide) (fun K hK => ?_)
            refine goes_ Try.func49 (by kernel_rfl) rfl #[.pointer (some ⟨g598, 0, none⟩), .agg #[.int .i64 t599, .int .i64 t600, .int .i64 t601, .slice Ao12 t602.length co12, .int .i64 t605], .int .i64 t608] (by rfl) rfl rfl (by (try simp only [List.map_toArray, List.map_cons, List.map_nil]); first | done | rfl | (simp only [List.length_drop, List.length_take]; rfl)) ?_
            with_reducible refine (spec_l20Near.calls k1 g598 t596 t622 t599 t600 t601 _ _ t602 t605 t608 t626 t627 w _ ?side1 ?side2 ?side3 ?side4 ?side5 A33.out).mono ?_
            (case side1 => repeat (first | (with_reducible first | exact HI598.out | apply IsS69.alloc | apply IsS69.drewN | apply IsS69.drew | apply IsS69.set_1 | refine IsS69.far ?_ NB598_595.out _ | refine IsS69.far ?_ NB598_607.out _) | exact HI598.out))
            (case side2 => repeat (first | (with_reducible first | exact HB.out | apply below_alloc | apply pw_below_drewN | apply below_drew1 | refine below_set ?_ (IsS69.ge HI598.out) | refine below_set ?_ GE595.out | refine below_set ?_ GE607.out) | exact HB.out))
            (case side3 => repeat (first | exact (Kd.R_reads' HO_608003.out).2.2 | (with_reducible refine Kd.C_alloc ?_ _) | (with_reducible refine Kd.C_drewN ?_ _) | (with_reducible refine Kd.C_drew ?_)))
            (case side4 => exact (Kd.R_reads' HO_608003.out).2.1)
            (case side5 => exact far_slice (IsS69.own_ne HI598.out HO_608003.out (by decide)))
            rintro e w40 ⟨rfl, hi, hb, hk⟩
            refine ⟨_, rfl, ?_⟩
            have n0_ := Aside0.mk (Kd.R_mono (Kd.R_keep (IsS69.apart (show IsS69 w _ g598 t596 t622 from by repeat (first | (with_reducible first | exact HI598.out | apply IsS69.alloc | apply IsS69.drewN | apply IsS69.drew | apply IsS69.set_1 | refine IsS69.far ?_ NB598_595.out _ | refine IsS69.far ?_ NB598_607.out _) | exact HI598.out)) (by (with_reducible repeat (first | apply Kd.R_alloc | apply Kd.R_drewN | apply Kd.R_drew)); exact HO_608003.out) (by decide)) hk (fun _ h => h.2)) (fun _ h => h.1))
            have n1_ := Aside0.mk (KeepBut.blk hk (g' := gb595) (o := .cells #[.int .i64 0, .int .i64 0, .int .i64 0, .slice none 0 0, .int .i64 0] 31 (0, 0)) (by (with_reducible repeat (first | refine blk_drewN ?_ _ | refine blk_drew ?_ | refine blk_alloc ?_ _)); exact BK595.out) NB595_598.out (by simp))
            have n2_ := Aside0.mk (KeepBut.blk hk (g' := gb607) (o := .cells #[.int .i64 t599, .int .i64 t600, .int .i64 t601, .slice Ao12 t602.length co12, .int .i64 t605] 31 (0, 0)) (by (with_reducible repeat (first | refine blk_drewN ?_ _ | refine blk_drew ?_ | refine blk_alloc ?_ _)); exact BK607.out) NB607_598.out (by simp))
            have n3_ := Aside0.mk (Kd.R_mono (Kd.R_keep (IsS69.apart (show IsS69 w _ g598 t596 t622 from by repeat (first | (with_reducible first | exact HI598.out | apply IsS69.alloc | apply IsS69.drewN | apply IsS69.drew | apply IsS69.set_1 | refine IsS69.far ?_ NB598_595.out _ | refine IsS69.far ?_ NB598_607.out _) | exact HI598.out)) (by (with_reducible repeat (first | apply Kd.R_alloc | apply Kd.R_drewN | apply Kd.R_drew)); exact HO625.out) (by decide)) hk (fun _ h => h.2)) (fun _ h => h.1))
            have n4_ := Aside0.mk (hb)
            have n5_ := Aside0.mk (hi)
            clear HO_608003
            clear BK595
            clear BK607
            clear HO625
            clear HB
            clear HI598
            have HO_608003 := n0_
            have BK595 := n1_
            have BK607 := n2_
            have HO625 := n3_
            have HB := n4_
            have HI598 := n5_
            clear n0_ n1_ n2_ n3_ n4_ n5_
            (try clear hb)
            (try clear hb2)
            (try clear hk)
            (try clear hi)
            refine hK.out _ _ ⟨(blk_cell BK607.out 0).trans rfl, (blk_cell BK607.out 1).trans rfl, (blk_cell BK607.out 2).trans rfl, (blk_cell BK607.out 3).trans rfl, (blk_cell BK607.out 4).trans rfl⟩ (fun hHeld => ?_)
            clear hK K
            refine norm_ (a' := ?_) ?_ ?_
            rotate_left
            · show Act.put _ (some 50) _ = _
              simp only [Act.put, List.setIfInBounds_toArray, List.set_cons_zero, List.set_cons_succ, i64_w, i32_w]
              rfl
            refine one_ (i := 6) (N := none) #[true, true, true, true, true, true, true, false, false] rfl rfl (one_of HT_.out (by kernel_rfl)) (by decide) (fun K hK => ?_)
            have hs41 : w40.cell? ⟨gb595, 0, none⟩ = some (.int .i64 0) := (blk_cell BK595.out 0).trans rfl
            have hfs41 := blk_frozen BK595.out 0
            have hns41_1 := NB607_595.out
            have hms41_1 := NB595_607.out
            have hs42 : w40.cell? ⟨gb595, 1, none⟩ = some (.int .i64 0) := (blk_cell BK595.out 1).trans rfl
            have hfs42 := blk_frozen BK595.out 1
            have hns42_1 := NB607_595.out
            have hms42_1 := NB595_607.out
            have hs43 : w40.cell? ⟨gb595, 2, none⟩ = some (.int .i64 0) := (blk_cell BK595.out 2).trans rfl
            have hfs43 := blk_frozen BK595.out 2
            have hns43_1 := NB607_595.out
            have hms43_1 := NB595_607.out
            have hs44 : w40.cell? ⟨gb595, 3, none⟩ = some (.slice none 0 0) := (blk_cell BK595.out 3).trans rfl
            have hfs44 := blk_frozen BK595.out 3
            have hns44_1 := NB607_595.out
            have hms44_1 := NB595_607.out
            have hs45 : w40.cell? ⟨gb595, 4, none⟩ = some (.int .i64 0) := (blk_cell BK595.out 4).trans rfl
            have hfs45 := blk_frozen BK595.out 4
            have hns45_1 := NB607_595.out
            have hms45_1 := NB595_607.out
            refine skip_ (w1 := ?_) (by rfl) rfl ?_ ?_
            rotate_left
            · go_simp
              rfl
            refine hK.out _ _ ⟨((cell_far (p := ⟨gb595, _, none⟩) NB607_595.out _).trans (((cell_far (p := ⟨gb595, _, none⟩) NB607_595.out _).trans (((cell_far (p := ⟨gb595, _, none⟩) NB607_595.out _).trans (((cell_far (p := ⟨gb595, _, none⟩) NB607_595.out _).trans (((cell_far (p := ⟨gb595, _, none⟩) NB607_595.out _).trans (hHeld.1)))))))))), ((cell_far (p := ⟨gb595, _, none⟩) NB607_595.out _).trans (((cell_far (p := ⟨gb595, _, none⟩) NB607_595.out _).trans (((cell_far (p := ⟨gb595, _, none⟩) NB607_595.out _).trans (((cell_far (p := ⟨gb595, _, none⟩) NB607_595.out _).trans (((cell_far (p := ⟨gb595, _, none⟩) NB607_595.out _).trans (hHeld.2.1)))))))))), ((cell_far (p := ⟨gb595, _, none⟩) NB607_595.out _).trans (((cell_far (p := ⟨gb595, _, none⟩) NB607_595.out _).trans (((cell_far (p := ⟨gb595, _, none⟩) NB607_595.out _).trans (((cell_far (p := ⟨gb595, _, none⟩) NB607_595.out _).trans (((cell_far (p := ⟨gb595, _, none⟩) NB607_595.out _).trans (hHeld.2.2.1)))))))))), ((cell_far (p := ⟨gb595, _, none⟩) NB607_595.out _).trans (((cell_far (p := ⟨gb595, _, none⟩) NB607_595.out _).trans (((cell_far (p := ⟨gb595, _, none⟩) NB607_595.out _).trans (((cell_far (p := ⟨gb595, _, none⟩) NB607_595.out _).trans (((cell_far (p := ⟨gb595, _, none⟩) NB607_595.out _).trans (hHeld.2.2.2.1)))))))))), ((cell_far (p := ⟨gb595, _, none⟩) NB607_595.out _).trans (((cell_far (p := ⟨gb595, _, none⟩) NB607_595.out _).trans (((cell_far (p := ⟨gb595, _, none⟩) NB607_595.out _).trans (((cell_far (p := ⟨gb595, _, none⟩) NB607_595.out _).trans (((cell_far (p := ⟨gb595, _, none⟩) NB607_595.out _).trans (hHeld.2.2.2.2))))))))))⟩ (fun hHeld => ?_)
            clear hK K
            refine pure_ (i := 7) (N := some 3) (v := ?_) (a' := ?_) #[true, true, true, true, true, true, true, true, false] rfl rfl (any_of HT_.out (by kernel_rfl)) (fun _ _ _ h => h) (Or.inl ⟨by rfl, ?_⟩) ?_ ?_
            rotate_left
            · intro w'
              go_simp
              with_reducible rfl
            rotate_left
            · simp only [Act.put, List.setIfInBounds_toArray, List.set_cons_zero, List.set_cons_succ, i64_w, i32_w]
              rfl
            refine pure_ (i := 8) (N := some 4) (v := ?_) (a' := ?_) #[true, true, true, true, true, true, true, true, true] rfl rfl (any_of HT_.out (by kernel_rfl)) (fun _ _ _ h => h) (Or.inl ⟨by rfl, ?_⟩) ?_ ?_
            rotate_left
            · intro w'
              go_simp
              with_reducible rfl
            rotate_left
            · simp only [Act.put, List.setIfInBounds_toArray, List.set_cons_zero, List.set_cons_succ, i64_w, i32_w]
              rfl
            refine done_ (done_of HT_.out (by kernel_rfl)) ?_
            try go_wp2
            refine bodyPost_ret (results_ctt rfl _ _ gb595 31 #[.int .i64 t599, .int .i64 t600, .int .i64 t601, .slice Ao12 t602.length co12, .int .i64 t605] (0, 0) _ rfl (by (with_reducible repeat (first | refine blk_drewN ?_ _ | refine blk_drew ?_ | refine blk_alloc ?_ _)); refine blk_put (cs := #[.int .i64 t599, .int .i64 t600, .int .i64 t601, .slice Ao12 t602.length co12, .int .i64 0]) ?_ 4 _ rfl; (with_reducible repeat (first | refine blk_drewN ?_ _ | refine blk_drew ?_ | refine blk_alloc ?_ _)); refine blk_put (cs := #[.int .i64 t599, .int .i64 t600, .int .i64 t601, .slice none 0 0, .int .i64 0]) ?_ 3 _ rfl; (with_reducible repeat (first | refine blk_drewN ?_ _ | refine blk_drew ?_ | refine blk_alloc ?_ _)); refine blk_put (cs := #[.int .i64 t599, .int .i64 t600, .int .i64 0, .slice none 0 0, .int .i64 0]) ?_ 2 _ rfl; (with_reducible repeat (first | refine blk_drewN ?_ _ | refine blk_drew ?_ | refine blk_alloc ?_ _)); refine blk_put (cs := #[.int .i64 t599, .int .i64 0, .int .i64 0, .slice none 0 0, .int .i64 0]) ?_ 1 _ rfl; (with_reducible repeat (first | refine blk_drewN ?_ _ | refine blk_drew ?_ | refine blk_alloc ?_ _)); refine blk_put (cs := #[.int .i64 0, .int .i64 0, .int .i64 0, .slice none 0 0, .int .i64 0]) ?_ 0 _ rfl; (with_reducible repeat (first | refine blk_drewN ?_ _ | refine blk_drew ?_ | refine blk_alloc ?_ _)); exact BK595.out) Try.underlying31 rfl (by kernel_rfl)) rfl ?_
            exact ⟨_, _, by first | rfl | (simp [errW_none, errW_some] <;> rfl) | (simp [*, errW_none, errW_some] <;> rfl), by (with_reducible repeat (first | apply Kd.R_alloc | apply Kd.R_drewN | apply Kd.R_drew)); exact Kd.R_mono (Kd.R_far (p := ⟨gb595, 4, none⟩) (Kd.R_far (p := ⟨gb595, 3, none⟩) (Kd.R_far (p := ⟨gb595, 2, none⟩) (Kd.R_far (p := ⟨gb595, 1, none⟩) (Kd.R_far (p := ⟨gb595, 0, none⟩) (Kd.R_types HO_608003.out BK595.out (by decide)) (fun _ hk => hk.2) (.int .i64 t599)) (fun _ hk => hk.2) (.int .i64 t600)) (fun _ hk => hk.2) (.int .i64 t601)) (fun _ hk => hk.2) (.slice Ao12 t602.length co12)) (fun _ hk => hk.2) (.int .i64 t605)) (fun _ hk => hk.1.2), by (with_reducible repeat (first | apply Kd.R_alloc | apply Kd.R_drewN | apply Kd.R_drew)); exact Kd.R_mono (Kd.R_far (p := ⟨gb595, 4, none⟩) (Kd.R_far (p := ⟨gb595, 3, none⟩) (Kd.R_far (p := ⟨gb595, 2, none⟩) (Kd.R_far (p := ⟨gb595, 1, none⟩) (Kd.R_far (p := ⟨gb595, 0, none⟩) (Kd.R_types HO625.out BK595.out (by decide)) (fun _ hk => hk.2) (.int .i64 t599)) (fun _ hk => hk.2) (.int .i64 t600)) (fun _ hk => hk.2) (.int .i64 t601)) (fun _ hk => hk.2) (.slice Ao12 t602.length co12)) (fun _ hk => hk.2) (.int .i64 t605)) (fun _ hk => hk.1), by repeat (first | (with_reducible first | exact HB.out | apply below_alloc | apply pw_below_drewN | apply below_drew1 | refine below_set ?_ (IsS69.ge HI598.out) | refine below_set ?_ GE595.out | refine below_set ?_ GE607.out) | exact HB.out)⟩
          · rw [if_neg c32] at H
            exact absurd H (by simp)
        · rw [if_neg c31] at H
          have c31b0 : (t621 == 0) = false := beq_eq_false_iff_ne.mpr c31
          have c31b1 : (t621 != 0) = true := bne_iff_ne.mpr c31
          replace H := Option.bind_eq_some_iff.mp H
          obtain ⟨⟨t628, t629⟩, A460, H⟩ := H
          replace H : (some (t599, t600, t601, t602, t605, t628, x8_1)) = some (r1, r2, r3, r4, r5, r6, r7) := H
          have A46 := Aside0.mk A460
          clear A460
          simp only [Option.some.injEq, Prod.mk.injEq] at H
          obtain ⟨rfl, rfl, rfl, rfl, rfl, rfl, rfl⟩ := H
          have hnb47 := NB607_595.out
          have hnc47 := NB595_607.out
          have hnb48 := NB607_598.out
          have hnc48 := NB598_607.out
          have hcz49_0 : wr.cell? ⟨gb607, 0, none⟩ = some (.int .i64 t599) := (blk_cell BK607.out 0).trans rfl
          have hcz49_1 : wr.cell? ⟨gb607, 1, none⟩ = some (.int .i64 t600) := (blk_cell BK607.out 1).trans rfl
          have hcz49_2 : wr.cell? ⟨gb607, 2, none⟩ = some (.int .i64 t601) := (blk_cell BK607.out 2).trans rfl
          have hcz49_3 : wr.cell? ⟨gb607, 3, none⟩ = some (.slice Ao12 t602.length co12) := (blk_cell BK607.out 3).trans rfl
          have hcz49_4 : wr.cell? ⟨gb607, 4, none⟩ = some (.int .i64 t605) := (blk_cell BK607.out 4).trans rfl
          have hfz49_0 := blk_frozen BK607.out 0
          have hfz49_1 := blk_frozen BK607.out 1
          have hfz49_2 := blk_frozen BK607.out 2
          have hfz49_3 := blk_frozen BK607.out 3
          have hfz49_4 := blk_frozen BK607.out 4
          try go_wp2_with (first | ((with_reducible refine gate_callee (f := 48) rfl ?_); refine goesL_ (some 41) rfl rfl Try.func48 (by kernel_rfl) rfl #[.pointer (some ⟨g598, 0, none⟩), .int .i64 12] rfl (by (try simp only [List.map_toArray, List.map_cons, List.map_nil]); first | done | rfl | (simp only [List.length_drop, List.length_take]; rfl)) ?_; (with_reducible refine (spec_l20Rd_pick.calls k1 g598 t596 x599001_1 12 t621 t622 w _ ?side1 ?side2 A30.out).mono ?_); (case side1 => repeat (first | (with_reducible first | exact HI598.out | apply IsS69.alloc | apply IsS69.drewN | apply IsS69.drew | apply IsS69.set_1 | refine IsS69.far ?_ NB598_595.out _ | refine IsS69.far ?_ NB598_607.out _) | exact HI598.out)); (case side2 => repeat (first | (with_reducible first | exact HB.out | apply below_alloc | apply pw_below_drewN | apply below_drew1 | refine below_set ?_ (IsS69.ge HI598.out) | refine below_set ?_ GE595.out | refine below_set ?_ GE607.out) | exact HB.out)); rintro e w50 ⟨rfl, hi, hb, hk⟩; refine ⟨_, rfl, ?_⟩; have n0_ := Aside0.mk (Kd.R_mono (Kd.R_keep (IsS69.apart (show IsS69 w _ g598 t596 x599001_1 from by repeat (first | (with_reducible first | exact HI598.out | apply IsS69.alloc | apply IsS69.drewN | apply IsS69.drew | apply IsS69.set_1 | refine IsS69.far ?_ NB598_595.out _ | refine IsS69.far ?_ NB598_607.out _) | exact HI598.out)) (by (with_reducible repeat (first | apply Kd.R_alloc | apply Kd.R_drewN | apply Kd.R_drew)); exact HO_8.out) (by decide)) hk (fun _ h => h.2)) (fun _ h => h.1)); have n1_ := Aside0.mk (Kd.R_mono (Kd.R_keep (IsS69.apart (show IsS69 w _ g598 t596 x599001_1 from by repeat (first | (with_reducible first | exact HI598.out | apply IsS69.alloc | apply IsS69.drewN | apply IsS69.drew | apply IsS69.set_1 | refine IsS69.far ?_ NB598_595.out _ | refine IsS69.far ?_ NB598_607.out _) | exact HI598.out)) (by (with_reducible repeat (first | apply Kd.R_alloc | apply Kd.R_drewN | apply Kd.R_drew)); exact HO_608003.out) (by decide)) hk (fun _ h => h.2)) (fun _ h => h.1)); have n2_ := Aside0.mk (KeepBut.blk hk (g' := gb595) (o := .cells #[.int .i64 0, .int .i64 0, .int .i64 0, .slice none 0 0, .int .i64 0] 31 (0, 0)) (by (with_reducible repeat (first | refine blk_drewN ?_ _ | refine blk_drew ?_ | refine blk_alloc ?_ _)); exact BK595.out) NB595_598.out (by simp)); have n3_ := Aside0.mk (KeepBut.blk hk (g' := gb607) (o := .cells #[.int .i64 t599, .int .i64 t600, .int .i64 t601, .slice Ao12 t602.length co12, .int .i64 t605] 31 (0, 0)) (by (with_reducible repeat (first | refine blk_drewN ?_ _ | refine blk_drew ?_ | refine blk_alloc ?_ _)); exact BK607.out) NB607_598.out (by simp)); have n4_ := Aside0.mk (hb); have n5_ := Aside0.mk (hi); clear HO_8; clear HO_608003; clear BK595; clear BK607; clear HB; clear HI598; have HO_8 := n0_; have HO_608003 := n1_; have BK595 := n2_; have BK607 := n3_; have HB := n4_; have HI598 := n5_; clear n0_ n1_ n2_ n3_ n4_ n5_; (try clear hb); (try clear hb2); (try clear hk); (try clear hi)))
          have n0_ := Aside0.mk (Kd.R_drew HO_8.out)
          have n1_ := Aside0.mk (Kd.R_drew HO_608003.out)
          have n2_ := Aside0.mk (blk_drew BK595.out)
          have n3_ := Aside0.mk (blk_drew BK607.out)
          have n4_ := Aside0.mk (IsS69.drew HI598.out)
          have n5_ := Aside0.mk (below_drew1 HB.out)
          clear HO_8
          clear HO_608003
          clear BK595
          clear BK607
          clear HI598
          clear HB
          have HO_8 := n0_
          have HO_608003 := n1_
          have BK595 := n2_
          have BK607 := n3_
          have HI598 := n4_
          have HB := n5_
          clear n0_ n1_ n2_ n3_ n4_ n5_
          refine start_ (n := 9) (S := fun w' => w'.cell? ⟨gb607, 0, none⟩ = some (.int .i64 t599) ∧ w'.cell? ⟨gb607, 1, none⟩ = some (.int .i64 t600) ∧ w'.cell? ⟨gb607, 2, none⟩ = some (.int .i64 t601) ∧ w'.cell? ⟨gb607, 3, none⟩ = some (.slice Ao12 t602.length co12) ∧ w'.cell? ⟨gb607, 4, none⟩ = some (.int .i64 t605)) (ds := []) #[false, false, false, false, false, false, false, false, false] (by kernel_rfl) rfl rfl ⟨(blk_cell BK607.out 0).trans rfl, (blk_cell BK607.out 1).trans rfl, (blk_cell BK607.out 2).trans rfl, (blk_cell BK607.out 3).trans rfl, (blk_cell BK607.out 4).trans rfl⟩ (fun hHeld => ?_); refine with_tabW spec_DrawStaNext.tab14 spec_DrawStaNext.bits14 (fun HT_ HW_ => ?_)
          generalize w50.drew = w51 at HO_8 HO_608003 BK595 BK607 HI598 HB hHeld ⊢
          refine pure_ (i := 1) (N := some 47) (v := ?_) (a' := ?_) #[false, true, false, false, false, false, false, false, false] rfl rfl (any_of HT_.out (by kernel_rfl)) (fun _ _ _ h => h) (Or.inl ⟨by rfl, ?_⟩) ?_ ?_
          rotate_left
          · intro w'
            go_simp
            with_reducible rfl
          rotate_left
          · simp only [Act.put, List.setIfInBounds_toArray, List.set_cons_zero, List.set_cons_succ, i64_w, i32_w]
            rfl
          refine pure_ (i := 3) (N := some 49) (v := ?_) (a' := ?_) #[false, true, false, true, false, false, false, false, false] rfl rfl (any_of HT_.out (by kernel_rfl)) (fun _ _ _ h => h) (Or.inl ⟨by rfl, ?_⟩) ?_ ?_
          rotate_left
          · intro w'
            go_simp
            with_reducible rfl
          rotate_left
          · simp only [Act.put, List.setIfInBounds_toArray, List.set_cons_zero, List.set_cons_succ, i64_w, i32_w]
            rfl
          refine pure_ (i := 5) (N := some 51) (v := ?_) (a' := ?_) #[false, true, false, true, false, true, false, false, false] rfl rfl (any_of HT_.out (by kernel_rfl)) (fun _ _ _ h => h) (Or.inl ⟨by rfl, ?_⟩) ?_ ?_
          rotate_left
          · intro w'
            go_simp
            with_reducible rfl
          rotate_left
          · simp only [Act.put, List.setIfInBounds_toArray, List.set_cons_zero, List.set_cons_succ, i64_w, i32_w]
            rfl
          refine take_ (i := 0) (N := some 46) (v := ?_) (a' := ?_) #[true, true, false, true, false, true, false, false, false] rfl rfl (take_ofW HT_.out HW_.out (by kernel_rfl)) (fun _ _ _ h => h) (Or.inl ⟨by rfl, ?_⟩) hHeld ?_ ?_
          rotate_left
          · rintro w' ⟨s0, s1, s2, s3, s4⟩
            go_simp
            with_reducible rfl
          rotate_left
          · simp only [Act.put, List.setIfInBounds_toArray, List.set_cons_zero, List.set_cons_succ, i64_w, i32_w]
            rfl
          refine take_ (i := 2) (N := some 48) (v := ?_) (a' := ?_) #[true, true, true, true, false, true, false, false, false] rfl rfl (take_ofW HT_.out HW_.out (by kernel_rfl)) (fun _ _ _ h => h) (Or.inl ⟨by rfl, ?_⟩) hHeld ?_ ?_
          rotate_left
          · rintro w' ⟨s0, s1, s2, s3, s4⟩
            go_simp
            with_reducible rfl
          rotate_left
          · simp only [Act.put, List.setIfInBounds_toArray, List.set_cons_zero, List.set_cons_succ, i64_w, i32_w]
            rfl
          refine one_ (i := 4) (N := some 50) #[true, true, true, true, true, true, false, false, false] rfl rfl (one_of HT_.out (by kernel_rfl)) (by decide) (fun K hK => ?_)
          refine goes_ Try.func49 (by kernel_rfl) rfl #[.pointer (some ⟨g598, 0, none⟩), .agg #[.int .i64 t599, .int .i64 t600, .int .i64 t601, .slice Ao12 t602.length co12, .int .i64 t605], .int .i64 t608] (by rfl) rfl rfl (by (try simp only [List.map_toArray, List.map_cons, List.map_nil]); first | done | rfl | (simp only [List.length_drop, List.length_take]; rfl)) ?_
          with_reducible refine (spec_l20Near.calls k1 g598 t596 t622 t599 t600 t601 _ _ t602 t605 t608 t628 t629 w _ ?side1 ?side2 ?side3 ?side4 ?side5 A46.out).mono ?_
          (case side1 => repeat (first | (with_reducible first | exact HI598.out | apply IsS69.alloc | apply IsS69.drewN | apply IsS69.drew | apply IsS69.set_1 | refine IsS69.far ?_ NB598_595.out _ | refine IsS69.far ?_ NB598_607.out _) | exact HI598.out))
          (case side2 => repeat (first | (with_reducible first | exact HB.out | apply below_alloc | apply pw_below_drewN | apply below_drew1 | refine below_set ?_ (IsS69.ge HI598.out) | refine below_set ?_ GE595.out | refine below_set ?_ GE607.out) | exact HB.out))
          (case side3 => repeat (first | exact (Kd.R_reads' HO_608003.out).2.2 | (with_reducible refine Kd.C_alloc ?_ _) | (with_reducible refine Kd.C_drewN ?_ _) | (with_reducible refine Kd.C_drew ?_)))
          (case side4 => exact (Kd.R_reads' HO_608003.out).2.1)
          (case side5 => exact far_slice (IsS69.own_ne HI598.out HO_608003.out (by decide)))
          rintro e w52 ⟨rfl, hi, hb, hk⟩
          refine ⟨_, rfl, ?_⟩
          have n0_ := Aside0.mk (Kd.R_mono (Kd.R_keep (IsS69.apart (show IsS69 w _ g598 t596 t622 from by repeat (first | (with_reducible first | exact HI598.out | apply IsS69.alloc | apply IsS69.drewN | apply IsS69.drew | apply IsS69.set_1 | refine IsS69.far ?_ NB598_595.out _ | refine IsS69.far ?_ NB598_607.out _) | exact HI598.out)) (by (with_reducible repeat (first | apply Kd.R_alloc | apply Kd.R_drewN | apply Kd.R_drew)); exact HO_8.out) (by decide)) hk (fun _ h => h.2)) (fun _ h => h.1))
          have n1_ := Aside0.mk (Kd.R_mono (Kd.R_keep (IsS69.apart (show IsS69 w _ g598 t596 t622 from by repeat (first | (with_reducible first | exact HI598.out | apply IsS69.alloc | apply IsS69.drewN | apply IsS69.drew | apply IsS69.set_1 | refine IsS69.far ?_ NB598_595.out _ | refine IsS69.far ?_ NB598_607.out _) | exact HI598.out)) (by (with_reducible repeat (first | apply Kd.R_alloc | apply Kd.R_drewN | apply Kd.R_drew)); exact HO_608003.out) (by decide)) hk (fun _ h => h.2)) (fun _ h => h.1))
          have n2_ := Aside0.mk (KeepBut.blk hk (g' := gb595) (o := .cells #[.int .i64 0, .int .i64 0, .int .i64 0, .slice none 0 0, .int .i64 0] 31 (0, 0)) (by (with_reducible repeat (first | refine blk_drewN ?_ _ | refine blk_drew ?_ | refine blk_alloc ?_ _)); exact BK595.out) NB595_598.out (by simp))
          have n3_ := Aside0.mk (KeepBut.blk hk (g' := gb607) (o := .cells #[.int .i64 t599, .int .i64 t600, .int .i64 t601, .slice Ao12 t602.length co12, .int .i64 t605] 31 (0, 0)) (by (with_reducible repeat (first | refine blk_drewN ?_ _ | refine blk_drew ?_ | refine blk_alloc ?_ _)); exact BK607.out) NB607_598.out (by simp))
          have n4_ := Aside0.mk (hb)
          have n5_ := Aside0.mk (hi)
          clear HO_8
          clear HO_608003
          clear BK595
          clear BK607
          clear HB
          clear HI598
          have HO_8 := n0_
          have HO_608003 := n1_
          have BK595 := n2_
          have BK607 := n3_
          have HB := n4_
          have HI598 := n5_
          clear n0_ n1_ n2_ n3_ n4_ n5_
          (try clear hb)
          (try clear hb2)
          (try clear hk)
          (try clear hi)
          refine hK.out _ _ ⟨(blk_cell BK607.out 0).trans rfl, (blk_cell BK607.out 1).trans rfl, (blk_cell BK607.out 2).trans rfl, (blk_cell BK607.out 3).trans rfl, (blk_cell BK607.out 4).trans rfl⟩ (fun hHeld => ?_)
          clear hK K
          refine norm_ (a' := ?_) ?_ ?_
          rotate_left
          · show Act.put _ (some 50) _ = _
            simp only [Act.put, List.setIfInBounds_toArray, List.set_cons_zero, List.set_cons_succ, i64_w, i32_w]
            rfl
          refine one_ (i := 6) (N := none) #[true, true, true, true, true, true, true, false, false] rfl rfl (one_of HT_.out (by kernel_rfl)) (by decide) (fun K hK => ?_)
          have hs53 : w52.cell? ⟨gb595, 0, none⟩ = some (.int .i64 0) := (blk_cell BK595.out 0).trans rfl
          have hfs53 := blk_frozen BK595.out 0
          have hns53_1 := NB607_595.out
          have hms53_1 := NB595_607.out
          have hs54 : w52.cell? ⟨gb595, 1, none⟩ = some (.int .i64 0) := (blk_cell BK595.out 1).trans rfl
          have hfs54 := blk_frozen BK595.out 1
          have hns54_1 := NB607_595.out
          have hms54_1 := NB595_607.out
          have hs55 : w52.cell? ⟨gb595, 2, none⟩ = some (.int .i64 0) := (blk_cell BK595.out 2).trans rfl
          have hfs55 := blk_frozen BK595.out 2
          have hns55_1 := NB607_595.out
          have hms55_1 := NB595_607.out
          have hs56 : w52.cell? ⟨gb595, 3, none⟩ = some (.slice none 0 0) := (blk_cell BK595.out 3).trans rfl
          have hfs56 := blk_frozen BK595.out 3
          have hns56_1 := NB607_595.out
          have hms56_1 := NB595_607.out
          have hs57 : w52.cell? ⟨gb595, 4, none⟩ = some (.int .i64 0) := (blk_cell BK595.out 4).trans rfl
          have hfs57 := blk_frozen BK595.out 4
          have hns57_1 := NB607_595.out
          have hms57_1 := NB595_607.out
          refine skip_ (w1 := ?_) (by rfl) rfl ?_ ?_
          rotate_left
          · go_simp
            rfl
          refine hK.out _ _ ⟨((cell_far (p := ⟨gb595, _, none⟩) NB607_595.out _).trans (((cell_far (p := ⟨gb595, _, none⟩) NB607_595.out _).trans (((cell_far (p := ⟨gb595, _, none⟩) NB607_595.out _).trans (((cell_far (p := ⟨gb595, _, none⟩) NB607_595.out _).trans (((cell_far (p := ⟨gb595, _, none⟩) NB607_595.out _).trans (hHeld.1)))))))))), ((cell_far (p := ⟨gb595, _, none⟩) NB607_595.out _).trans (((cell_far (p := ⟨gb595, _, none⟩) NB607_595.out _).trans (((cell_far (p := ⟨gb595, _, none⟩) NB607_595.out _).trans (((cell_far (p := ⟨gb595, _, none⟩) NB607_595.out _).trans (((cell_far (p := ⟨gb595, _, none⟩) NB607_595.out _).trans (hHeld.2.1)))))))))), ((cell_far (p := ⟨gb595, _, none⟩) NB607_595.out _).trans (((cell_far (p := ⟨gb595, _, none⟩) NB607_595.out _).trans (((cell_far (p := ⟨gb595, _, none⟩) NB607_595.out _).trans (((cell_far (p := ⟨gb595, _, none⟩) NB607_595.out _).trans (((cell_far (p := ⟨gb595, _, none⟩) NB607_595.out _).trans (hHeld.2.2.1)))))))))), ((cell_far (p := ⟨gb595, _, none⟩) NB607_595.out _).trans (((cell_far (p := ⟨gb595, _, none⟩) NB607_595.out _).trans (((cell_far (p := ⟨gb595, _, none⟩) NB607_595.out _).trans (((cell_far (p := ⟨gb595, _, none⟩) NB607_595.out _).trans (((cell_far (p := ⟨gb595, _, none⟩) NB607_595.out _).trans (hHeld.2.2.2.1)))))))))), ((cell_far (p := ⟨gb595, _, none⟩) NB607_595.out _).trans (((cell_far (p := ⟨gb595, _, none⟩) NB607_595.out _).trans (((cell_far (p := ⟨gb595, _, none⟩) NB607_595.out _).trans (((cell_far (p := ⟨gb595, _, none⟩) NB607_595.out _).trans (((cell_far (p := ⟨gb595, _, none⟩) NB607_595.out _).trans (hHeld.2.2.2.2))))))))))⟩ (fun hHeld => ?_)
          clear hK K
          refine pure_ (i := 7) (N := some 3) (v := ?_) (a' := ?_) #[true, true, true, true, true, true, true, true, false] rfl rfl (any_of HT_.out (by kernel_rfl)) (fun _ _ _ h => h) (Or.inl ⟨by rfl, ?_⟩) ?_ ?_
          rotate_left
          · intro w'
            go_simp
            with_reducible rfl
          rotate_left
          · simp only [Act.put, List.setIfInBounds_toArray, List.set_cons_zero, List.set_cons_succ, i64_w, i32_w]
            rfl
          refine pure_ (i := 8) (N := some 4) (v := ?_) (a' := ?_) #[true, true, true, true, true, true, true, true, true] rfl rfl (any_of HT_.out (by kernel_rfl)) (fun _ _ _ h => h) (Or.inl ⟨by rfl, ?_⟩) ?_ ?_
          rotate_left
          · intro w'
            go_simp
            with_reducible rfl
          rotate_left
          · simp only [Act.put, List.setIfInBounds_toArray, List.set_cons_zero, List.set_cons_succ, i64_w, i32_w]
            rfl
          refine done_ (done_of HT_.out (by kernel_rfl)) ?_
          try go_wp2
          refine bodyPost_ret (results_ctt rfl _ _ gb595 31 #[.int .i64 t599, .int .i64 t600, .int .i64 t601, .slice Ao12 t602.length co12, .int .i64 t605] (0, 0) _ rfl (by (with_reducible repeat (first | refine blk_drewN ?_ _ | refine blk_drew ?_ | refine blk_alloc ?_ _)); refine blk_put (cs := #[.int .i64 t599, .int .i64 t600, .int .i64 t601, .slice Ao12 t602.length co12, .int .i64 0]) ?_ 4 _ rfl; (with_reducible repeat (first | refine blk_drewN ?_ _ | refine blk_drew ?_ | refine blk_alloc ?_ _)); refine blk_put (cs := #[.int .i64 t599, .int .i64 t600, .int .i64 t601, .slice none 0 0, .int .i64 0]) ?_ 3 _ rfl; (with_reducible repeat (first | refine blk_drewN ?_ _ | refine blk_drew ?_ | refine blk_alloc ?_ _)); refine blk_put (cs := #[.int .i64 t599, .int .i64 t600, .int .i64 0, .slice none 0 0, .int .i64 0]) ?_ 2 _ rfl; (with_reducible repeat (first | refine blk_drewN ?_ _ | refine blk_drew ?_ | refine blk_alloc ?_ _)); refine blk_put (cs := #[.int .i64 t599, .int .i64 0, .int .i64 0, .slice none 0 0, .int .i64 0]) ?_ 1 _ rfl; (with_reducible repeat (first | refine blk_drewN ?_ _ | refine blk_drew ?_ | refine blk_alloc ?_ _)); refine blk_put (cs := #[.int .i64 0, .int .i64 0, .int .i64 0, .slice none 0 0, .int .i64 0]) ?_ 0 _ rfl; (with_reducible repeat (first | refine blk_drewN ?_ _ | refine blk_drew ?_ | refine blk_alloc ?_ _)); exact BK595.out) Try.underlying31 rfl (by kernel_rfl)) rfl ?_
          exact ⟨_, _, by first | rfl | (simp [errW_none, errW_some] <;> rfl) | (simp [*, errW_none, errW_some] <;> rfl), by (with_reducible repeat (first | apply Kd.R_alloc | apply Kd.R_drewN | apply Kd.R_drew)); exact Kd.R_mono (Kd.R_far (p := ⟨gb595, 4, none⟩) (Kd.R_far (p := ⟨gb595, 3, none⟩) (Kd.R_far (p := ⟨gb595, 2, none⟩) (Kd.R_far (p := ⟨gb595, 1, none⟩) (Kd.R_far (p := ⟨gb595, 0, none⟩) (Kd.R_types HO_608003.out BK595.out (by decide)) (fun _ hk => hk.2) (.int .i64 t599)) (fun _ hk => hk.2) (.int .i64 t600)) (fun _ hk => hk.2) (.int .i64 t601)) (fun _ hk => hk.2) (.slice Ao12 t602.length co12)) (fun _ hk => hk.2) (.int .i64 t605)) (fun _ hk => hk.1), by (with_reducible repeat (first | apply Kd.R_alloc | apply Kd.R_drewN | apply Kd.R_drew)); exact Kd.R_mono (Kd.R_far (p := ⟨gb595, 4, none⟩) (Kd.R_far (p := ⟨gb595, 3, none⟩) (Kd.R_far (p := ⟨gb595, 2, none⟩) (Kd.R_far (p := ⟨gb595, 1, none⟩) (Kd.R_far (p := ⟨gb595, 0, none⟩) (Kd.R_types HO_8.out BK595.out (by decide)) (fun _ hk => hk.2) (.int .i64 t599)) (fun _ hk => hk.2) (.int .i64 t600)) (fun _ hk => hk.2) (.int .i64 t601)) (fun _ hk => hk.2) (.slice Ao12 t602.length co12)) (fun _ hk => hk.2) (.int .i64 t605)) (fun _ hk => hk.1), by repeat (first | (with_reducible first | exact HB.out | apply below_alloc | apply pw_below_drewN | apply below_drew1 | refine below_set ?_ (IsS69.ge HI598.out) | refine below_set ?_ GE595.out | refine below_set ?_ GE607.out) | exact HB.out)⟩

end Go.Proofs.Ytojgpnobbnihdaa.All
