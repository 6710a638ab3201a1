-- Written by the session's own program wip/allprint.py, which drives the kit's print; Lean checks it.
import Derived.Test.YtojgpnobbnihdaaAllx0
import Derived.Test.YtojgpnobbnihdaaAllx2
import Derived.Test.YtojgpnobbnihdaaAllx5
import Derived.Test.YtojgpnobbnihdaaAllx6
import Derived.Test.YtojgpnobbnihdaaAllx10
namespace Go.Proofs.Ytojgpnobbnihdaa.All
open Go.RowKit Go.Proofs.YtojgpnobbnihdaaW.PrintWords Go.Proofs.YtojgpnobbnihdaaW.PrintLast Go.Proofs.YtojgpnobbnihdaaW.PrintMore
attribute [local go_sem] max2_int min2_int max_two min_two max_three min_three max_four min_four   -- for this text's walks alone
set_option linter.unusedVariables false
set_option linter.unusedSimpArgs false

/-! ### spec_l20Near: function 49 -/
def spec_l20Near.j0 : Nat → Int → Bool → List Int → Int → Int → Int → Int → List Int → Int → Option (Int × Int)
  | 0, _, _, _, _, _, _, _, _, _ => none
  | k + 1, x2, x20, x1000, x1001, x471000, x471001, x471002, x471003, x471004 => if x20 = true then ((spec_l20Rd_pick.f k x1000 x1001 100).bind fun bt472 => (some (bt472.1, bt472.2))) else (if 0 ≤ x2 then (if x2 < (x471003.length : Int) then ((spec_DayPlus.f k x471000 x471001 x471002 (rd x471003 x2)).bind fun bt475 => ((spec_DayNum.f k bt475.1 bt475.2.1 bt475.2.2).bind fun t478 => ((some (([0, 1, (-1), x471004, wrap64 (x471004 + 1), wrap64 (-x471004), wrap64 ((wrap64 (-x471004)) - 1), 40] : List Int) : List Int)).bind fun y479 => ((spec_l20Rd_pick.f k x1000 x1001 8).bind fun bt482 => (if 0 ≤ bt482.1 then (if bt482.1 < (y479.length : Int) then (some (wrap64 (t478 + (rd y479 bt482.1)), bt482.2)) else (none)) else (none)))))) else (none)) else (none))
def spec_l20Near.f (k : Nat) (s0_0 : List Int) (s0_1 : Int) (a1_0 : Int) (a1_1 : Int) (a1_2 : Int) (l1_3 : List Int) (a1_4 : Int) (a2 : Int) : Option (Int × Int) := (spec_StaOk.f k a1_0 a1_1 a1_2 l1_3 a1_4).bind fun t471 => (if t471 = true then (if a2 < 0 then (spec_l20Near.j0 k a2 true s0_0 s0_1 a1_0 a1_1 a1_2 l1_3 a1_4) else (spec_l20Near.j0 k a2 (decide (a2 ≥ (l1_3.length : Int))) s0_0 s0_1 a1_0 a1_1 a1_2 l1_3 a1_4)) else (spec_l20Near.j0 k a2 true s0_0 s0_1 a1_0 a1_1 a1_2 l1_3 a1_4))
theorem spec_l20Near.mono_l : ∀ k, (∀ y0 y1 y2 y3 y4 y5 y6 y7 y8, LeO (spec_l20Near.j0 k y0 y1 y2 y3 y4 y5 y6 y7 y8) (spec_l20Near.j0 (k + 1) y0 y1 y2 y3 y4 y5 y6 y7 y8))
  | 0 => fun _ _ _ _ _ _ _ _ _ r h => by simp [spec_l20Near.j0] at h
  | k + 1 => by
    have ih0 := spec_l20Near.mono_l k
    · intro y0 y1 y2 y3 y4 y5 y6 y7 y8
      unfold spec_l20Near.j0
      repeat' first
      | (with_reducible exact ih0 _ _ _ _ _ _ _ _ _)
      | (with_reducible exact spec_DayNum.mono _ _ _ _)
      | (with_reducible exact spec_DayPlus.mono _ _ _ _ _)
      | (with_reducible exact spec_StaOk.mono _ _ _ _ _ _)
      | (with_reducible exact spec_l20Rd_pick.mono _ _ _ _)
      | (with_reducible exact LeO.refl _)
      | (with_reducible exact LeO.none _)
      | (with_reducible refine LeO.ite ?_ ?_)
      | (with_reducible refine LeO.bind ?_ (fun _ => ?_))
      | exact ih0 _ _ _ _ _ _ _ _ _
      | exact spec_DayNum.mono _ _ _ _
      | exact spec_DayPlus.mono _ _ _ _ _
      | exact spec_StaOk.mono _ _ _ _ _ _
      | exact spec_l20Rd_pick.mono _ _ _ _
      | exact LeO.none _
      | refine LeO.ite ?_ ?_
      | refine LeO.bind ?_ (fun _ => ?_)
theorem spec_l20Near.mono : ∀ a0 a1 a2 a3 a4 a5 a6 a7 k, LeO (spec_l20Near.f k a0 a1 a2 a3 a4 a5 a6 a7) (spec_l20Near.f (k + 1) a0 a1 a2 a3 a4 a5 a6 a7) := by
  intro a0 a1 a2 a3 a4 a5 a6 a7 k
  have ih0 := spec_l20Near.mono_l k
  unfold spec_l20Near.f
  repeat' first
      | (with_reducible exact ih0 _ _ _ _ _ _ _ _ _)
      | (with_reducible exact spec_DayNum.mono _ _ _ _)
      | (with_reducible exact spec_DayPlus.mono _ _ _ _ _)
      | (with_reducible exact spec_StaOk.mono _ _ _ _ _ _)
      | (with_reducible exact spec_l20Rd_pick.mono _ _ _ _)
      | (with_reducible exact LeO.refl _)
      | (with_reducible exact LeO.none _)
      | (with_reducible refine LeO.ite ?_ ?_)
      | (with_reducible refine LeO.bind ?_ (fun _ => ?_))
      | exact ih0 _ _ _ _ _ _ _ _ _
      | exact spec_DayNum.mono _ _ _ _
      | exact spec_DayPlus.mono _ _ _ _ _
      | exact spec_StaOk.mono _ _ _ _ _ _
      | exact spec_l20Rd_pick.mono _ _ _ _
      | exact LeO.none _
      | refine LeO.ite ?_ ?_
      | refine LeO.bind ?_ (fun _ => ?_)
def spec_l20Near.T3 : Bool × List (List Nat × List Nat) := (true, [([], []), ([0], [0]), ([], []), ([2], [2]), ([], []), ([3, 4], [3, 4]), ([5], [5]), ([1, 6], [1, 6]), ([7, 7], [7]), ([], []), ([9], [9]), ([], []), ([11], [11]), ([12], [12]), ([], []), ([14], [14]), ([15], [15]), ([], []), ([17], [17]), ([18], [18]), ([19], [19]), ([10, 13, 16, 20], [10, 13, 16, 20]), ([], []), ([22, 8], [22]), ([21, 23], [21, 23]), ([24], [24]), ([8, 25], [8, 25]), ([26, 23, 0, 1, 2, 3, 4, 5, 6, 7, 8, 9, 10, 11, 12, 13, 14, 15, 16, 17, 18, 19, 20, 21, 22, 23, 24, 25, 26], [26])])
def spec_l20Near.B3 : List Nat := [0, 1, 0, 4, 0, 28, 60, 127, 255, 0, 512, 0, 2048, 6144, 0, 16384, 49152, 0, 131072, 393216, 917504, 2096640, 0, 4194815, 16777215, 33554431, 67108863, 134217727]
theorem spec_l20Near.tab3 : rtab .any (opsOf Try.f49 3) = spec_l20Near.T3 := by kernel_rfl
theorem spec_l20Near.bits3 : waitsOk spec_l20Near.T3.2 spec_l20Near.B3 = true := by kernel_rfl
set_option maxHeartbeats 8000000 in
set_option maxRecDepth 100000 in
theorem spec_l20Near.calls (k : Nat) (g : Nat) (s0_0 : List Int) (s0_1 : Int) (a1_0 : Int) (a1_1 : Int) (a1_2 : Int) (A1_3 : Option Addr) (c1_3 : Nat) (l1_3 : List Int) (a1_4 : Int) (a2 : Int) (r1 : Int) (r2 : Int) (w0 w : World) (hI : IsS69 w0 w g s0_0 s0_1) (hB : Below w0.heap.size w0 w) (hr1_3 : Kd.C (Kd.int .i64) w A1_3 l1_3.length l1_3) (hc1_3 : l1_3.length ≤ c1_3) (hf1_3 : ∀ ad, A1_3 = some ad → 0 < l1_3.length → ad.block ≠ g) (h : spec_l20Near.f k s0_0 s0_1 a1_0 a1_1 a1_2 l1_3 a1_4 a2 = some (r1, r2)) :
    Calls Try.prog 49 #[.pointer (some ⟨g, 0, none⟩), .agg #[.int .i64 a1_0, .int .i64 a1_1, .int .i64 a1_2, .slice A1_3 l1_3.length c1_3, .int .i64 a1_4], .int .i64 a2] w fun e w' => e = .returned (.int .i64 r1) ∧ IsS69 w0 w' g s0_0 r2 ∧ Below w0.heap.size w0 w' ∧ KeepBut w w' g none := by
  have hu31 := Try.underlying31
  have hu29 := Try.underlying29
  have HR1_3 := Aside0.mk hr1_3
  have HC1_3 := Aside0.mk hc1_3
  clear hr1_3 hc1_3
  have HI0 := Aside0.mk hI
  have HGL := Aside0.mk (IsS69.lt hI)
  have HK := Aside0.mk (KeepBut.refl w g none)
  have HL := Aside0.mk hB.size
  clear hI
  have HW0 := Aside0.mk hB.size
  have HB := Aside0.mk hB
  clear hB
  have H : ((spec_StaOk.f k a1_0 a1_1 a1_2 l1_3 a1_4).bind fun t471 => (if t471 = true then (if a2 < 0 then (spec_l20Near.j0 k a2 true s0_0 s0_1 a1_0 a1_1 a1_2 l1_3 a1_4) else (spec_l20Near.j0 k a2 (decide (a2 ≥ (l1_3.length : Int))) s0_0 s0_1 a1_0 a1_1 a1_2 l1_3 a1_4)) else (spec_l20Near.j0 k a2 true s0_0 s0_1 a1_0 a1_1 a1_2 l1_3 a1_4))) = some (r1, r2) := h
  clear h
  have HC4 := Aside0.mk H
  clear H
  go_enter Try.func49, Try.ntmps49
  go_upto_region 1 with (first | ((with_reducible refine gate_dst (N := 4) rfl ?_); (try (refine gate_guard (by rfl) ?_; dsimp only)); refine box_event ?hg (N := 4) ?hd (cs := #[.int .i64 a1_0, .int .i64 a1_1, .int .i64 a1_2, .slice A1_3 l1_3.length c1_3, .int .i64 a1_4]) (t := 31) ?hr ?_; (case hd => rfl); (case hg => rfl); (case hr => first | (go_simp; done) | (go_simp; rfl)); intro gb470 hg w5 hbox hb; have n0_ := Aside0.mk (IsS69.below (by repeat (first | (with_reducible first | exact HI0.out | apply IsS69.alloc | apply IsS69.drewN | apply IsS69.drew | apply IsS69.set_1) | exact HI0.out)) hb); have n1_ := Aside0.mk (KeepBut.trans (by repeat (first | (with_reducible first | exact HK.out | apply KeepBut.set_ | apply keep_drewN | apply keep_drew | apply keep_alloc) | exact HK.out)) (KeepBut.of_below hb g none) (.inl rfl)); have n2_ := Aside0.mk (below_step (by repeat (first | (with_reducible first | exact HB.out | apply below_alloc | apply pw_below_drewN | apply below_drew1 | refine below_set ?_ (IsS69.ge HI0.out)) | exact HB.out)) hb); have n3_ := Aside0.mk (hbox); have n4_ := Aside0.mk ((by rw [hg]; exact (keep_size (w := w) (g := g) (row := none) (by repeat (first | (with_reducible first | exact HK.out | apply KeepBut.set_ | apply keep_drewN | apply keep_drew | apply keep_alloc) | exact HK.out))) : w.heap.size ≤ gb470)); have n5_ := Aside0.mk ((Nat.le_trans HW0.out (by rw [hg]; exact (keep_size (w := w) (g := g) (row := none) (by repeat (first | (with_reducible first | exact HK.out | apply KeepBut.set_ | apply keep_drewN | apply keep_drew | apply keep_alloc) | exact HK.out))) : w.heap.size ≤ gb470) : w0.heap.size ≤ gb470)); have n6_ := Aside0.mk ((by rw [hg]; exact Nat.ne_of_lt (Nat.lt_of_lt_of_le HGL.out (keep_size (w := w) (g := g) (row := none) (by repeat (first | (with_reducible first | exact HK.out | apply KeepBut.set_ | apply keep_drewN | apply keep_drew | apply keep_alloc) | exact HK.out)))) : g ≠ gb470)); have n7_ := Aside0.mk ((by rw [hg]; exact Nat.ne_of_gt (Nat.lt_of_lt_of_le HGL.out (keep_size (w := w) (g := g) (row := none) (by repeat (first | (with_reducible first | exact HK.out | apply KeepBut.set_ | apply keep_drewN | apply keep_drew | apply keep_alloc) | exact HK.out)))) : gb470 ≠ g)); clear HI0; clear HK; clear HB; have HI0 := n0_; have HK := n1_; have HB := n2_; have BK470 := n3_; have GW470 := n4_; have GE470 := n5_; have NB0_470 := n6_; have NB470_0 := n7_; clear n0_ n1_ n2_ n3_ n4_ n5_ n6_ n7_; clear hb hbox hg))
  (try simp only [Act.put, List.setIfInBounds_toArray, List.set_cons_zero, List.set_cons_succ])
  go_cut [20] (fun v20 wc => ∃ (kq : Nat) (x20_3 : Bool), v20 = .bool x20_3 ∧ Aside0 (spec_l20Near.j0 kq a2 x20_3 s0_0 s0_1 a1_0 a1_1 a1_2 l1_3 a1_4 = some (r1, r2)) ∧ Aside0 (kq ≤ k) ∧ Aside0 (wc.heap[gb470]? = some (.cells #[.int .i64 a1_0, .int .i64 a1_1, .int .i64 a1_2, (.slice A1_3 l1_3.length c1_3), .int .i64 a1_4] 31 (0, 0))) ∧ Aside0 (IsS69 w0 wc g s0_0 s0_1) ∧ Aside0 (KeepBut w wc g none) ∧ Aside0 (Below w0.heap.size w0 wc))
  case first =>
    have H := HC4.out
    clear HC4
    replace H := Option.bind_eq_some_iff.mp H
    obtain ⟨t471, A60, H⟩ := H
    replace H : (if t471 = true then (if a2 < 0 then (spec_l20Near.j0 k a2 true s0_0 s0_1 a1_0 a1_1 a1_2 l1_3 a1_4) else (spec_l20Near.j0 k a2 (decide (a2 ≥ (l1_3.length : Int))) s0_0 s0_1 a1_0 a1_1 a1_2 l1_3 a1_4)) else (spec_l20Near.j0 k a2 true s0_0 s0_1 a1_0 a1_1 a1_2 l1_3 a1_4)) = some (r1, r2) := H
    have A6 := Aside0.mk A60
    clear A60
    by_cases c7 : t471 = true
    · subst c7
      have H1 : (if a2 < 0 then (spec_l20Near.j0 k a2 true s0_0 s0_1 a1_0 a1_1 a1_2 l1_3 a1_4) else (spec_l20Near.j0 k a2 (decide (a2 ≥ (l1_3.length : Int))) s0_0 s0_1 a1_0 a1_1 a1_2 l1_3 a1_4)) = some (r1, r2) := by rw [if_pos rfl] at H; exact H
      clear H
      have H := H1
      clear H1
      by_cases c8 : a2 < 0
      · rw [if_pos c8] at H
        have c8b0 : decide (a2 < 0) = true := decide_eq_true c8
        clear c8
        (first | rw [c8b0] | (simp only [i64_w, i32_w]; rw [c8b0]) | skip)
        have H' := Aside0.mk H
        clear H
        have hnb9 := NB470_0.out
        have hnc9 := NB0_470.out
        have hcz10_0 : w5.cell? ⟨gb470, 0, none⟩ = some (.int .i64 a1_0) := (blk_cell BK470.out 0).trans rfl
        have hcz10_1 : w5.cell? ⟨gb470, 1, none⟩ = some (.int .i64 a1_1) := (blk_cell BK470.out 1).trans rfl
        have hcz10_2 : w5.cell? ⟨gb470, 2, none⟩ = some (.int .i64 a1_2) := (blk_cell BK470.out 2).trans rfl
        have hcz10_3 : w5.cell? ⟨gb470, 3, none⟩ = some (.slice A1_3 l1_3.length c1_3) := (blk_cell BK470.out 3).trans rfl
        have hcz10_4 : w5.cell? ⟨gb470, 4, none⟩ = some (.int .i64 a1_4) := (blk_cell BK470.out 4).trans rfl
        have hfz10_0 := blk_frozen BK470.out 0
        have hfz10_1 := blk_frozen BK470.out 1
        have hfz10_2 := blk_frozen BK470.out 2
        have hfz10_3 := blk_frozen BK470.out 3
        have hfz10_4 := blk_frozen BK470.out 4
        go_wp2_with (first | ((with_reducible refine gate_callee (f := 12) rfl ?_); refine goesL_ (some 8) rfl rfl Try.func12 (by kernel_rfl) rfl #[.agg #[.int .i64 a1_0, .int .i64 a1_1, .int .i64 a1_2, .slice A1_3 l1_3.length c1_3, .int .i64 a1_4]] rfl (by (try simp only [List.map_toArray, List.map_cons, List.map_nil]); first | done | rfl | (simp only [List.length_drop, List.length_take]; rfl)) ?_; (with_reducible refine (spec_StaOk.calls k a1_0 a1_1 a1_2 _ _ l1_3 a1_4 true _ ?side1 ?side2 A6.out).mono ?_); (case side1 => exact Kd.C_keep 0 HR1_3.out (by repeat (first | (with_reducible first | exact HK.out | apply KeepBut.set_ | apply keep_drewN | apply keep_drew | apply keep_alloc | refine keep_far ?_ GW470.out _) | exact HK.out)) hf1_3); (case side2 => exact HC1_3.out); rintro e w11 ⟨rfl, hb⟩; refine ⟨_, rfl, ?_⟩; have n0_ := Aside0.mk (IsS69.below (by repeat (first | (with_reducible first | exact HI0.out | apply IsS69.alloc | apply IsS69.drewN | apply IsS69.drew | apply IsS69.set_1 | refine IsS69.far ?_ NB0_470.out _) | exact HI0.out)) hb); have n1_ := Aside0.mk (blk_below (g := gb470) (o := .cells #[.int .i64 a1_0, .int .i64 a1_1, .int .i64 a1_2, .slice A1_3 l1_3.length c1_3, .int .i64 a1_4] 31 (0, 0)) (by (with_reducible repeat (first | refine blk_drewN ?_ _ | refine blk_drew ?_ | refine blk_alloc ?_ _)); exact BK470.out) hb); have n2_ := Aside0.mk (KeepBut.trans (by repeat (first | (with_reducible first | exact HK.out | apply KeepBut.set_ | apply keep_drewN | apply keep_drew | apply keep_alloc | refine keep_far ?_ GW470.out _) | exact HK.out)) (KeepBut.of_below hb g none) (.inl rfl)); have n3_ := Aside0.mk (below_step (by repeat (first | (with_reducible first | exact HB.out | apply below_alloc | apply pw_below_drewN | apply below_drew1 | refine below_set ?_ (IsS69.ge HI0.out) | refine below_set ?_ GE470.out) | exact HB.out)) hb); clear HI0; clear BK470; clear HK; clear HB; have HI0 := n0_; have BK470 := n1_; have HK := n2_; have HB := n3_; clear n0_ n1_ n2_ n3_; (try clear hb); (try clear hb2); (try clear hk); (try clear hi)))
        go_meet
        case rel => exact ⟨_, (true), (by first | rfl | (simp; done) | (simp [*]; done)), H', ⟨by first | omega | exact Nat.le_refl _⟩, ⟨by (with_reducible repeat (first | refine blk_drewN ?_ _ | refine blk_drew ?_ | refine blk_alloc ?_ _)); exact BK470.out⟩, ⟨by repeat (first | (with_reducible first | exact HI0.out | apply IsS69.alloc | apply IsS69.drewN | apply IsS69.drew | apply IsS69.set_1 | refine IsS69.far ?_ NB0_470.out _) | exact HI0.out)⟩, ⟨by repeat (first | (with_reducible first | exact HK.out | apply KeepBut.set_ | apply keep_drewN | apply keep_drew | apply keep_alloc | refine keep_far ?_ GW470.out _) | exact HK.out)⟩, ⟨by repeat (first | (with_reducible first | exact HB.out | apply below_alloc | apply pw_below_drewN | apply below_drew1 | refine below_set ?_ (IsS69.ge HI0.out) | refine below_set ?_ GE470.out) | exact HB.out)⟩⟩
      · rw [if_neg c8] at H
        have c8b0 : decide (a2 < 0) = false := decide_eq_false c8
        clear c8
        (first | rw [c8b0] | (simp only [i64_w, i32_w]; rw [c8b0]) | skip)
        have H' := Aside0.mk H
        clear H
        have hnb12 := NB470_0.out
        have hnc12 := NB0_470.out
        have hcz13_0 : w5.cell? ⟨gb470, 0, none⟩ = some (.int .i64 a1_0) := (blk_cell BK470.out 0).trans rfl
        have hcz13_1 : w5.cell? ⟨gb470, 1, none⟩ = some (.int .i64 a1_1) := (blk_cell BK470.out 1).trans rfl
        have hcz13_2 : w5.cell? ⟨gb470, 2, none⟩ = some (.int .i64 a1_2) := (blk_cell BK470.out 2).trans rfl
        have hcz13_3 : w5.cell? ⟨gb470, 3, none⟩ = some (.slice A1_3 l1_3.length c1_3) := (blk_cell BK470.out 3).trans rfl
        have hcz13_4 : w5.cell? ⟨gb470, 4, none⟩ = some (.int .i64 a1_4) := (blk_cell BK470.out 4).trans rfl
        have hfz13_0 := blk_frozen BK470.out 0
        have hfz13_1 := blk_frozen BK470.out 1
        have hfz13_2 := blk_frozen BK470.out 2
        have hfz13_3 := blk_frozen BK470.out 3
        have hfz13_4 := blk_frozen BK470.out 4
        go_wp2_with (first | ((with_reducible refine gate_callee (f := 12) rfl ?_); refine goesL_ (some 8) rfl rfl Try.func12 (by kernel_rfl) rfl #[.agg #[.int .i64 a1_0, .int .i64 a1_1, .int .i64 a1_2, .slice A1_3 l1_3.length c1_3, .int .i64 a1_4]] rfl (by (try simp only [List.map_toArray, List.map_cons, List.map_nil]); first | done | rfl | (simp only [List.length_drop, List.length_take]; rfl)) ?_; (with_reducible refine (spec_StaOk.calls k a1_0 a1_1 a1_2 _ _ l1_3 a1_4 true _ ?side1 ?side2 A6.out).mono ?_); (case side1 => exact Kd.C_keep 0 HR1_3.out (by repeat (first | (with_reducible first | exact HK.out | apply KeepBut.set_ | apply keep_drewN | apply keep_drew | apply keep_alloc | refine keep_far ?_ GW470.out _) | exact HK.out)) hf1_3); (case side2 => exact HC1_3.out); rintro e w14 ⟨rfl, hb⟩; refine ⟨_, rfl, ?_⟩; have n0_ := Aside0.mk (IsS69.below (by repeat (first | (with_reducible first | exact HI0.out | apply IsS69.alloc | apply IsS69.drewN | apply IsS69.drew | apply IsS69.set_1 | refine IsS69.far ?_ NB0_470.out _) | exact HI0.out)) hb); have n1_ := Aside0.mk (blk_below (g := gb470) (o := .cells #[.int .i64 a1_0, .int .i64 a1_1, .int .i64 a1_2, .slice A1_3 l1_3.length c1_3, .int .i64 a1_4] 31 (0, 0)) (by (with_reducible repeat (first | refine blk_drewN ?_ _ | refine blk_drew ?_ | refine blk_alloc ?_ _)); exact BK470.out) hb); have n2_ := Aside0.mk (KeepBut.trans (by repeat (first | (with_reducible first | exact HK.out | apply KeepBut.set_ | apply keep_drewN | apply keep_drew | apply keep_alloc | refine keep_far ?_ GW470.out _) | exact HK.out)) (KeepBut.of_below hb g none) (.inl rfl)); have n3_ := Aside0.mk (below_step (by repeat (first | (with_reducible first | exact HB.out | apply below_alloc | apply pw_below_drewN | apply below_drew1 | refine below_set ?_ (IsS69.ge HI0.out) | refine below_set ?_ GE470.out) | exact HB.out)) hb); clear HI0; clear BK470; clear HK; clear HB; have HI0 := n0_; have BK470 := n1_; have HK := n2_; have HB := n3_; clear n0_ n1_ n2_ n3_; (try clear hb); (try clear hb2); (try clear hk); (try clear hi); have hcz15_0 : w14.cell? ⟨gb470, 0, none⟩ = some (.int .i64 a1_0) := (blk_cell BK470.out 0).trans rfl; have hcz15_1 : w14.cell? ⟨gb470, 1, none⟩ = some (.int .i64 a1_1) := (blk_cell BK470.out 1).trans rfl; have hcz15_2 : w14.cell? ⟨gb470, 2, none⟩ = some (.int .i64 a1_2) := (blk_cell BK470.out 2).trans rfl; have hcz15_3 : w14.cell? ⟨gb470, 3, none⟩ = some (.slice A1_3 l1_3.length c1_3) := (blk_cell BK470.out 3).trans rfl; have hcz15_4 : w14.cell? ⟨gb470, 4, none⟩ = some (.int .i64 a1_4) := (blk_cell BK470.out 4).trans rfl; have hfz15_0 := blk_frozen BK470.out 0; have hfz15_1 := blk_frozen BK470.out 1; have hfz15_2 := blk_frozen BK470.out 2; have hfz15_3 := blk_frozen BK470.out 3; have hfz15_4 := blk_frozen BK470.out 4))
        go_meet
        case rel => exact ⟨_, (decide (a2 ≥ (l1_3.length : Int))), (by first | rfl | (simp; done) | (simp [*]; done)), H', ⟨by first | omega | exact Nat.le_refl _⟩, ⟨by (with_reducible repeat (first | refine blk_drewN ?_ _ | refine blk_drew ?_ | refine blk_alloc ?_ _)); exact BK470.out⟩, ⟨by repeat (first | (with_reducible first | exact HI0.out | apply IsS69.alloc | apply IsS69.drewN | apply IsS69.drew | apply IsS69.set_1 | refine IsS69.far ?_ NB0_470.out _) | exact HI0.out)⟩, ⟨by repeat (first | (with_reducible first | exact HK.out | apply KeepBut.set_ | apply keep_drewN | apply keep_drew | apply keep_alloc | refine keep_far ?_ GW470.out _) | exact HK.out)⟩, ⟨by repeat (first | (with_reducible first | exact HB.out | apply below_alloc | apply pw_below_drewN | apply below_drew1 | refine below_set ?_ (IsS69.ge HI0.out) | refine below_set ?_ GE470.out) | exact HB.out)⟩⟩
    · replace c7 := Bool.eq_false_iff.mpr c7
      subst c7
      have H1 : (spec_l20Near.j0 k a2 true s0_0 s0_1 a1_0 a1_1 a1_2 l1_3 a1_4) = some (r1, r2) := by rw [if_neg (show ¬ (false = true) by decide)] at H; exact H
      clear H
      have H := H1
      clear H1
      have H' := Aside0.mk H
      clear H
      have hnb16 := NB470_0.out
      have hnc16 := NB0_470.out
      have hcz17_0 : w5.cell? ⟨gb470, 0, none⟩ = some (.int .i64 a1_0) := (blk_cell BK470.out 0).trans rfl
      have hcz17_1 : w5.cell? ⟨gb470, 1, none⟩ = some (.int .i64 a1_1) := (blk_cell BK470.out 1).trans rfl
      have hcz17_2 : w5.cell? ⟨gb470, 2, none⟩ = some (.int .i64 a1_2) := (blk_cell BK470.out 2).trans rfl
      have hcz17_3 : w5.cell? ⟨gb470, 3, none⟩ = some (.slice A1_3 l1_3.length c1_3) := (blk_cell BK470.out 3).trans rfl
      have hcz17_4 : w5.cell? ⟨gb470, 4, none⟩ = some (.int .i64 a1_4) := (blk_cell BK470.out 4).trans rfl
      have hfz17_0 := blk_frozen BK470.out 0
      have hfz17_1 := blk_frozen BK470.out 1
      have hfz17_2 := blk_frozen BK470.out 2
      have hfz17_3 := blk_frozen BK470.out 3
      have hfz17_4 := blk_frozen BK470.out 4
      go_wp2_with (first | ((with_reducible refine gate_callee (f := 12) rfl ?_); refine goesL_ (some 8) rfl rfl Try.func12 (by kernel_rfl) rfl #[.agg #[.int .i64 a1_0, .int .i64 a1_1, .int .i64 a1_2, .slice A1_3 l1_3.length c1_3, .int .i64 a1_4]] rfl (by (try simp only [List.map_toArray, List.map_cons, List.map_nil]); first | done | rfl | (simp only [List.length_drop, List.length_take]; rfl)) ?_; (with_reducible refine (spec_StaOk.calls k a1_0 a1_1 a1_2 _ _ l1_3 a1_4 false _ ?side1 ?side2 A6.out).mono ?_); (case side1 => exact Kd.C_keep 0 HR1_3.out (by repeat (first | (with_reducible first | exact HK.out | apply KeepBut.set_ | apply keep_drewN | apply keep_drew | apply keep_alloc | refine keep_far ?_ GW470.out _) | exact HK.out)) hf1_3); (case side2 => exact HC1_3.out); rintro e w18 ⟨rfl, hb⟩; refine ⟨_, rfl, ?_⟩; have n0_ := Aside0.mk (IsS69.below (by repeat (first | (with_reducible first | exact HI0.out | apply IsS69.alloc | apply IsS69.drewN | apply IsS69.drew | apply IsS69.set_1 | refine IsS69.far ?_ NB0_470.out _) | exact HI0.out)) hb); have n1_ := Aside0.mk (blk_below (g := gb470) (o := .cells #[.int .i64 a1_0, .int .i64 a1_1, .int .i64 a1_2, .slice A1_3 l1_3.length c1_3, .int .i64 a1_4] 31 (0, 0)) (by (with_reducible repeat (first | refine blk_drewN ?_ _ | refine blk_drew ?_ | refine blk_alloc ?_ _)); exact BK470.out) hb); have n2_ := Aside0.mk (KeepBut.trans (by repeat (first | (with_reducible first | exact HK.out | apply KeepBut.set_ | apply keep_drewN | apply keep_drew | apply keep_alloc | refine keep_far ?_ GW470.out _) | exact HK.out)) (KeepBut.of_below hb g none) (.inl rfl)); have n3_ := Aside0.mk (below_step (by repeat (first | (with_reducible first | exact HB.out | apply below_alloc | apply pw_below_drewN | apply below_drew1 | refine below_set ?_ (IsS69.ge HI0.out) | refine below_set ?_ GE470.out) | exact HB.out)) hb); clear HI0; clear BK470; clear HK; clear HB; have HI0 := n0_; have BK470 := n1_; have HK := n2_; have HB := n3_; clear n0_ n1_ n2_ n3_; (try clear hb); (try clear hb2); (try clear hk); (try clear hi)))
      go_meet
      case rel => exact ⟨_, (true), (by first | rfl | (simp; done) | (simp [*]; done)), H', ⟨by first | omega | exact Nat.le_refl _⟩, ⟨by (with_reducible repeat (first | refine blk_drewN ?_ _ | refine blk_drew ?_ | refine blk_alloc ?_ _)); exact BK470.out⟩, ⟨by repeat (first | (with_reducible first | exact HI0.out | apply IsS69.alloc | apply IsS69.drewN | apply IsS69.drew | apply IsS69.set_1 | refine IsS69.far ?_ NB0_470.out _) | exact HI0.out)⟩, ⟨by repeat (first | (with_reducible first | exact HK.out | apply KeepBut.set_ | apply keep_drewN | apply keep_drew | apply keep_alloc | refine keep_far ?_ GW470.out _) | exact HK.out)⟩, ⟨by repeat (first | (with_reducible first | exact HB.out | apply below_alloc | apply pw_below_drewN | apply below_drew1 | refine below_set ?_ (IsS69.ge HI0.out) | refine below_set ?_ GE470.out) | exact HB.out)⟩⟩
  case rest =>
    clear HC4
    try clear c1
    try clear p2
    try clear c4
    try clear c7
    try clear c8
    try clear c8b0
    try clear c9
    try clear c12
    try clear c16
    try clear hcz10_0
    try clear hcz10_1
    try clear hcz10_2
    try clear hcz10_3
    try clear hcz10_4
    try clear hcz13_0
    try clear hcz13_1
    try clear hcz13_2
    try clear hcz13_3
    try clear hcz13_4
    try clear hcz15_0
    try clear hcz15_1
    try clear hcz15_2
    try clear hcz15_3
    try clear hcz15_4
    try clear hcz17_0
    try clear hcz17_1
    try clear hcz17_2
    try clear hcz17_3
    try clear hcz17_4
    try clear hfz10_0
    try clear hfz10_1
    try clear hfz10_2
    try clear hfz10_3
    try clear hfz10_4
    try clear hfz13_0
    try clear hfz13_1
    try clear hfz13_2
    try clear hfz13_3
    try clear hfz13_4
    try clear hfz15_0
    try clear hfz15_1
    try clear hfz15_2
    try clear hfz15_3
    try clear hfz15_4
    try clear hfz17_0
    try clear hfz17_1
    try clear hfz17_2
    try clear hfz17_3
    try clear hfz17_4
    obtain ⟨kq, x20_3, rfl, HA, HJ3, BK470, HI0, HK, HB⟩ := hcut
    cases kq with
    | zero => exact absurd HA.out (by simp [spec_l20Near.j0])
    | succ kj3 =>
      have H := HA.out
      clear HA
      simp only [spec_l20Near.j0] at H
      by_cases c19 : x20_3 = true
      · subst c19
        have H1 : ((spec_l20Rd_pick.f kj3 s0_0 s0_1 100).bind fun bt472 => (some (bt472.1, bt472.2))) = some (r1, r2) := by rw [if_pos rfl] at H; exact H
        clear H
        have H := H1
        clear H1
        replace H := Option.bind_eq_some_iff.mp H
        obtain ⟨⟨t472, t473⟩, A200, H⟩ := H
        replace H : (some (t472, t473)) = some (r1, r2) := H
        have A20 := Aside0.mk A200
        clear A200
        simp only [Option.some.injEq, Prod.mk.injEq] at H
        obtain ⟨rfl, rfl⟩ := H
        go_wp2_with (first | ((with_reducible refine gate_callee (f := 48) rfl ?_); refine goesL_ (some 22) rfl rfl Try.func48 (by kernel_rfl) rfl #[.pointer (some ⟨g, 0, none⟩), .int .i64 100] rfl (by (try simp only [List.map_toArray, List.map_cons, List.map_nil]); first | done | rfl | (simp only [List.length_drop, List.length_take]; rfl)) ?_; (with_reducible refine (spec_l20Rd_pick.calls kj3 g s0_0 s0_1 100 t472 t473 w0 _ ?side1 ?side2 A20.out).mono ?_); (case side1 => repeat (first | (with_reducible first | exact HI0.out | apply IsS69.alloc | apply IsS69.drewN | apply IsS69.drew | apply IsS69.set_1 | refine IsS69.far ?_ NB0_470.out _) | exact HI0.out)); (case side2 => repeat (first | (with_reducible first | exact HB.out | apply below_alloc | apply pw_below_drewN | apply below_drew1 | refine below_set ?_ (IsS69.ge HI0.out) | refine below_set ?_ GE470.out) | exact HB.out)); rintro e w21 ⟨rfl, hi, hb, hk⟩; refine ⟨_, rfl, ?_⟩; have n0_ := Aside0.mk (KeepBut.blk hk (g' := gb470) (o := .cells #[.int .i64 a1_0, .int .i64 a1_1, .int .i64 a1_2, .slice A1_3 l1_3.length c1_3, .int .i64 a1_4] 31 (0, 0)) (by (with_reducible repeat (first | refine blk_drewN ?_ _ | refine blk_drew ?_ | refine blk_alloc ?_ _)); exact BK470.out) NB470_0.out (by simp)); have n1_ := Aside0.mk (KeepBut.trans (by repeat (first | (with_reducible first | exact HK.out | apply KeepBut.set_ | apply keep_drewN | apply keep_drew | apply keep_alloc | refine keep_far ?_ GW470.out _) | exact HK.out)) hk (.inl rfl)); have n2_ := Aside0.mk (hb); have n3_ := Aside0.mk (hi); clear BK470; clear HK; clear HB; clear HI0; have BK470 := n0_; have HK := n1_; have HB := n2_; have HI0 := n3_; clear n0_ n1_ n2_ n3_; (try clear hb); (try clear hb2); (try clear hk); (try clear hi)))
        go_ret
        exact ⟨by first | rfl | (simp [errW_none, errW_some] <;> rfl) | (simp [*, errW_none, errW_some] <;> rfl), by repeat (first | (with_reducible first | exact HI0.out | apply IsS69.alloc | apply IsS69.drewN | apply IsS69.drew | apply IsS69.set_1 | refine IsS69.far ?_ NB0_470.out _) | exact HI0.out), by repeat (first | (with_reducible first | exact HB.out | apply below_alloc | apply pw_below_drewN | apply below_drew1 | refine below_set ?_ (IsS69.ge HI0.out) | refine below_set ?_ GE470.out) | exact HB.out), by repeat (first | (with_reducible first | exact HK.out | apply KeepBut.set_ | apply keep_drewN | apply keep_drew | apply keep_alloc | refine keep_far ?_ GW470.out _) | exact HK.out)⟩
      · replace c19 := Bool.eq_false_iff.mpr c19
        subst c19
        have H1 : (if 0 ≤ a2 then (if a2 < (l1_3.length : Int) then ((spec_DayPlus.f kj3 a1_0 a1_1 a1_2 (rd l1_3 a2)).bind fun bt475 => ((spec_DayNum.f kj3 bt475.1 bt475.2.1 bt475.2.2).bind fun t478 => ((some (([0, 1, (-1), a1_4, wrap64 (a1_4 + 1), wrap64 (-a1_4), wrap64 ((wrap64 (-a1_4)) - 1), 40] : List Int) : List Int)).bind fun y479 => ((spec_l20Rd_pick.f kj3 s0_0 s0_1 8).bind fun bt482 => (if 0 ≤ bt482.1 then (if bt482.1 < (y479.length : Int) then (some (wrap64 (t478 + (rd y479 bt482.1)), bt482.2)) else (none)) else (none)))))) else (none)) else (none)) = some (r1, r2) := by rw [if_neg (show ¬ (false = true) by decide)] at H; exact H
        clear H
        have H := H1
        clear H1
        by_cases c22 : 0 ≤ a2
        · rw [if_pos c22] at H
          have c22b0 : decide (0 ≤ a2) = true := decide_eq_true c22
          clear c22
          by_cases c23 : a2 < (l1_3.length : Int)
          · rw [if_pos c23] at H
            have c23b0 : decide (a2 < (l1_3.length : Int)) = true := decide_eq_true c23
            clear c23
            replace H := Option.bind_eq_some_iff.mp H
            obtain ⟨⟨t475, t476, t477⟩, A240, H⟩ := H
            replace H : ((spec_DayNum.f kj3 t475 t476 t477).bind fun t478 => ((some (([0, 1, (-1), a1_4, wrap64 (a1_4 + 1), wrap64 (-a1_4), wrap64 ((wrap64 (-a1_4)) - 1), 40] : List Int) : List Int)).bind fun y479 => ((spec_l20Rd_pick.f kj3 s0_0 s0_1 8).bind fun bt482 => (if 0 ≤ bt482.1 then (if bt482.1 < (y479.length : Int) then (some (wrap64 (t478 + (rd y479 bt482.1)), bt482.2)) else (none)) else (none))))) = some (r1, r2) := H
            have A24 := Aside0.mk A240
            clear A240
            replace H := Option.bind_eq_some_iff.mp H
            obtain ⟨t478, A250, H⟩ := H
            replace H : ((some (([0, 1, (-1), a1_4, wrap64 (a1_4 + 1), wrap64 (-a1_4), wrap64 ((wrap64 (-a1_4)) - 1), 40] : List Int) : List Int)).bind fun y479 => ((spec_l20Rd_pick.f kj3 s0_0 s0_1 8).bind fun bt482 => (if 0 ≤ bt482.1 then (if bt482.1 < (y479.length : Int) then (some (wrap64 (t478 + (rd y479 bt482.1)), bt482.2)) else (none)) else (none)))) = some (r1, r2) := H
            have A25 := Aside0.mk A250
            clear A250
            obtain ⟨y479, hy479⟩ : ∃ y_ : List Int, y_ = (([0, 1, (-1), a1_4, wrap64 (a1_4 + 1), wrap64 (-a1_4), wrap64 ((wrap64 (-a1_4)) - 1), 40] : List Int)) := ⟨_, rfl⟩
            replace H : ((spec_l20Rd_pick.f kj3 s0_0 s0_1 8).bind fun bt482 => (if 0 ≤ bt482.1 then (if bt482.1 < (y479.length : Int) then (some (wrap64 (t478 + (rd y479 bt482.1)), bt482.2)) else (none)) else (none))) = some (r1, r2) := by first | (rw [hy479]; with_reducible exact H) | (have H2_ := (Option.bind_some _ _).symm.trans H; rw [hy479]; with_reducible exact H2_) | (have H2_ := (Option.bind_some _ _).symm.trans H; with_reducible exact H2_) | with_reducible exact H | (rw [hy479]; exact H) | exact H
            have Ny479 := Aside0.mk hy479
            clear hy479
            replace H := Option.bind_eq_some_iff.mp H
            obtain ⟨⟨t482, t483⟩, A260, H⟩ := H
            replace H : (if 0 ≤ t482 then (if t482 < (y479.length : Int) then (some (wrap64 (t478 + (rd y479 t482)), t483)) else (none)) else (none)) = some (r1, r2) := H
            have A26 := Aside0.mk A260
            clear A260
            by_cases c27 : 0 ≤ t482
            · rw [if_pos c27] at H
              have c27b0 : decide (0 ≤ t482) = true := decide_eq_true c27
              clear c27
              by_cases c28 : t482 < (y479.length : Int)
              · rw [if_pos c28] at H
                have c28b0 : decide (t482 < (y479.length : Int)) = true := decide_eq_true c28
                clear c28
                simp only [Option.some.injEq, Prod.mk.injEq] at H
                obtain ⟨rfl, rfl⟩ := H
                try go_wp2
                have pi484 : (0 ≤ (t482 : Int)) = True := eq_true (of_decide_eq_true (by first | (with_reducible assumption) | assumption))
                have qi484 : (t482 < (y479.length : Int)) = True := eq_true (of_decide_eq_true (by first | (with_reducible assumption) | assumption))
                have n0_ := Aside0.mk (blk_drew BK470.out)
                have n1_ := Aside0.mk (IsS69.drew HI0.out)
                have n2_ := Aside0.mk (keep_drew HK.out)
                have n3_ := Aside0.mk (below_drew1 HB.out)
                clear BK470
                clear HI0
                clear HK
                clear HB
                have BK470 := n0_
                have HI0 := n1_
                have HK := n2_
                have HB := n3_
                clear n0_ n1_ n2_ n3_
                have p474 : 0 ≤ (a2 : Int) := of_decide_eq_true (by first | (with_reducible assumption) | assumption)
                have q474 : a2 < (l1_3.length : Int) := of_decide_eq_true (by first | (with_reducible assumption) | assumption)
                obtain ⟨ad474, e474, hx474_0⟩ := Kd.at_int HR1_3.out a2 p474 q474
                have hw474_0 := hx474_0
                cases e474
                have hne474_0 := (show ((ad474.add (a2).toNat) : Addr).block ≠ g from by first | (rw [add_block]; exact hf1_3 ad474 rfl (by omega)) | (show (Addr.add _ _).block ≠ _; rw [add_block]; exact hf1_3 ad474 rfl (by omega)) | exact hf1_3 ad474 rfl (by omega))
                replace hx474_0 := keep_cell HK.out hx474_0 (by first | (rw [add_block]; exact hf1_3 _ rfl (by omega)) | exact hf1_3 _ rfl (by omega) | exact hf1_3 ad474 rfl (by omega))
                replace p474 := eq_true p474
                replace q474 := eq_true q474
                refine start_ (n := 28) (S := fun w' => True) (ds := []) #[false, false, false, false, false, false, false, false, false, false, false, false, false, false, false, false, false, false, false, false, false, false, false, false, false, false, false, false] (by kernel_rfl) rfl rfl trivial (fun hHeld => ?_); refine with_tabW spec_l20Near.tab3 spec_l20Near.bits3 (fun HT_ HW_ => ?_)
                generalize wc.drew = w29 at BK470 HI0 HK HB hf1_3 hx474_0 hHeld ⊢
                refine pure_ (i := 0) (N := some 23) (v := ?_) (a' := ?_) #[true, false, false, false, false, false, false, false, false, false, false, false, false, false, false, false, false, false, false, false, false, false, false, false, false, false, false, false] rfl rfl (any_of HT_.out (by kernel_rfl)) (fun _ _ _ h => h) (Or.inl ⟨by rfl, ?_⟩) ?_ ?_
                rotate_left
                · intro w'
                  go_simp
                  with_reducible rfl
                rotate_left
                · simp only [Act.put, List.setIfInBounds_toArray, List.set_cons_zero, List.set_cons_succ, i64_w, i32_w]
                  rfl
                refine pure_ (i := 2) (N := some 25) (v := ?_) (a' := ?_) #[true, false, true, false, false, false, false, false, false, false, false, false, false, false, false, false, false, false, false, false, false, false, false, false, false, false, false, false] rfl rfl (any_of HT_.out (by kernel_rfl)) (fun _ _ _ h => h) (Or.inl ⟨by rfl, ?_⟩) ?_ ?_
                rotate_left
                · intro w'
                  go_simp
                  with_reducible rfl
                rotate_left
                · simp only [Act.put, List.setIfInBounds_toArray, List.set_cons_zero, List.set_cons_succ, i64_w, i32_w]
                  rfl
                refine pure_ (i := 4) (N := some 27) (v := ?_) (a' := ?_) #[true, false, true, false, true, false, false, false, false, false, false, false, false, false, false, false, false, false, false, false, false, false, false, false, false, false, false, false] rfl rfl (any_of HT_.out (by kernel_rfl)) (fun _ _ _ h => h) (Or.inl ⟨by rfl, ?_⟩) ?_ ?_
                rotate_left
                · intro w'
                  go_simp
                  with_reducible rfl
                rotate_left
                · simp only [Act.put, List.setIfInBounds_toArray, List.set_cons_zero, List.set_cons_succ, i64_w, i32_w]
                  rfl
                refine pure_ (i := 9) (N := some 32) (v := ?_) (a' := ?_) #[true, false, true, false, true, false, false, false, false, true, false, false, false, false, false, false, false, false, false, false, false, false, false, false, false, false, false, false] rfl rfl (any_of HT_.out (by kernel_rfl)) (fun _ _ _ h => h) (Or.inl ⟨by rfl, ?_⟩) ?_ ?_
                rotate_left
                · intro w'
                  go_simp
                  with_reducible rfl
                rotate_left
                · simp only [Act.put, List.setIfInBounds_toArray, List.set_cons_zero, List.set_cons_succ, i64_w, i32_w]
                  rfl
                refine pure_ (i := 11) (N := some 34) (v := ?_) (a' := ?_) #[true, false, true, false, true, false, false, false, false, true, false, true, false, false, false, false, false, false, false, false, false, false, false, false, false, false, false, false] rfl rfl (any_of HT_.out (by kernel_rfl)) (fun _ _ _ h => h) (Or.inl ⟨by rfl, ?_⟩) ?_ ?_
                rotate_left
                · intro w'
                  go_simp
                  with_reducible rfl
                rotate_left
                · simp only [Act.put, List.setIfInBounds_toArray, List.set_cons_zero, List.set_cons_succ, i64_w, i32_w]
                  rfl
                refine pure_ (i := 14) (N := some 37) (v := ?_) (a' := ?_) #[true, false, true, false, true, false, false, false, false, true, false, true, false, false, true, false, false, false, false, false, false, false, false, false, false, false, false, false] rfl rfl (any_of HT_.out (by kernel_rfl)) (fun _ _ _ h => h) (Or.inl ⟨by rfl, ?_⟩) ?_ ?_
                rotate_left
                · intro w'
                  go_simp
                  with_reducible rfl
                rotate_left
                · simp only [Act.put, List.setIfInBounds_toArray, List.set_cons_zero, List.set_cons_succ, i64_w, i32_w]
                  rfl
                refine pure_ (i := 17) (N := some 40) (v := ?_) (a' := ?_) #[true, false, true, false, true, false, false, false, false, true, false, true, false, false, true, false, false, true, false, false, false, false, false, false, false, false, false, false] rfl rfl (any_of HT_.out (by kernel_rfl)) (fun _ _ _ h => h) (Or.inl ⟨by rfl, ?_⟩) ?_ ?_
                rotate_left
                · intro w'
                  go_simp
                  with_reducible rfl
                rotate_left
                · simp only [Act.put, List.setIfInBounds_toArray, List.set_cons_zero, List.set_cons_succ, i64_w, i32_w]
                  rfl
                refine pure_ (i := 22) (N := some 45) (v := ?_) (a' := ?_) #[true, false, true, false, true, false, false, false, false, true, false, true, false, false, true, false, false, true, false, false, false, false, true, false, false, false, false, false] rfl rfl (any_of HT_.out (by kernel_rfl)) (fun _ _ _ h => h) (Or.inl ⟨by rfl, ?_⟩) ?_ ?_
                rotate_left
                · intro w'
                  go_simp
                  with_reducible rfl
                rotate_left
                · simp only [Act.put, List.setIfInBounds_toArray, List.set_cons_zero, List.set_cons_succ, i64_w, i32_w]
                  rfl
                refine inv_at [1, 3, 5, 6, 7, 8, 10, 12, 13, 15, 16, 18, 19, 20, 21, 23, 24, 25, 26, 27] (fun a0_ b a w' => ∃ (v480 : Value) (adz_v480 : Addr) (m24_ : Value), a = putSel a0_ b [(1, 24, .agg #[.int .i64 a1_0, .int .i64 a1_1, .int .i64 a1_2]), (3, 26, .slice (some ad474) l1_3.length c1_3), (5, 28, .pointer (some (ad474.add (a2).toNat))), (6, 29, .int .i64 (rd l1_3 a2)), (7, 30, .agg #[.int .i64 t475, .int .i64 t476, .int .i64 t477]), (8, 31, .int .i64 t478), (10, 33, .int .i64 a1_4), (12, 35, .int .i64 a1_4), (13, 36, .int .i64 (wrap64 (a1_4 + 1))), (15, 38, .int .i64 a1_4), (16, 39, .int .i64 (wrap64 (-a1_4))), (18, 41, .int .i64 a1_4), (19, 42, .int .i64 (wrap64 (-a1_4))), (20, 43, .int .i64 (wrap64 ((wrap64 (-a1_4)) - 1))), (21, 44, v480), (23, 46, .int .i64 t482), (24, 47, m24_), (25, 48, .int .i64 (rd y479 t482)), (26, 49, .int .i64 (wrap64 (t478 + (rd y479 t482)))), (27, 6, .int .i64 (wrap64 (t478 + (rd y479 t482))))] ∧ (w'.heap[gb470]? = some (.cells #[.int .i64 a1_0, .int .i64 a1_1, .int .i64 a1_2, .slice (some ad474) l1_3.length c1_3, .int .i64 a1_4] 31 (0, 0))) ∧ (b 23 = false → IsS69 w0 w' g s0_0 s0_1) ∧ (KeepBut w w' g none) ∧ (Below w0.heap.size w0 w') ∧ (b 21 = true → Kd.R (Kd.int .i64) 3 w' w.heap.size (fun _ => True) v480 y479) ∧ (b 21 = true → ∃ c_, (v480 : Value) = .slice (some adz_v480) y479.length c_) ∧ (b 23 = true → IsS69 w0 w' g s0_0 t483) ∧ (b 24 = true → (m24_ : Value) = .pointer (some (adz_v480.add (t482).toNat)))) HT_.out HW_.out (by kernel_rfl) (by kernel_rfl) ?_ ?_ ?_
                · exact ⟨.bool false, ⟨0, 0, none⟩, .bool false, by simp only [putSel, Bool.false_eq_true, if_false], BK470.out, fun _ => HI0.out, HK.out, HB.out, fun h_ => absurd h_ (by decide), fun h_ => absurd h_ (by decide), fun h_ => absurd h_ (by decide), fun h_ => absurd h_ (by decide)⟩
                · skip
                  clear BK470 HB HI0 HK
                  refine steps_cons ?_ ?_
                  · rintro b a w' ⟨v480, adz_v480, m24_, ha, Q_BK470, Q_HI0, Q_HK, Q_HB, Q_HO481, Q_HA_HO481, Q_HI0_e23, Q_X24_⟩ hb_ hon hoff
                    refine ⟨_, rfl, fun K hK => ?_⟩
                    have e23 : a.tmps[23]? = some (.pointer (some ⟨gb470, 0, none⟩)) := by rw [ha]; exact (putSel_off rfl).trans rfl
                    replace ha := Aside0.mk ha
                    have BK470 := Aside0.mk Q_BK470
                    have HI0 := Aside0.mk (Q_HI0 (hoff 23 (by kernel_rfl)))
                    have HK := Aside0.mk Q_HK
                    have HB := Aside0.mk Q_HB
                    have hc0_ : w'.cell? ⟨gb470, 0, none⟩ = some (.int .i64 a1_0) := (blk_cell BK470.out 0).trans rfl
                    have hc1_ : w'.cell? ⟨gb470, 1, none⟩ = some (.int .i64 a1_1) := (blk_cell BK470.out 1).trans rfl
                    have hc2_ : w'.cell? ⟨gb470, 2, none⟩ = some (.int .i64 a1_2) := (blk_cell BK470.out 2).trans rfl
                    have hc3_ : w'.cell? ⟨gb470, 3, none⟩ = some (.slice (some ad474) l1_3.length c1_3) := (blk_cell BK470.out 3).trans rfl
                    have hc4_ : w'.cell? ⟨gb470, 4, none⟩ = some (.int .i64 a1_4) := (blk_cell BK470.out 4).trans rfl
                    refine value_ (w1 := w') (v := .agg #[.int .i64 a1_0, .int .i64 a1_1, .int .i64 a1_2]) (by rfl) rfl ?_ ?_
                    · go_simp
                      (try simp only [i64_w])
                      try rfl
                    refine hK.out _ _ ⟨v480, adz_v480, m24_, (by rw [ha.out]; exact putSel_upk 0 hb_ rfl rfl rfl), Q_BK470, Q_HI0, Q_HK, Q_HB, Q_HO481, Q_HA_HO481, fun h0_ => absurd ((hoff 23 (by kernel_rfl)).symm.trans h0_) (by decide), fun h0_ => absurd ((hoff 24 (by kernel_rfl)).symm.trans h0_) (by decide)⟩
                  refine steps_cons ?_ ?_
                  · rintro b a w' ⟨v480, adz_v480, m24_, ha, Q_BK470, Q_HI0, Q_HK, Q_HB, Q_HO481, Q_HA_HO481, Q_HI0_e23, Q_X24_⟩ hb_ hon hoff
                    refine ⟨_, rfl, fun K hK => ?_⟩
                    have e25 : a.tmps[25]? = some (.pointer (some ⟨gb470, 3, none⟩)) := by rw [ha]; exact (putSel_off rfl).trans rfl
                    replace ha := Aside0.mk ha
                    have BK470 := Aside0.mk Q_BK470
                    have HI0 := Aside0.mk (Q_HI0 (hoff 23 (by kernel_rfl)))
                    have HK := Aside0.mk Q_HK
                    have HB := Aside0.mk Q_HB
                    have hc0_ : w'.cell? ⟨gb470, 0, none⟩ = some (.int .i64 a1_0) := (blk_cell BK470.out 0).trans rfl
                    have hc1_ : w'.cell? ⟨gb470, 1, none⟩ = some (.int .i64 a1_1) := (blk_cell BK470.out 1).trans rfl
                    have hc2_ : w'.cell? ⟨gb470, 2, none⟩ = some (.int .i64 a1_2) := (blk_cell BK470.out 2).trans rfl
                    have hc3_ : w'.cell? ⟨gb470, 3, none⟩ = some (.slice (some ad474) l1_3.length c1_3) := (blk_cell BK470.out 3).trans rfl
                    have hc4_ : w'.cell? ⟨gb470, 4, none⟩ = some (.int .i64 a1_4) := (blk_cell BK470.out 4).trans rfl
                    refine value_ (w1 := w') (v := .slice (some ad474) l1_3.length c1_3) (by rfl) rfl ?_ ?_
                    · go_simp
                      (try simp only [i64_w])
                      try rfl
                    refine hK.out _ _ ⟨v480, adz_v480, m24_, (by rw [ha.out]; exact putSel_upk 1 hb_ rfl rfl rfl), Q_BK470, Q_HI0, Q_HK, Q_HB, Q_HO481, Q_HA_HO481, fun h0_ => absurd ((hoff 23 (by kernel_rfl)).symm.trans h0_) (by decide), fun h0_ => absurd ((hoff 24 (by kernel_rfl)).symm.trans h0_) (by decide)⟩
                  refine steps_cons ?_ ?_
                  · rintro b a w' ⟨v480, adz_v480, m24_, ha, Q_BK470, Q_HI0, Q_HK, Q_HB, Q_HO481, Q_HA_HO481, Q_HI0_e23, Q_X24_⟩ hb_ hon hoff
                    refine ⟨_, rfl, fun K hK => ?_⟩
                    have e26 : a.tmps[26]? = some (.slice (some ad474) l1_3.length c1_3) := by rw [ha]; exact putSel_on (e := (3, 26, .slice (some ad474) l1_3.length c1_3)) 1 rfl rfl (hon 3 (by kernel_rfl)) rfl
                    have e27 : a.tmps[27]? = some (.int .i64 a2) := by rw [ha]; exact (putSel_off rfl).trans rfl
                    replace ha := Aside0.mk ha
                    have BK470 := Aside0.mk Q_BK470
                    have HI0 := Aside0.mk (Q_HI0 (hoff 23 (by kernel_rfl)))
                    have HK := Aside0.mk Q_HK
                    have HB := Aside0.mk Q_HB
                    have hs0_ : w'.cell? (ad474.add (a2).toNat) = some (.int .i64 (rd l1_3 a2)) := (keep_cell HK.out hw474_0 hne474_0)
                    refine value_ (w1 := w') (v := .pointer (some (ad474.add (a2).toNat))) (by rfl) rfl ?_ ?_
                    · go_simp
                      (try simp only [i64_w])
                      try rfl
                    refine hK.out _ _ ⟨v480, adz_v480, m24_, (by rw [ha.out]; exact putSel_upk 2 hb_ rfl rfl rfl), Q_BK470, Q_HI0, Q_HK, Q_HB, Q_HO481, Q_HA_HO481, fun h0_ => absurd ((hoff 23 (by kernel_rfl)).symm.trans h0_) (by decide), fun h0_ => absurd ((hoff 24 (by kernel_rfl)).symm.trans h0_) (by decide)⟩
                  refine steps_cons ?_ ?_
                  · rintro b a w' ⟨v480, adz_v480, m24_, ha, Q_BK470, Q_HI0, Q_HK, Q_HB, Q_HO481, Q_HA_HO481, Q_HI0_e23, Q_X24_⟩ hb_ hon hoff
                    refine ⟨_, rfl, fun K hK => ?_⟩
                    have e28 : a.tmps[28]? = some (.pointer (some (ad474.add (a2).toNat))) := by rw [ha]; exact putSel_on (e := (5, 28, .pointer (some (ad474.add (a2).toNat)))) 2 rfl rfl (hon 5 (by kernel_rfl)) rfl
                    replace ha := Aside0.mk ha
                    have BK470 := Aside0.mk Q_BK470
                    have HI0 := Aside0.mk (Q_HI0 (hoff 23 (by kernel_rfl)))
                    have HK := Aside0.mk Q_HK
                    have HB := Aside0.mk Q_HB
                    have hs0_ : w'.cell? (ad474.add (a2).toNat) = some (.int .i64 (rd l1_3 a2)) := (keep_cell HK.out hw474_0 hne474_0)
                    refine value_ (w1 := w') (v := .int .i64 (rd l1_3 a2)) (by rfl) rfl ?_ ?_
                    · go_simp
                      (try simp only [i64_w])
                      try rfl
                    refine hK.out _ _ ⟨v480, adz_v480, m24_, (by rw [ha.out]; exact putSel_upk 3 hb_ rfl rfl rfl), Q_BK470, Q_HI0, Q_HK, Q_HB, Q_HO481, Q_HA_HO481, fun h0_ => absurd ((hoff 23 (by kernel_rfl)).symm.trans h0_) (by decide), fun h0_ => absurd ((hoff 24 (by kernel_rfl)).symm.trans h0_) (by decide)⟩
                  refine steps_cons ?_ ?_
                  · rintro b a w' ⟨v480, adz_v480, m24_, ha, Q_BK470, Q_HI0, Q_HK, Q_HB, Q_HO481, Q_HA_HO481, Q_HI0_e23, Q_X24_⟩ hb_ hon hoff
                    refine ⟨_, rfl, fun K hK => ?_⟩
                    have e24 : a.tmps[24]? = some (.agg #[.int .i64 a1_0, .int .i64 a1_1, .int .i64 a1_2]) := by rw [ha]; exact putSel_on (e := (1, 24, .agg #[.int .i64 a1_0, .int .i64 a1_1, .int .i64 a1_2])) 0 rfl rfl (hon 1 (by kernel_rfl)) rfl
                    have e29 : a.tmps[29]? = some (.int .i64 (rd l1_3 a2)) := by rw [ha]; exact putSel_on (e := (6, 29, .int .i64 (rd l1_3 a2))) 3 rfl rfl (hon 6 (by kernel_rfl)) rfl
                    replace ha := Aside0.mk ha
                    have BK470 := Aside0.mk Q_BK470
                    have HI0 := Aside0.mk (Q_HI0 (hoff 23 (by kernel_rfl)))
                    have HK := Aside0.mk Q_HK
                    have HB := Aside0.mk Q_HB
                    refine goes_ Try.func43 (by kernel_rfl) rfl #[.agg #[.int .i64 a1_0, .int .i64 a1_1, .int .i64 a1_2], .int .i64 (rd l1_3 a2)] (by rfl) rfl rfl (by first | (simp only [List.map_toArray, List.map_cons, List.map_nil, Act.eval, Array.getD_eq_getD_getElem?, Option.getD_some, e24, e29]; done) | (simp only [List.map_toArray, List.map_cons, List.map_nil, Act.eval, Array.getD_eq_getD_getElem?, Option.getD_some, e24, e29]; rfl)) ?_
                    with_reducible refine (spec_DayPlus.calls kj3 a1_0 a1_1 a1_2 (rd l1_3 a2) t475 t476 t477 _ A24.out).mono ?_
                    rintro e w30 ⟨rfl, hb⟩
                    refine ⟨_, rfl, ?_⟩
                    have n0_ := Aside0.mk (blk_below (g := gb470) (o := .cells #[.int .i64 a1_0, .int .i64 a1_1, .int .i64 a1_2, .slice (some ad474) l1_3.length c1_3, .int .i64 a1_4] 31 (0, 0)) (by (with_reducible repeat (first | refine blk_drewN ?_ _ | refine blk_drew ?_ | refine blk_alloc ?_ _)); exact BK470.out) hb)
                    have n1_ := Aside0.mk (IsS69.below (by repeat (first | (with_reducible first | exact HI0.out | apply IsS69.alloc | apply IsS69.drewN | apply IsS69.drew | apply IsS69.set_1 | refine IsS69.far ?_ NB0_470.out _) | exact HI0.out)) hb)
                    have n2_ := Aside0.mk (KeepBut.trans (by repeat (first | (with_reducible first | exact HK.out | apply KeepBut.set_ | apply keep_drewN | apply keep_drew | apply keep_alloc | refine keep_far ?_ GW470.out _) | exact HK.out)) (KeepBut.of_below hb g none) (.inl rfl))
                    have n3_ := Aside0.mk (below_step (by repeat (first | (with_reducible first | exact HB.out | apply below_alloc | apply pw_below_drewN | apply below_drew1 | refine below_set ?_ (IsS69.ge HI0.out) | refine below_set ?_ GE470.out) | exact HB.out)) hb)
                    have z_HO481 := fun (h0_ : b 21 = true) => (show Kd.R (Kd.int .i64) 3 w30 w.heap.size (fun _ => True) v480 y479 from by first | exact (Kd.R_below (by (with_reducible repeat (first | apply Kd.R_alloc | apply Kd.R_drewN | apply Kd.R_drew)); exact (Q_HO481 h0_)) hb) | exact Kd.R_mono (Kd.R_below (by (with_reducible repeat (first | apply Kd.R_alloc | apply Kd.R_drewN | apply Kd.R_drew)); exact (Q_HO481 h0_)) hb) (fun _ h_ => by first | trivial | exact h_ | exact h_.1))
                    clear BK470
                    clear HI0
                    clear HK
                    clear HB
                    have BK470 := n0_
                    have HI0 := n1_
                    have HK := n2_
                    have HB := n3_
                    clear n0_ n1_ n2_ n3_
                    (try clear hb)
                    (try clear hb2)
                    (try clear hk)
                    (try clear hi)
                    refine hK.out _ _ ⟨v480, adz_v480, m24_, (by rw [ha.out]; exact putSel_upk 4 hb_ rfl rfl rfl), (by (with_reducible repeat (first | refine blk_drewN ?_ _ | refine blk_drew ?_ | refine blk_alloc ?_ _)); exact BK470.out), fun _ => (by repeat (first | (with_reducible first | exact HI0.out | apply IsS69.alloc | apply IsS69.drewN | apply IsS69.drew | apply IsS69.set_1 | refine IsS69.far ?_ NB0_470.out _) | exact HI0.out)), (by repeat (first | (with_reducible first | exact HK.out | apply KeepBut.set_ | apply keep_drewN | apply keep_drew | apply keep_alloc | refine keep_far ?_ GW470.out _) | exact HK.out)), (by repeat (first | (with_reducible first | exact HB.out | apply below_alloc | apply pw_below_drewN | apply below_drew1 | refine below_set ?_ (IsS69.ge HI0.out) | refine below_set ?_ GE470.out) | exact HB.out)), z_HO481, Q_HA_HO481, fun h0_ => absurd ((hoff 23 (by kernel_rfl)).symm.trans h0_) (by decide), fun h0_ => absurd ((hoff 24 (by kernel_rfl)).symm.trans h0_) (by decide)⟩
                  refine steps_cons ?_ ?_
                  · rintro b a w' ⟨v480, adz_v480, m24_, ha, Q_BK470, Q_HI0, Q_HK, Q_HB, Q_HO481, Q_HA_HO481, Q_HI0_e23, Q_X24_⟩ hb_ hon hoff
                    refine ⟨_, rfl, fun K hK => ?_⟩
                    have e30 : a.tmps[30]? = some (.agg #[.int .i64 t475, .int .i64 t476, .int .i64 t477]) := by rw [ha]; exact putSel_on (e := (7, 30, .agg #[.int .i64 t475, .int .i64 t476, .int .i64 t477])) 4 rfl rfl (hon 7 (by kernel_rfl)) rfl
                    replace ha := Aside0.mk ha
                    have BK470 := Aside0.mk Q_BK470
                    have HI0 := Aside0.mk (Q_HI0 (hoff 23 (by kernel_rfl)))
                    have HK := Aside0.mk Q_HK
                    have HB := Aside0.mk Q_HB
                    refine goes_ Try.func46 (by kernel_rfl) rfl #[.agg #[.int .i64 t475, .int .i64 t476, .int .i64 t477]] (by rfl) rfl rfl (by first | (simp only [List.map_toArray, List.map_cons, List.map_nil, Act.eval, Array.getD_eq_getD_getElem?, Option.getD_some, e30]; done) | (simp only [List.map_toArray, List.map_cons, List.map_nil, Act.eval, Array.getD_eq_getD_getElem?, Option.getD_some, e30]; rfl)) ?_
                    with_reducible refine (spec_DayNum.calls kj3 t475 t476 t477 t478 _ A25.out).mono ?_
                    rintro e w32 ⟨rfl, hb⟩
                    refine ⟨_, rfl, ?_⟩
                    have n0_ := Aside0.mk (blk_below (g := gb470) (o := .cells #[.int .i64 a1_0, .int .i64 a1_1, .int .i64 a1_2, .slice (some ad474) l1_3.length c1_3, .int .i64 a1_4] 31 (0, 0)) (by (with_reducible repeat (first | refine blk_drewN ?_ _ | refine blk_drew ?_ | refine blk_alloc ?_ _)); exact BK470.out) hb)
                    have n1_ := Aside0.mk (IsS69.below (by repeat (first | (with_reducible first | exact HI0.out | apply IsS69.alloc | apply IsS69.drewN | apply IsS69.drew | apply IsS69.set_1 | refine IsS69.far ?_ NB0_470.out _) | exact HI0.out)) hb)
                    have n2_ := Aside0.mk (KeepBut.trans (by repeat (first | (with_reducible first | exact HK.out | apply KeepBut.set_ | apply keep_drewN | apply keep_drew | apply keep_alloc | refine keep_far ?_ GW470.out _) | exact HK.out)) (KeepBut.of_below hb g none) (.inl rfl))
                    have n3_ := Aside0.mk (below_step (by repeat (first | (with_reducible first | exact HB.out | apply below_alloc | apply pw_below_drewN | apply below_drew1 | refine below_set ?_ (IsS69.ge HI0.out) | refine below_set ?_ GE470.out) | exact HB.out)) hb)
                    have z_HO481 := fun (h0_ : b 21 = true) => (show Kd.R (Kd.int .i64) 3 w32 w.heap.size (fun _ => True) v480 y479 from by first | exact (Kd.R_below (by (with_reducible repeat (first | apply Kd.R_alloc | apply Kd.R_drewN | apply Kd.R_drew)); exact (Q_HO481 h0_)) hb) | exact Kd.R_mono (Kd.R_below (by (with_reducible repeat (first | apply Kd.R_alloc | apply Kd.R_drewN | apply Kd.R_drew)); exact (Q_HO481 h0_)) hb) (fun _ h_ => by first | trivial | exact h_ | exact h_.1))
                    clear BK470
                    clear HI0
                    clear HK
                    clear HB
                    have BK470 := n0_
                    have HI0 := n1_
                    have HK := n2_
                    have HB := n3_
                    clear n0_ n1_ n2_ n3_
                    (try clear hb)
                    (try clear hb2)
                    (try clear hk)
                    (try clear hi)
                    refine hK.out _ _ ⟨v480, adz_v480, m24_, (by rw [ha.out]; exact putSel_upk 5 hb_ rfl rfl rfl), (by (with_reducible repeat (first | refine blk_drewN ?_ _ | refine blk_drew ?_ | refine blk_alloc ?_ _)); exact BK470.out), fun _ => (by repeat (first | (with_reducible first | exact HI0.out | apply IsS69.alloc | apply IsS69.drewN | apply IsS69.drew | apply IsS69.set_1 | refine IsS69.far ?_ NB0_470.out _) | exact HI0.out)), (by repeat (first | (with_reducible first | exact HK.out | apply KeepBut.set_ | apply keep_drewN | apply keep_drew | apply keep_alloc | refine keep_far ?_ GW470.out _) | exact HK.out)), (by repeat (first | (with_reducible first | exact HB.out | apply below_alloc | apply pw_below_drewN | apply below_drew1 | refine below_set ?_ (IsS69.ge HI0.out) | refine below_set ?_ GE470.out) | exact HB.out)), z_HO481, Q_HA_HO481, fun h0_ => absurd ((hoff 23 (by kernel_rfl)).symm.trans h0_) (by decide), fun h0_ => absurd ((hoff 24 (by kernel_rfl)).symm.trans h0_) (by decide)⟩
                  refine steps_cons ?_ ?_
                  · rintro b a w' ⟨v480, adz_v480, m24_, ha, Q_BK470, Q_HI0, Q_HK, Q_HB, Q_HO481, Q_HA_HO481, Q_HI0_e23, Q_X24_⟩ hb_ hon hoff
                    refine ⟨_, rfl, fun K hK => ?_⟩
                    have e32 : a.tmps[32]? = some (.pointer (some ⟨gb470, 4, none⟩)) := by rw [ha]; exact (putSel_off rfl).trans rfl
                    replace ha := Aside0.mk ha
                    have BK470 := Aside0.mk Q_BK470
                    have HK := Aside0.mk Q_HK
                    have HB := Aside0.mk Q_HB
                    have hc0_ : w'.cell? ⟨gb470, 0, none⟩ = some (.int .i64 a1_0) := (blk_cell BK470.out 0).trans rfl
                    have hc1_ : w'.cell? ⟨gb470, 1, none⟩ = some (.int .i64 a1_1) := (blk_cell BK470.out 1).trans rfl
                    have hc2_ : w'.cell? ⟨gb470, 2, none⟩ = some (.int .i64 a1_2) := (blk_cell BK470.out 2).trans rfl
                    have hc3_ : w'.cell? ⟨gb470, 3, none⟩ = some (.slice (some ad474) l1_3.length c1_3) := (blk_cell BK470.out 3).trans rfl
                    have hc4_ : w'.cell? ⟨gb470, 4, none⟩ = some (.int .i64 a1_4) := (blk_cell BK470.out 4).trans rfl
                    refine value_ (w1 := w') (v := .int .i64 a1_4) (by rfl) rfl ?_ ?_
                    · go_simp
                      (try simp only [i64_w])
                      try rfl
                    refine hK.out _ _ ⟨v480, adz_v480, m24_, (by rw [ha.out]; exact putSel_upk 6 hb_ rfl rfl rfl), Q_BK470, Q_HI0, Q_HK, Q_HB, fun h0_ => absurd ((hoff 21 (by kernel_rfl)).symm.trans h0_) (by decide), fun h0_ => absurd ((hoff 21 (by kernel_rfl)).symm.trans h0_) (by decide), Q_HI0_e23, fun h0_ => absurd ((hoff 24 (by kernel_rfl)).symm.trans h0_) (by decide)⟩
                  refine steps_cons ?_ ?_
                  · rintro b a w' ⟨v480, adz_v480, m24_, ha, Q_BK470, Q_HI0, Q_HK, Q_HB, Q_HO481, Q_HA_HO481, Q_HI0_e23, Q_X24_⟩ hb_ hon hoff
                    refine ⟨_, rfl, fun K hK => ?_⟩
                    have e34 : a.tmps[34]? = some (.pointer (some ⟨gb470, 4, none⟩)) := by rw [ha]; exact (putSel_off rfl).trans rfl
                    replace ha := Aside0.mk ha
                    have BK470 := Aside0.mk Q_BK470
                    have HK := Aside0.mk Q_HK
                    have HB := Aside0.mk Q_HB
                    have hc0_ : w'.cell? ⟨gb470, 0, none⟩ = some (.int .i64 a1_0) := (blk_cell BK470.out 0).trans rfl
                    have hc1_ : w'.cell? ⟨gb470, 1, none⟩ = some (.int .i64 a1_1) := (blk_cell BK470.out 1).trans rfl
                    have hc2_ : w'.cell? ⟨gb470, 2, none⟩ = some (.int .i64 a1_2) := (blk_cell BK470.out 2).trans rfl
                    have hc3_ : w'.cell? ⟨gb470, 3, none⟩ = some (.slice (some ad474) l1_3.length c1_3) := (blk_cell BK470.out 3).trans rfl
                    have hc4_ : w'.cell? ⟨gb470, 4, none⟩ = some (.int .i64 a1_4) := (blk_cell BK470.out 4).trans rfl
                    refine value_ (w1 := w') (v := .int .i64 a1_4) (by rfl) rfl ?_ ?_
                    · go_simp
                      (try simp only [i64_w])
                      try rfl
                    refine hK.out _ _ ⟨v480, adz_v480, m24_, (by rw [ha.out]; exact putSel_upk 7 hb_ rfl rfl rfl), Q_BK470, Q_HI0, Q_HK, Q_HB, fun h0_ => absurd ((hoff 21 (by kernel_rfl)).symm.trans h0_) (by decide), fun h0_ => absurd ((hoff 21 (by kernel_rfl)).symm.trans h0_) (by decide), Q_HI0_e23, fun h0_ => absurd ((hoff 24 (by kernel_rfl)).symm.trans h0_) (by decide)⟩
                  refine steps_cons ?_ ?_
                  · rintro b a w' ⟨v480, adz_v480, m24_, ha, Q_BK470, Q_HI0, Q_HK, Q_HB, Q_HO481, Q_HA_HO481, Q_HI0_e23, Q_X24_⟩ hb_ hon hoff
                    refine ⟨_, rfl, fun K hK => ?_⟩
                    have e35 : a.tmps[35]? = some (.int .i64 a1_4) := by rw [ha]; exact putSel_on (e := (12, 35, .int .i64 a1_4)) 7 rfl rfl (hon 12 (by kernel_rfl)) rfl
                    replace ha := Aside0.mk ha
                    have BK470 := Aside0.mk Q_BK470
                    have HK := Aside0.mk Q_HK
                    have HB := Aside0.mk Q_HB
                    refine value_ (w1 := w') (v := .int .i64 (wrap64 (a1_4 + 1))) (by rfl) rfl ?_ ?_
                    · go_simp
                      (try simp only [i64_w])
                      try rfl
                    refine hK.out _ _ ⟨v480, adz_v480, m24_, (by rw [ha.out]; exact putSel_upk 8 hb_ rfl rfl rfl), Q_BK470, Q_HI0, Q_HK, Q_HB, fun h0_ => absurd ((hoff 21 (by kernel_rfl)).symm.trans h0_) (by decide), fun h0_ => absurd ((hoff 21 (by kernel_rfl)).symm.trans h0_) (by decide), Q_HI0_e23, fun h0_ => absurd ((hoff 24 (by kernel_rfl)).symm.trans h0_) (by decide)⟩
                  refine steps_cons ?_ ?_
                  · rintro b a w' ⟨v480, adz_v480, m24_, ha, Q_BK470, Q_HI0, Q_HK, Q_HB, Q_HO481, Q_HA_HO481, Q_HI0_e23, Q_X24_⟩ hb_ hon hoff
                    refine ⟨_, rfl, fun K hK => ?_⟩
                    have e37 : a.tmps[37]? = some (.pointer (some ⟨gb470, 4, none⟩)) := by rw [ha]; exact (putSel_off rfl).trans rfl
                    replace ha := Aside0.mk ha
                    have BK470 := Aside0.mk Q_BK470
                    have HK := Aside0.mk Q_HK
                    have HB := Aside0.mk Q_HB
                    have hc0_ : w'.cell? ⟨gb470, 0, none⟩ = some (.int .i64 a1_0) := (blk_cell BK470.out 0).trans rfl
                    have hc1_ : w'.cell? ⟨gb470, 1, none⟩ = some (.int .i64 a1_1) := (blk_cell BK470.out 1).trans rfl
                    have hc2_ : w'.cell? ⟨gb470, 2, none⟩ = some (.int .i64 a1_2) := (blk_cell BK470.out 2).trans rfl
                    have hc3_ : w'.cell? ⟨gb470, 3, none⟩ = some (.slice (some ad474) l1_3.length c1_3) := (blk_cell BK470.out 3).trans rfl
                    have hc4_ : w'.cell? ⟨gb470, 4, none⟩ = some (.int .i64 a1_4) := (blk_cell BK470.out 4).trans rfl
                    refine value_ (w1 := w') (v := .int .i64 a1_4) (by rfl) rfl ?_ ?_
                    · go_simp
                      (try simp only [i64_w])
                      try rfl
                    refine hK.out _ _ ⟨v480, adz_v480, m24_, (by rw [ha.out]; exact putSel_upk 9 hb_ rfl rfl rfl), Q_BK470, Q_HI0, Q_HK, Q_HB, fun h0_ => absurd ((hoff 21 (by kernel_rfl)).symm.trans h0_) (by decide), fun h0_ => absurd ((hoff 21 (by kernel_rfl)).symm.trans h0_) (by decide), Q_HI0_e23, fun h0_ => absurd ((hoff 24 (by kernel_rfl)).symm.trans h0_) (by decide)⟩
                  refine steps_cons ?_ ?_
                  · rintro b a w' ⟨v480, adz_v480, m24_, ha, Q_BK470, Q_HI0, Q_HK, Q_HB, Q_HO481, Q_HA_HO481, Q_HI0_e23, Q_X24_⟩ hb_ hon hoff
                    refine ⟨_, rfl, fun K hK => ?_⟩
                    have e38 : a.tmps[38]? = some (.int .i64 a1_4) := by rw [ha]; exact putSel_on (e := (15, 38, .int .i64 a1_4)) 9 rfl rfl (hon 15 (by kernel_rfl)) rfl
                    replace ha := Aside0.mk ha
                    have BK470 := Aside0.mk Q_BK470
                    have HK := Aside0.mk Q_HK
                    have HB := Aside0.mk Q_HB
                    refine value_ (w1 := w') (v := .int .i64 (wrap64 (-a1_4))) (by rfl) rfl ?_ ?_
                    · go_simp
                      (try simp only [i64_w])
                      try rfl
                    refine hK.out _ _ ⟨v480, adz_v480, m24_, (by rw [ha.out]; exact putSel_upk 10 hb_ rfl rfl rfl), Q_BK470, Q_HI0, Q_HK, Q_HB, fun h0_ => absurd ((hoff 21 (by kernel_rfl)).symm.trans h0_) (by decide), fun h0_ => absurd ((hoff 21 (by kernel_rfl)).symm.trans h0_) (by decide), Q_HI0_e23, fun h0_ => absurd ((hoff 24 (by kernel_rfl)).symm.trans h0_) (by decide)⟩
                  refine steps_cons ?_ ?_
                  · rintro b a w' ⟨v480, adz_v480, m24_, ha, Q_BK470, Q_HI0, Q_HK, Q_HB, Q_HO481, Q_HA_HO481, Q_HI0_e23, Q_X24_⟩ hb_ hon hoff
                    refine ⟨_, rfl, fun K hK => ?_⟩
                    have e40 : a.tmps[40]? = some (.pointer (some ⟨gb470, 4, none⟩)) := by rw [ha]; exact (putSel_off rfl).trans rfl
                    replace ha := Aside0.mk ha
                    have BK470 := Aside0.mk Q_BK470
                    have HK := Aside0.mk Q_HK
                    have HB := Aside0.mk Q_HB
                    have hc0_ : w'.cell? ⟨gb470, 0, none⟩ = some (.int .i64 a1_0) := (blk_cell BK470.out 0).trans rfl
                    have hc1_ : w'.cell? ⟨gb470, 1, none⟩ = some (.int .i64 a1_1) := (blk_cell BK470.out 1).trans rfl
                    have hc2_ : w'.cell? ⟨gb470, 2, none⟩ = some (.int .i64 a1_2) := (blk_cell BK470.out 2).trans rfl
                    have hc3_ : w'.cell? ⟨gb470, 3, none⟩ = some (.slice (some ad474) l1_3.length c1_3) := (blk_cell BK470.out 3).trans rfl
                    have hc4_ : w'.cell? ⟨gb470, 4, none⟩ = some (.int .i64 a1_4) := (blk_cell BK470.out 4).trans rfl
                    refine value_ (w1 := w') (v := .int .i64 a1_4) (by rfl) rfl ?_ ?_
                    · go_simp
                      (try simp only [i64_w])
                      try rfl
                    refine hK.out _ _ ⟨v480, adz_v480, m24_, (by rw [ha.out]; exact putSel_upk 11 hb_ rfl rfl rfl), Q_BK470, Q_HI0, Q_HK, Q_HB, fun h0_ => absurd ((hoff 21 (by kernel_rfl)).symm.trans h0_) (by decide), fun h0_ => absurd ((hoff 21 (by kernel_rfl)).symm.trans h0_) (by decide), Q_HI0_e23, fun h0_ => absurd ((hoff 24 (by kernel_rfl)).symm.trans h0_) (by decide)⟩
                  refine steps_cons ?_ ?_
                  · rintro b a w' ⟨v480, adz_v480, m24_, ha, Q_BK470, Q_HI0, Q_HK, Q_HB, Q_HO481, Q_HA_HO481, Q_HI0_e23, Q_X24_⟩ hb_ hon hoff
                    refine ⟨_, rfl, fun K hK => ?_⟩
                    have e41 : a.tmps[41]? = some (.int .i64 a1_4) := by rw [ha]; exact putSel_on (e := (18, 41, .int .i64 a1_4)) 11 rfl rfl (hon 18 (by kernel_rfl)) rfl
                    replace ha := Aside0.mk ha
                    have BK470 := Aside0.mk Q_BK470
                    have HK := Aside0.mk Q_HK
                    have HB := Aside0.mk Q_HB
                    refine value_ (w1 := w') (v := .int .i64 (wrap64 (-a1_4))) (by rfl) rfl ?_ ?_
                    · go_simp
                      (try simp only [i64_w])
                      try rfl
                    refine hK.out _ _ ⟨v480, adz_v480, m24_, (by rw [ha.out]; exact putSel_upk 12 hb_ rfl rfl rfl), Q_BK470, Q_HI0, Q_HK, Q_HB, fun h0_ => absurd ((hoff 21 (by kernel_rfl)).symm.trans h0_) (by decide), fun h0_ => absurd ((hoff 21 (by kernel_rfl)).symm.trans h0_) (by decide), Q_HI0_e23, fun h0_ => absurd ((hoff 24 (by kernel_rfl)).symm.trans h0_) (by decide)⟩
                  refine steps_cons ?_ ?_
                  · rintro b a w' ⟨v480, adz_v480, m24_, ha, Q_BK470, Q_HI0, Q_HK, Q_HB, Q_HO481, Q_HA_HO481, Q_HI0_e23, Q_X24_⟩ hb_ hon hoff
                    refine ⟨_, rfl, fun K hK => ?_⟩
                    have e42 : a.tmps[42]? = some (.int .i64 (wrap64 (-a1_4))) := by rw [ha]; exact putSel_on (e := (19, 42, .int .i64 (wrap64 (-a1_4)))) 12 rfl rfl (hon 19 (by kernel_rfl)) rfl
                    replace ha := Aside0.mk ha
                    have BK470 := Aside0.mk Q_BK470
                    have HK := Aside0.mk Q_HK
                    have HB := Aside0.mk Q_HB
                    refine value_ (w1 := w') (v := .int .i64 (wrap64 ((wrap64 (-a1_4)) - 1))) (by rfl) rfl ?_ ?_
                    · go_simp
                      (try simp only [i64_w])
                      try rfl
                    refine hK.out _ _ ⟨v480, adz_v480, m24_, (by rw [ha.out]; exact putSel_upk 13 hb_ rfl rfl rfl), Q_BK470, Q_HI0, Q_HK, Q_HB, fun h0_ => absurd ((hoff 21 (by kernel_rfl)).symm.trans h0_) (by decide), fun h0_ => absurd ((hoff 21 (by kernel_rfl)).symm.trans h0_) (by decide), Q_HI0_e23, fun h0_ => absurd ((hoff 24 (by kernel_rfl)).symm.trans h0_) (by decide)⟩
                  refine steps_cons ?_ ?_
                  · rintro b a w' ⟨v480, adz_v480, m24_, ha, Q_BK470, Q_HI0, Q_HK, Q_HB, Q_HO481, Q_HA_HO481, Q_HI0_e23, Q_X24_⟩ hb_ hon hoff
                    refine ⟨_, rfl, fun K hK => ?_⟩
                    have e33 : a.tmps[33]? = some (.int .i64 a1_4) := by rw [ha]; exact putSel_on (e := (10, 33, .int .i64 a1_4)) 6 rfl rfl (hon 10 (by kernel_rfl)) rfl
                    have e36 : a.tmps[36]? = some (.int .i64 (wrap64 (a1_4 + 1))) := by rw [ha]; exact putSel_on (e := (13, 36, .int .i64 (wrap64 (a1_4 + 1)))) 8 rfl rfl (hon 13 (by kernel_rfl)) rfl
                    have e39 : a.tmps[39]? = some (.int .i64 (wrap64 (-a1_4))) := by rw [ha]; exact putSel_on (e := (16, 39, .int .i64 (wrap64 (-a1_4)))) 10 rfl rfl (hon 16 (by kernel_rfl)) rfl
                    have e43 : a.tmps[43]? = some (.int .i64 (wrap64 ((wrap64 (-a1_4)) - 1))) := by rw [ha]; exact putSel_on (e := (20, 43, .int .i64 (wrap64 ((wrap64 (-a1_4)) - 1)))) 13 rfl rfl (hon 20 (by kernel_rfl)) rfl
                    replace ha := Aside0.mk ha
                    have BK470 := Aside0.mk Q_BK470
                    have HK := Aside0.mk Q_HK
                    have HB := Aside0.mk Q_HB
                    refine Kd.R_lit_step (Kd.int .i64) _ 3 ?hg (N := 44) ?hd (xs := ([0, 1, (-1), a1_4, wrap64 (a1_4 + 1), wrap64 (-a1_4), wrap64 ((wrap64 (-a1_4)) - 1), 40] : List Int)) (inner := [.int .i64 0, .int .i64 1, .int .i64 (-1), .int .i64 a1_4, .int .i64 (wrap64 (a1_4 + 1)), .int .i64 (wrap64 (-a1_4)), .int .i64 (wrap64 ((wrap64 (-a1_4)) - 1)), .int .i64 40]) (ok := fun _ => True) (okp := fun _ => True) ?hr ?hp (fun _ hk => hk) trivial (Below.refl _ _) (Nat.le_refl _) (by simp) ?_; (case hd => rfl); (case hg => rfl); (case hr => first | (go_simp; done) | (go_simp; rfl)); (case hp => exact (Reps.one (show Kd.M (Kd.int .i64) _ _ _ 0 [.int .i64 0] from rfl) (Reps.one (show Kd.M (Kd.int .i64) _ _ _ 1 [.int .i64 1] from rfl) (Reps.one (show Kd.M (Kd.int .i64) _ _ _ (-1) [.int .i64 (-1)] from rfl) (Reps.one (show Kd.M (Kd.int .i64) _ _ _ a1_4 [.int .i64 a1_4] from rfl) (Reps.one (show Kd.M (Kd.int .i64) _ _ _ (wrap64 (a1_4 + 1)) [.int .i64 (wrap64 (a1_4 + 1))] from rfl) (Reps.one (show Kd.M (Kd.int .i64) _ _ _ (wrap64 (-a1_4)) [.int .i64 (wrap64 (-a1_4))] from rfl) (Reps.one (show Kd.M (Kd.int .i64) _ _ _ (wrap64 ((wrap64 (-a1_4)) - 1)) [.int .i64 (wrap64 ((wrap64 (-a1_4)) - 1))] from rfl) (Reps.one (show Kd.M (Kd.int .i64) _ _ _ 40 [.int .i64 40] from rfl) (Reps.none _ _))))))))))
                    intro v480 w30 ho31 hb hg_ hnew_
                    clear hg_ hnew_
                    (first | rw [← Ny479.out] at ho31 | (simp only [Int.reduceToNat] at ho31; rw [← Ny479.out] at ho31))
                    have n0_ := Aside0.mk (Kd.R_lower ho31 (keep_size (w := w) (g := g) (row := none) (by repeat (first | (with_reducible first | exact HK.out | apply KeepBut.set_ | apply keep_drewN | apply keep_drew | apply keep_alloc | refine keep_far ?_ GW470.out _) | exact HK.out))))
                    have n1_ := Aside0.mk (blk_below (g := gb470) (o := .cells #[.int .i64 a1_0, .int .i64 a1_1, .int .i64 a1_2, .slice (some ad474) l1_3.length c1_3, .int .i64 a1_4] 31 (0, 0)) (by (with_reducible repeat (first | refine blk_drewN ?_ _ | refine blk_drew ?_ | refine blk_alloc ?_ _)); exact BK470.out) hb)
                    have n3_ := Aside0.mk (KeepBut.trans (by repeat (first | (with_reducible first | exact HK.out | apply KeepBut.set_ | apply keep_drewN | apply keep_drew | apply keep_alloc | refine keep_far ?_ GW470.out _) | exact HK.out)) (KeepBut.of_below hb g none) (.inl rfl))
                    have n4_ := Aside0.mk (below_step (by repeat (first | (with_reducible first | exact HB.out | apply below_alloc | apply pw_below_drewN | apply below_drew1 | refine below_set ?_ GE470.out) | exact HB.out)) hb)
                    have z_HI0 := fun (h0_ : b 23 = false) => (show IsS69 w0 w30 g s0_0 s0_1 from by first | exact (IsS69.below (by repeat (first | (with_reducible first | exact (Q_HI0 h0_) | apply IsS69.alloc | apply IsS69.drewN | apply IsS69.drew | apply IsS69.set_1 | refine IsS69.far ?_ NB0_470.out _) | exact (Q_HI0 h0_))) hb))
                    have z_HI0_e23 := fun (h0_ : b 23 = true) => (show IsS69 w0 w30 g s0_0 t483 from by first | exact (IsS69.below (by repeat (first | (with_reducible first | exact (Q_HI0_e23 h0_) | apply IsS69.alloc | apply IsS69.drewN | apply IsS69.drew | apply IsS69.set_1 | refine IsS69.far ?_ NB0_470.out _) | exact (Q_HI0_e23 h0_))) hb))
                    clear BK470
                    clear HK
                    clear HB
                    have HO481 := n0_
                    have BK470 := n1_
                    have HK := n3_
                    have HB := n4_
                    clear n0_ n1_ n3_ n4_
                    clear hb ho31
                    obtain ⟨Ao32, co32, eo32⟩ := Kd.R_slice HO481.out
                    subst eo32
                    obtain ⟨ado32, fo32, _⟩ := Kd.at_int (Kd.R_reads' HO481.out).2.2 0 (by decide) (by rw [Ny479.out]; simp)
                    cases fo32
                    refine hK.out _ _ ⟨.slice (some ado32) y479.length co32, ado32, m24_, (by rw [ha.out]; exact putSel_upk 14 hb_ rfl rfl rfl), (by (with_reducible repeat (first | refine blk_drewN ?_ _ | refine blk_drew ?_ | refine blk_alloc ?_ _)); exact BK470.out), z_HI0, (by repeat (first | (with_reducible first | exact HK.out | apply KeepBut.set_ | apply keep_drewN | apply keep_drew | apply keep_alloc | refine keep_far ?_ GW470.out _) | exact HK.out)), (by repeat (first | (with_reducible first | exact HB.out | apply below_alloc | apply pw_below_drewN | apply below_drew1 | refine below_set ?_ GE470.out) | exact HB.out)), fun _ => (by (with_reducible repeat (first | apply Kd.R_alloc | apply Kd.R_drewN | apply Kd.R_drew)); exact HO481.out), fun _ => ⟨_, rfl⟩, z_HI0_e23, fun h0_ => absurd ((hoff 24 (by kernel_rfl)).symm.trans h0_) (by decide)⟩
                  refine steps_cons ?_ ?_
                  · rintro b a w' ⟨v480, adz_v480, m24_, ha, Q_BK470, Q_HI0, Q_HK, Q_HB, Q_HO481, Q_HA_HO481, Q_HI0_e23, Q_X24_⟩ hb_ hon hoff
                    refine ⟨_, rfl, fun K hK => ?_⟩
                    have e45 : a.tmps[45]? = some (.pointer (some ⟨g, 0, none⟩)) := by rw [ha]; exact (putSel_off rfl).trans rfl
                    replace ha := Aside0.mk ha
                    have BK470 := Aside0.mk Q_BK470
                    have HI0 := Aside0.mk (Q_HI0 hb_)
                    have HK := Aside0.mk Q_HK
                    have HB := Aside0.mk Q_HB
                    refine goes_ Try.func48 (by kernel_rfl) rfl #[.pointer (some ⟨g, 0, none⟩), .int .i64 8] (by rfl) rfl rfl (by first | (simp only [List.map_toArray, List.map_cons, List.map_nil, Act.eval, Array.getD_eq_getD_getElem?, Option.getD_some, e45]; done) | (simp only [List.map_toArray, List.map_cons, List.map_nil, Act.eval, Array.getD_eq_getD_getElem?, Option.getD_some, e45]; rfl)) ?_
                    with_reducible refine (spec_l20Rd_pick.calls kj3 g s0_0 s0_1 8 t482 t483 w0 _ ?side1 ?side2 A26.out).mono ?_
                    (case side1 => repeat (first | (with_reducible first | exact HI0.out | apply IsS69.alloc | apply IsS69.drewN | apply IsS69.drew | apply IsS69.set_1 | refine IsS69.far ?_ NB0_470.out _) | exact HI0.out))
                    (case side2 => repeat (first | (with_reducible first | exact HB.out | apply below_alloc | apply pw_below_drewN | apply below_drew1 | refine below_set ?_ (IsS69.ge HI0.out) | refine below_set ?_ GE470.out) | exact HB.out))
                    rintro e w33 ⟨rfl, hi, hb, hk⟩
                    refine ⟨_, rfl, ?_⟩
                    have n0_ := Aside0.mk (KeepBut.blk hk (g' := gb470) (o := .cells #[.int .i64 a1_0, .int .i64 a1_1, .int .i64 a1_2, .slice (some ad474) l1_3.length c1_3, .int .i64 a1_4] 31 (0, 0)) (by (with_reducible repeat (first | refine blk_drewN ?_ _ | refine blk_drew ?_ | refine blk_alloc ?_ _)); exact BK470.out) NB470_0.out (by simp))
                    have n1_ := Aside0.mk (KeepBut.trans (by repeat (first | (with_reducible first | exact HK.out | apply KeepBut.set_ | apply keep_drewN | apply keep_drew | apply keep_alloc | refine keep_far ?_ GW470.out _) | exact HK.out)) hk (.inl rfl))
                    have n2_ := Aside0.mk (hb)
                    have n3_ := Aside0.mk (hi)
                    have z_HO481 := fun (h0_ : b 21 = true) => (show Kd.R (Kd.int .i64) 3 w33 w.heap.size (fun _ => True) v480 y479 from by first | exact (Kd.R_mono (Kd.R_keep (IsS69.apart (show IsS69 w0 _ g s0_0 s0_1 from by repeat (first | (with_reducible first | exact HI0.out | apply IsS69.alloc | apply IsS69.drewN | apply IsS69.drew | apply IsS69.set_1 | refine IsS69.far ?_ NB0_470.out _) | exact HI0.out)) (by (with_reducible repeat (first | apply Kd.R_alloc | apply Kd.R_drewN | apply Kd.R_drew)); exact (Q_HO481 h0_)) (by decide)) hk (fun _ h => h.2)) (fun _ h => h.1)) | exact Kd.R_mono (Kd.R_mono (Kd.R_keep (IsS69.apart (show IsS69 w0 _ g s0_0 s0_1 from by repeat (first | (with_reducible first | exact HI0.out | apply IsS69.alloc | apply IsS69.drewN | apply IsS69.drew | apply IsS69.set_1 | refine IsS69.far ?_ NB0_470.out _) | exact HI0.out)) (by (with_reducible repeat (first | apply Kd.R_alloc | apply Kd.R_drewN | apply Kd.R_drew)); exact (Q_HO481 h0_)) (by decide)) hk (fun _ h => h.2)) (fun _ h => h.1)) (fun _ h_ => by first | trivial | exact h_ | exact h_.1))
                    clear BK470
                    clear HK
                    clear HB
                    clear HI0
                    have BK470 := n0_
                    have HK := n1_
                    have HB := n2_
                    have HI0 := n3_
                    clear n0_ n1_ n2_ n3_
                    (try clear hb)
                    (try clear hb2)
                    (try clear hk)
                    (try clear hi)
                    refine hK.out _ _ ⟨v480, adz_v480, m24_, (by rw [ha.out]; exact putSel_upk 15 hb_ rfl rfl rfl), (by (with_reducible repeat (first | refine blk_drewN ?_ _ | refine blk_drew ?_ | refine blk_alloc ?_ _)); exact BK470.out), fun h0_ => absurd ((up_self b 23).symm.trans h0_) (by decide), (by repeat (first | (with_reducible first | exact HK.out | apply KeepBut.set_ | apply keep_drewN | apply keep_drew | apply keep_alloc | refine keep_far ?_ GW470.out _) | exact HK.out)), (by repeat (first | (with_reducible first | exact HB.out | apply below_alloc | apply pw_below_drewN | apply below_drew1 | refine below_set ?_ (IsS69.ge HI0.out) | refine below_set ?_ GE470.out) | exact HB.out)), z_HO481, Q_HA_HO481, fun _ => (by repeat (first | (with_reducible first | exact HI0.out | apply IsS69.alloc | apply IsS69.drewN | apply IsS69.drew | apply IsS69.set_1 | refine IsS69.far ?_ NB0_470.out _) | exact HI0.out)), fun h0_ => absurd ((hoff 24 (by kernel_rfl)).symm.trans h0_) (by decide)⟩
                  refine steps_cons ?_ ?_
                  · rintro b a w' ⟨v480, adz_v480, m24_, ha, Q_BK470, Q_HI0, Q_HK, Q_HB, Q_HO481, Q_HA_HO481, Q_HI0_e23, Q_X24_⟩ hb_ hon hoff
                    refine ⟨_, rfl, fun K hK => ?_⟩
                    have e44 : a.tmps[44]? = some (v480) := by rw [ha]; exact putSel_on (e := (21, 44, v480)) 14 rfl rfl (hon 21 (by kernel_rfl)) rfl
                    have e46 : a.tmps[46]? = some (.int .i64 t482) := by rw [ha]; exact putSel_on (e := (23, 46, .int .i64 t482)) 15 rfl rfl (hon 23 (by kernel_rfl)) rfl
                    replace ha := Aside0.mk ha
                    have BK470 := Aside0.mk Q_BK470
                    have HK := Aside0.mk Q_HK
                    have HB := Aside0.mk Q_HB
                    have HO481 := Aside0.mk (Q_HO481 (hon 21 (by kernel_rfl)))
                    have HA_HO481 := Aside0.mk (Q_HA_HO481 (hon 21 (by kernel_rfl)))
                    have HI0 := Aside0.mk (Q_HI0_e23 (hon 23 (by kernel_rfl)))
                    obtain ⟨c_, hv_⟩ := HA_HO481.out
                    rw [hv_] at e44
                    refine value_ (w1 := w') (v := .pointer (some (adz_v480.add (t482).toNat))) (by rfl) rfl ?_ ?_
                    · go_simp
                      (try simp only [i64_w])
                      try rfl
                    refine hK.out _ _ ⟨v480, adz_v480, (.pointer (some (adz_v480.add (t482).toNat))), (by rw [ha.out]; exact putSel_upk 16 hb_ rfl rfl rfl), Q_BK470, fun h0_ => absurd ((hon 23 (by kernel_rfl)).symm.trans h0_) (by decide), Q_HK, Q_HB, Q_HO481, Q_HA_HO481, Q_HI0_e23, fun _ => rfl⟩
                  refine steps_cons ?_ ?_
                  · rintro b a w' ⟨v480, adz_v480, m24_, ha, Q_BK470, Q_HI0, Q_HK, Q_HB, Q_HO481, Q_HA_HO481, Q_HI0_e23, Q_X24_⟩ hb_ hon hoff
                    refine ⟨_, rfl, fun K hK => ?_⟩
                    have e47 : a.tmps[47]? = some (m24_) := by rw [ha]; exact putSel_on (e := (24, 47, m24_)) 16 rfl rfl (hon 24 (by kernel_rfl)) rfl
                    rw [Q_X24_ (hon 24 (by kernel_rfl))] at e47
                    replace ha := Aside0.mk ha
                    have BK470 := Aside0.mk Q_BK470
                    have HK := Aside0.mk Q_HK
                    have HB := Aside0.mk Q_HB
                    have HO481 := Aside0.mk (Q_HO481 (hon 21 (by kernel_rfl)))
                    have HA_HO481 := Aside0.mk (Q_HA_HO481 (hon 21 (by kernel_rfl)))
                    have HI0 := Aside0.mk (Q_HI0_e23 (hon 23 (by kernel_rfl)))
                    obtain ⟨c_, hv_⟩ := HA_HO481.out
                    have hF_ := HO481.out
                    rw [hv_] at hF_
                    obtain ⟨ad_, ea_, hx_⟩ := Kd.at_int (Kd.R_reads' hF_).2.2 t482 (of_eq_true pi484) (of_eq_true qi484)
                    cases ea_
                    refine value_ (w1 := w') (v := .int .i64 (rd y479 t482)) (by rfl) rfl ?_ ?_
                    · go_simp
                      (try simp only [i64_w])
                      try rfl
                    refine hK.out _ _ ⟨v480, adz_v480, m24_, (by rw [ha.out]; exact putSel_upk 17 hb_ rfl rfl rfl), Q_BK470, fun h0_ => absurd ((hon 23 (by kernel_rfl)).symm.trans h0_) (by decide), Q_HK, Q_HB, Q_HO481, Q_HA_HO481, Q_HI0_e23, Q_X24_⟩
                  refine steps_cons ?_ ?_
                  · rintro b a w' ⟨v480, adz_v480, m24_, ha, Q_BK470, Q_HI0, Q_HK, Q_HB, Q_HO481, Q_HA_HO481, Q_HI0_e23, Q_X24_⟩ hb_ hon hoff
                    refine ⟨_, rfl, fun K hK => ?_⟩
                    have e31 : a.tmps[31]? = some (.int .i64 t478) := by rw [ha]; exact putSel_on (e := (8, 31, .int .i64 t478)) 5 rfl rfl (hon 8 (by kernel_rfl)) rfl
                    have e48 : a.tmps[48]? = some (.int .i64 (rd y479 t482)) := by rw [ha]; exact putSel_on (e := (25, 48, .int .i64 (rd y479 t482))) 17 rfl rfl (hon 25 (by kernel_rfl)) rfl
                    replace ha := Aside0.mk ha
                    have BK470 := Aside0.mk Q_BK470
                    have HK := Aside0.mk Q_HK
                    have HB := Aside0.mk Q_HB
                    have HO481 := Aside0.mk (Q_HO481 (hon 21 (by kernel_rfl)))
                    have HA_HO481 := Aside0.mk (Q_HA_HO481 (hon 21 (by kernel_rfl)))
                    have HI0 := Aside0.mk (Q_HI0_e23 (hon 23 (by kernel_rfl)))
                    refine value_ (w1 := w') (v := .int .i64 (wrap64 (t478 + (rd y479 t482)))) (by rfl) rfl ?_ ?_
                    · go_simp
                      (try simp only [i64_w])
                      try rfl
                    refine hK.out _ _ ⟨v480, adz_v480, m24_, (by rw [ha.out]; exact putSel_upk 18 hb_ rfl rfl rfl), Q_BK470, fun h0_ => absurd ((hon 23 (by kernel_rfl)).symm.trans h0_) (by decide), Q_HK, Q_HB, Q_HO481, Q_HA_HO481, Q_HI0_e23, Q_X24_⟩
                  refine steps_cons ?_ ?_
                  · rintro b a w' ⟨v480, adz_v480, m24_, ha, Q_BK470, Q_HI0, Q_HK, Q_HB, Q_HO481, Q_HA_HO481, Q_HI0_e23, Q_X24_⟩ hb_ hon hoff
                    refine ⟨_, rfl, fun K hK => ?_⟩
                    have e49 : a.tmps[49]? = some (.int .i64 (wrap64 (t478 + (rd y479 t482)))) := by rw [ha]; exact putSel_on (e := (26, 49, .int .i64 (wrap64 (t478 + (rd y479 t482))))) 18 rfl rfl (hon 26 (by kernel_rfl)) rfl
                    replace ha := Aside0.mk ha
                    have BK470 := Aside0.mk Q_BK470
                    have HK := Aside0.mk Q_HK
                    have HB := Aside0.mk Q_HB
                    have HO481 := Aside0.mk (Q_HO481 (hon 21 (by kernel_rfl)))
                    have HA_HO481 := Aside0.mk (Q_HA_HO481 (hon 21 (by kernel_rfl)))
                    have HI0 := Aside0.mk (Q_HI0_e23 (hon 23 (by kernel_rfl)))
                    refine value_ (w1 := w') (v := .int .i64 (wrap64 (t478 + (rd y479 t482)))) (by rfl) rfl ?_ ?_
                    · go_simp
                      (try simp only [i64_w])
                      try rfl
                    refine hK.out _ _ ⟨v480, adz_v480, m24_, (by rw [ha.out]; exact putSel_upk 19 hb_ rfl rfl rfl), Q_BK470, fun h0_ => absurd ((hon 23 (by kernel_rfl)).symm.trans h0_) (by decide), Q_HK, Q_HB, Q_HO481, Q_HA_HO481, Q_HI0_e23, Q_X24_⟩
                  exact steps_nil
                rintro b a w36 hall ⟨v480, adz_v480, m24_, ha, Q_BK470, Q_HI0, Q_HK, Q_HB, Q_HO481, Q_HA_HO481, Q_HI0_e23, Q_X24_⟩
                clear BK470 HB HI0 HK
                have hb1_ := hall 1 (by kernel_rfl)
                have hb3_ := hall 3 (by kernel_rfl)
                have hb5_ := hall 5 (by kernel_rfl)
                have hb6_ := hall 6 (by kernel_rfl)
                have hb7_ := hall 7 (by kernel_rfl)
                have hb8_ := hall 8 (by kernel_rfl)
                have hb10_ := hall 10 (by kernel_rfl)
                have hb12_ := hall 12 (by kernel_rfl)
                have hb13_ := hall 13 (by kernel_rfl)
                have hb15_ := hall 15 (by kernel_rfl)
                have hb16_ := hall 16 (by kernel_rfl)
                have hb18_ := hall 18 (by kernel_rfl)
                have hb19_ := hall 19 (by kernel_rfl)
                have hb20_ := hall 20 (by kernel_rfl)
                have hb21_ := hall 21 (by kernel_rfl)
                have hb23_ := hall 23 (by kernel_rfl)
                have hb24_ := hall 24 (by kernel_rfl)
                have hb25_ := hall 25 (by kernel_rfl)
                have hb26_ := hall 26 (by kernel_rfl)
                have hb27_ := hall 27 (by kernel_rfl)
                subst ha
                obtain rfl := Q_X24_ hb24_
                simp only [putSel, hb1_, hb3_, hb5_, hb6_, hb7_, hb8_, hb10_, hb12_, hb13_, hb15_, hb16_, hb18_, hb19_, hb20_, hb21_, hb23_, hb24_, hb25_, hb26_, hb27_, if_true, Act.put, List.setIfInBounds_toArray, List.set_cons_zero, List.set_cons_succ]
                have BK470 := Aside0.mk Q_BK470
                clear Q_BK470
                clear Q_HI0
                have HK := Aside0.mk Q_HK
                clear Q_HK
                have HB := Aside0.mk Q_HB
                clear Q_HB
                have HO481 := Aside0.mk (Q_HO481 hb21_)
                clear Q_HO481
                have HA_HO481 := Aside0.mk (Q_HA_HO481 hb21_)
                clear Q_HA_HO481
                have HI0 := Aside0.mk (Q_HI0_e23 hb23_)
                clear Q_HI0_e23
                clear hall hb1_ hb3_ hb5_ hb6_ hb7_ hb8_ hb10_ hb12_ hb13_ hb15_ hb16_ hb18_ hb19_ hb20_ hb21_ hb23_ hb24_ hb25_ hb26_ hb27_
                obtain ⟨co37, eo37⟩ := HA_HO481.out
                clear HA_HO481
                subst eo37
                try go_wp2
                go_ret
                exact ⟨by first | rfl | (simp [errW_none, errW_some] <;> rfl) | (simp [*, errW_none, errW_some] <;> rfl), by repeat (first | (with_reducible first | exact HI0.out | apply IsS69.alloc | apply IsS69.drewN | apply IsS69.drew | apply IsS69.set_1 | refine IsS69.far ?_ NB0_470.out _) | exact HI0.out), by repeat (first | (with_reducible first | exact HB.out | apply below_alloc | apply pw_below_drewN | apply below_drew1 | refine below_set ?_ (IsS69.ge HI0.out) | refine below_set ?_ GE470.out) | exact HB.out), by repeat (first | (with_reducible first | exact HK.out | apply KeepBut.set_ | apply keep_drewN | apply keep_drew | apply keep_alloc | refine keep_far ?_ GW470.out _) | exact HK.out)⟩
              · rw [if_neg c28] at H
                exact absurd H (by simp)
            · rw [if_neg c27] at H
              exact absurd H (by simp)
          · rw [if_neg c23] at H
            exact absurd H (by simp)
        · rw [if_neg c22] at H
          exact absurd H (by simp)

end Go.Proofs.Ytojgpnobbnihdaa.All
