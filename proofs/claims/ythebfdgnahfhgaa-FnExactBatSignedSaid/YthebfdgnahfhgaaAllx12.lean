-- Written by the session's own program wip/allprint.py, which drives the kit's print; Lean checks it.
import Derived.Test.YthebfdgnahfhgaaAllx0
import Derived.Test.YthebfdgnahfhgaaAllx5
namespace Go.Proofs.Ythebfdgnahfhgaa.All
open Go.RowKit Go.Proofs.YthebfdgnahfhgaaW.PrintWords Go.Proofs.YthebfdgnahfhgaaW.PrintLast Go.Proofs.YthebfdgnahfhgaaW.PrintMore
attribute [local go_sem] max2_int min2_int max_two min_two max_three min_three max_four min_four   -- for this text's walks alone
set_option linter.unusedVariables false
set_option linter.unusedSimpArgs false

/-! ### impl_BatSigned: function 20 -/
mutual
def impl_BatSigned.l0 : Nat → Int → Int → Int → List (S41) → Int → Int → Option (Int)
  | 0, _, _, _, _, _, _ => none
  | k + 1, x1, x2, x7, x13, x14, x15 => if x15 < x14 then (if 0 ≤ x15 then (if x15 < (x13.length : Int) then (if ((rd_T41 x13 x15).f1) = x1 then (if ((rd_T41 x13 x15).f2) = x7 then (impl_BatSigned.j1 k x1 x2 x7 x13 x14 x15 (((rd_T41 x13 x15).f0) != x2) ((rd_T41 x13 x15).f0) ((rd_T41 x13 x15).f1) ((rd_T41 x13 x15).f2)) else (impl_BatSigned.j1 k x1 x2 x7 x13 x14 x15 false ((rd_T41 x13 x15).f0) ((rd_T41 x13 x15).f1) ((rd_T41 x13 x15).f2))) else (impl_BatSigned.j1 k x1 x2 x7 x13 x14 x15 false ((rd_T41 x13 x15).f0) ((rd_T41 x13 x15).f1) ((rd_T41 x13 x15).f2))) else (none)) else (none)) else (some 0)
def impl_BatSigned.j1 : Nat → Int → Int → Int → List (S41) → Int → Int → Bool → Int → Int → Int → Option (Int)
  | 0, _, _, _, _, _, _, _, _, _, _ => none
  | k + 1, x1, x2, x7, x13, x14, x15, x34, x1304000, x1304001, x1304002 => if x34 = true then (some x1304000) else (impl_BatSigned.l0 k x1 x2 x7 x13 x14 (wrap64 (x15 + 1)))
end
def impl_BatSigned.f (k : Nat) (a0_0 : Int) (a0_1 : Int) (l0_2 : List (S86)) (a0_3 : Int) (l0_4 : List (S41)) (l0_5 : List Bool) (a1 : Int) (a2 : Int) : Option (Int) := (impl_BatMark.f k a0_0 a0_1 l0_2 a0_3 l0_4 l0_5).bind fun t1301 => (impl_BatSigned.l0 k a1 a2 t1301 l0_4 (l0_4.length : Int) 0)
theorem impl_BatSigned.mono_l : ∀ k, (∀ y0 y1 y2 y3 y4 y5, LeO (impl_BatSigned.l0 k y0 y1 y2 y3 y4 y5) (impl_BatSigned.l0 (k + 1) y0 y1 y2 y3 y4 y5)) ∧ (∀ y0 y1 y2 y3 y4 y5 y6 y7 y8 y9, LeO (impl_BatSigned.j1 k y0 y1 y2 y3 y4 y5 y6 y7 y8 y9) (impl_BatSigned.j1 (k + 1) y0 y1 y2 y3 y4 y5 y6 y7 y8 y9))
  | 0 => ⟨fun _ _ _ _ _ _ r h => by simp [impl_BatSigned.l0] at h, fun _ _ _ _ _ _ _ _ _ _ r h => by simp [impl_BatSigned.j1] at h⟩
  | k + 1 => by
    obtain ⟨ih0, ih1⟩ := impl_BatSigned.mono_l k
    refine ⟨?_, ?_⟩
    · intro y0 y1 y2 y3 y4 y5
      unfold impl_BatSigned.l0
      repeat' first
      | (with_reducible exact ih0 _ _ _ _ _ _)
      | (with_reducible exact ih1 _ _ _ _ _ _ _ _ _ _)
      | (with_reducible exact impl_BatMark.mono _ _ _ _ _ _ _)
      | (with_reducible exact LeO.refl _)
      | (with_reducible exact LeO.none _)
      | (with_reducible refine LeO.ite ?_ ?_)
      | (with_reducible refine LeO.bind ?_ (fun _ => ?_))
      | exact ih0 _ _ _ _ _ _
      | exact ih1 _ _ _ _ _ _ _ _ _ _
      | exact impl_BatMark.mono _ _ _ _ _ _ _
      | exact LeO.none _
      | refine LeO.ite ?_ ?_
      | refine LeO.bind ?_ (fun _ => ?_)
    · intro y0 y1 y2 y3 y4 y5 y6 y7 y8 y9
      unfold impl_BatSigned.j1
      repeat' first
      | (with_reducible exact ih0 _ _ _ _ _ _)
      | (with_reducible exact ih1 _ _ _ _ _ _ _ _ _ _)
      | (with_reducible exact impl_BatMark.mono _ _ _ _ _ _ _)
      | (with_reducible exact LeO.refl _)
      | (with_reducible exact LeO.none _)
      | (with_reducible refine LeO.ite ?_ ?_)
      | (with_reducible refine LeO.bind ?_ (fun _ => ?_))
      | exact ih0 _ _ _ _ _ _
      | exact ih1 _ _ _ _ _ _ _ _ _ _
      | exact impl_BatMark.mono _ _ _ _ _ _ _
      | exact LeO.none _
      | refine LeO.ite ?_ ?_
      | refine LeO.bind ?_ (fun _ => ?_)
theorem impl_BatSigned.mono : ∀ a0 a1 a2 a3 a4 a5 a6 a7 k, LeO (impl_BatSigned.f k a0 a1 a2 a3 a4 a5 a6 a7) (impl_BatSigned.f (k + 1) a0 a1 a2 a3 a4 a5 a6 a7) := by
  intro a0 a1 a2 a3 a4 a5 a6 a7 k
  obtain ⟨ih0, ih1⟩ := impl_BatSigned.mono_l k
  unfold impl_BatSigned.f
  repeat' first
      | (with_reducible exact ih0 _ _ _ _ _ _)
      | (with_reducible exact ih1 _ _ _ _ _ _ _ _ _ _)
      | (with_reducible exact impl_BatMark.mono _ _ _ _ _ _ _)
      | (with_reducible exact LeO.refl _)
      | (with_reducible exact LeO.none _)
      | (with_reducible refine LeO.ite ?_ ?_)
      | (with_reducible refine LeO.bind ?_ (fun _ => ?_))
      | exact ih0 _ _ _ _ _ _
      | exact ih1 _ _ _ _ _ _ _ _ _ _
      | exact impl_BatMark.mono _ _ _ _ _ _ _
      | exact LeO.none _
      | refine LeO.ite ?_ ?_
      | refine LeO.bind ?_ (fun _ => ?_)
set_option maxHeartbeats 8000000 in
set_option maxRecDepth 100000 in
theorem impl_BatSigned.calls (k : Nat) (a0_0 : Int) (a0_1 : Int) (A0_2 : Option Addr) (c0_2 : Nat) (l0_2 : List (S86)) (a0_3 : Int) (A0_4 : Option Addr) (c0_4 : Nat) (l0_4 : List (S41)) (A0_5 : Option Addr) (c0_5 : Nat) (l0_5 : List Bool) (a1 : Int) (a2 : Int) (r : Int) (w : World) (hr0_2 : Kd.C k86 w A0_2 l0_2.length l0_2) (hc0_2 : l0_2.length ≤ c0_2) (hr0_4 : Kd.C k41 w A0_4 l0_4.length l0_4) (hc0_4 : l0_4.length ≤ c0_4) (hr0_5 : Kd.C Kd.bool w A0_5 l0_5.length l0_5) (hc0_5 : l0_5.length ≤ c0_5) (h : impl_BatSigned.f k a0_0 a0_1 l0_2 a0_3 l0_4 l0_5 a1 a2 = some r) :
    Calls Try.prog 20 #[.agg #[.int .i64 a0_0, .int .i64 a0_1, .slice A0_2 l0_2.length c0_2, .int .i64 a0_3, .slice A0_4 l0_4.length c0_4, .slice A0_5 l0_5.length c0_5], .int .i64 a1, .int .i64 a2] w fun e w' => e = .returned (.int .i64 r) ∧ Below w.heap.size w w' := by
  have hu27 := Try.underlying27
  have hu41 := Try.underlying41
  have HR0_2 := Aside0.mk hr0_2
  have HC0_2 := Aside0.mk hc0_2
  clear hr0_2 hc0_2
  have HR0_4 := Aside0.mk hr0_4
  have HC0_4 := Aside0.mk hc0_4
  clear hr0_4 hc0_4
  have HR0_5 := Aside0.mk hr0_5
  have HC0_5 := Aside0.mk hc0_5
  clear hr0_5 hc0_5
  have HB := Aside0.mk (Below.refl w.heap.size w)
  have H : ((impl_BatMark.f k a0_0 a0_1 l0_2 a0_3 l0_4 l0_5).bind fun t1301 => (impl_BatSigned.l0 k a1 a2 t1301 l0_4 (l0_4.length : Int) 0)) = some r := h
  clear h
  replace H := Option.bind_eq_some_iff.mp H
  obtain ⟨t1301, A40, H⟩ := H
  replace H : (impl_BatSigned.l0 k a1 a2 t1301 l0_4 (l0_4.length : Int) 0) = some r := H
  have A4 := Aside0.mk A40
  clear A40
  have H' := Aside0.mk H
  clear H
  go_enter Try.func20, Try.ntmps20
  go_wp2_with (first | ((with_reducible refine gate_dst (N := 3) rfl ?_); refine box_event ?hg (N := 3) ?hd (cs := #[.int .i64 a0_0, .int .i64 a0_1, .slice A0_2 l0_2.length c0_2, .int .i64 a0_3, .slice A0_4 l0_4.length c0_4, .slice A0_5 l0_5.length c0_5]) (t := 27) ?hr ?_; (case hd => rfl); (case hg => rfl); (case hr => first | (go_simp; done) | (go_simp; rfl)); intro gb1300 hg w5 hbox hb; have n0_ := Aside0.mk (below_step (by repeat (first | (with_reducible first | exact HB.out | apply below_alloc | apply pw_below_drewN | apply below_drew1) | exact HB.out)) hb); have n1_ := Aside0.mk (hbox); have n2_ := Aside0.mk ((by rw [hg]; exact (below_size (by repeat (first | (with_reducible first | exact HB.out | apply below_alloc | apply pw_below_drewN | apply below_drew1) | exact HB.out))) : w.heap.size ≤ gb1300)); have n3_ := Aside0.mk ((by rw [hg]; exact (below_size (by repeat (first | (with_reducible first | exact HB.out | apply below_alloc | apply pw_below_drewN | apply below_drew1) | exact HB.out))) : w.heap.size ≤ gb1300)); clear HB; have HB := n0_; have BK1300 := n1_; have GW1300 := n2_; have GE1300 := n3_; clear n0_ n1_ n2_ n3_; clear hb hbox hg; have hcz6_0 : w5.cell? ⟨gb1300, 0, none⟩ = some (.int .i64 a0_0) := (blk_cell BK1300.out 0).trans rfl; have hcz6_1 : w5.cell? ⟨gb1300, 1, none⟩ = some (.int .i64 a0_1) := (blk_cell BK1300.out 1).trans rfl; have hcz6_2 : w5.cell? ⟨gb1300, 2, none⟩ = some (.slice A0_2 l0_2.length c0_2) := (blk_cell BK1300.out 2).trans rfl; have hcz6_3 : w5.cell? ⟨gb1300, 3, none⟩ = some (.int .i64 a0_3) := (blk_cell BK1300.out 3).trans rfl; have hcz6_4 : w5.cell? ⟨gb1300, 4, none⟩ = some (.slice A0_4 l0_4.length c0_4) := (blk_cell BK1300.out 4).trans rfl; have hcz6_5 : w5.cell? ⟨gb1300, 5, none⟩ = some (.slice A0_5 l0_5.length c0_5) := (blk_cell BK1300.out 5).trans rfl; have hfz6_0 := blk_frozen BK1300.out 0; have hfz6_1 := blk_frozen BK1300.out 1; have hfz6_2 := blk_frozen BK1300.out 2; have hfz6_3 := blk_frozen BK1300.out 3; have hfz6_4 := blk_frozen BK1300.out 4; have hfz6_5 := blk_frozen BK1300.out 5) | ((with_reducible refine gate_callee (f := 12) rfl ?_); refine goesL_ (some 11) rfl rfl Try.func12 (by kernel_rfl) rfl #[.agg #[.int .i64 a0_0, .int .i64 a0_1, .slice A0_2 l0_2.length c0_2, .int .i64 a0_3, .slice A0_4 l0_4.length c0_4, .slice A0_5 l0_5.length c0_5]] rfl (by (try simp only [List.map_toArray, List.map_cons, List.map_nil]); first | done | rfl | (simp only [List.length_drop, List.length_take]; rfl)) ?_; (with_reducible refine (impl_BatMark.calls k a0_0 a0_1 _ _ l0_2 a0_3 _ _ l0_4 _ _ l0_5 t1301 _ ?side1 ?side2 ?side3 ?side4 ?side5 ?side6 A4.out).mono ?_); (case side1 => repeat (first | exact (Kd.C_below HR0_2.out HB.out) | (with_reducible refine Kd.C_alloc ?_ _) | (with_reducible refine Kd.C_drewN ?_ _) | (with_reducible refine Kd.C_drew ?_))); (case side2 => exact HC0_2.out); (case side3 => repeat (first | exact (Kd.C_below HR0_4.out HB.out) | (with_reducible refine Kd.C_alloc ?_ _) | (with_reducible refine Kd.C_drewN ?_ _) | (with_reducible refine Kd.C_drew ?_))); (case side4 => exact HC0_4.out); (case side5 => repeat (first | exact (Kd.C_below HR0_5.out HB.out) | (with_reducible refine Kd.C_alloc ?_ _) | (with_reducible refine Kd.C_drewN ?_ _) | (with_reducible refine Kd.C_drew ?_))); (case side6 => exact HC0_5.out); rintro e w7 ⟨rfl, hb⟩; refine ⟨_, rfl, ?_⟩; have n0_ := Aside0.mk (blk_below (g := gb1300) (o := .cells #[.int .i64 a0_0, .int .i64 a0_1, .slice A0_2 l0_2.length c0_2, .int .i64 a0_3, .slice A0_4 l0_4.length c0_4, .slice A0_5 l0_5.length c0_5] 27 (0, 0)) (by (with_reducible repeat (first | refine blk_drewN ?_ _ | refine blk_drew ?_ | refine blk_alloc ?_ _)); exact BK1300.out) hb); have n1_ := Aside0.mk (below_step (by repeat (first | (with_reducible first | exact HB.out | apply below_alloc | apply pw_below_drewN | apply below_drew1 | refine below_set ?_ GE1300.out) | exact HB.out)) hb); clear BK1300; clear HB; have BK1300 := n0_; have HB := n1_; clear n0_ n1_; (try clear hb); (try clear hb2); (try clear hk); (try clear hi); have hcz8_0 : w7.cell? ⟨gb1300, 0, none⟩ = some (.int .i64 a0_0) := (blk_cell BK1300.out 0).trans rfl; have hcz8_1 : w7.cell? ⟨gb1300, 1, none⟩ = some (.int .i64 a0_1) := (blk_cell BK1300.out 1).trans rfl; have hcz8_2 : w7.cell? ⟨gb1300, 2, none⟩ = some (.slice A0_2 l0_2.length c0_2) := (blk_cell BK1300.out 2).trans rfl; have hcz8_3 : w7.cell? ⟨gb1300, 3, none⟩ = some (.int .i64 a0_3) := (blk_cell BK1300.out 3).trans rfl; have hcz8_4 : w7.cell? ⟨gb1300, 4, none⟩ = some (.slice A0_4 l0_4.length c0_4) := (blk_cell BK1300.out 4).trans rfl; have hcz8_5 : w7.cell? ⟨gb1300, 5, none⟩ = some (.slice A0_5 l0_5.length c0_5) := (blk_cell BK1300.out 5).trans rfl; have hfz8_0 := blk_frozen BK1300.out 0; have hfz8_1 := blk_frozen BK1300.out 1; have hfz8_2 := blk_frozen BK1300.out 2; have hfz8_3 := blk_frozen BK1300.out 3; have hfz8_4 := blk_frozen BK1300.out 4; have hfz8_5 := blk_frozen BK1300.out 5))
  go_loopg [15] k (fun kq v15 w' => ∃ (x15_1 : Int), v15 = .int .i64 x15_1 ∧ Aside0 (impl_BatSigned.l0 kq a1 a2 t1301 l0_4 (l0_4.length : Int) x15_1 = some r) ∧ Aside0 (kq ≤ k) ∧ Aside0 (w'.heap[gb1300]? = some (.cells #[.int .i64 a0_0, .int .i64 a0_1, (.slice A0_2 l0_2.length c0_2), .int .i64 a0_3, (.slice A0_4 l0_4.length c0_4), (.slice A0_5 l0_5.length c0_5)] 27 (0, 0))) ∧ Aside0 (Below w.heap.size w w'))
  case atStart => exact ⟨(0), (by first | rfl | (simp; done) | (simp [*]; done)), H', ⟨Nat.le_refl _⟩, ⟨by (with_reducible repeat (first | refine blk_drewN ?_ _ | refine blk_drew ?_ | refine blk_alloc ?_ _)); exact BK1300.out⟩, ⟨by repeat (first | (with_reducible first | exact HB.out | apply below_alloc | apply pw_below_drewN | apply below_drew1 | refine below_set ?_ GE1300.out) | exact HB.out)⟩⟩
  case round =>
    clear H'
    try clear c1
    try clear c2
    try clear p2
    try clear hcz6_0
    try clear hcz6_1
    try clear hcz6_2
    try clear hcz6_3
    try clear hcz6_4
    try clear hcz6_5
    try clear hcz8_0
    try clear hcz8_1
    try clear hcz8_2
    try clear hcz8_3
    try clear hcz8_4
    try clear hcz8_5
    try clear hfz6_0
    try clear hfz6_1
    try clear hfz6_2
    try clear hfz6_3
    try clear hfz6_4
    try clear hfz6_5
    try clear hfz8_0
    try clear hfz8_1
    try clear hfz8_2
    try clear hfz8_3
    try clear hfz8_4
    try clear hfz8_5
    obtain ⟨x15_1, rfl, HA, HK1, BK1300, HB⟩ := hrel
    cases gk with
    | zero => exact absurd HA.out (by simp [impl_BatSigned.l0])
    | succ k1 =>
      have H := HA.out
      clear HA
      simp only [impl_BatSigned.l0] at H
      by_cases c9 : x15_1 < (l0_4.length : Int)
      · rw [if_pos c9] at H
        have c9b0 : decide (x15_1 < (l0_4.length : Int)) = true := decide_eq_true c9
        clear c9
        by_cases c10 : 0 ≤ x15_1
        · rw [if_pos c10] at H
          have c10b0 : decide (0 ≤ x15_1) = true := decide_eq_true c10
          clear c10
          by_cases c11 : x15_1 < (l0_4.length : Int)
          · rw [if_pos c11] at H
            have c11b0 : decide (x15_1 < (l0_4.length : Int)) = true := decide_eq_true c11
            clear c11
            have HC12 := Aside0.mk H
            clear H
            have p1302 : 0 ≤ (x15_1 : Int) := of_decide_eq_true (by first | (with_reducible assumption) | assumption)
            have q1302 : x15_1 < (l0_4.length : Int) := of_decide_eq_true (by first | (with_reducible assumption) | assumption)
            obtain ⟨ad1302, e1302, hx1302_0, hx1302_1, hx1302_2⟩ := at_T41 HR0_4.out x15_1 p1302 q1302
            cases e1302
            replace hx1302_0 := (HB.out.cell (World.block_lt_of_cell? w _ hx1302_0)).trans hx1302_0
            replace hx1302_1 := (HB.out.cell (World.block_lt_of_cell? w _ hx1302_1)).trans hx1302_1
            replace hx1302_2 := (HB.out.cell (World.block_lt_of_cell? w _ hx1302_2)).trans hx1302_2
            replace p1302 := eq_true p1302
            replace q1302 := eq_true q1302
            go_upto_region 5 with (first | ((with_reducible refine gate_dst (N := 9) rfl ?_); refine box_event ?hg (N := 9) ?hd (cs := #[.int .i64 0, .int .i64 0, .int .i64 0]) (t := 41) ?hr ?_; (case hd => rfl); (case hg => rfl); (case hr => first | (go_simp; done) | (go_simp; rfl)); intro gb1303 hg w13 hbox hb; have n0_ := Aside0.mk (blk_below (g := gb1300) (o := .cells #[.int .i64 a0_0, .int .i64 a0_1, .slice A0_2 l0_2.length c0_2, .int .i64 a0_3, .slice (some ad1302) l0_4.length c0_4, .slice A0_5 l0_5.length c0_5] 27 (0, 0)) (by (with_reducible repeat (first | refine blk_drewN ?_ _ | refine blk_drew ?_ | refine blk_alloc ?_ _)); exact BK1300.out) hb); have n1_ := Aside0.mk (below_step (by repeat (first | (with_reducible first | exact HB.out | apply below_alloc | apply pw_below_drewN | apply below_drew1 | refine below_set ?_ GE1300.out) | exact HB.out)) hb); have n2_ := Aside0.mk (hbox); have n3_ := Aside0.mk ((by rw [hg]; exact (below_size (by repeat (first | (with_reducible first | exact HB.out | apply below_alloc | apply pw_below_drewN | apply below_drew1 | refine below_set ?_ GE1300.out) | exact HB.out))) : w.heap.size ≤ gb1303)); have n4_ := Aside0.mk ((by rw [hg]; exact (below_size (by repeat (first | (with_reducible first | exact HB.out | apply below_alloc | apply pw_below_drewN | apply below_drew1 | refine below_set ?_ GE1300.out) | exact HB.out))) : w.heap.size ≤ gb1303)); have n5_ := Aside0.mk ((by rw [hg]; exact Nat.ne_of_lt (blk_lt (g := gb1300) (o := .cells #[.int .i64 a0_0, .int .i64 a0_1, .slice A0_2 l0_2.length c0_2, .int .i64 a0_3, .slice (some ad1302) l0_4.length c0_4, .slice A0_5 l0_5.length c0_5] 27 (0, 0)) (by (with_reducible repeat (first | refine blk_drewN ?_ _ | refine blk_drew ?_ | refine blk_alloc ?_ _)); exact BK1300.out)) : gb1300 ≠ gb1303)); have n6_ := Aside0.mk ((by rw [hg]; exact Nat.ne_of_gt (blk_lt (g := gb1300) (o := .cells #[.int .i64 a0_0, .int .i64 a0_1, .slice A0_2 l0_2.length c0_2, .int .i64 a0_3, .slice (some ad1302) l0_4.length c0_4, .slice A0_5 l0_5.length c0_5] 27 (0, 0)) (by (with_reducible repeat (first | refine blk_drewN ?_ _ | refine blk_drew ?_ | refine blk_alloc ?_ _)); exact BK1300.out)) : gb1303 ≠ gb1300)); clear BK1300; clear HB; have BK1300 := n0_; have HB := n1_; have BK1303 := n2_; have GW1303 := n3_; have GE1303 := n4_; have NB1300_1303 := n5_; have NB1303_1300 := n6_; clear n0_ n1_ n2_ n3_ n4_ n5_ n6_; clear hb hbox hg; have hnb14 := NB1303_1300.out; have hnc14 := NB1300_1303.out; have hcz15_0 : w13.cell? ⟨gb1303, 0, none⟩ = some (.int .i64 0) := (blk_cell BK1303.out 0).trans rfl; have hcz15_1 : w13.cell? ⟨gb1303, 1, none⟩ = some (.int .i64 0) := (blk_cell BK1303.out 1).trans rfl; have hcz15_2 : w13.cell? ⟨gb1303, 2, none⟩ = some (.int .i64 0) := (blk_cell BK1303.out 2).trans rfl; have hfz15_0 := blk_frozen BK1303.out 0; have hfz15_1 := blk_frozen BK1303.out 1; have hfz15_2 := blk_frozen BK1303.out 2))
            (try simp only [Act.put, List.setIfInBounds_toArray, List.set_cons_zero, List.set_cons_succ])
            go_cut [34] (fun v34 wc => ∃ (kq : Nat) (x34_11 : Bool), v34 = .bool x34_11 ∧ Aside0 (impl_BatSigned.j1 kq a1 a2 t1301 l0_4 (l0_4.length : Int) x15_1 x34_11 ((rd_T41 l0_4 x15_1).f0) ((rd_T41 l0_4 x15_1).f1) ((rd_T41 l0_4 x15_1).f2) = some r) ∧ Aside0 (kq ≤ k1) ∧ Aside0 (wc.heap[gb1300]? = some (.cells #[.int .i64 a0_0, .int .i64 a0_1, (.slice A0_2 l0_2.length c0_2), .int .i64 a0_3, (.slice (some ad1302) l0_4.length c0_4), (.slice A0_5 l0_5.length c0_5)] 27 (0, 0))) ∧ Aside0 (wc.heap[gb1303]? = some (.cells #[.int .i64 ((rd_T41 l0_4 x15_1).f0), .int .i64 ((rd_T41 l0_4 x15_1).f1), .int .i64 ((rd_T41 l0_4 x15_1).f2)] 41 (0, 0))) ∧ Aside0 (Below w.heap.size w wc))
            case first =>
              have H := HC12.out
              clear HC12
              by_cases c16 : ((rd_T41 l0_4 x15_1).f1) = a1
              · rw [if_pos c16] at H
                have c16b0 : (((rd_T41 l0_4 x15_1).f1) == a1) = true := beq_iff_eq.mpr c16
                have c16b1 : (((rd_T41 l0_4 x15_1).f1) != a1) = false := bne_eq_false_iff_eq.mpr c16
                clear c16
                (first | rw [c16b0] | (simp only [i64_w, i32_w]; rw [c16b0]) | skip)
                by_cases c17 : ((rd_T41 l0_4 x15_1).f2) = t1301
                · rw [if_pos c17] at H
                  have c17b0 : (((rd_T41 l0_4 x15_1).f2) == t1301) = true := beq_iff_eq.mpr c17
                  have c17b1 : (((rd_T41 l0_4 x15_1).f2) != t1301) = false := bne_eq_false_iff_eq.mpr c17
                  clear c17
                  have H' := Aside0.mk H
                  clear H
                  have hnb18 := NB1303_1300.out
                  have hnc18 := NB1300_1303.out
                  have hcz19_0 : w13.cell? ⟨gb1303, 0, none⟩ = some (.int .i64 0) := (blk_cell BK1303.out 0).trans rfl
                  have hcz19_1 : w13.cell? ⟨gb1303, 1, none⟩ = some (.int .i64 0) := (blk_cell BK1303.out 1).trans rfl
                  have hcz19_2 : w13.cell? ⟨gb1303, 2, none⟩ = some (.int .i64 0) := (blk_cell BK1303.out 2).trans rfl
                  have hfz19_0 := blk_frozen BK1303.out 0
                  have hfz19_1 := blk_frozen BK1303.out 1
                  have hfz19_2 := blk_frozen BK1303.out 2
                  go_wp2
                  go_meet
                  case rel => exact ⟨_, ((((rd_T41 l0_4 x15_1).f0) != a2)), (by first | rfl | (simp; done) | (simp [*]; done)), H', ⟨by have := HK1.out; first | omega | exact Nat.le_refl _⟩, ⟨by (with_reducible repeat (first | refine blk_drewN ?_ _ | refine blk_drew ?_ | refine blk_alloc ?_ _)); refine blk_far ?_ NB1300_1303.out _; (with_reducible repeat (first | refine blk_drewN ?_ _ | refine blk_drew ?_ | refine blk_alloc ?_ _)); refine blk_far ?_ NB1300_1303.out _; (with_reducible repeat (first | refine blk_drewN ?_ _ | refine blk_drew ?_ | refine blk_alloc ?_ _)); refine blk_far ?_ NB1300_1303.out _; (with_reducible repeat (first | refine blk_drewN ?_ _ | refine blk_drew ?_ | refine blk_alloc ?_ _)); exact BK1300.out⟩, ⟨by (with_reducible repeat (first | refine blk_drewN ?_ _ | refine blk_drew ?_ | refine blk_alloc ?_ _)); refine blk_put (cs := #[.int .i64 ((rd_T41 l0_4 x15_1).f0), .int .i64 ((rd_T41 l0_4 x15_1).f1), .int .i64 0]) ?_ 2 _ rfl; (with_reducible repeat (first | refine blk_drewN ?_ _ | refine blk_drew ?_ | refine blk_alloc ?_ _)); refine blk_put (cs := #[.int .i64 ((rd_T41 l0_4 x15_1).f0), .int .i64 0, .int .i64 0]) ?_ 1 _ rfl; (with_reducible repeat (first | refine blk_drewN ?_ _ | refine blk_drew ?_ | refine blk_alloc ?_ _)); refine blk_put (cs := #[.int .i64 0, .int .i64 0, .int .i64 0]) ?_ 0 _ rfl; (with_reducible repeat (first | refine blk_drewN ?_ _ | refine blk_drew ?_ | refine blk_alloc ?_ _)); exact BK1303.out⟩, ⟨by repeat (first | (with_reducible first | exact HB.out | apply below_alloc | apply pw_below_drewN | apply below_drew1 | refine below_set ?_ GE1300.out | refine below_set ?_ GE1303.out) | exact HB.out)⟩⟩
                · rw [if_neg c17] at H
                  have c17b0 : (((rd_T41 l0_4 x15_1).f2) == t1301) = false := beq_eq_false_iff_ne.mpr c17
                  have c17b1 : (((rd_T41 l0_4 x15_1).f2) != t1301) = true := bne_iff_ne.mpr c17
                  have H' := Aside0.mk H
                  clear H
                  have hnb20 := NB1303_1300.out
                  have hnc20 := NB1300_1303.out
                  have hcz21_0 : w13.cell? ⟨gb1303, 0, none⟩ = some (.int .i64 0) := (blk_cell BK1303.out 0).trans rfl
                  have hcz21_1 : w13.cell? ⟨gb1303, 1, none⟩ = some (.int .i64 0) := (blk_cell BK1303.out 1).trans rfl
                  have hcz21_2 : w13.cell? ⟨gb1303, 2, none⟩ = some (.int .i64 0) := (blk_cell BK1303.out 2).trans rfl
                  have hfz21_0 := blk_frozen BK1303.out 0
                  have hfz21_1 := blk_frozen BK1303.out 1
                  have hfz21_2 := blk_frozen BK1303.out 2
                  go_wp2
                  go_meet
                  case rel => exact ⟨_, (false), (by first | rfl | (simp; done) | (simp [*]; done)), H', ⟨by have := HK1.out; first | omega | exact Nat.le_refl _⟩, ⟨by (with_reducible repeat (first | refine blk_drewN ?_ _ | refine blk_drew ?_ | refine blk_alloc ?_ _)); refine blk_far ?_ NB1300_1303.out _; (with_reducible repeat (first | refine blk_drewN ?_ _ | refine blk_drew ?_ | refine blk_alloc ?_ _)); refine blk_far ?_ NB1300_1303.out _; (with_reducible repeat (first | refine blk_drewN ?_ _ | refine blk_drew ?_ | refine blk_alloc ?_ _)); refine blk_far ?_ NB1300_1303.out _; (with_reducible repeat (first | refine blk_drewN ?_ _ | refine blk_drew ?_ | refine blk_alloc ?_ _)); exact BK1300.out⟩, ⟨by (with_reducible repeat (first | refine blk_drewN ?_ _ | refine blk_drew ?_ | refine blk_alloc ?_ _)); refine blk_put (cs := #[.int .i64 ((rd_T41 l0_4 x15_1).f0), .int .i64 ((rd_T41 l0_4 x15_1).f1), .int .i64 0]) ?_ 2 _ rfl; (with_reducible repeat (first | refine blk_drewN ?_ _ | refine blk_drew ?_ | refine blk_alloc ?_ _)); refine blk_put (cs := #[.int .i64 ((rd_T41 l0_4 x15_1).f0), .int .i64 0, .int .i64 0]) ?_ 1 _ rfl; (with_reducible repeat (first | refine blk_drewN ?_ _ | refine blk_drew ?_ | refine blk_alloc ?_ _)); refine blk_put (cs := #[.int .i64 0, .int .i64 0, .int .i64 0]) ?_ 0 _ rfl; (with_reducible repeat (first | refine blk_drewN ?_ _ | refine blk_drew ?_ | refine blk_alloc ?_ _)); exact BK1303.out⟩, ⟨by repeat (first | (with_reducible first | exact HB.out | apply below_alloc | apply pw_below_drewN | apply below_drew1 | refine below_set ?_ GE1300.out | refine below_set ?_ GE1303.out) | exact HB.out)⟩⟩
              · rw [if_neg c16] at H
                have c16b0 : (((rd_T41 l0_4 x15_1).f1) == a1) = false := beq_eq_false_iff_ne.mpr c16
                have c16b1 : (((rd_T41 l0_4 x15_1).f1) != a1) = true := bne_iff_ne.mpr c16
                (first | rw [c16b0] | (simp only [i64_w, i32_w]; rw [c16b0]) | skip)
                have H' := Aside0.mk H
                clear H
                have hnb22 := NB1303_1300.out
                have hnc22 := NB1300_1303.out
                have hcz23_0 : w13.cell? ⟨gb1303, 0, none⟩ = some (.int .i64 0) := (blk_cell BK1303.out 0).trans rfl
                have hcz23_1 : w13.cell? ⟨gb1303, 1, none⟩ = some (.int .i64 0) := (blk_cell BK1303.out 1).trans rfl
                have hcz23_2 : w13.cell? ⟨gb1303, 2, none⟩ = some (.int .i64 0) := (blk_cell BK1303.out 2).trans rfl
                have hfz23_0 := blk_frozen BK1303.out 0
                have hfz23_1 := blk_frozen BK1303.out 1
                have hfz23_2 := blk_frozen BK1303.out 2
                go_wp2
                go_meet
                case rel => exact ⟨_, (false), (by first | rfl | (simp; done) | (simp [*]; done)), H', ⟨by have := HK1.out; first | omega | exact Nat.le_refl _⟩, ⟨by (with_reducible repeat (first | refine blk_drewN ?_ _ | refine blk_drew ?_ | refine blk_alloc ?_ _)); refine blk_far ?_ NB1300_1303.out _; (with_reducible repeat (first | refine blk_drewN ?_ _ | refine blk_drew ?_ | refine blk_alloc ?_ _)); refine blk_far ?_ NB1300_1303.out _; (with_reducible repeat (first | refine blk_drewN ?_ _ | refine blk_drew ?_ | refine blk_alloc ?_ _)); refine blk_far ?_ NB1300_1303.out _; (with_reducible repeat (first | refine blk_drewN ?_ _ | refine blk_drew ?_ | refine blk_alloc ?_ _)); exact BK1300.out⟩, ⟨by (with_reducible repeat (first | refine blk_drewN ?_ _ | refine blk_drew ?_ | refine blk_alloc ?_ _)); refine blk_put (cs := #[.int .i64 ((rd_T41 l0_4 x15_1).f0), .int .i64 ((rd_T41 l0_4 x15_1).f1), .int .i64 0]) ?_ 2 _ rfl; (with_reducible repeat (first | refine blk_drewN ?_ _ | refine blk_drew ?_ | refine blk_alloc ?_ _)); refine blk_put (cs := #[.int .i64 ((rd_T41 l0_4 x15_1).f0), .int .i64 0, .int .i64 0]) ?_ 1 _ rfl; (with_reducible repeat (first | refine blk_drewN ?_ _ | refine blk_drew ?_ | refine blk_alloc ?_ _)); refine blk_put (cs := #[.int .i64 0, .int .i64 0, .int .i64 0]) ?_ 0 _ rfl; (with_reducible repeat (first | refine blk_drewN ?_ _ | refine blk_drew ?_ | refine blk_alloc ?_ _)); exact BK1303.out⟩, ⟨by repeat (first | (with_reducible first | exact HB.out | apply below_alloc | apply pw_below_drewN | apply below_drew1 | refine below_set ?_ GE1300.out | refine below_set ?_ GE1303.out) | exact HB.out)⟩⟩
            case rest =>
              clear HC12
              try clear c1
              try clear p1
              try clear q1
              try clear hx1
              try clear c2
              try clear p2
              try clear c9
              try clear c9b0
              try clear c10
              try clear c10b0
              try clear c11
              try clear c11b0
              try clear c12
              try clear p13
              try clear q13
              try clear hx13
              try clear c14
              try clear c16
              try clear c16b0
              try clear c16b1
              try clear c17
              try clear c17b0
              try clear c17b1
              try clear c18
              try clear c20
              try clear c22
              try clear hcz15_0
              try clear hcz15_1
              try clear hcz15_2
              try clear hcz19_0
              try clear hcz19_1
              try clear hcz19_2
              try clear hcz21_0
              try clear hcz21_1
              try clear hcz21_2
              try clear hcz23_0
              try clear hcz23_1
              try clear hcz23_2
              try clear hcz6_0
              try clear hcz6_1
              try clear hcz6_2
              try clear hcz6_3
              try clear hcz6_4
              try clear hcz6_5
              try clear hcz8_0
              try clear hcz8_1
              try clear hcz8_2
              try clear hcz8_3
              try clear hcz8_4
              try clear hcz8_5
              try clear hfz15_0
              try clear hfz15_1
              try clear hfz15_2
              try clear hfz19_0
              try clear hfz19_1
              try clear hfz19_2
              try clear hfz21_0
              try clear hfz21_1
              try clear hfz21_2
              try clear hfz23_0
              try clear hfz23_1
              try clear hfz23_2
              try clear hfz6_0
              try clear hfz6_1
              try clear hfz6_2
              try clear hfz6_3
              try clear hfz6_4
              try clear hfz6_5
              try clear hfz8_0
              try clear hfz8_1
              try clear hfz8_2
              try clear hfz8_3
              try clear hfz8_4
              try clear hfz8_5
              try clear hx1302_0
              try clear hx1302_1
              try clear hx1302_2
              try clear p1302
              try clear p2
              try clear q1302
              obtain ⟨kq, x34_11, rfl, HA, HJ11, BK1300, BK1303, HB⟩ := hcut
              cases kq with
              | zero => exact absurd HA.out (by simp [impl_BatSigned.j1])
              | succ kj11 =>
                have H := HA.out
                clear HA
                simp only [impl_BatSigned.j1] at H
                by_cases c24 : x34_11 = true
                · subst c24
                  have H1 : (some ((rd_T41 l0_4 x15_1).f0)) = some r := by rw [if_pos rfl] at H; exact H
                  clear H
                  have H := H1
                  clear H1
                  obtain rfl := Option.some.inj H
                  have hnb25 := NB1303_1300.out
                  have hnc25 := NB1300_1303.out
                  have hcz26_0 : wc.cell? ⟨gb1303, 0, none⟩ = some (.int .i64 ((rd_T41 l0_4 x15_1).f0)) := (blk_cell BK1303.out 0).trans rfl
                  have hcz26_1 : wc.cell? ⟨gb1303, 1, none⟩ = some (.int .i64 ((rd_T41 l0_4 x15_1).f1)) := (blk_cell BK1303.out 1).trans rfl
                  have hcz26_2 : wc.cell? ⟨gb1303, 2, none⟩ = some (.int .i64 ((rd_T41 l0_4 x15_1).f2)) := (blk_cell BK1303.out 2).trans rfl
                  have hfz26_0 := blk_frozen BK1303.out 0
                  have hfz26_1 := blk_frozen BK1303.out 1
                  have hfz26_2 := blk_frozen BK1303.out 2
                  go_wp2
                  go_ret
                  exact ⟨by first | rfl | (simp [errW_none, errW_some] <;> rfl) | (simp [*, errW_none, errW_some] <;> rfl), by repeat (first | (with_reducible first | exact HB.out | apply below_alloc | apply pw_below_drewN | apply below_drew1 | refine below_set ?_ GE1300.out | refine below_set ?_ GE1303.out) | exact HB.out)⟩
                · replace c24 := Bool.eq_false_iff.mpr c24
                  subst c24
                  have H1 : (impl_BatSigned.l0 kj11 a1 a2 t1301 l0_4 (l0_4.length : Int) (wrap64 (x15_1 + 1))) = some r := by rw [if_neg (show ¬ (false = true) by decide)] at H; exact H
                  clear H
                  have H := H1
                  clear H1
                  have H' := Aside0.mk H
                  clear H
                  go_wp2
                  go_roundg kj11
                  case measure => have := HK1.out; have := HJ11.out; omega
                  case rel => exact ⟨(wrap64 (x15_1 + 1)), (by first | rfl | (simp; done) | (simp [*]; done)), H', ⟨by have := HK1.out; have := HJ11.out; omega⟩, ⟨by (with_reducible repeat (first | refine blk_drewN ?_ _ | refine blk_drew ?_ | refine blk_alloc ?_ _)); exact BK1300.out⟩, ⟨by repeat (first | (with_reducible first | exact HB.out | apply below_alloc | apply pw_below_drewN | apply below_drew1 | refine below_set ?_ GE1300.out | refine below_set ?_ GE1303.out) | exact HB.out)⟩⟩
          · rw [if_neg c11] at H
            exact absurd H (by simp)
        · rw [if_neg c10] at H
          exact absurd H (by simp)
      · rw [if_neg c9] at H
        have c9b0 : decide (x15_1 < (l0_4.length : Int)) = false := decide_eq_false c9
        clear c9
        obtain rfl := Option.some.inj H
        go_wp2
        go_ret
        exact ⟨by first | rfl | (simp [errW_none, errW_some] <;> rfl) | (simp [*, errW_none, errW_some] <;> rfl), by repeat (first | (with_reducible first | exact HB.out | apply below_alloc | apply pw_below_drewN | apply below_drew1 | refine below_set ?_ GE1300.out) | exact HB.out)⟩

end Go.Proofs.Ythebfdgnahfhgaa.All
