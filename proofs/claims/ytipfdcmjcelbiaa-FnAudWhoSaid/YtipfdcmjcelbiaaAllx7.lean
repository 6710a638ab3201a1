-- Written by the session's own program wip/allprint.py, which drives the kit's print; Lean checks it.
import Derived.Test.YtipfdcmjcelbiaaAllx0
import Derived.Test.YtipfdcmjcelbiaaAllx6
namespace Go.Proofs.Ytipfdcmjcelbiaa.All
open Go.RowKit Go.Proofs.YtipfdcmjcelbiaaW.PrintWords Go.Proofs.YtipfdcmjcelbiaaW.PrintLast Go.Proofs.YtipfdcmjcelbiaaW.PrintMore
attribute [local go_sem] max2_int min2_int max_two min_two max_three min_three max_four min_four   -- for this text's walks alone
set_option linter.unusedVariables false
set_option linter.unusedSimpArgs false

/-! ### impl_BatMark: function 7 -/
mutual
def impl_BatMark.l0 : Nat → Int → List (S52) → Int → Int → Int → Int → List (S52) → Int → List (S41) → List Bool → Option (Int)
  | 0, _, _, _, _, _, _, _, _, _, _ => none
  | k + 1, x3, x15, x16, x17, x1259000, x1259001, x1259002, x1259003, x1259004, x1259005 => if x17 < x16 then (if 0 ≤ x17 then (if x17 < (x15.length : Int) then ((impl_mixed.f k x3 (([(rd_T52 x15 x17).f1, (rd_T52 x15 x17).f2.f0, (rd_T52 x15 x17).f2.f1, (rd_T52 x15 x17).f3] : List Int))).bind fun t1268 => (impl_BatMark.l1 k t1268 x15 x16 x17 ((rd_T52 x15 x17).f4) (((rd_T52 x15 x17).f4).length : Int) 0 x1259000 x1259001 x1259002 x1259003 x1259004 x1259005)) else (none)) else (none)) else (impl_BatMark.l2 k x3 x1259005 (x1259005.length : Int) 0)
def impl_BatMark.l1 : Nat → Int → List (S52) → Int → Int → List (S47) → Int → Int → Int → Int → List (S52) → Int → List (S41) → List Bool → Option (Int)
  | 0, _, _, _, _, _, _, _, _, _, _, _, _, _ => none
  | k + 1, x3, x15, x16, x17, x35, x36, x37, x1259000, x1259001, x1259002, x1259003, x1259004, x1259005 => if x37 < x36 then (if 0 ≤ x37 then (if x37 < (x35.length : Int) then ((impl_mixed.f k x3 (([(rd_T47 x35 x37).f0, (rd_T47 x35 x37).f1] : List Int))).bind fun t1274 => (impl_BatMark.l1 k t1274 x15 x16 x17 x35 x36 (wrap64 (x37 + 1)) x1259000 x1259001 x1259002 x1259003 x1259004 x1259005)) else (none)) else (none)) else (impl_BatMark.l0 k x3 x15 x16 (wrap64 (x17 + 1)) x1259000 x1259001 x1259002 x1259003 x1259004 x1259005)
def impl_BatMark.l2 : Nat → Int → List Bool → Int → Int → Option (Int)
  | 0, _, _, _, _ => none
  | k + 1, x3, x51, x52, x53 => if x53 < x52 then (if 0 ≤ x53 then (if x53 < (x51.length : Int) then ((impl_mixed.f k x3 (([wrap64 (x53 + 1)] : List Int))).bind fun t1279 => (if rdOf false x51 x53 = true then ((impl_mixed.f k t1279 (([77] : List Int))).bind fun t1283 => (impl_BatMark.l2 k t1283 x51 x52 (wrap64 (x53 + 1)))) else (impl_BatMark.l2 k t1279 x51 x52 (wrap64 (x53 + 1))))) else (none)) else (none)) else (some x3)
end
def impl_BatMark.f (k : Nat) (a0_0 : Int) (a0_1 : Int) (l0_2 : List (S52)) (a0_3 : Int) (l0_4 : List (S41)) (l0_5 : List Bool) : Option (Int) := (impl_mixed.f k 1 (([a0_0] : List Int))).bind fun t1262 => (impl_BatMark.l0 k t1262 l0_2 (l0_2.length : Int) 0 a0_0 a0_1 l0_2 a0_3 l0_4 l0_5)
theorem impl_BatMark.mono_l : ∀ k, (∀ y0 y1 y2 y3 y4 y5 y6 y7 y8 y9, LeO (impl_BatMark.l0 k y0 y1 y2 y3 y4 y5 y6 y7 y8 y9) (impl_BatMark.l0 (k + 1) y0 y1 y2 y3 y4 y5 y6 y7 y8 y9)) ∧ (∀ y0 y1 y2 y3 y4 y5 y6 y7 y8 y9 y10 y11 y12, LeO (impl_BatMark.l1 k y0 y1 y2 y3 y4 y5 y6 y7 y8 y9 y10 y11 y12) (impl_BatMark.l1 (k + 1) y0 y1 y2 y3 y4 y5 y6 y7 y8 y9 y10 y11 y12)) ∧ (∀ y0 y1 y2 y3, LeO (impl_BatMark.l2 k y0 y1 y2 y3) (impl_BatMark.l2 (k + 1) y0 y1 y2 y3))
  | 0 => ⟨fun _ _ _ _ _ _ _ _ _ _ r h => by simp [impl_BatMark.l0] at h, fun _ _ _ _ _ _ _ _ _ _ _ _ _ r h => by simp [impl_BatMark.l1] at h, fun _ _ _ _ r h => by simp [impl_BatMark.l2] at h⟩
  | k + 1 => by
    obtain ⟨ih0, ih1, ih2⟩ := impl_BatMark.mono_l k
    refine ⟨?_, ?_, ?_⟩
    · intro y0 y1 y2 y3 y4 y5 y6 y7 y8 y9
      unfold impl_BatMark.l0
      repeat' first
      | (with_reducible exact ih0 _ _ _ _ _ _ _ _ _ _)
      | (with_reducible exact ih1 _ _ _ _ _ _ _ _ _ _ _ _ _)
      | (with_reducible exact ih2 _ _ _ _)
      | (with_reducible exact impl_mixed.mono _ _ _)
      | (with_reducible exact LeO.refl _)
      | (with_reducible exact LeO.none _)
      | (with_reducible refine LeO.ite ?_ ?_)
      | (with_reducible refine LeO.bind ?_ (fun _ => ?_))
      | exact ih0 _ _ _ _ _ _ _ _ _ _
      | exact ih1 _ _ _ _ _ _ _ _ _ _ _ _ _
      | exact ih2 _ _ _ _
      | exact impl_mixed.mono _ _ _
      | exact LeO.none _
      | refine LeO.ite ?_ ?_
      | refine LeO.bind ?_ (fun _ => ?_)
    · intro y0 y1 y2 y3 y4 y5 y6 y7 y8 y9 y10 y11 y12
      unfold impl_BatMark.l1
      repeat' first
      | (with_reducible exact ih0 _ _ _ _ _ _ _ _ _ _)
      | (with_reducible exact ih1 _ _ _ _ _ _ _ _ _ _ _ _ _)
      | (with_reducible exact ih2 _ _ _ _)
      | (with_reducible exact impl_mixed.mono _ _ _)
      | (with_reducible exact LeO.refl _)
      | (with_reducible exact LeO.none _)
      | (with_reducible refine LeO.ite ?_ ?_)
      | (with_reducible refine LeO.bind ?_ (fun _ => ?_))
      | exact ih0 _ _ _ _ _ _ _ _ _ _
      | exact ih1 _ _ _ _ _ _ _ _ _ _ _ _ _
      | exact ih2 _ _ _ _
      | exact impl_mixed.mono _ _ _
      | exact LeO.none _
      | refine LeO.ite ?_ ?_
      | refine LeO.bind ?_ (fun _ => ?_)
    · intro y0 y1 y2 y3
      unfold impl_BatMark.l2
      repeat' first
      | (with_reducible exact ih0 _ _ _ _ _ _ _ _ _ _)
      | (with_reducible exact ih1 _ _ _ _ _ _ _ _ _ _ _ _ _)
      | (with_reducible exact ih2 _ _ _ _)
      | (with_reducible exact impl_mixed.mono _ _ _)
      | (with_reducible exact LeO.refl _)
      | (with_reducible exact LeO.none _)
      | (with_reducible refine LeO.ite ?_ ?_)
      | (with_reducible refine LeO.bind ?_ (fun _ => ?_))
      | exact ih0 _ _ _ _ _ _ _ _ _ _
      | exact ih1 _ _ _ _ _ _ _ _ _ _ _ _ _
      | exact ih2 _ _ _ _
      | exact impl_mixed.mono _ _ _
      | exact LeO.none _
      | refine LeO.ite ?_ ?_
      | refine LeO.bind ?_ (fun _ => ?_)
theorem impl_BatMark.mono : ∀ a0 a1 a2 a3 a4 a5 k, LeO (impl_BatMark.f k a0 a1 a2 a3 a4 a5) (impl_BatMark.f (k + 1) a0 a1 a2 a3 a4 a5) := by
  intro a0 a1 a2 a3 a4 a5 k
  obtain ⟨ih0, ih1, ih2⟩ := impl_BatMark.mono_l k
  unfold impl_BatMark.f
  repeat' first
      | (with_reducible exact ih0 _ _ _ _ _ _ _ _ _ _)
      | (with_reducible exact ih1 _ _ _ _ _ _ _ _ _ _ _ _ _)
      | (with_reducible exact ih2 _ _ _ _)
      | (with_reducible exact impl_mixed.mono _ _ _)
      | (with_reducible exact LeO.refl _)
      | (with_reducible exact LeO.none _)
      | (with_reducible refine LeO.ite ?_ ?_)
      | (with_reducible refine LeO.bind ?_ (fun _ => ?_))
      | exact ih0 _ _ _ _ _ _ _ _ _ _
      | exact ih1 _ _ _ _ _ _ _ _ _ _ _ _ _
      | exact ih2 _ _ _ _
      | exact impl_mixed.mono _ _ _
      | exact LeO.none _
      | refine LeO.ite ?_ ?_
      | refine LeO.bind ?_ (fun _ => ?_)
set_option maxHeartbeats 8000000 in
set_option maxRecDepth 100000 in
theorem impl_BatMark.calls (k : Nat) (a0_0 : Int) (a0_1 : Int) (A0_2 : Option Addr) (c0_2 : Nat) (l0_2 : List (S52)) (a0_3 : Int) (A0_4 : Option Addr) (c0_4 : Nat) (l0_4 : List (S41)) (A0_5 : Option Addr) (c0_5 : Nat) (l0_5 : List Bool) (r : Int) (w : World) (hr0_2 : Kd.C k52 w A0_2 l0_2.length l0_2) (hc0_2 : l0_2.length ≤ c0_2) (hr0_4 : Kd.C k41 w A0_4 l0_4.length l0_4) (hc0_4 : l0_4.length ≤ c0_4) (hr0_5 : Kd.C Kd.bool w A0_5 l0_5.length l0_5) (hc0_5 : l0_5.length ≤ c0_5) (h : impl_BatMark.f k a0_0 a0_1 l0_2 a0_3 l0_4 l0_5 = some r) :
    Calls Try.prog 7 #[.agg #[.int .i64 a0_0, .int .i64 a0_1, .slice A0_2 l0_2.length c0_2, .int .i64 a0_3, .slice A0_4 l0_4.length c0_4, .slice A0_5 l0_5.length c0_5]] w fun e w' => e = .returned (.int .i64 r) ∧ Below w.heap.size w w' := by
  have hu27 := Try.underlying27
  have hu52 := Try.underlying52
  have hu47 := Try.underlying47
  have HR0_2 := Aside0.mk hr0_2
  have HC0_2 := Aside0.mk hc0_2
  clear hr0_2 hc0_2
  have HR0_4 := Aside0.mk hr0_4
  have HC0_4 := Aside0.mk hc0_4
  clear hr0_4 hc0_4
  have HR0_5 := Aside0.mk hr0_5
  have HC0_5 := Aside0.mk hc0_5
  clear hr0_5 hc0_5
  have HB := Aside0.mk (Below.refl w.heap.size w)
  have H : ((impl_mixed.f k 1 (([a0_0] : List Int))).bind fun t1262 => (impl_BatMark.l0 k t1262 l0_2 (l0_2.length : Int) 0 a0_0 a0_1 l0_2 a0_3 l0_4 l0_5)) = some r := h
  clear h
  obtain ⟨y1259, hy1259⟩ : ∃ y_ : List Int, y_ = (([a0_0] : List Int)) := ⟨_, rfl⟩
  replace H : ((impl_mixed.f k 1 y1259).bind fun t1262 => (impl_BatMark.l0 k t1262 l0_2 (l0_2.length : Int) 0 a0_0 a0_1 l0_2 a0_3 l0_4 l0_5)) = some r := by first | (rw [hy1259]; with_reducible exact H) | (have H2_ := (Option.bind_some _ _).symm.trans H; rw [hy1259]; with_reducible exact H2_) | (have H2_ := (Option.bind_some _ _).symm.trans H; with_reducible exact H2_) | with_reducible exact H | (rw [hy1259]; exact H) | exact H
  have Ny1259 := Aside0.mk hy1259
  clear hy1259
  replace H := Option.bind_eq_some_iff.mp H
  obtain ⟨t1262, A20, H⟩ := H
  replace H : (impl_BatMark.l0 k t1262 l0_2 (l0_2.length : Int) 0 a0_0 a0_1 l0_2 a0_3 l0_4 l0_5) = some r := H
  have A2 := Aside0.mk A20
  clear A20
  have H' := Aside0.mk H
  clear H
  go_enter Try.func7, Try.ntmps7
  go_wp2_with (first | ((with_reducible refine gate_dst (N := 1) rfl ?_); refine box_event ?hg (N := 1) ?hd (cs := #[.int .i64 a0_0, .int .i64 a0_1, .slice A0_2 l0_2.length c0_2, .int .i64 a0_3, .slice A0_4 l0_4.length c0_4, .slice A0_5 l0_5.length c0_5]) (t := 27) ?hr ?_; (case hd => rfl); (case hg => rfl); (case hr => first | (go_simp; done) | (go_simp; rfl)); intro gb1258 hg w3 hbox hb; have n0_ := Aside0.mk (below_step (by repeat (first | (with_reducible first | exact HB.out | apply below_alloc | apply pw_below_drewN | apply below_drew1) | exact HB.out)) hb); have n1_ := Aside0.mk (hbox); have n2_ := Aside0.mk ((by rw [hg]; exact (below_size (by repeat (first | (with_reducible first | exact HB.out | apply below_alloc | apply pw_below_drewN | apply below_drew1) | exact HB.out))) : w.heap.size ≤ gb1258)); have n3_ := Aside0.mk ((by rw [hg]; exact (below_size (by repeat (first | (with_reducible first | exact HB.out | apply below_alloc | apply pw_below_drewN | apply below_drew1) | exact HB.out))) : w.heap.size ≤ gb1258)); clear HB; have HB := n0_; have BK1258 := n1_; have GW1258 := n2_; have GE1258 := n3_; clear n0_ n1_ n2_ n3_; clear hb hbox hg; have hcz4_0 : w3.cell? ⟨gb1258, 0, none⟩ = some (.int .i64 a0_0) := (blk_cell BK1258.out 0).trans rfl; have hcz4_1 : w3.cell? ⟨gb1258, 1, none⟩ = some (.int .i64 a0_1) := (blk_cell BK1258.out 1).trans rfl; have hcz4_2 : w3.cell? ⟨gb1258, 2, none⟩ = some (.slice A0_2 l0_2.length c0_2) := (blk_cell BK1258.out 2).trans rfl; have hcz4_3 : w3.cell? ⟨gb1258, 3, none⟩ = some (.int .i64 a0_3) := (blk_cell BK1258.out 3).trans rfl; have hcz4_4 : w3.cell? ⟨gb1258, 4, none⟩ = some (.slice A0_4 l0_4.length c0_4) := (blk_cell BK1258.out 4).trans rfl; have hcz4_5 : w3.cell? ⟨gb1258, 5, none⟩ = some (.slice A0_5 l0_5.length c0_5) := (blk_cell BK1258.out 5).trans rfl; have hfz4_0 := blk_frozen BK1258.out 0; have hfz4_1 := blk_frozen BK1258.out 1; have hfz4_2 := blk_frozen BK1258.out 2; have hfz4_3 := blk_frozen BK1258.out 3; have hfz4_4 := blk_frozen BK1258.out 4; have hfz4_5 := blk_frozen BK1258.out 5) | ((with_reducible refine gate_dst (N := 12) rfl ?_); refine Kd.R_lit (Kd.int .i64) _ 3 ?hg (N := 12) ?hd (xs := ([a0_0] : List Int)) (inner := [.int .i64 a0_0]) (ok := fun _ => True) (okp := fun _ => True) ?hr ?hp (fun _ hk => hk) trivial (Below.refl _ _) (Nat.le_refl _) (by simp) ?_; (case hd => rfl); (case hg => rfl); (case hr => first | (go_simp; done) | (go_simp; rfl)); (case hp => exact (Reps.one (show Kd.M (Kd.int .i64) _ _ _ a0_0 [.int .i64 a0_0] from rfl) (Reps.none _ _))); intro v1260 w5 ho6 hb hg_ hnew_; clear hg_ hnew_; (first | rw [← Ny1259.out] at ho6 | (simp only [Int.reduceToNat] at ho6; rw [← Ny1259.out] at ho6)); have n0_ := Aside0.mk (Kd.R_lower ho6 (below_size (by repeat (first | (with_reducible first | exact HB.out | apply below_alloc | apply pw_below_drewN | apply below_drew1 | refine below_set ?_ GE1258.out) | exact HB.out)))); have n1_ := Aside0.mk (blk_below (g := gb1258) (o := .cells #[.int .i64 a0_0, .int .i64 a0_1, .slice A0_2 l0_2.length c0_2, .int .i64 a0_3, .slice A0_4 l0_4.length c0_4, .slice A0_5 l0_5.length c0_5] 27 (0, 0)) (by (with_reducible repeat (first | refine blk_drewN ?_ _ | refine blk_drew ?_ | refine blk_alloc ?_ _)); exact BK1258.out) hb); have n2_ := Aside0.mk (below_step (by repeat (first | (with_reducible first | exact HB.out | apply below_alloc | apply pw_below_drewN | apply below_drew1 | refine below_set ?_ GE1258.out) | exact HB.out)) hb); clear BK1258; clear HB; have HO1261 := n0_; have BK1258 := n1_; have HB := n2_; clear n0_ n1_ n2_; clear hb ho6; obtain ⟨Ao7, co7, eo7⟩ := Kd.R_slice HO1261.out; subst eo7) | ((with_reducible refine gate_callee (f := 19) rfl ?_); refine goesL_ (some 13) rfl rfl Try.func19 (by kernel_rfl) rfl #[.int .i64 1, .slice Ao7 y1259.length co7] rfl (by (try simp only [List.map_toArray, List.map_cons, List.map_nil]); first | done | rfl | (simp only [List.length_drop, List.length_take]; rfl)) ?_; (with_reducible refine (impl_mixed.calls k 1 _ _ y1259 t1262 _ ?side1 ?side2 A2.out).mono ?_); (case side1 => repeat (first | exact (Kd.R_reads' HO1261.out).2.2 | (with_reducible refine Kd.C_alloc ?_ _) | (with_reducible refine Kd.C_drewN ?_ _) | (with_reducible refine Kd.C_drew ?_))); (case side2 => exact (Kd.R_reads' HO1261.out).2.1); rintro e w' ⟨rfl, ⟨nd, rfl⟩⟩; refine ⟨_, rfl, ?_⟩; have hcz8_0 : w5.cell? ⟨gb1258, 0, none⟩ = some (.int .i64 a0_0) := (blk_cell BK1258.out 0).trans rfl; have hcz8_1 : w5.cell? ⟨gb1258, 1, none⟩ = some (.int .i64 a0_1) := (blk_cell BK1258.out 1).trans rfl; have hcz8_2 : w5.cell? ⟨gb1258, 2, none⟩ = some (.slice A0_2 l0_2.length c0_2) := (blk_cell BK1258.out 2).trans rfl; have hcz8_3 : w5.cell? ⟨gb1258, 3, none⟩ = some (.int .i64 a0_3) := (blk_cell BK1258.out 3).trans rfl; have hcz8_4 : w5.cell? ⟨gb1258, 4, none⟩ = some (.slice A0_4 l0_4.length c0_4) := (blk_cell BK1258.out 4).trans rfl; have hcz8_5 : w5.cell? ⟨gb1258, 5, none⟩ = some (.slice A0_5 l0_5.length c0_5) := (blk_cell BK1258.out 5).trans rfl; have hfz8_0 := blk_frozen BK1258.out 0; have hfz8_1 := blk_frozen BK1258.out 1; have hfz8_2 := blk_frozen BK1258.out 2; have hfz8_3 := blk_frozen BK1258.out 3; have hfz8_4 := blk_frozen BK1258.out 4; have hfz8_5 := blk_frozen BK1258.out 5))
  go_loopg [3, 17] k (fun kq v3 v17 w' => ∃ (x3_1 : Int) (x17_1 : Int), v3 = .int .i64 x3_1 ∧ v17 = .int .i64 x17_1 ∧ Aside0 (impl_BatMark.l0 kq x3_1 l0_2 (l0_2.length : Int) x17_1 a0_0 a0_1 l0_2 a0_3 l0_4 l0_5 = some r) ∧ Aside0 (kq ≤ k) ∧ Aside0 (w'.heap[gb1258]? = some (.cells #[.int .i64 a0_0, .int .i64 a0_1, (.slice A0_2 l0_2.length c0_2), .int .i64 a0_3, (.slice A0_4 l0_4.length c0_4), (.slice A0_5 l0_5.length c0_5)] 27 (0, 0))) ∧ Aside0 (Below w.heap.size w w'))
  case atStart => exact ⟨(t1262), (0), (by first | rfl | (simp; done) | (simp [*]; done)), (by first | rfl | (simp; done) | (simp [*]; done)), H', ⟨Nat.le_refl _⟩, ⟨by (with_reducible repeat (first | refine blk_drewN ?_ _ | refine blk_drew ?_ | refine blk_alloc ?_ _)); exact BK1258.out⟩, ⟨by repeat (first | (with_reducible first | exact HB.out | apply below_alloc | apply pw_below_drewN | apply below_drew1 | refine below_set ?_ GE1258.out) | exact HB.out)⟩⟩
  case round =>
    clear H'
    try clear c1
    try clear p2
    try clear c7
    try clear hcz4_0
    try clear hcz4_1
    try clear hcz4_2
    try clear hcz4_3
    try clear hcz4_4
    try clear hcz4_5
    try clear hcz8_0
    try clear hcz8_1
    try clear hcz8_2
    try clear hcz8_3
    try clear hcz8_4
    try clear hcz8_5
    try clear hfz4_0
    try clear hfz4_1
    try clear hfz4_2
    try clear hfz4_3
    try clear hfz4_4
    try clear hfz4_5
    try clear hfz8_0
    try clear hfz8_1
    try clear hfz8_2
    try clear hfz8_3
    try clear hfz8_4
    try clear hfz8_5
    obtain ⟨x3_1, x17_1, rfl, rfl, HA, HK1, BK1258, HB⟩ := hrel
    cases gk with
    | zero => exact absurd HA.out (by simp [impl_BatMark.l0])
    | succ k1 =>
      have H := HA.out
      clear HA
      simp only [impl_BatMark.l0] at H
      by_cases c9 : x17_1 < (l0_2.length : Int)
      · rw [if_pos c9] at H
        have c9b0 : decide (x17_1 < (l0_2.length : Int)) = true := decide_eq_true c9
        clear c9
        by_cases c10 : 0 ≤ x17_1
        · rw [if_pos c10] at H
          have c10b0 : decide (0 ≤ x17_1) = true := decide_eq_true c10
          clear c10
          by_cases c11 : x17_1 < (l0_2.length : Int)
          · rw [if_pos c11] at H
            have c11b0 : decide (x17_1 < (l0_2.length : Int)) = true := decide_eq_true c11
            clear c11
            obtain ⟨y1265, hy1265⟩ : ∃ y_ : List Int, y_ = (([(rd_T52 l0_2 x17_1).f1, (rd_T52 l0_2 x17_1).f2.f0, (rd_T52 l0_2 x17_1).f2.f1, (rd_T52 l0_2 x17_1).f3] : List Int)) := ⟨_, rfl⟩
            replace H : ((impl_mixed.f k1 x3_1 y1265).bind fun t1268 => (impl_BatMark.l1 k1 t1268 l0_2 (l0_2.length : Int) x17_1 ((rd_T52 l0_2 x17_1).f4) (((rd_T52 l0_2 x17_1).f4).length : Int) 0 a0_0 a0_1 l0_2 a0_3 l0_4 l0_5)) = some r := by first | (rw [hy1265]; with_reducible exact H) | (have H2_ := (Option.bind_some _ _).symm.trans H; rw [hy1265]; with_reducible exact H2_) | (have H2_ := (Option.bind_some _ _).symm.trans H; with_reducible exact H2_) | with_reducible exact H | (rw [hy1265]; exact H) | exact H
            have Ny1265 := Aside0.mk hy1265
            clear hy1265
            replace H := Option.bind_eq_some_iff.mp H
            obtain ⟨t1268, A120, H⟩ := H
            replace H : (impl_BatMark.l1 k1 t1268 l0_2 (l0_2.length : Int) x17_1 ((rd_T52 l0_2 x17_1).f4) (((rd_T52 l0_2 x17_1).f4).length : Int) 0 a0_0 a0_1 l0_2 a0_3 l0_4 l0_5) = some r := H
            have A12 := Aside0.mk A120
            clear A120
            have H' := Aside0.mk H
            clear H
            have p1263 : 0 ≤ (x17_1 : Int) := of_decide_eq_true (by first | (with_reducible assumption) | assumption)
            have q1263 : x17_1 < (l0_2.length : Int) := of_decide_eq_true (by first | (with_reducible assumption) | assumption)
            obtain ⟨ad1263, A1263_10, c1263_10, e1263, hx1263_0, hx1263_1, hx1263_2, hx1263_3, hx1263_4, hx1263_5, hx1263_6, hx1263_7, hx1263_8, hx1263_9, hx1263_10, hl1263_10, hi1263_10⟩ := at_T52 HR0_2.out x17_1 p1263 q1263
            cases e1263
            replace hx1263_0 := (HB.out.cell (World.block_lt_of_cell? w _ hx1263_0)).trans hx1263_0
            replace hx1263_1 := (HB.out.cell (World.block_lt_of_cell? w _ hx1263_1)).trans hx1263_1
            replace hx1263_2 := (HB.out.cell (World.block_lt_of_cell? w _ hx1263_2)).trans hx1263_2
            replace hx1263_3 := (HB.out.cell (World.block_lt_of_cell? w _ hx1263_3)).trans hx1263_3
            replace hx1263_4 := (HB.out.cell (World.block_lt_of_cell? w _ hx1263_4)).trans hx1263_4
            replace hx1263_5 := (HB.out.cell (World.block_lt_of_cell? w _ hx1263_5)).trans hx1263_5
            replace hx1263_6 := (HB.out.cell (World.block_lt_of_cell? w _ hx1263_6)).trans hx1263_6
            replace hx1263_7 := (HB.out.cell (World.block_lt_of_cell? w _ hx1263_7)).trans hx1263_7
            replace hx1263_8 := (HB.out.cell (World.block_lt_of_cell? w _ hx1263_8)).trans hx1263_8
            replace hx1263_9 := (HB.out.cell (World.block_lt_of_cell? w _ hx1263_9)).trans hx1263_9
            replace hx1263_10 := (HB.out.cell (World.block_lt_of_cell? w _ hx1263_10)).trans hx1263_10
            have HR1263_10 := Aside0.mk hi1263_10
            have HC1263_10 := Aside0.mk hl1263_10
            clear hi1263_10 hl1263_10
            replace p1263 := eq_true p1263
            replace q1263 := eq_true q1263
            go_wp2_with (first | ((with_reducible refine gate_dst (N := 5) rfl ?_); refine box_event ?hg (N := 5) ?hd (cs := #[.int .i64 0, .int .i64 0, .int .i64 0, .int .i64 0, .int .i64 0, .int .i64 0, .int .i64 0, .int .i64 0, .int .i64 0, .int .i64 0, .slice none 0 0]) (t := 52) ?hr ?_; (case hd => rfl); (case hg => rfl); (case hr => first | (go_simp; done) | (go_simp; rfl)); intro gb1264 hg w13 hbox hb; have n0_ := Aside0.mk (blk_below (g := gb1258) (o := .cells #[.int .i64 a0_0, .int .i64 a0_1, .slice (some ad1263) l0_2.length c0_2, .int .i64 a0_3, .slice A0_4 l0_4.length c0_4, .slice A0_5 l0_5.length c0_5] 27 (0, 0)) (by (with_reducible repeat (first | refine blk_drewN ?_ _ | refine blk_drew ?_ | refine blk_alloc ?_ _)); exact BK1258.out) hb); have n1_ := Aside0.mk (below_step (by repeat (first | (with_reducible first | exact HB.out | apply below_alloc | apply pw_below_drewN | apply below_drew1 | refine below_set ?_ GE1258.out) | exact HB.out)) hb); have n2_ := Aside0.mk (hbox); have n3_ := Aside0.mk ((by rw [hg]; exact (below_size (by repeat (first | (with_reducible first | exact HB.out | apply below_alloc | apply pw_below_drewN | apply below_drew1 | refine below_set ?_ GE1258.out) | exact HB.out))) : w.heap.size ≤ gb1264)); have n4_ := Aside0.mk ((by rw [hg]; exact (below_size (by repeat (first | (with_reducible first | exact HB.out | apply below_alloc | apply pw_below_drewN | apply below_drew1 | refine below_set ?_ GE1258.out) | exact HB.out))) : w.heap.size ≤ gb1264)); have n5_ := Aside0.mk ((by rw [hg]; exact Nat.ne_of_lt (blk_lt (g := gb1258) (o := .cells #[.int .i64 a0_0, .int .i64 a0_1, .slice (some ad1263) l0_2.length c0_2, .int .i64 a0_3, .slice A0_4 l0_4.length c0_4, .slice A0_5 l0_5.length c0_5] 27 (0, 0)) (by (with_reducible repeat (first | refine blk_drewN ?_ _ | refine blk_drew ?_ | refine blk_alloc ?_ _)); exact BK1258.out)) : gb1258 ≠ gb1264)); have n6_ := Aside0.mk ((by rw [hg]; exact Nat.ne_of_gt (blk_lt (g := gb1258) (o := .cells #[.int .i64 a0_0, .int .i64 a0_1, .slice (some ad1263) l0_2.length c0_2, .int .i64 a0_3, .slice A0_4 l0_4.length c0_4, .slice A0_5 l0_5.length c0_5] 27 (0, 0)) (by (with_reducible repeat (first | refine blk_drewN ?_ _ | refine blk_drew ?_ | refine blk_alloc ?_ _)); exact BK1258.out)) : gb1264 ≠ gb1258)); clear BK1258; clear HB; have BK1258 := n0_; have HB := n1_; have BK1264 := n2_; have GW1264 := n3_; have GE1264 := n4_; have NB1258_1264 := n5_; have NB1264_1258 := n6_; clear n0_ n1_ n2_ n3_ n4_ n5_ n6_; clear hb hbox hg; have hnb14 := NB1264_1258.out; have hnc14 := NB1258_1264.out; have hcz15_0 : w13.cell? ⟨gb1264, 0, none⟩ = some (.int .i64 0) := (blk_cell BK1264.out 0).trans rfl; have hcz15_1 : w13.cell? ⟨gb1264, 1, none⟩ = some (.int .i64 0) := (blk_cell BK1264.out 1).trans rfl; have hcz15_2 : w13.cell? ⟨gb1264, 2, none⟩ = some (.int .i64 0) := (blk_cell BK1264.out 2).trans rfl; have hcz15_3 : w13.cell? ⟨gb1264, 3, none⟩ = some (.int .i64 0) := (blk_cell BK1264.out 3).trans rfl; have hcz15_4 : w13.cell? ⟨gb1264, 4, none⟩ = some (.int .i64 0) := (blk_cell BK1264.out 4).trans rfl; have hcz15_5 : w13.cell? ⟨gb1264, 5, none⟩ = some (.int .i64 0) := (blk_cell BK1264.out 5).trans rfl; have hcz15_6 : w13.cell? ⟨gb1264, 6, none⟩ = some (.int .i64 0) := (blk_cell BK1264.out 6).trans rfl; have hcz15_7 : w13.cell? ⟨gb1264, 7, none⟩ = some (.int .i64 0) := (blk_cell BK1264.out 7).trans rfl; have hcz15_8 : w13.cell? ⟨gb1264, 8, none⟩ = some (.int .i64 0) := (blk_cell BK1264.out 8).trans rfl; have hcz15_9 : w13.cell? ⟨gb1264, 9, none⟩ = some (.int .i64 0) := (blk_cell BK1264.out 9).trans rfl; have hcz15_10 : w13.cell? ⟨gb1264, 10, none⟩ = some (.slice none 0 0) := (blk_cell BK1264.out 10).trans rfl; have hfz15_0 := blk_frozen BK1264.out 0; have hfz15_1 := blk_frozen BK1264.out 1; have hfz15_2 := blk_frozen BK1264.out 2; have hfz15_3 := blk_frozen BK1264.out 3; have hfz15_4 := blk_frozen BK1264.out 4; have hfz15_5 := blk_frozen BK1264.out 5; have hfz15_6 := blk_frozen BK1264.out 6; have hfz15_7 := blk_frozen BK1264.out 7; have hfz15_8 := blk_frozen BK1264.out 8; have hfz15_9 := blk_frozen BK1264.out 9; have hfz15_10 := blk_frozen BK1264.out 10) | ((with_reducible refine gate_dst (N := 32) rfl ?_); refine Kd.R_lit (Kd.int .i64) _ 3 ?hg (N := 32) ?hd (xs := ([(rd_T52 l0_2 x17_1).f1, (rd_T52 l0_2 x17_1).f2.f0, (rd_T52 l0_2 x17_1).f2.f1, (rd_T52 l0_2 x17_1).f3] : List Int)) (inner := [.int .i64 ((rd_T52 l0_2 x17_1).f1), .int .i64 ((rd_T52 l0_2 x17_1).f2.f0), .int .i64 ((rd_T52 l0_2 x17_1).f2.f1), .int .i64 ((rd_T52 l0_2 x17_1).f3)]) (ok := fun _ => True) (okp := fun _ => True) ?hr ?hp (fun _ hk => hk) trivial (Below.refl _ _) (Nat.le_refl _) (by simp) ?_; (case hd => rfl); (case hg => rfl); (case hr => first | (go_simp; done) | (go_simp; rfl)); (case hp => exact (Reps.one (show Kd.M (Kd.int .i64) _ _ _ ((rd_T52 l0_2 x17_1).f1) [.int .i64 ((rd_T52 l0_2 x17_1).f1)] from rfl) (Reps.one (show Kd.M (Kd.int .i64) _ _ _ ((rd_T52 l0_2 x17_1).f2.f0) [.int .i64 ((rd_T52 l0_2 x17_1).f2.f0)] from rfl) (Reps.one (show Kd.M (Kd.int .i64) _ _ _ ((rd_T52 l0_2 x17_1).f2.f1) [.int .i64 ((rd_T52 l0_2 x17_1).f2.f1)] from rfl) (Reps.one (show Kd.M (Kd.int .i64) _ _ _ ((rd_T52 l0_2 x17_1).f3) [.int .i64 ((rd_T52 l0_2 x17_1).f3)] from rfl) (Reps.none _ _)))))); intro v1266 w16 ho17 hb hg_ hnew_; clear hg_ hnew_; (first | rw [← Ny1265.out] at ho17 | (simp only [Int.reduceToNat] at ho17; rw [← Ny1265.out] at ho17)); have n0_ := Aside0.mk (Kd.R_lower ho17 (below_size (by repeat (first | (with_reducible first | exact HB.out | apply below_alloc | apply pw_below_drewN | apply below_drew1 | refine below_set ?_ GE1258.out | refine below_set ?_ GE1264.out) | exact HB.out)))); have n1_ := Aside0.mk (blk_below (g := gb1258) (o := .cells #[.int .i64 a0_0, .int .i64 a0_1, .slice (some ad1263) l0_2.length c0_2, .int .i64 a0_3, .slice A0_4 l0_4.length c0_4, .slice A0_5 l0_5.length c0_5] 27 (0, 0)) (by (with_reducible repeat (first | refine blk_drewN ?_ _ | refine blk_drew ?_ | refine blk_alloc ?_ _)); refine blk_far ?_ NB1258_1264.out _; (with_reducible repeat (first | refine blk_drewN ?_ _ | refine blk_drew ?_ | refine blk_alloc ?_ _)); refine blk_far ?_ NB1258_1264.out _; (with_reducible repeat (first | refine blk_drewN ?_ _ | refine blk_drew ?_ | refine blk_alloc ?_ _)); refine blk_far ?_ NB1258_1264.out _; (with_reducible repeat (first | refine blk_drewN ?_ _ | refine blk_drew ?_ | refine blk_alloc ?_ _)); refine blk_far ?_ NB1258_1264.out _; (with_reducible repeat (first | refine blk_drewN ?_ _ | refine blk_drew ?_ | refine blk_alloc ?_ _)); refine blk_far ?_ NB1258_1264.out _; (with_reducible repeat (first | refine blk_drewN ?_ _ | refine blk_drew ?_ | refine blk_alloc ?_ _)); refine blk_far ?_ NB1258_1264.out _; (with_reducible repeat (first | refine blk_drewN ?_ _ | refine blk_drew ?_ | refine blk_alloc ?_ _)); refine blk_far ?_ NB1258_1264.out _; (with_reducible repeat (first | refine blk_drewN ?_ _ | refine blk_drew ?_ | refine blk_alloc ?_ _)); refine blk_far ?_ NB1258_1264.out _; (with_reducible repeat (first | refine blk_drewN ?_ _ | refine blk_drew ?_ | refine blk_alloc ?_ _)); refine blk_far ?_ NB1258_1264.out _; (with_reducible repeat (first | refine blk_drewN ?_ _ | refine blk_drew ?_ | refine blk_alloc ?_ _)); refine blk_far ?_ NB1258_1264.out _; (with_reducible repeat (first | refine blk_drewN ?_ _ | refine blk_drew ?_ | refine blk_alloc ?_ _)); refine blk_far ?_ NB1258_1264.out _; (with_reducible repeat (first | refine blk_drewN ?_ _ | refine blk_drew ?_ | refine blk_alloc ?_ _)); exact BK1258.out) hb); have n2_ := Aside0.mk (blk_below (g := gb1264) (o := .cells #[.int .i64 ((rd_T52 l0_2 x17_1).f0.f0), .int .i64 ((rd_T52 l0_2 x17_1).f0.f1.f0), .int .i64 ((rd_T52 l0_2 x17_1).f0.f1.f1), .int .i64 ((rd_T52 l0_2 x17_1).f0.f2.f0), .int .i64 ((rd_T52 l0_2 x17_1).f0.f2.f1), .int .i64 ((rd_T52 l0_2 x17_1).f0.f3), .int .i64 ((rd_T52 l0_2 x17_1).f1), .int .i64 ((rd_T52 l0_2 x17_1).f2.f0), .int .i64 ((rd_T52 l0_2 x17_1).f2.f1), .int .i64 ((rd_T52 l0_2 x17_1).f3), .slice A1263_10 ((rd_T52 l0_2 x17_1).f4).length c1263_10] 52 (0, 0)) (by (with_reducible repeat (first | refine blk_drewN ?_ _ | refine blk_drew ?_ | refine blk_alloc ?_ _)); refine blk_put (cs := #[.int .i64 ((rd_T52 l0_2 x17_1).f0.f0), .int .i64 ((rd_T52 l0_2 x17_1).f0.f1.f0), .int .i64 ((rd_T52 l0_2 x17_1).f0.f1.f1), .int .i64 ((rd_T52 l0_2 x17_1).f0.f2.f0), .int .i64 ((rd_T52 l0_2 x17_1).f0.f2.f1), .int .i64 ((rd_T52 l0_2 x17_1).f0.f3), .int .i64 ((rd_T52 l0_2 x17_1).f1), .int .i64 ((rd_T52 l0_2 x17_1).f2.f0), .int .i64 ((rd_T52 l0_2 x17_1).f2.f1), .int .i64 ((rd_T52 l0_2 x17_1).f3), .slice none 0 0]) ?_ 10 _ rfl; (with_reducible repeat (first | refine blk_drewN ?_ _ | refine blk_drew ?_ | refine blk_alloc ?_ _)); refine blk_put (cs := #[.int .i64 ((rd_T52 l0_2 x17_1).f0.f0), .int .i64 ((rd_T52 l0_2 x17_1).f0.f1.f0), .int .i64 ((rd_T52 l0_2 x17_1).f0.f1.f1), .int .i64 ((rd_T52 l0_2 x17_1).f0.f2.f0), .int .i64 ((rd_T52 l0_2 x17_1).f0.f2.f1), .int .i64 ((rd_T52 l0_2 x17_1).f0.f3), .int .i64 ((rd_T52 l0_2 x17_1).f1), .int .i64 ((rd_T52 l0_2 x17_1).f2.f0), .int .i64 ((rd_T52 l0_2 x17_1).f2.f1), .int .i64 0, .slice none 0 0]) ?_ 9 _ rfl; (with_reducible repeat (first | refine blk_drewN ?_ _ | refine blk_drew ?_ | refine blk_alloc ?_ _)); refine blk_put (cs := #[.int .i64 ((rd_T52 l0_2 x17_1).f0.f0), .int .i64 ((rd_T52 l0_2 x17_1).f0.f1.f0), .int .i64 ((rd_T52 l0_2 x17_1).f0.f1.f1), .int .i64 ((rd_T52 l0_2 x17_1).f0.f2.f0), .int .i64 ((rd_T52 l0_2 x17_1).f0.f2.f1), .int .i64 ((rd_T52 l0_2 x17_1).f0.f3), .int .i64 ((rd_T52 l0_2 x17_1).f1), .int .i64 ((rd_T52 l0_2 x17_1).f2.f0), .int .i64 0, .int .i64 0, .slice none 0 0]) ?_ 8 _ rfl; (with_reducible repeat (first | refine blk_drewN ?_ _ | refine blk_drew ?_ | refine blk_alloc ?_ _)); refine blk_put (cs := #[.int .i64 ((rd_T52 l0_2 x17_1).f0.f0), .int .i64 ((rd_T52 l0_2 x17_1).f0.f1.f0), .int .i64 ((rd_T52 l0_2 x17_1).f0.f1.f1), .int .i64 ((rd_T52 l0_2 x17_1).f0.f2.f0), .int .i64 ((rd_T52 l0_2 x17_1).f0.f2.f1), .int .i64 ((rd_T52 l0_2 x17_1).f0.f3), .int .i64 ((rd_T52 l0_2 x17_1).f1), .int .i64 0, .int .i64 0, .int .i64 0, .slice none 0 0]) ?_ 7 _ rfl; (with_reducible repeat (first | refine blk_drewN ?_ _ | refine blk_drew ?_ | refine blk_alloc ?_ _)); refine blk_put (cs := #[.int .i64 ((rd_T52 l0_2 x17_1).f0.f0), .int .i64 ((rd_T52 l0_2 x17_1).f0.f1.f0), .int .i64 ((rd_T52 l0_2 x17_1).f0.f1.f1), .int .i64 ((rd_T52 l0_2 x17_1).f0.f2.f0), .int .i64 ((rd_T52 l0_2 x17_1).f0.f2.f1), .int .i64 ((rd_T52 l0_2 x17_1).f0.f3), .int .i64 0, .int .i64 0, .int .i64 0, .int .i64 0, .slice none 0 0]) ?_ 6 _ rfl; (with_reducible repeat (first | refine blk_drewN ?_ _ | refine blk_drew ?_ | refine blk_alloc ?_ _)); refine blk_put (cs := #[.int .i64 ((rd_T52 l0_2 x17_1).f0.f0), .int .i64 ((rd_T52 l0_2 x17_1).f0.f1.f0), .int .i64 ((rd_T52 l0_2 x17_1).f0.f1.f1), .int .i64 ((rd_T52 l0_2 x17_1).f0.f2.f0), .int .i64 ((rd_T52 l0_2 x17_1).f0.f2.f1), .int .i64 0, .int .i64 0, .int .i64 0, .int .i64 0, .int .i64 0, .slice none 0 0]) ?_ 5 _ rfl; (with_reducible repeat (first | refine blk_drewN ?_ _ | refine blk_drew ?_ | refine blk_alloc ?_ _)); refine blk_put (cs := #[.int .i64 ((rd_T52 l0_2 x17_1).f0.f0), .int .i64 ((rd_T52 l0_2 x17_1).f0.f1.f0), .int .i64 ((rd_T52 l0_2 x17_1).f0.f1.f1), .int .i64 ((rd_T52 l0_2 x17_1).f0.f2.f0), .int .i64 0, .int .i64 0, .int .i64 0, .int .i64 0, .int .i64 0, .int .i64 0, .slice none 0 0]) ?_ 4 _ rfl; (with_reducible repeat (first | refine blk_drewN ?_ _ | refine blk_drew ?_ | refine blk_alloc ?_ _)); refine blk_put (cs := #[.int .i64 ((rd_T52 l0_2 x17_1).f0.f0), .int .i64 ((rd_T52 l0_2 x17_1).f0.f1.f0), .int .i64 ((rd_T52 l0_2 x17_1).f0.f1.f1), .int .i64 0, .int .i64 0, .int .i64 0, .int .i64 0, .int .i64 0, .int .i64 0, .int .i64 0, .slice none 0 0]) ?_ 3 _ rfl; (with_reducible repeat (first | refine blk_drewN ?_ _ | refine blk_drew ?_ | refine blk_alloc ?_ _)); refine blk_put (cs := #[.int .i64 ((rd_T52 l0_2 x17_1).f0.f0), .int .i64 ((rd_T52 l0_2 x17_1).f0.f1.f0), .int .i64 0, .int .i64 0, .int .i64 0, .int .i64 0, .int .i64 0, .int .i64 0, .int .i64 0, .int .i64 0, .slice none 0 0]) ?_ 2 _ rfl; (with_reducible repeat (first | refine blk_drewN ?_ _ | refine blk_drew ?_ | refine blk_alloc ?_ _)); refine blk_put (cs := #[.int .i64 ((rd_T52 l0_2 x17_1).f0.f0), .int .i64 0, .int .i64 0, .int .i64 0, .int .i64 0, .int .i64 0, .int .i64 0, .int .i64 0, .int .i64 0, .int .i64 0, .slice none 0 0]) ?_ 1 _ rfl; (with_reducible repeat (first | refine blk_drewN ?_ _ | refine blk_drew ?_ | refine blk_alloc ?_ _)); refine blk_put (cs := #[.int .i64 0, .int .i64 0, .int .i64 0, .int .i64 0, .int .i64 0, .int .i64 0, .int .i64 0, .int .i64 0, .int .i64 0, .int .i64 0, .slice none 0 0]) ?_ 0 _ rfl; (with_reducible repeat (first | refine blk_drewN ?_ _ | refine blk_drew ?_ | refine blk_alloc ?_ _)); exact BK1264.out) hb); have n3_ := Aside0.mk (below_step (by repeat (first | (with_reducible first | exact HB.out | apply below_alloc | apply pw_below_drewN | apply below_drew1 | refine below_set ?_ GE1258.out | refine below_set ?_ GE1264.out) | exact HB.out)) hb); clear BK1258; clear BK1264; clear HB; have HO1267 := n0_; have BK1258 := n1_; have BK1264 := n2_; have HB := n3_; clear n0_ n1_ n2_ n3_; clear hb ho17; obtain ⟨Ao18, co18, eo18⟩ := Kd.R_slice HO1267.out; subst eo18) | ((with_reducible refine gate_callee (f := 19) rfl ?_); refine goesL_ (some 33) rfl rfl Try.func19 (by kernel_rfl) rfl #[.int .i64 x3_1, .slice Ao18 y1265.length co18] rfl (by (try simp only [List.map_toArray, List.map_cons, List.map_nil]); first | done | rfl | (simp only [List.length_drop, List.length_take]; rfl)) ?_; (with_reducible refine (impl_mixed.calls k1 x3_1 _ _ y1265 t1268 _ ?side1 ?side2 A12.out).mono ?_); (case side1 => repeat (first | exact (Kd.R_reads' HO1267.out).2.2 | (with_reducible refine Kd.C_alloc ?_ _) | (with_reducible refine Kd.C_drewN ?_ _) | (with_reducible refine Kd.C_drew ?_))); (case side2 => exact (Kd.R_reads' HO1267.out).2.1); rintro e w' ⟨rfl, ⟨nd, rfl⟩⟩; refine ⟨_, rfl, ?_⟩; have hcz19_0 : w16.cell? ⟨gb1264, 0, none⟩ = some (.int .i64 ((rd_T52 l0_2 x17_1).f0.f0)) := (blk_cell BK1264.out 0).trans rfl; have hcz19_1 : w16.cell? ⟨gb1264, 1, none⟩ = some (.int .i64 ((rd_T52 l0_2 x17_1).f0.f1.f0)) := (blk_cell BK1264.out 1).trans rfl; have hcz19_2 : w16.cell? ⟨gb1264, 2, none⟩ = some (.int .i64 ((rd_T52 l0_2 x17_1).f0.f1.f1)) := (blk_cell BK1264.out 2).trans rfl; have hcz19_3 : w16.cell? ⟨gb1264, 3, none⟩ = some (.int .i64 ((rd_T52 l0_2 x17_1).f0.f2.f0)) := (blk_cell BK1264.out 3).trans rfl; have hcz19_4 : w16.cell? ⟨gb1264, 4, none⟩ = some (.int .i64 ((rd_T52 l0_2 x17_1).f0.f2.f1)) := (blk_cell BK1264.out 4).trans rfl; have hcz19_5 : w16.cell? ⟨gb1264, 5, none⟩ = some (.int .i64 ((rd_T52 l0_2 x17_1).f0.f3)) := (blk_cell BK1264.out 5).trans rfl; have hcz19_6 : w16.cell? ⟨gb1264, 6, none⟩ = some (.int .i64 ((rd_T52 l0_2 x17_1).f1)) := (blk_cell BK1264.out 6).trans rfl; have hcz19_7 : w16.cell? ⟨gb1264, 7, none⟩ = some (.int .i64 ((rd_T52 l0_2 x17_1).f2.f0)) := (blk_cell BK1264.out 7).trans rfl; have hcz19_8 : w16.cell? ⟨gb1264, 8, none⟩ = some (.int .i64 ((rd_T52 l0_2 x17_1).f2.f1)) := (blk_cell BK1264.out 8).trans rfl; have hcz19_9 : w16.cell? ⟨gb1264, 9, none⟩ = some (.int .i64 ((rd_T52 l0_2 x17_1).f3)) := (blk_cell BK1264.out 9).trans rfl; have hcz19_10 : w16.cell? ⟨gb1264, 10, none⟩ = some (.slice A1263_10 ((rd_T52 l0_2 x17_1).f4).length c1263_10) := (blk_cell BK1264.out 10).trans rfl; have hfz19_0 := blk_frozen BK1264.out 0; have hfz19_1 := blk_frozen BK1264.out 1; have hfz19_2 := blk_frozen BK1264.out 2; have hfz19_3 := blk_frozen BK1264.out 3; have hfz19_4 := blk_frozen BK1264.out 4; have hfz19_5 := blk_frozen BK1264.out 5; have hfz19_6 := blk_frozen BK1264.out 6; have hfz19_7 := blk_frozen BK1264.out 7; have hfz19_8 := blk_frozen BK1264.out 8; have hfz19_9 := blk_frozen BK1264.out 9; have hfz19_10 := blk_frozen BK1264.out 10))
            go_loopg [3, 37] k1 (fun kq v3 v37 w' => ∃ (x3_2 : Int) (x37_2 : Int), v3 = .int .i64 x3_2 ∧ v37 = .int .i64 x37_2 ∧ Aside0 (impl_BatMark.l1 kq x3_2 l0_2 (l0_2.length : Int) x17_1 ((rd_T52 l0_2 x17_1).f4) (((rd_T52 l0_2 x17_1).f4).length : Int) x37_2 a0_0 a0_1 l0_2 a0_3 l0_4 l0_5 = some r) ∧ Aside0 (kq ≤ k1) ∧ Aside0 (w'.heap[gb1258]? = some (.cells #[.int .i64 a0_0, .int .i64 a0_1, (.slice (some ad1263) l0_2.length c0_2), .int .i64 a0_3, (.slice A0_4 l0_4.length c0_4), (.slice A0_5 l0_5.length c0_5)] 27 (0, 0))) ∧ Aside0 (w'.heap[gb1264]? = some (.cells #[.int .i64 ((rd_T52 l0_2 x17_1).f0.f0), .int .i64 ((rd_T52 l0_2 x17_1).f0.f1.f0), .int .i64 ((rd_T52 l0_2 x17_1).f0.f1.f1), .int .i64 ((rd_T52 l0_2 x17_1).f0.f2.f0), .int .i64 ((rd_T52 l0_2 x17_1).f0.f2.f1), .int .i64 ((rd_T52 l0_2 x17_1).f0.f3), .int .i64 ((rd_T52 l0_2 x17_1).f1), .int .i64 ((rd_T52 l0_2 x17_1).f2.f0), .int .i64 ((rd_T52 l0_2 x17_1).f2.f1), .int .i64 ((rd_T52 l0_2 x17_1).f3), (.slice A1263_10 ((rd_T52 l0_2 x17_1).f4).length c1263_10)] 52 (0, 0))) ∧ Aside0 (Below w.heap.size w w'))
            case atStart => exact ⟨(t1268), (0), (by first | rfl | (simp; done) | (simp [*]; done)), (by first | rfl | (simp; done) | (simp [*]; done)), H', ⟨Nat.le_refl _⟩, ⟨by (with_reducible repeat (first | refine blk_drewN ?_ _ | refine blk_drew ?_ | refine blk_alloc ?_ _)); exact BK1258.out⟩, ⟨by (with_reducible repeat (first | refine blk_drewN ?_ _ | refine blk_drew ?_ | refine blk_alloc ?_ _)); exact BK1264.out⟩, ⟨by repeat (first | (with_reducible first | exact HB.out | apply below_alloc | apply pw_below_drewN | apply below_drew1 | refine below_set ?_ GE1258.out | refine below_set ?_ GE1264.out) | exact HB.out)⟩⟩
            case round =>
              clear H'
              try clear c1
              try clear p1
              try clear q1
              try clear hx1
              try clear p2
              try clear c7
              try clear c9
              try clear c9b0
              try clear c10
              try clear c10b0
              try clear c11
              try clear c11b0
              try clear c12
              try clear p12
              try clear q12
              try clear hx12
              try clear c14
              try clear c19
              try clear hcz15_0
              try clear hcz15_1
              try clear hcz15_10
              try clear hcz15_2
              try clear hcz15_3
              try clear hcz15_4
              try clear hcz15_5
              try clear hcz15_6
              try clear hcz15_7
              try clear hcz15_8
              try clear hcz15_9
              try clear hcz19_0
              try clear hcz19_1
              try clear hcz19_10
              try clear hcz19_2
              try clear hcz19_3
              try clear hcz19_4
              try clear hcz19_5
              try clear hcz19_6
              try clear hcz19_7
              try clear hcz19_8
              try clear hcz19_9
              try clear hcz4_0
              try clear hcz4_1
              try clear hcz4_2
              try clear hcz4_3
              try clear hcz4_4
              try clear hcz4_5
              try clear hcz8_0
              try clear hcz8_1
              try clear hcz8_2
              try clear hcz8_3
              try clear hcz8_4
              try clear hcz8_5
              try clear hfz15_0
              try clear hfz15_1
              try clear hfz15_10
              try clear hfz15_2
              try clear hfz15_3
              try clear hfz15_4
              try clear hfz15_5
              try clear hfz15_6
              try clear hfz15_7
              try clear hfz15_8
              try clear hfz15_9
              try clear hfz19_0
              try clear hfz19_1
              try clear hfz19_10
              try clear hfz19_2
              try clear hfz19_3
              try clear hfz19_4
              try clear hfz19_5
              try clear hfz19_6
              try clear hfz19_7
              try clear hfz19_8
              try clear hfz19_9
              try clear hfz4_0
              try clear hfz4_1
              try clear hfz4_2
              try clear hfz4_3
              try clear hfz4_4
              try clear hfz4_5
              try clear hfz8_0
              try clear hfz8_1
              try clear hfz8_2
              try clear hfz8_3
              try clear hfz8_4
              try clear hfz8_5
              try clear hx1263_0
              try clear hx1263_1
              try clear hx1263_10
              try clear hx1263_2
              try clear hx1263_3
              try clear hx1263_4
              try clear hx1263_5
              try clear hx1263_6
              try clear hx1263_7
              try clear hx1263_8
              try clear hx1263_9
              try clear p1263
              try clear p2
              try clear q1263
              obtain ⟨x3_2, x37_2, rfl, rfl, HA, HK2, BK1258, BK1264, HB⟩ := hrel
              cases gk with
              | zero => exact absurd HA.out (by simp [impl_BatMark.l1])
              | succ k2 =>
                have H := HA.out
                clear HA
                simp only [impl_BatMark.l1] at H
                by_cases c20 : x37_2 < (((rd_T52 l0_2 x17_1).f4).length : Int)
                · rw [if_pos c20] at H
                  have c20b0 : decide (x37_2 < (((rd_T52 l0_2 x17_1).f4).length : Int)) = true := decide_eq_true c20
                  clear c20
                  by_cases c21 : 0 ≤ x37_2
                  · rw [if_pos c21] at H
                    have c21b0 : decide (0 ≤ x37_2) = true := decide_eq_true c21
                    clear c21
                    by_cases c22 : x37_2 < (((rd_T52 l0_2 x17_1).f4).length : Int)
                    · rw [if_pos c22] at H
                      have c22b0 : decide (x37_2 < (((rd_T52 l0_2 x17_1).f4).length : Int)) = true := decide_eq_true c22
                      clear c22
                      obtain ⟨y1271, hy1271⟩ : ∃ y_ : List Int, y_ = (([(rd_T47 ((rd_T52 l0_2 x17_1).f4) x37_2).f0, (rd_T47 ((rd_T52 l0_2 x17_1).f4) x37_2).f1] : List Int)) := ⟨_, rfl⟩
                      replace H : ((impl_mixed.f k2 x3_2 y1271).bind fun t1274 => (impl_BatMark.l1 k2 t1274 l0_2 (l0_2.length : Int) x17_1 ((rd_T52 l0_2 x17_1).f4) (((rd_T52 l0_2 x17_1).f4).length : Int) (wrap64 (x37_2 + 1)) a0_0 a0_1 l0_2 a0_3 l0_4 l0_5)) = some r := by first | (rw [hy1271]; with_reducible exact H) | (have H2_ := (Option.bind_some _ _).symm.trans H; rw [hy1271]; with_reducible exact H2_) | (have H2_ := (Option.bind_some _ _).symm.trans H; with_reducible exact H2_) | with_reducible exact H | (rw [hy1271]; exact H) | exact H
                      have Ny1271 := Aside0.mk hy1271
                      clear hy1271
                      replace H := Option.bind_eq_some_iff.mp H
                      obtain ⟨t1274, A230, H⟩ := H
                      replace H : (impl_BatMark.l1 k2 t1274 l0_2 (l0_2.length : Int) x17_1 ((rd_T52 l0_2 x17_1).f4) (((rd_T52 l0_2 x17_1).f4).length : Int) (wrap64 (x37_2 + 1)) a0_0 a0_1 l0_2 a0_3 l0_4 l0_5) = some r := H
                      have A23 := Aside0.mk A230
                      clear A230
                      have H' := Aside0.mk H
                      clear H
                      have p1269 : 0 ≤ (x37_2 : Int) := of_decide_eq_true (by first | (with_reducible assumption) | assumption)
                      have q1269 : x37_2 < (((rd_T52 l0_2 x17_1).f4).length : Int) := of_decide_eq_true (by first | (with_reducible assumption) | assumption)
                      obtain ⟨ad1269, e1269, hx1269_0, hx1269_1⟩ := at_T47 HR1263_10.out x37_2 p1269 q1269
                      cases e1269
                      replace hx1269_0 := (HB.out.cell (World.block_lt_of_cell? w _ hx1269_0)).trans hx1269_0
                      replace hx1269_1 := (HB.out.cell (World.block_lt_of_cell? w _ hx1269_1)).trans hx1269_1
                      replace p1269 := eq_true p1269
                      replace q1269 := eq_true q1269
                      go_wp2_with (first | ((with_reducible refine gate_dst (N := 7) rfl ?_); refine box_event ?hg (N := 7) ?hd (cs := #[.int .i64 0, .int .i64 0]) (t := 47) ?hr ?_; (case hd => rfl); (case hg => rfl); (case hr => first | (go_simp; done) | (go_simp; rfl)); intro gb1270 hg w24 hbox hb; have n0_ := Aside0.mk (blk_below (g := gb1258) (o := .cells #[.int .i64 a0_0, .int .i64 a0_1, .slice (some ad1263) l0_2.length c0_2, .int .i64 a0_3, .slice A0_4 l0_4.length c0_4, .slice A0_5 l0_5.length c0_5] 27 (0, 0)) (by (with_reducible repeat (first | refine blk_drewN ?_ _ | refine blk_drew ?_ | refine blk_alloc ?_ _)); exact BK1258.out) hb); have n1_ := Aside0.mk (blk_below (g := gb1264) (o := .cells #[.int .i64 ((rd_T52 l0_2 x17_1).f0.f0), .int .i64 ((rd_T52 l0_2 x17_1).f0.f1.f0), .int .i64 ((rd_T52 l0_2 x17_1).f0.f1.f1), .int .i64 ((rd_T52 l0_2 x17_1).f0.f2.f0), .int .i64 ((rd_T52 l0_2 x17_1).f0.f2.f1), .int .i64 ((rd_T52 l0_2 x17_1).f0.f3), .int .i64 ((rd_T52 l0_2 x17_1).f1), .int .i64 ((rd_T52 l0_2 x17_1).f2.f0), .int .i64 ((rd_T52 l0_2 x17_1).f2.f1), .int .i64 ((rd_T52 l0_2 x17_1).f3), .slice (some ad1269) ((rd_T52 l0_2 x17_1).f4).length c1263_10] 52 (0, 0)) (by (with_reducible repeat (first | refine blk_drewN ?_ _ | refine blk_drew ?_ | refine blk_alloc ?_ _)); exact BK1264.out) hb); have n2_ := Aside0.mk (below_step (by repeat (first | (with_reducible first | exact HB.out | apply below_alloc | apply pw_below_drewN | apply below_drew1 | refine below_set ?_ GE1258.out | refine below_set ?_ GE1264.out) | exact HB.out)) hb); have n3_ := Aside0.mk (hbox); have n4_ := Aside0.mk ((by rw [hg]; exact (below_size (by repeat (first | (with_reducible first | exact HB.out | apply below_alloc | apply pw_below_drewN | apply below_drew1 | refine below_set ?_ GE1258.out | refine below_set ?_ GE1264.out) | exact HB.out))) : w.heap.size ≤ gb1270)); have n5_ := Aside0.mk ((by rw [hg]; exact (below_size (by repeat (first | (with_reducible first | exact HB.out | apply below_alloc | apply pw_below_drewN | apply below_drew1 | refine below_set ?_ GE1258.out | refine below_set ?_ GE1264.out) | exact HB.out))) : w.heap.size ≤ gb1270)); have n6_ := Aside0.mk ((by rw [hg]; exact Nat.ne_of_lt (blk_lt (g := gb1258) (o := .cells #[.int .i64 a0_0, .int .i64 a0_1, .slice (some ad1263) l0_2.length c0_2, .int .i64 a0_3, .slice A0_4 l0_4.length c0_4, .slice A0_5 l0_5.length c0_5] 27 (0, 0)) (by (with_reducible repeat (first | refine blk_drewN ?_ _ | refine blk_drew ?_ | refine blk_alloc ?_ _)); exact BK1258.out)) : gb1258 ≠ gb1270)); have n7_ := Aside0.mk ((by rw [hg]; exact Nat.ne_of_gt (blk_lt (g := gb1258) (o := .cells #[.int .i64 a0_0, .int .i64 a0_1, .slice (some ad1263) l0_2.length c0_2, .int .i64 a0_3, .slice A0_4 l0_4.length c0_4, .slice A0_5 l0_5.length c0_5] 27 (0, 0)) (by (with_reducible repeat (first | refine blk_drewN ?_ _ | refine blk_drew ?_ | refine blk_alloc ?_ _)); exact BK1258.out)) : gb1270 ≠ gb1258)); have n8_ := Aside0.mk ((by rw [hg]; exact Nat.ne_of_lt (blk_lt (g := gb1264) (o := .cells #[.int .i64 ((rd_T52 l0_2 x17_1).f0.f0), .int .i64 ((rd_T52 l0_2 x17_1).f0.f1.f0), .int .i64 ((rd_T52 l0_2 x17_1).f0.f1.f1), .int .i64 ((rd_T52 l0_2 x17_1).f0.f2.f0), .int .i64 ((rd_T52 l0_2 x17_1).f0.f2.f1), .int .i64 ((rd_T52 l0_2 x17_1).f0.f3), .int .i64 ((rd_T52 l0_2 x17_1).f1), .int .i64 ((rd_T52 l0_2 x17_1).f2.f0), .int .i64 ((rd_T52 l0_2 x17_1).f2.f1), .int .i64 ((rd_T52 l0_2 x17_1).f3), .slice (some ad1269) ((rd_T52 l0_2 x17_1).f4).length c1263_10] 52 (0, 0)) (by (with_reducible repeat (first | refine blk_drewN ?_ _ | refine blk_drew ?_ | refine blk_alloc ?_ _)); exact BK1264.out)) : gb1264 ≠ gb1270)); have n9_ := Aside0.mk ((by rw [hg]; exact Nat.ne_of_gt (blk_lt (g := gb1264) (o := .cells #[.int .i64 ((rd_T52 l0_2 x17_1).f0.f0), .int .i64 ((rd_T52 l0_2 x17_1).f0.f1.f0), .int .i64 ((rd_T52 l0_2 x17_1).f0.f1.f1), .int .i64 ((rd_T52 l0_2 x17_1).f0.f2.f0), .int .i64 ((rd_T52 l0_2 x17_1).f0.f2.f1), .int .i64 ((rd_T52 l0_2 x17_1).f0.f3), .int .i64 ((rd_T52 l0_2 x17_1).f1), .int .i64 ((rd_T52 l0_2 x17_1).f2.f0), .int .i64 ((rd_T52 l0_2 x17_1).f2.f1), .int .i64 ((rd_T52 l0_2 x17_1).f3), .slice (some ad1269) ((rd_T52 l0_2 x17_1).f4).length c1263_10] 52 (0, 0)) (by (with_reducible repeat (first | refine blk_drewN ?_ _ | refine blk_drew ?_ | refine blk_alloc ?_ _)); exact BK1264.out)) : gb1270 ≠ gb1264)); clear BK1258; clear BK1264; clear HB; have BK1258 := n0_; have BK1264 := n1_; have HB := n2_; have BK1270 := n3_; have GW1270 := n4_; have GE1270 := n5_; have NB1258_1270 := n6_; have NB1270_1258 := n7_; have NB1264_1270 := n8_; have NB1270_1264 := n9_; clear n0_ n1_ n2_ n3_ n4_ n5_ n6_ n7_ n8_ n9_; clear hb hbox hg; have hnb25 := NB1270_1258.out; have hnc25 := NB1258_1270.out; have hnb26 := NB1270_1264.out; have hnc26 := NB1264_1270.out; have hcz27_0 : w24.cell? ⟨gb1270, 0, none⟩ = some (.int .i64 0) := (blk_cell BK1270.out 0).trans rfl; have hcz27_1 : w24.cell? ⟨gb1270, 1, none⟩ = some (.int .i64 0) := (blk_cell BK1270.out 1).trans rfl; have hfz27_0 := blk_frozen BK1270.out 0; have hfz27_1 := blk_frozen BK1270.out 1) | ((with_reducible refine gate_dst (N := 46) rfl ?_); refine Kd.R_lit (Kd.int .i64) _ 3 ?hg (N := 46) ?hd (xs := ([(rd_T47 ((rd_T52 l0_2 x17_1).f4) x37_2).f0, (rd_T47 ((rd_T52 l0_2 x17_1).f4) x37_2).f1] : List Int)) (inner := [.int .i64 ((rd_T47 ((rd_T52 l0_2 x17_1).f4) x37_2).f0), .int .i64 ((rd_T47 ((rd_T52 l0_2 x17_1).f4) x37_2).f1)]) (ok := fun _ => True) (okp := fun _ => True) ?hr ?hp (fun _ hk => hk) trivial (Below.refl _ _) (Nat.le_refl _) (by simp) ?_; (case hd => rfl); (case hg => rfl); (case hr => first | (go_simp; done) | (go_simp; rfl)); (case hp => exact (Reps.one (show Kd.M (Kd.int .i64) _ _ _ ((rd_T47 ((rd_T52 l0_2 x17_1).f4) x37_2).f0) [.int .i64 ((rd_T47 ((rd_T52 l0_2 x17_1).f4) x37_2).f0)] from rfl) (Reps.one (show Kd.M (Kd.int .i64) _ _ _ ((rd_T47 ((rd_T52 l0_2 x17_1).f4) x37_2).f1) [.int .i64 ((rd_T47 ((rd_T52 l0_2 x17_1).f4) x37_2).f1)] from rfl) (Reps.none _ _)))); intro v1272 w28 ho29 hb hg_ hnew_; clear hg_ hnew_; (first | rw [← Ny1271.out] at ho29 | (simp only [Int.reduceToNat] at ho29; rw [← Ny1271.out] at ho29)); have n0_ := Aside0.mk (Kd.R_lower ho29 (below_size (by repeat (first | (with_reducible first | exact HB.out | apply below_alloc | apply pw_below_drewN | apply below_drew1 | refine below_set ?_ GE1258.out | refine below_set ?_ GE1264.out | refine below_set ?_ GE1270.out) | exact HB.out)))); have n1_ := Aside0.mk (blk_below (g := gb1258) (o := .cells #[.int .i64 a0_0, .int .i64 a0_1, .slice (some ad1263) l0_2.length c0_2, .int .i64 a0_3, .slice A0_4 l0_4.length c0_4, .slice A0_5 l0_5.length c0_5] 27 (0, 0)) (by (with_reducible repeat (first | refine blk_drewN ?_ _ | refine blk_drew ?_ | refine blk_alloc ?_ _)); refine blk_far ?_ NB1258_1270.out _; (with_reducible repeat (first | refine blk_drewN ?_ _ | refine blk_drew ?_ | refine blk_alloc ?_ _)); refine blk_far ?_ NB1258_1270.out _; (with_reducible repeat (first | refine blk_drewN ?_ _ | refine blk_drew ?_ | refine blk_alloc ?_ _)); exact BK1258.out) hb); have n2_ := Aside0.mk (blk_below (g := gb1264) (o := .cells #[.int .i64 ((rd_T52 l0_2 x17_1).f0.f0), .int .i64 ((rd_T52 l0_2 x17_1).f0.f1.f0), .int .i64 ((rd_T52 l0_2 x17_1).f0.f1.f1), .int .i64 ((rd_T52 l0_2 x17_1).f0.f2.f0), .int .i64 ((rd_T52 l0_2 x17_1).f0.f2.f1), .int .i64 ((rd_T52 l0_2 x17_1).f0.f3), .int .i64 ((rd_T52 l0_2 x17_1).f1), .int .i64 ((rd_T52 l0_2 x17_1).f2.f0), .int .i64 ((rd_T52 l0_2 x17_1).f2.f1), .int .i64 ((rd_T52 l0_2 x17_1).f3), .slice (some ad1269) ((rd_T52 l0_2 x17_1).f4).length c1263_10] 52 (0, 0)) (by (with_reducible repeat (first | refine blk_drewN ?_ _ | refine blk_drew ?_ | refine blk_alloc ?_ _)); refine blk_far ?_ NB1264_1270.out _; (with_reducible repeat (first | refine blk_drewN ?_ _ | refine blk_drew ?_ | refine blk_alloc ?_ _)); refine blk_far ?_ NB1264_1270.out _; (with_reducible repeat (first | refine blk_drewN ?_ _ | refine blk_drew ?_ | refine blk_alloc ?_ _)); exact BK1264.out) hb); have n3_ := Aside0.mk (blk_below (g := gb1270) (o := .cells #[.int .i64 ((rd_T47 ((rd_T52 l0_2 x17_1).f4) x37_2).f0), .int .i64 ((rd_T47 ((rd_T52 l0_2 x17_1).f4) x37_2).f1)] 47 (0, 0)) (by (with_reducible repeat (first | refine blk_drewN ?_ _ | refine blk_drew ?_ | refine blk_alloc ?_ _)); refine blk_put (cs := #[.int .i64 ((rd_T47 ((rd_T52 l0_2 x17_1).f4) x37_2).f0), .int .i64 0]) ?_ 1 _ rfl; (with_reducible repeat (first | refine blk_drewN ?_ _ | refine blk_drew ?_ | refine blk_alloc ?_ _)); refine blk_put (cs := #[.int .i64 0, .int .i64 0]) ?_ 0 _ rfl; (with_reducible repeat (first | refine blk_drewN ?_ _ | refine blk_drew ?_ | refine blk_alloc ?_ _)); exact BK1270.out) hb); have n4_ := Aside0.mk (below_step (by repeat (first | (with_reducible first | exact HB.out | apply below_alloc | apply pw_below_drewN | apply below_drew1 | refine below_set ?_ GE1258.out | refine below_set ?_ GE1264.out | refine below_set ?_ GE1270.out) | exact HB.out)) hb); clear BK1258; clear BK1264; clear BK1270; clear HB; have HO1273 := n0_; have BK1258 := n1_; have BK1264 := n2_; have BK1270 := n3_; have HB := n4_; clear n0_ n1_ n2_ n3_ n4_; clear hb ho29; obtain ⟨Ao30, co30, eo30⟩ := Kd.R_slice HO1273.out; subst eo30) | ((with_reducible refine gate_callee (f := 19) rfl ?_); refine goesL_ (some 47) rfl rfl Try.func19 (by kernel_rfl) rfl #[.int .i64 x3_2, .slice Ao30 y1271.length co30] rfl (by (try simp only [List.map_toArray, List.map_cons, List.map_nil]); first | done | rfl | (simp only [List.length_drop, List.length_take]; rfl)) ?_; (with_reducible refine (impl_mixed.calls k2 x3_2 _ _ y1271 t1274 _ ?side1 ?side2 A23.out).mono ?_); (case side1 => repeat (first | exact (Kd.R_reads' HO1273.out).2.2 | (with_reducible refine Kd.C_alloc ?_ _) | (with_reducible refine Kd.C_drewN ?_ _) | (with_reducible refine Kd.C_drew ?_))); (case side2 => exact (Kd.R_reads' HO1273.out).2.1); rintro e w' ⟨rfl, ⟨nd, rfl⟩⟩; refine ⟨_, rfl, ?_⟩))
                      go_roundg k2
                      case measure => have := HK1.out; have := HK2.out; omega
                      case rel => exact ⟨(t1274), (wrap64 (x37_2 + 1)), (by first | rfl | (simp; done) | (simp [*]; done)), (by first | rfl | (simp; done) | (simp [*]; done)), H', ⟨by have := HK1.out; have := HK2.out; omega⟩, ⟨by (with_reducible repeat (first | refine blk_drewN ?_ _ | refine blk_drew ?_ | refine blk_alloc ?_ _)); exact BK1258.out⟩, ⟨by (with_reducible repeat (first | refine blk_drewN ?_ _ | refine blk_drew ?_ | refine blk_alloc ?_ _)); exact BK1264.out⟩, ⟨by repeat (first | (with_reducible first | exact HB.out | apply below_alloc | apply pw_below_drewN | apply below_drew1 | refine below_set ?_ GE1258.out | refine below_set ?_ GE1264.out | refine below_set ?_ GE1270.out) | exact HB.out)⟩⟩
                    · rw [if_neg c22] at H
                      exact absurd H (by simp)
                  · rw [if_neg c21] at H
                    exact absurd H (by simp)
                · rw [if_neg c20] at H
                  have c20b0 : decide (x37_2 < (((rd_T52 l0_2 x17_1).f4).length : Int)) = false := decide_eq_false c20
                  clear c20
                  have H' := Aside0.mk H
                  clear H
                  go_wp2
                  go_roundg k2
                  case measure => have := HK1.out; have := HK2.out; omega
                  case rel => exact ⟨(x3_2), (wrap64 (x17_1 + 1)), (by first | rfl | (simp; done) | (simp [*]; done)), (by first | rfl | (simp; done) | (simp [*]; done)), H', ⟨by have := HK1.out; have := HK2.out; omega⟩, ⟨by (with_reducible repeat (first | refine blk_drewN ?_ _ | refine blk_drew ?_ | refine blk_alloc ?_ _)); exact BK1258.out⟩, ⟨by repeat (first | (with_reducible first | exact HB.out | apply below_alloc | apply pw_below_drewN | apply below_drew1 | refine below_set ?_ GE1258.out | refine below_set ?_ GE1264.out) | exact HB.out)⟩⟩
          · rw [if_neg c11] at H
            exact absurd H (by simp)
        · rw [if_neg c10] at H
          exact absurd H (by simp)
      · rw [if_neg c9] at H
        have c9b0 : decide (x17_1 < (l0_2.length : Int)) = false := decide_eq_false c9
        clear c9
        have H' := Aside0.mk H
        clear H
        have hcz31_0 : wr.cell? ⟨gb1258, 0, none⟩ = some (.int .i64 a0_0) := (blk_cell BK1258.out 0).trans rfl
        have hcz31_1 : wr.cell? ⟨gb1258, 1, none⟩ = some (.int .i64 a0_1) := (blk_cell BK1258.out 1).trans rfl
        have hcz31_2 : wr.cell? ⟨gb1258, 2, none⟩ = some (.slice A0_2 l0_2.length c0_2) := (blk_cell BK1258.out 2).trans rfl
        have hcz31_3 : wr.cell? ⟨gb1258, 3, none⟩ = some (.int .i64 a0_3) := (blk_cell BK1258.out 3).trans rfl
        have hcz31_4 : wr.cell? ⟨gb1258, 4, none⟩ = some (.slice A0_4 l0_4.length c0_4) := (blk_cell BK1258.out 4).trans rfl
        have hcz31_5 : wr.cell? ⟨gb1258, 5, none⟩ = some (.slice A0_5 l0_5.length c0_5) := (blk_cell BK1258.out 5).trans rfl
        have hfz31_0 := blk_frozen BK1258.out 0
        have hfz31_1 := blk_frozen BK1258.out 1
        have hfz31_2 := blk_frozen BK1258.out 2
        have hfz31_3 := blk_frozen BK1258.out 3
        have hfz31_4 := blk_frozen BK1258.out 4
        have hfz31_5 := blk_frozen BK1258.out 5
        go_wp2
        go_loopg [3, 53] k1 (fun kq v3 v53 w' => ∃ (x3_2 : Int) (x53_2 : Int), v3 = .int .i64 x3_2 ∧ v53 = .int .i64 x53_2 ∧ Aside0 (impl_BatMark.l2 kq x3_2 l0_5 (l0_5.length : Int) x53_2 = some r) ∧ Aside0 (kq ≤ k1) ∧ Aside0 (w'.heap[gb1258]? = some (.cells #[.int .i64 a0_0, .int .i64 a0_1, (.slice A0_2 l0_2.length c0_2), .int .i64 a0_3, (.slice A0_4 l0_4.length c0_4), (.slice A0_5 l0_5.length c0_5)] 27 (0, 0))) ∧ Aside0 (Below w.heap.size w w'))
        case atStart => exact ⟨(x3_1), (0), (by first | rfl | (simp; done) | (simp [*]; done)), (by first | rfl | (simp; done) | (simp [*]; done)), H', ⟨Nat.le_refl _⟩, ⟨by (with_reducible repeat (first | refine blk_drewN ?_ _ | refine blk_drew ?_ | refine blk_alloc ?_ _)); exact BK1258.out⟩, ⟨by repeat (first | (with_reducible first | exact HB.out | apply below_alloc | apply pw_below_drewN | apply below_drew1 | refine below_set ?_ GE1258.out) | exact HB.out)⟩⟩
        case round =>
          clear H'
          try clear c1
          try clear p1
          try clear q1
          try clear hx1
          try clear c2
          try clear p2
          try clear p6
          try clear c7
          try clear c9
          try clear c9b0
          try clear c10
          try clear c10b0
          try clear c11
          try clear c11b0
          try clear c12
          try clear p12
          try clear q12
          try clear hx12
          try clear c14
          try clear c19
          try clear c20
          try clear c20b0
          try clear c21
          try clear c21b0
          try clear c22
          try clear c22b0
          try clear c25
          try clear c26
          try clear hcz15_0
          try clear hcz15_1
          try clear hcz15_10
          try clear hcz15_2
          try clear hcz15_3
          try clear hcz15_4
          try clear hcz15_5
          try clear hcz15_6
          try clear hcz15_7
          try clear hcz15_8
          try clear hcz15_9
          try clear hcz19_0
          try clear hcz19_1
          try clear hcz19_10
          try clear hcz19_2
          try clear hcz19_3
          try clear hcz19_4
          try clear hcz19_5
          try clear hcz19_6
          try clear hcz19_7
          try clear hcz19_8
          try clear hcz19_9
          try clear hcz27_0
          try clear hcz27_1
          try clear hcz31_0
          try clear hcz31_1
          try clear hcz31_2
          try clear hcz31_3
          try clear hcz31_4
          try clear hcz31_5
          try clear hcz4_0
          try clear hcz4_1
          try clear hcz4_2
          try clear hcz4_3
          try clear hcz4_4
          try clear hcz4_5
          try clear hcz8_0
          try clear hcz8_1
          try clear hcz8_2
          try clear hcz8_3
          try clear hcz8_4
          try clear hcz8_5
          try clear hfz15_0
          try clear hfz15_1
          try clear hfz15_10
          try clear hfz15_2
          try clear hfz15_3
          try clear hfz15_4
          try clear hfz15_5
          try clear hfz15_6
          try clear hfz15_7
          try clear hfz15_8
          try clear hfz15_9
          try clear hfz19_0
          try clear hfz19_1
          try clear hfz19_10
          try clear hfz19_2
          try clear hfz19_3
          try clear hfz19_4
          try clear hfz19_5
          try clear hfz19_6
          try clear hfz19_7
          try clear hfz19_8
          try clear hfz19_9
          try clear hfz27_0
          try clear hfz27_1
          try clear hfz31_0
          try clear hfz31_1
          try clear hfz31_2
          try clear hfz31_3
          try clear hfz31_4
          try clear hfz31_5
          try clear hfz4_0
          try clear hfz4_1
          try clear hfz4_2
          try clear hfz4_3
          try clear hfz4_4
          try clear hfz4_5
          try clear hfz8_0
          try clear hfz8_1
          try clear hfz8_2
          try clear hfz8_3
          try clear hfz8_4
          try clear hfz8_5
          try clear hx1263_0
          try clear hx1263_1
          try clear hx1263_10
          try clear hx1263_2
          try clear hx1263_3
          try clear hx1263_4
          try clear hx1263_5
          try clear hx1263_6
          try clear hx1263_7
          try clear hx1263_8
          try clear hx1263_9
          try clear hx1269_0
          try clear hx1269_1
          try clear p1
          try clear p12
          try clear p1263
          try clear p1269
          try clear p2
          try clear q1
          try clear q12
          try clear q1263
          try clear q1269
          obtain ⟨x3_2, x53_2, rfl, rfl, HA, HK2, BK1258, HB⟩ := hrel
          cases gk with
          | zero => exact absurd HA.out (by simp [impl_BatMark.l2])
          | succ k2 =>
            have H := HA.out
            clear HA
            simp only [impl_BatMark.l2] at H
            by_cases c32 : x53_2 < (l0_5.length : Int)
            · rw [if_pos c32] at H
              have c32b0 : decide (x53_2 < (l0_5.length : Int)) = true := decide_eq_true c32
              clear c32
              by_cases c33 : 0 ≤ x53_2
              · rw [if_pos c33] at H
                have c33b0 : decide (0 ≤ x53_2) = true := decide_eq_true c33
                clear c33
                by_cases c34 : x53_2 < (l0_5.length : Int)
                · rw [if_pos c34] at H
                  have c34b0 : decide (x53_2 < (l0_5.length : Int)) = true := decide_eq_true c34
                  clear c34
                  obtain ⟨y1276, hy1276⟩ : ∃ y_ : List Int, y_ = (([wrap64 (x53_2 + 1)] : List Int)) := ⟨_, rfl⟩
                  replace H : ((impl_mixed.f k2 x3_2 y1276).bind fun t1279 => (if rdOf false l0_5 x53_2 = true then ((impl_mixed.f k2 t1279 (([77] : List Int))).bind fun t1283 => (impl_BatMark.l2 k2 t1283 l0_5 (l0_5.length : Int) (wrap64 (x53_2 + 1)))) else (impl_BatMark.l2 k2 t1279 l0_5 (l0_5.length : Int) (wrap64 (x53_2 + 1))))) = some r := by first | (rw [hy1276]; with_reducible exact H) | (have H2_ := (Option.bind_some _ _).symm.trans H; rw [hy1276]; with_reducible exact H2_) | (have H2_ := (Option.bind_some _ _).symm.trans H; with_reducible exact H2_) | with_reducible exact H | (rw [hy1276]; exact H) | exact H
                  have Ny1276 := Aside0.mk hy1276
                  clear hy1276
                  replace H := Option.bind_eq_some_iff.mp H
                  obtain ⟨t1279, A350, H⟩ := H
                  replace H : (if rdOf false l0_5 x53_2 = true then ((impl_mixed.f k2 t1279 (([77] : List Int))).bind fun t1283 => (impl_BatMark.l2 k2 t1283 l0_5 (l0_5.length : Int) (wrap64 (x53_2 + 1)))) else (impl_BatMark.l2 k2 t1279 l0_5 (l0_5.length : Int) (wrap64 (x53_2 + 1)))) = some r := H
                  have A35 := Aside0.mk A350
                  clear A350
                  obtain ⟨bq36, hbq36⟩ : ∃ b_ : Bool, b_ = (rdOf false l0_5 x53_2) := ⟨_, rfl⟩
                  replace H : (if bq36 = true then ((impl_mixed.f k2 t1279 (([77] : List Int))).bind fun t1283 => (impl_BatMark.l2 k2 t1283 l0_5 (l0_5.length : Int) (wrap64 (x53_2 + 1)))) else (impl_BatMark.l2 k2 t1279 l0_5 (l0_5.length : Int) (wrap64 (x53_2 + 1)))) = some r := by rw [← hbq36] at H; exact H
                  have Nbq36 := Aside0.mk hbq36
                  clear hbq36
                  by_cases c37 : bq36 = true
                  · subst c37
                    have H1 : ((impl_mixed.f k2 t1279 (([77] : List Int))).bind fun t1283 => (impl_BatMark.l2 k2 t1283 l0_5 (l0_5.length : Int) (wrap64 (x53_2 + 1)))) = some r := by rw [if_pos rfl] at H; exact H
                    clear H
                    have H := H1
                    clear H1
                    obtain ⟨y1280, hy1280⟩ : ∃ y_ : List Int, y_ = (([77] : List Int)) := ⟨_, rfl⟩
                    replace H : ((impl_mixed.f k2 t1279 y1280).bind fun t1283 => (impl_BatMark.l2 k2 t1283 l0_5 (l0_5.length : Int) (wrap64 (x53_2 + 1)))) = some r := by first | (rw [hy1280]; with_reducible exact H) | (have H2_ := (Option.bind_some _ _).symm.trans H; rw [hy1280]; with_reducible exact H2_) | (have H2_ := (Option.bind_some _ _).symm.trans H; with_reducible exact H2_) | with_reducible exact H | (rw [hy1280]; exact H) | exact H
                    have Ny1280 := Aside0.mk hy1280
                    clear hy1280
                    replace H := Option.bind_eq_some_iff.mp H
                    obtain ⟨t1283, A380, H⟩ := H
                    replace H : (impl_BatMark.l2 k2 t1283 l0_5 (l0_5.length : Int) (wrap64 (x53_2 + 1))) = some r := H
                    have A38 := Aside0.mk A380
                    clear A380
                    have H' := Aside0.mk H
                    clear H
                    have p1275 : 0 ≤ (x53_2 : Int) := of_decide_eq_true (by first | (with_reducible assumption) | assumption)
                    have q1275 : x53_2 < (l0_5.length : Int) := of_decide_eq_true (by first | (with_reducible assumption) | assumption)
                    obtain ⟨ad1275, e1275, hx1275_0⟩ := Kd.at_bool HR0_5.out x53_2 p1275 q1275
                    (try rw [← Nbq36.out] at hx1275_0)
                    cases e1275
                    replace hx1275_0 := (HB.out.cell (World.block_lt_of_cell? w _ hx1275_0)).trans hx1275_0
                    replace p1275 := eq_true p1275
                    replace q1275 := eq_true q1275
                    go_wp2_with (first | ((with_reducible refine gate_dst (N := 61) rfl ?_); refine Kd.R_lit (Kd.int .i64) _ 3 ?hg (N := 61) ?hd (xs := ([wrap64 (x53_2 + 1)] : List Int)) (inner := [.int .i64 (wrap64 (x53_2 + 1))]) (ok := fun _ => True) (okp := fun _ => True) ?hr ?hp (fun _ hk => hk) trivial (Below.refl _ _) (Nat.le_refl _) (by simp) ?_; (case hd => rfl); (case hg => rfl); (case hr => first | (go_simp; done) | (go_simp; rfl)); (case hp => exact (Reps.one (show Kd.M (Kd.int .i64) _ _ _ (wrap64 (x53_2 + 1)) [.int .i64 (wrap64 (x53_2 + 1))] from rfl) (Reps.none _ _))); intro v1277 w39 ho40 hb hg_ hnew_; clear hg_ hnew_; (first | rw [← Ny1276.out] at ho40 | (simp only [Int.reduceToNat] at ho40; rw [← Ny1276.out] at ho40)); have n0_ := Aside0.mk (Kd.R_lower ho40 (below_size (by repeat (first | (with_reducible first | exact HB.out | apply below_alloc | apply pw_below_drewN | apply below_drew1 | refine below_set ?_ GE1258.out) | exact HB.out)))); have n1_ := Aside0.mk (blk_below (g := gb1258) (o := .cells #[.int .i64 a0_0, .int .i64 a0_1, .slice A0_2 l0_2.length c0_2, .int .i64 a0_3, .slice A0_4 l0_4.length c0_4, .slice (some ad1275) l0_5.length c0_5] 27 (0, 0)) (by (with_reducible repeat (first | refine blk_drewN ?_ _ | refine blk_drew ?_ | refine blk_alloc ?_ _)); exact BK1258.out) hb); have n2_ := Aside0.mk (below_step (by repeat (first | (with_reducible first | exact HB.out | apply below_alloc | apply pw_below_drewN | apply below_drew1 | refine below_set ?_ GE1258.out) | exact HB.out)) hb); clear BK1258; clear HB; have HO1278 := n0_; have BK1258 := n1_; have HB := n2_; clear n0_ n1_ n2_; clear hb ho40; obtain ⟨Ao41, co41, eo41⟩ := Kd.R_slice HO1278.out; subst eo41) | ((with_reducible refine gate_callee (f := 19) rfl ?_); refine goesL_ (some 62) rfl rfl Try.func19 (by kernel_rfl) rfl #[.int .i64 x3_2, .slice Ao41 y1276.length co41] rfl (by (try simp only [List.map_toArray, List.map_cons, List.map_nil]); first | done | rfl | (simp only [List.length_drop, List.length_take]; rfl)) ?_; (with_reducible refine (impl_mixed.calls k2 x3_2 _ _ y1276 t1279 _ ?side1 ?side2 A35.out).mono ?_); (case side1 => repeat (first | exact (Kd.R_reads' HO1278.out).2.2 | (with_reducible refine Kd.C_alloc ?_ _) | (with_reducible refine Kd.C_drewN ?_ _) | (with_reducible refine Kd.C_drew ?_))); (case side2 => exact (Kd.R_reads' HO1278.out).2.1); rintro e w' ⟨rfl, ⟨nd, rfl⟩⟩; refine ⟨_, rfl, ?_⟩) | ((with_reducible refine gate_dst (N := 65) rfl ?_); refine Kd.R_lit (Kd.int .i64) _ 3 ?hg (N := 65) ?hd (xs := ([77] : List Int)) (inner := [.int .i64 77]) (ok := fun _ => True) (okp := fun _ => True) ?hr ?hp (fun _ hk => hk) trivial (Below.refl _ _) (Nat.le_refl _) (by simp) ?_; (case hd => rfl); (case hg => rfl); (case hr => first | (go_simp; done) | (go_simp; rfl)); (case hp => exact (Reps.one (show Kd.M (Kd.int .i64) _ _ _ 77 [.int .i64 77] from rfl) (Reps.none _ _))); intro v1281 w42 ho43 hb hg_ hnew_; clear hg_ hnew_; (first | rw [← Ny1280.out] at ho43 | (simp only [Int.reduceToNat] at ho43; rw [← Ny1280.out] at ho43)); have n0_ := Aside0.mk (Kd.R_elder' (by (with_reducible repeat (first | apply Kd.R_alloc | apply Kd.R_drewN | apply Kd.R_drew)); exact HO1278.out) (Kd.R_base ho43) hb); have n1_ := Aside0.mk (Kd.R_lower (Kd.R_new' ho43 (Kd.R_lt (by (with_reducible repeat (first | apply Kd.R_alloc | apply Kd.R_drewN | apply Kd.R_drew)); exact HO1278.out))) (below_size (by repeat (first | (with_reducible first | exact HB.out | apply below_alloc | apply pw_below_drewN | apply below_drew1 | refine below_set ?_ GE1258.out) | exact HB.out)))); have n2_ := Aside0.mk (blk_below (g := gb1258) (o := .cells #[.int .i64 a0_0, .int .i64 a0_1, .slice A0_2 l0_2.length c0_2, .int .i64 a0_3, .slice A0_4 l0_4.length c0_4, .slice (some ad1275) l0_5.length c0_5] 27 (0, 0)) (by (with_reducible repeat (first | refine blk_drewN ?_ _ | refine blk_drew ?_ | refine blk_alloc ?_ _)); exact BK1258.out) hb); have n3_ := Aside0.mk (below_step (by repeat (first | (with_reducible first | exact HB.out | apply below_alloc | apply pw_below_drewN | apply below_drew1 | refine below_set ?_ GE1258.out) | exact HB.out)) hb); clear HO1278; clear BK1258; clear HB; have HO1278 := n0_; have HO1282 := n1_; have BK1258 := n2_; have HB := n3_; clear n0_ n1_ n2_ n3_; clear hb ho43; obtain ⟨Ao44, co44, eo44⟩ := Kd.R_slice HO1282.out; subst eo44) | ((with_reducible refine gate_callee (f := 19) rfl ?_); refine goesL_ (some 66) rfl rfl Try.func19 (by kernel_rfl) rfl #[.int .i64 t1279, .slice Ao44 y1280.length co44] rfl (by (try simp only [List.map_toArray, List.map_cons, List.map_nil]); first | done | rfl | (simp only [List.length_drop, List.length_take]; rfl)) ?_; (with_reducible refine (impl_mixed.calls k2 t1279 _ _ y1280 t1283 _ ?side1 ?side2 A38.out).mono ?_); (case side1 => repeat (first | exact (Kd.R_reads' HO1282.out).2.2 | (with_reducible refine Kd.C_alloc ?_ _) | (with_reducible refine Kd.C_drewN ?_ _) | (with_reducible refine Kd.C_drew ?_))); (case side2 => exact (Kd.R_reads' HO1282.out).2.1); rintro e w' ⟨rfl, ⟨nd, rfl⟩⟩; refine ⟨_, rfl, ?_⟩))
                    go_roundg k2
                    case measure => have := HK1.out; have := HK2.out; omega
                    case rel => exact ⟨(t1283), (wrap64 (x53_2 + 1)), (by first | rfl | (simp; done) | (simp [*]; done)), (by first | rfl | (simp; done) | (simp [*]; done)), H', ⟨by have := HK1.out; have := HK2.out; omega⟩, ⟨by (with_reducible repeat (first | refine blk_drewN ?_ _ | refine blk_drew ?_ | refine blk_alloc ?_ _)); exact BK1258.out⟩, ⟨by repeat (first | (with_reducible first | exact HB.out | apply below_alloc | apply pw_below_drewN | apply below_drew1 | refine below_set ?_ GE1258.out) | exact HB.out)⟩⟩
                  · replace c37 := Bool.eq_false_iff.mpr c37
                    subst c37
                    have H1 : (impl_BatMark.l2 k2 t1279 l0_5 (l0_5.length : Int) (wrap64 (x53_2 + 1))) = some r := by rw [if_neg (show ¬ (false = true) by decide)] at H; exact H
                    clear H
                    have H := H1
                    clear H1
                    have H' := Aside0.mk H
                    clear H
                    have p1275 : 0 ≤ (x53_2 : Int) := of_decide_eq_true (by first | (with_reducible assumption) | assumption)
                    have q1275 : x53_2 < (l0_5.length : Int) := of_decide_eq_true (by first | (with_reducible assumption) | assumption)
                    obtain ⟨ad1275, e1275, hx1275_0⟩ := Kd.at_bool HR0_5.out x53_2 p1275 q1275
                    (try rw [← Nbq36.out] at hx1275_0)
                    cases e1275
                    replace hx1275_0 := (HB.out.cell (World.block_lt_of_cell? w _ hx1275_0)).trans hx1275_0
                    replace p1275 := eq_true p1275
                    replace q1275 := eq_true q1275
                    go_wp2_with (first | ((with_reducible refine gate_dst (N := 61) rfl ?_); refine Kd.R_lit (Kd.int .i64) _ 3 ?hg (N := 61) ?hd (xs := ([wrap64 (x53_2 + 1)] : List Int)) (inner := [.int .i64 (wrap64 (x53_2 + 1))]) (ok := fun _ => True) (okp := fun _ => True) ?hr ?hp (fun _ hk => hk) trivial (Below.refl _ _) (Nat.le_refl _) (by simp) ?_; (case hd => rfl); (case hg => rfl); (case hr => first | (go_simp; done) | (go_simp; rfl)); (case hp => exact (Reps.one (show Kd.M (Kd.int .i64) _ _ _ (wrap64 (x53_2 + 1)) [.int .i64 (wrap64 (x53_2 + 1))] from rfl) (Reps.none _ _))); intro v1277 w45 ho46 hb hg_ hnew_; clear hg_ hnew_; (first | rw [← Ny1276.out] at ho46 | (simp only [Int.reduceToNat] at ho46; rw [← Ny1276.out] at ho46)); have n0_ := Aside0.mk (Kd.R_lower ho46 (below_size (by repeat (first | (with_reducible first | exact HB.out | apply below_alloc | apply pw_below_drewN | apply below_drew1 | refine below_set ?_ GE1258.out) | exact HB.out)))); have n1_ := Aside0.mk (blk_below (g := gb1258) (o := .cells #[.int .i64 a0_0, .int .i64 a0_1, .slice A0_2 l0_2.length c0_2, .int .i64 a0_3, .slice A0_4 l0_4.length c0_4, .slice (some ad1275) l0_5.length c0_5] 27 (0, 0)) (by (with_reducible repeat (first | refine blk_drewN ?_ _ | refine blk_drew ?_ | refine blk_alloc ?_ _)); exact BK1258.out) hb); have n2_ := Aside0.mk (below_step (by repeat (first | (with_reducible first | exact HB.out | apply below_alloc | apply pw_below_drewN | apply below_drew1 | refine below_set ?_ GE1258.out) | exact HB.out)) hb); clear BK1258; clear HB; have HO1278 := n0_; have BK1258 := n1_; have HB := n2_; clear n0_ n1_ n2_; clear hb ho46; obtain ⟨Ao47, co47, eo47⟩ := Kd.R_slice HO1278.out; subst eo47) | ((with_reducible refine gate_callee (f := 19) rfl ?_); refine goesL_ (some 62) rfl rfl Try.func19 (by kernel_rfl) rfl #[.int .i64 x3_2, .slice Ao47 y1276.length co47] rfl (by (try simp only [List.map_toArray, List.map_cons, List.map_nil]); first | done | rfl | (simp only [List.length_drop, List.length_take]; rfl)) ?_; (with_reducible refine (impl_mixed.calls k2 x3_2 _ _ y1276 t1279 _ ?side1 ?side2 A35.out).mono ?_); (case side1 => repeat (first | exact (Kd.R_reads' HO1278.out).2.2 | (with_reducible refine Kd.C_alloc ?_ _) | (with_reducible refine Kd.C_drewN ?_ _) | (with_reducible refine Kd.C_drew ?_))); (case side2 => exact (Kd.R_reads' HO1278.out).2.1); rintro e w' ⟨rfl, ⟨nd, rfl⟩⟩; refine ⟨_, rfl, ?_⟩))
                    go_roundg k2
                    case measure => have := HK1.out; have := HK2.out; omega
                    case rel => exact ⟨(t1279), (wrap64 (x53_2 + 1)), (by first | rfl | (simp; done) | (simp [*]; done)), (by first | rfl | (simp; done) | (simp [*]; done)), H', ⟨by have := HK1.out; have := HK2.out; omega⟩, ⟨by (with_reducible repeat (first | refine blk_drewN ?_ _ | refine blk_drew ?_ | refine blk_alloc ?_ _)); exact BK1258.out⟩, ⟨by repeat (first | (with_reducible first | exact HB.out | apply below_alloc | apply pw_below_drewN | apply below_drew1 | refine below_set ?_ GE1258.out) | exact HB.out)⟩⟩
                · rw [if_neg c34] at H
                  exact absurd H (by simp)
              · rw [if_neg c33] at H
                exact absurd H (by simp)
            · rw [if_neg c32] at H
              have c32b0 : decide (x53_2 < (l0_5.length : Int)) = false := decide_eq_false c32
              clear c32
              obtain rfl := Option.some.inj H
              go_wp2
              go_ret
              exact ⟨by first | rfl | (simp [errW_none, errW_some] <;> rfl) | (simp [*, errW_none, errW_some] <;> rfl), by repeat (first | (with_reducible first | exact HB.out | apply below_alloc | apply pw_below_drewN | apply below_drew1 | refine below_set ?_ GE1258.out) | exact HB.out)⟩

/-! ### impl_in: function 33 -/
def impl_in.f (a0 : Int) (a1 : Int) (a2 : Int) : Option (Bool) := if a0 ≥ a1 then (some (decide (a0 ≤ a2))) else (some false)
set_option maxHeartbeats 8000000 in
set_option maxRecDepth 100000 in
theorem impl_in.calls (a0 : Int) (a1 : Int) (a2 : Int) (r : Bool) (w : World) (h : impl_in.f a0 a1 a2 = some r) :
    Calls Try.prog 33 #[.int .i64 a0, .int .i64 a1, .int .i64 a2] w fun e w' => e = .returned (.bool r) ∧ Drawn0 w w' := by
  have H : (if a0 ≥ a1 then (some (decide (a0 ≤ a2))) else (some false)) = some r := h
  clear h
  by_cases c4 : a0 ≥ a1
  · rw [if_pos c4] at H
    have c4b0 : decide (a1 ≤ a0) = true := decide_eq_true c4
    clear c4
    obtain rfl := Option.some.inj H
    go_enter Try.func33, Try.ntmps33
    go_wp2
    go_ret
    exact ⟨by first | rfl | (simp; done) | (simp [*]; done), by repeat (first | exact Drawn0.refl _ | apply Drawn0.step)⟩
  · rw [if_neg c4] at H
    have c4b0 : decide (a1 ≤ a0) = false := decide_eq_false c4
    clear c4
    obtain rfl := Option.some.inj H
    go_enter Try.func33, Try.ntmps33
    go_wp2
    go_ret
    exact ⟨by first | rfl | (simp; done) | (simp [*]; done), by repeat (first | exact Drawn0.refl _ | apply Drawn0.step)⟩

/-! ### impl_DayLeap: function 54 -/
def impl_DayLeap.f (a0 : Int) : Option (Bool) := if (Int.tmod a0 4) = 0 then (if (Int.tmod a0 100) = 0 then (some ((Int.tmod a0 400) == 0)) else (some true)) else (some false)
set_option maxHeartbeats 8000000 in
set_option maxRecDepth 100000 in
theorem impl_DayLeap.calls (a0 : Int) (r : Bool) (w : World) (h : impl_DayLeap.f a0 = some r) :
    Calls Try.prog 54 #[.int .i64 a0] w fun e w' => e = .returned (.bool r) ∧ Drawn0 w w' := by
  have H : (if (Int.tmod a0 4) = 0 then (if (Int.tmod a0 100) = 0 then (some ((Int.tmod a0 400) == 0)) else (some true)) else (some false)) = some r := h
  clear h
  by_cases c2 : (Int.tmod a0 4) = 0
  · rw [if_pos c2] at H
    have c2b0 : ((Int.tmod a0 4) == 0) = true := beq_iff_eq.mpr c2
    have c2b1 : ((Int.tmod a0 4) != 0) = false := bne_eq_false_iff_eq.mpr c2
    clear c2
    by_cases c3 : (Int.tmod a0 100) = 0
    · rw [if_pos c3] at H
      have c3b0 : ((Int.tmod a0 100) == 0) = true := beq_iff_eq.mpr c3
      have c3b1 : ((Int.tmod a0 100) != 0) = false := bne_eq_false_iff_eq.mpr c3
      clear c3
      obtain rfl := Option.some.inj H
      go_enter Try.func54, Try.ntmps54
      go_wp2
      go_ret
      exact ⟨by first | rfl | (simp; done) | (simp [*]; done), by repeat (first | exact Drawn0.refl _ | apply Drawn0.step)⟩
    · rw [if_neg c3] at H
      have c3b0 : ((Int.tmod a0 100) == 0) = false := beq_eq_false_iff_ne.mpr c3
      have c3b1 : ((Int.tmod a0 100) != 0) = true := bne_iff_ne.mpr c3
      obtain rfl := Option.some.inj H
      go_enter Try.func54, Try.ntmps54
      go_wp2
      go_ret
      exact ⟨by first | rfl | (simp; done) | (simp [*]; done), by repeat (first | exact Drawn0.refl _ | apply Drawn0.step)⟩
  · rw [if_neg c2] at H
    have c2b0 : ((Int.tmod a0 4) == 0) = false := beq_eq_false_iff_ne.mpr c2
    have c2b1 : ((Int.tmod a0 4) != 0) = true := bne_iff_ne.mpr c2
    obtain rfl := Option.some.inj H
    go_enter Try.func54, Try.ntmps54
    go_wp2
    go_ret
    exact ⟨by first | rfl | (simp; done) | (simp [*]; done), by repeat (first | exact Drawn0.refl _ | apply Drawn0.step)⟩

end Go.Proofs.Ytipfdcmjcelbiaa.All
