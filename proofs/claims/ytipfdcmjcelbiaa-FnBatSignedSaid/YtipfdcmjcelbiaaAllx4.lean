-- Written by the session's own program wip/allprint.py, which drives the kit's print; Lean checks it.
import Derived.Test.YtipfdcmjcelbiaaAllx0
import Derived.Test.YtipfdcmjcelbiaaAllx3
namespace Go.Proofs.Ytipfdcmjcelbiaa.All
open Go.RowKit Go.Proofs.YtipfdcmjcelbiaaW.PrintWords Go.Proofs.YtipfdcmjcelbiaaW.PrintLast Go.Proofs.YtipfdcmjcelbiaaW.PrintMore
attribute [local go_sem] max2_int min2_int max_two min_two max_three min_three max_four min_four   -- for this text's walks alone
set_option linter.unusedVariables false
set_option linter.unusedSimpArgs false

/-! ### spec_BatMark: function 8 -/
mutual
def spec_BatMark.l0 : Nat → Int → Int → Int → Int → List (S52) → Int → List (S41) → List Bool → Option (Int)
  | 0, _, _, _, _, _, _, _, _ => none
  | k + 1, x3, x4, x287000, x287001, x287002, x287003, x287004, x287005 => if x4 < (x287002.length : Int) then (if 0 ≤ x4 then ((spec_l6Mix.f x3 ((rd_T52 x287002 x4).f1)).bind fun t290 => ((spec_l6Mix.f t290 ((rd_T52 x287002 x4).f2.f0)).bind fun t291 => ((spec_l6Mix.f t291 ((rd_T52 x287002 x4).f2.f1)).bind fun t292 => ((spec_l6Mix.f t292 ((rd_T52 x287002 x4).f3)).bind fun t293 => (spec_BatMark.l1 k t293 x4 0 x287000 x287001 x287002 x287003 x287004 x287005 ((rd_T52 x287002 x4).f0.f0) ((rd_T52 x287002 x4).f0.f1.f0) ((rd_T52 x287002 x4).f0.f1.f1) ((rd_T52 x287002 x4).f0.f2.f0) ((rd_T52 x287002 x4).f0.f2.f1) ((rd_T52 x287002 x4).f0.f3) ((rd_T52 x287002 x4).f1) ((rd_T52 x287002 x4).f2.f0) ((rd_T52 x287002 x4).f2.f1) ((rd_T52 x287002 x4).f3) ((rd_T52 x287002 x4).f4)))))) else (none)) else (spec_BatMark.l2 k x3 0 x287000 x287001 x287002 x287003 x287004 x287005)
def spec_BatMark.l1 : Nat → Int → Int → Int → Int → Int → List (S52) → Int → List (S41) → List Bool → Int → Int → Int → Int → Int → Int → Int → Int → Int → Int → List (S47) → Option (Int)
  | 0, _, _, _, _, _, _, _, _, _, _, _, _, _, _, _, _, _, _, _, _ => none
  | k + 1, x3, x4, x6, x287000, x287001, x287002, x287003, x287004, x287005, x290000, x290001, x290002, x290003, x290004, x290005, x290006, x290007, x290008, x290009, x290010 => if x6 < (x290010.length : Int) then (if 0 ≤ x6 then ((spec_l6Mix.f x3 ((rd_T47 x290010 x6).f0)).bind fun t295 => ((spec_l6Mix.f t295 ((rd_T47 x290010 x6).f1)).bind fun t297 => (spec_BatMark.l1 k t297 x4 (wrap64 (x6 + 1)) x287000 x287001 x287002 x287003 x287004 x287005 x290000 x290001 x290002 x290003 x290004 x290005 x290006 x290007 x290008 x290009 x290010))) else (none)) else (spec_BatMark.l0 k x3 (wrap64 (x4 + 1)) x287000 x287001 x287002 x287003 x287004 x287005)
def spec_BatMark.l2 : Nat → Int → Int → Int → Int → List (S52) → Int → List (S41) → List Bool → Option (Int)
  | 0, _, _, _, _, _, _, _, _ => none
  | k + 1, x3, x7, x287000, x287001, x287002, x287003, x287004, x287005 => if x7 < (x287005.length : Int) then ((spec_l6Mix.f x3 (wrap64 (x7 + 1))).bind fun t298 => (if 0 ≤ x7 then (if rdOf false x287005 x7 = true then ((spec_l6Mix.f t298 77).bind fun t300 => (spec_BatMark.l2 k t300 (wrap64 (x7 + 1)) x287000 x287001 x287002 x287003 x287004 x287005)) else (spec_BatMark.l2 k t298 (wrap64 (x7 + 1)) x287000 x287001 x287002 x287003 x287004 x287005)) else (none))) else (some x3)
end
def spec_BatMark.f (k : Nat) (a0_0 : Int) (a0_1 : Int) (l0_2 : List (S52)) (a0_3 : Int) (l0_4 : List (S41)) (l0_5 : List Bool) : Option (Int) := (spec_l6Mix.f 1 a0_0).bind fun t287 => (spec_BatMark.l0 k t287 0 a0_0 a0_1 l0_2 a0_3 l0_4 l0_5)
theorem spec_BatMark.mono_l : ∀ k, (∀ y0 y1 y2 y3 y4 y5 y6 y7, LeO (spec_BatMark.l0 k y0 y1 y2 y3 y4 y5 y6 y7) (spec_BatMark.l0 (k + 1) y0 y1 y2 y3 y4 y5 y6 y7)) ∧ (∀ y0 y1 y2 y3 y4 y5 y6 y7 y8 y9 y10 y11 y12 y13 y14 y15 y16 y17 y18 y19, LeO (spec_BatMark.l1 k y0 y1 y2 y3 y4 y5 y6 y7 y8 y9 y10 y11 y12 y13 y14 y15 y16 y17 y18 y19) (spec_BatMark.l1 (k + 1) y0 y1 y2 y3 y4 y5 y6 y7 y8 y9 y10 y11 y12 y13 y14 y15 y16 y17 y18 y19)) ∧ (∀ y0 y1 y2 y3 y4 y5 y6 y7, LeO (spec_BatMark.l2 k y0 y1 y2 y3 y4 y5 y6 y7) (spec_BatMark.l2 (k + 1) y0 y1 y2 y3 y4 y5 y6 y7))
  | 0 => ⟨fun _ _ _ _ _ _ _ _ r h => by simp [spec_BatMark.l0] at h, fun _ _ _ _ _ _ _ _ _ _ _ _ _ _ _ _ _ _ _ _ r h => by simp [spec_BatMark.l1] at h, fun _ _ _ _ _ _ _ _ r h => by simp [spec_BatMark.l2] at h⟩
  | k + 1 => by
    obtain ⟨ih0, ih1, ih2⟩ := spec_BatMark.mono_l k
    refine ⟨?_, ?_, ?_⟩
    · intro y0 y1 y2 y3 y4 y5 y6 y7
      unfold spec_BatMark.l0
      repeat' first
      | (with_reducible exact ih0 _ _ _ _ _ _ _ _)
      | (with_reducible exact ih1 _ _ _ _ _ _ _ _ _ _ _ _ _ _ _ _ _ _ _ _)
      | (with_reducible exact ih2 _ _ _ _ _ _ _ _)
      | (with_reducible exact LeO.refl _)
      | (with_reducible exact LeO.none _)
      | (with_reducible refine LeO.ite ?_ ?_)
      | (with_reducible refine LeO.bind ?_ (fun _ => ?_))
      | exact ih0 _ _ _ _ _ _ _ _
      | exact ih1 _ _ _ _ _ _ _ _ _ _ _ _ _ _ _ _ _ _ _ _
      | exact ih2 _ _ _ _ _ _ _ _
      | exact LeO.none _
      | refine LeO.ite ?_ ?_
      | refine LeO.bind ?_ (fun _ => ?_)
    · intro y0 y1 y2 y3 y4 y5 y6 y7 y8 y9 y10 y11 y12 y13 y14 y15 y16 y17 y18 y19
      unfold spec_BatMark.l1
      repeat' first
      | (with_reducible exact ih0 _ _ _ _ _ _ _ _)
      | (with_reducible exact ih1 _ _ _ _ _ _ _ _ _ _ _ _ _ _ _ _ _ _ _ _)
      | (with_reducible exact ih2 _ _ _ _ _ _ _ _)
      | (with_reducible exact LeO.refl _)
      | (with_reducible exact LeO.none _)
      | (with_reducible refine LeO.ite ?_ ?_)
      | (with_reducible refine LeO.bind ?_ (fun _ => ?_))
      | exact ih0 _ _ _ _ _ _ _ _
      | exact ih1 _ _ _ _ _ _ _ _ _ _ _ _ _ _ _ _ _ _ _ _
      | exact ih2 _ _ _ _ _ _ _ _
      | exact LeO.none _
      | refine LeO.ite ?_ ?_
      | refine LeO.bind ?_ (fun _ => ?_)
    · intro y0 y1 y2 y3 y4 y5 y6 y7
      unfold spec_BatMark.l2
      repeat' first
      | (with_reducible exact ih0 _ _ _ _ _ _ _ _)
      | (with_reducible exact ih1 _ _ _ _ _ _ _ _ _ _ _ _ _ _ _ _ _ _ _ _)
      | (with_reducible exact ih2 _ _ _ _ _ _ _ _)
      | (with_reducible exact LeO.refl _)
      | (with_reducible exact LeO.none _)
      | (with_reducible refine LeO.ite ?_ ?_)
      | (with_reducible refine LeO.bind ?_ (fun _ => ?_))
      | exact ih0 _ _ _ _ _ _ _ _
      | exact ih1 _ _ _ _ _ _ _ _ _ _ _ _ _ _ _ _ _ _ _ _
      | exact ih2 _ _ _ _ _ _ _ _
      | exact LeO.none _
      | refine LeO.ite ?_ ?_
      | refine LeO.bind ?_ (fun _ => ?_)
theorem spec_BatMark.mono : ∀ a0 a1 a2 a3 a4 a5 k, LeO (spec_BatMark.f k a0 a1 a2 a3 a4 a5) (spec_BatMark.f (k + 1) a0 a1 a2 a3 a4 a5) := by
  intro a0 a1 a2 a3 a4 a5 k
  obtain ⟨ih0, ih1, ih2⟩ := spec_BatMark.mono_l k
  unfold spec_BatMark.f
  repeat' first
      | (with_reducible exact ih0 _ _ _ _ _ _ _ _)
      | (with_reducible exact ih1 _ _ _ _ _ _ _ _ _ _ _ _ _ _ _ _ _ _ _ _)
      | (with_reducible exact ih2 _ _ _ _ _ _ _ _)
      | (with_reducible exact LeO.refl _)
      | (with_reducible exact LeO.none _)
      | (with_reducible refine LeO.ite ?_ ?_)
      | (with_reducible refine LeO.bind ?_ (fun _ => ?_))
      | exact ih0 _ _ _ _ _ _ _ _
      | exact ih1 _ _ _ _ _ _ _ _ _ _ _ _ _ _ _ _ _ _ _ _
      | exact ih2 _ _ _ _ _ _ _ _
      | exact LeO.none _
      | refine LeO.ite ?_ ?_
      | refine LeO.bind ?_ (fun _ => ?_)
set_option maxHeartbeats 8000000 in
set_option maxRecDepth 100000 in
theorem spec_BatMark.calls (k : Nat) (a0_0 : Int) (a0_1 : Int) (A0_2 : Option Addr) (c0_2 : Nat) (l0_2 : List (S52)) (a0_3 : Int) (A0_4 : Option Addr) (c0_4 : Nat) (l0_4 : List (S41)) (A0_5 : Option Addr) (c0_5 : Nat) (l0_5 : List Bool) (r : Int) (w : World) (hr0_2 : Kd.C k52 w A0_2 l0_2.length l0_2) (hc0_2 : l0_2.length ≤ c0_2) (hr0_4 : Kd.C k41 w A0_4 l0_4.length l0_4) (hc0_4 : l0_4.length ≤ c0_4) (hr0_5 : Kd.C Kd.bool w A0_5 l0_5.length l0_5) (hc0_5 : l0_5.length ≤ c0_5) (h : spec_BatMark.f k a0_0 a0_1 l0_2 a0_3 l0_4 l0_5 = some r) :
    Calls Try.prog 8 #[.agg #[.int .i64 a0_0, .int .i64 a0_1, .slice A0_2 l0_2.length c0_2, .int .i64 a0_3, .slice A0_4 l0_4.length c0_4, .slice A0_5 l0_5.length c0_5]] w fun e w' => e = .returned (.int .i64 r) ∧ Below w.heap.size w w' := by
  have hu27 := Try.underlying27
  have hu52 := Try.underlying52
  have HR0_2 := Aside0.mk hr0_2
  have HC0_2 := Aside0.mk hc0_2
  clear hr0_2 hc0_2
  have HR0_4 := Aside0.mk hr0_4
  have HC0_4 := Aside0.mk hc0_4
  clear hr0_4 hc0_4
  have HR0_5 := Aside0.mk hr0_5
  have HC0_5 := Aside0.mk hc0_5
  clear hr0_5 hc0_5
  have HB := Aside0.mk (Below.refl w.heap.size w)
  have H : ((spec_l6Mix.f 1 a0_0).bind fun t287 => (spec_BatMark.l0 k t287 0 a0_0 a0_1 l0_2 a0_3 l0_4 l0_5)) = some r := h
  clear h
  replace H := Option.bind_eq_some_iff.mp H
  obtain ⟨t287, A20, H⟩ := H
  replace H : (spec_BatMark.l0 k t287 0 a0_0 a0_1 l0_2 a0_3 l0_4 l0_5) = some r := H
  have A2 := Aside0.mk A20
  clear A20
  have H' := Aside0.mk H
  clear H
  go_enter Try.func8, Try.ntmps8
  go_wp2_with (first | ((with_reducible refine gate_dst (N := 1) rfl ?_); refine box_event ?hg (N := 1) ?hd (cs := #[.int .i64 a0_0, .int .i64 a0_1, .slice A0_2 l0_2.length c0_2, .int .i64 a0_3, .slice A0_4 l0_4.length c0_4, .slice A0_5 l0_5.length c0_5]) (t := 27) ?hr ?_; (case hd => rfl); (case hg => rfl); (case hr => first | (go_simp; done) | (go_simp; rfl)); intro gb286 hg w3 hbox hb; have n0_ := Aside0.mk (below_step (by repeat (first | (with_reducible first | exact HB.out | apply below_alloc | apply pw_below_drewN | apply below_drew1) | exact HB.out)) hb); have n1_ := Aside0.mk (hbox); have n2_ := Aside0.mk ((by rw [hg]; exact (below_size (by repeat (first | (with_reducible first | exact HB.out | apply below_alloc | apply pw_below_drewN | apply below_drew1) | exact HB.out))) : w.heap.size ≤ gb286)); have n3_ := Aside0.mk ((by rw [hg]; exact (below_size (by repeat (first | (with_reducible first | exact HB.out | apply below_alloc | apply pw_below_drewN | apply below_drew1) | exact HB.out))) : w.heap.size ≤ gb286)); clear HB; have HB := n0_; have BK286 := n1_; have GW286 := n2_; have GE286 := n3_; clear n0_ n1_ n2_ n3_; clear hb hbox hg; have hcz4_0 : w3.cell? ⟨gb286, 0, none⟩ = some (.int .i64 a0_0) := (blk_cell BK286.out 0).trans rfl; have hcz4_1 : w3.cell? ⟨gb286, 1, none⟩ = some (.int .i64 a0_1) := (blk_cell BK286.out 1).trans rfl; have hcz4_2 : w3.cell? ⟨gb286, 2, none⟩ = some (.slice A0_2 l0_2.length c0_2) := (blk_cell BK286.out 2).trans rfl; have hcz4_3 : w3.cell? ⟨gb286, 3, none⟩ = some (.int .i64 a0_3) := (blk_cell BK286.out 3).trans rfl; have hcz4_4 : w3.cell? ⟨gb286, 4, none⟩ = some (.slice A0_4 l0_4.length c0_4) := (blk_cell BK286.out 4).trans rfl; have hcz4_5 : w3.cell? ⟨gb286, 5, none⟩ = some (.slice A0_5 l0_5.length c0_5) := (blk_cell BK286.out 5).trans rfl; have hfz4_0 := blk_frozen BK286.out 0; have hfz4_1 := blk_frozen BK286.out 1; have hfz4_2 := blk_frozen BK286.out 2; have hfz4_3 := blk_frozen BK286.out 3; have hfz4_4 := blk_frozen BK286.out 4; have hfz4_5 := blk_frozen BK286.out 5) | (go_at_call 20; (with_reducible refine (spec_l6Mix.calls 1 a0_0 t287 _ A2.out).mono ?_); rintro e w' ⟨rfl, ⟨nd, rfl⟩⟩; (try first | exact ⟨rfl, _, World.drewN_drewN _ _ _⟩ | exact ⟨rfl, _, Eq.trans (World.drewN_drewN _ _ _) (congrArg (World.drewN _) (Nat.add_assoc _ _ _))⟩)))
  repeat (go_quiet (first | ((with_reducible refine gate_dst (N := 1) rfl ?_); refine box_event ?hg (N := 1) ?hd (cs := #[.int .i64 a0_0, .int .i64 a0_1, .slice A0_2 l0_2.length c0_2, .int .i64 a0_3, .slice A0_4 l0_4.length c0_4, .slice A0_5 l0_5.length c0_5]) (t := 27) ?hr ?_; (case hd => rfl); (case hg => rfl); (case hr => first | (go_simp; done) | (go_simp; rfl)); intro gb286 hg w3 hbox hb; have n0_ := Aside0.mk (below_step (by repeat (first | (with_reducible first | exact HB.out | apply below_alloc | apply pw_below_drewN | apply below_drew1) | exact HB.out)) hb); have n1_ := Aside0.mk (hbox); have n2_ := Aside0.mk ((by rw [hg]; exact (below_size (by repeat (first | (with_reducible first | exact HB.out | apply below_alloc | apply pw_below_drewN | apply below_drew1) | exact HB.out))) : w.heap.size ≤ gb286)); have n3_ := Aside0.mk ((by rw [hg]; exact (below_size (by repeat (first | (with_reducible first | exact HB.out | apply below_alloc | apply pw_below_drewN | apply below_drew1) | exact HB.out))) : w.heap.size ≤ gb286)); clear HB; have HB := n0_; have BK286 := n1_; have GW286 := n2_; have GE286 := n3_; clear n0_ n1_ n2_ n3_; clear hb hbox hg; have hcz4_0 : w3.cell? ⟨gb286, 0, none⟩ = some (.int .i64 a0_0) := (blk_cell BK286.out 0).trans rfl; have hcz4_1 : w3.cell? ⟨gb286, 1, none⟩ = some (.int .i64 a0_1) := (blk_cell BK286.out 1).trans rfl; have hcz4_2 : w3.cell? ⟨gb286, 2, none⟩ = some (.slice A0_2 l0_2.length c0_2) := (blk_cell BK286.out 2).trans rfl; have hcz4_3 : w3.cell? ⟨gb286, 3, none⟩ = some (.int .i64 a0_3) := (blk_cell BK286.out 3).trans rfl; have hcz4_4 : w3.cell? ⟨gb286, 4, none⟩ = some (.slice A0_4 l0_4.length c0_4) := (blk_cell BK286.out 4).trans rfl; have hcz4_5 : w3.cell? ⟨gb286, 5, none⟩ = some (.slice A0_5 l0_5.length c0_5) := (blk_cell BK286.out 5).trans rfl; have hfz4_0 := blk_frozen BK286.out 0; have hfz4_1 := blk_frozen BK286.out 1; have hfz4_2 := blk_frozen BK286.out 2; have hfz4_3 := blk_frozen BK286.out 3; have hfz4_4 := blk_frozen BK286.out 4; have hfz4_5 := blk_frozen BK286.out 5) | (go_at_call 20; (with_reducible refine (spec_l6Mix.calls 1 a0_0 t287 _ A2.out).mono ?_); rintro e w' ⟨rfl, ⟨nd, rfl⟩⟩; (try first | exact ⟨rfl, _, World.drewN_drewN _ _ _⟩ | exact ⟨rfl, _, Eq.trans (World.drewN_drewN _ _ _) (congrArg (World.drewN _) (Nat.add_assoc _ _ _))⟩))); try go_wp2_with (first | ((with_reducible refine gate_dst (N := 1) rfl ?_); refine box_event ?hg (N := 1) ?hd (cs := #[.int .i64 a0_0, .int .i64 a0_1, .slice A0_2 l0_2.length c0_2, .int .i64 a0_3, .slice A0_4 l0_4.length c0_4, .slice A0_5 l0_5.length c0_5]) (t := 27) ?hr ?_; (case hd => rfl); (case hg => rfl); (case hr => first | (go_simp; done) | (go_simp; rfl)); intro gb286 hg w3 hbox hb; have n0_ := Aside0.mk (below_step (by repeat (first | (with_reducible first | exact HB.out | apply below_alloc | apply pw_below_drewN | apply below_drew1) | exact HB.out)) hb); have n1_ := Aside0.mk (hbox); have n2_ := Aside0.mk ((by rw [hg]; exact (below_size (by repeat (first | (with_reducible first | exact HB.out | apply below_alloc | apply pw_below_drewN | apply below_drew1) | exact HB.out))) : w.heap.size ≤ gb286)); have n3_ := Aside0.mk ((by rw [hg]; exact (below_size (by repeat (first | (with_reducible first | exact HB.out | apply below_alloc | apply pw_below_drewN | apply below_drew1) | exact HB.out))) : w.heap.size ≤ gb286)); clear HB; have HB := n0_; have BK286 := n1_; have GW286 := n2_; have GE286 := n3_; clear n0_ n1_ n2_ n3_; clear hb hbox hg; have hcz4_0 : w3.cell? ⟨gb286, 0, none⟩ = some (.int .i64 a0_0) := (blk_cell BK286.out 0).trans rfl; have hcz4_1 : w3.cell? ⟨gb286, 1, none⟩ = some (.int .i64 a0_1) := (blk_cell BK286.out 1).trans rfl; have hcz4_2 : w3.cell? ⟨gb286, 2, none⟩ = some (.slice A0_2 l0_2.length c0_2) := (blk_cell BK286.out 2).trans rfl; have hcz4_3 : w3.cell? ⟨gb286, 3, none⟩ = some (.int .i64 a0_3) := (blk_cell BK286.out 3).trans rfl; have hcz4_4 : w3.cell? ⟨gb286, 4, none⟩ = some (.slice A0_4 l0_4.length c0_4) := (blk_cell BK286.out 4).trans rfl; have hcz4_5 : w3.cell? ⟨gb286, 5, none⟩ = some (.slice A0_5 l0_5.length c0_5) := (blk_cell BK286.out 5).trans rfl; have hfz4_0 := blk_frozen BK286.out 0; have hfz4_1 := blk_frozen BK286.out 1; have hfz4_2 := blk_frozen BK286.out 2; have hfz4_3 := blk_frozen BK286.out 3; have hfz4_4 := blk_frozen BK286.out 4; have hfz4_5 := blk_frozen BK286.out 5) | (go_at_call 20; (with_reducible refine (spec_l6Mix.calls 1 a0_0 t287 _ A2.out).mono ?_); rintro e w' ⟨rfl, ⟨nd, rfl⟩⟩; (try first | exact ⟨rfl, _, World.drewN_drewN _ _ _⟩ | exact ⟨rfl, _, Eq.trans (World.drewN_drewN _ _ _) (congrArg (World.drewN _) (Nat.add_assoc _ _ _))⟩))))
  go_loopg [3, 4] k (fun kq v3 v4 w' => ∃ (x3_1 : Int) (x4_1 : Int), v3 = .int .i64 x3_1 ∧ v4 = .int .i64 x4_1 ∧ Aside0 (spec_BatMark.l0 kq x3_1 x4_1 a0_0 a0_1 l0_2 a0_3 l0_4 l0_5 = some r) ∧ Aside0 (kq ≤ k) ∧ Aside0 (w'.heap[gb286]? = some (.cells #[.int .i64 a0_0, .int .i64 a0_1, (.slice A0_2 l0_2.length c0_2), .int .i64 a0_3, (.slice A0_4 l0_4.length c0_4), (.slice A0_5 l0_5.length c0_5)] 27 (0, 0))) ∧ Aside0 (Below w.heap.size w w'))
  case atStart => exact ⟨(t287), (0), (by first | rfl | (simp; done) | (simp [*]; done)), (by first | rfl | (simp; done) | (simp [*]; done)), H', ⟨Nat.le_refl _⟩, ⟨by (with_reducible repeat (first | refine blk_drewN ?_ _ | refine blk_drew ?_ | refine blk_alloc ?_ _)); exact BK286.out⟩, ⟨by repeat (first | (with_reducible first | exact HB.out | apply below_alloc | apply pw_below_drewN | apply below_drew1 | refine below_set ?_ GE286.out) | exact HB.out)⟩⟩
  case round =>
    clear H'
    try clear p2
    try clear hcz4_0
    try clear hcz4_1
    try clear hcz4_2
    try clear hcz4_3
    try clear hcz4_4
    try clear hcz4_5
    try clear hfz4_0
    try clear hfz4_1
    try clear hfz4_2
    try clear hfz4_3
    try clear hfz4_4
    try clear hfz4_5
    obtain ⟨x3_1, x4_1, rfl, rfl, HA, HK1, BK286, HB⟩ := hrel
    cases gk with
    | zero => exact absurd HA.out (by simp [spec_BatMark.l0])
    | succ k1 =>
      have H := HA.out
      clear HA
      simp only [spec_BatMark.l0] at H
      by_cases c5 : x4_1 < (l0_2.length : Int)
      · rw [if_pos c5] at H
        have c5b0 : decide (x4_1 < (l0_2.length : Int)) = true := decide_eq_true c5
        clear c5
        by_cases c6 : 0 ≤ x4_1
        · rw [if_pos c6] at H
          have c6b0 : decide (0 ≤ x4_1) = true := decide_eq_true c6
          clear c6
          replace H := Option.bind_eq_some_iff.mp H
          obtain ⟨t290, A70, H⟩ := H
          replace H : ((spec_l6Mix.f t290 ((rd_T52 l0_2 x4_1).f2.f0)).bind fun t291 => ((spec_l6Mix.f t291 ((rd_T52 l0_2 x4_1).f2.f1)).bind fun t292 => ((spec_l6Mix.f t292 ((rd_T52 l0_2 x4_1).f3)).bind fun t293 => (spec_BatMark.l1 k1 t293 x4_1 0 a0_0 a0_1 l0_2 a0_3 l0_4 l0_5 ((rd_T52 l0_2 x4_1).f0.f0) ((rd_T52 l0_2 x4_1).f0.f1.f0) ((rd_T52 l0_2 x4_1).f0.f1.f1) ((rd_T52 l0_2 x4_1).f0.f2.f0) ((rd_T52 l0_2 x4_1).f0.f2.f1) ((rd_T52 l0_2 x4_1).f0.f3) ((rd_T52 l0_2 x4_1).f1) ((rd_T52 l0_2 x4_1).f2.f0) ((rd_T52 l0_2 x4_1).f2.f1) ((rd_T52 l0_2 x4_1).f3) ((rd_T52 l0_2 x4_1).f4))))) = some r := H
          have A7 := Aside0.mk A70
          clear A70
          replace H := Option.bind_eq_some_iff.mp H
          obtain ⟨t291, A80, H⟩ := H
          replace H : ((spec_l6Mix.f t291 ((rd_T52 l0_2 x4_1).f2.f1)).bind fun t292 => ((spec_l6Mix.f t292 ((rd_T52 l0_2 x4_1).f3)).bind fun t293 => (spec_BatMark.l1 k1 t293 x4_1 0 a0_0 a0_1 l0_2 a0_3 l0_4 l0_5 ((rd_T52 l0_2 x4_1).f0.f0) ((rd_T52 l0_2 x4_1).f0.f1.f0) ((rd_T52 l0_2 x4_1).f0.f1.f1) ((rd_T52 l0_2 x4_1).f0.f2.f0) ((rd_T52 l0_2 x4_1).f0.f2.f1) ((rd_T52 l0_2 x4_1).f0.f3) ((rd_T52 l0_2 x4_1).f1) ((rd_T52 l0_2 x4_1).f2.f0) ((rd_T52 l0_2 x4_1).f2.f1) ((rd_T52 l0_2 x4_1).f3) ((rd_T52 l0_2 x4_1).f4)))) = some r := H
          have A8 := Aside0.mk A80
          clear A80
          replace H := Option.bind_eq_some_iff.mp H
          obtain ⟨t292, A90, H⟩ := H
          replace H : ((spec_l6Mix.f t292 ((rd_T52 l0_2 x4_1).f3)).bind fun t293 => (spec_BatMark.l1 k1 t293 x4_1 0 a0_0 a0_1 l0_2 a0_3 l0_4 l0_5 ((rd_T52 l0_2 x4_1).f0.f0) ((rd_T52 l0_2 x4_1).f0.f1.f0) ((rd_T52 l0_2 x4_1).f0.f1.f1) ((rd_T52 l0_2 x4_1).f0.f2.f0) ((rd_T52 l0_2 x4_1).f0.f2.f1) ((rd_T52 l0_2 x4_1).f0.f3) ((rd_T52 l0_2 x4_1).f1) ((rd_T52 l0_2 x4_1).f2.f0) ((rd_T52 l0_2 x4_1).f2.f1) ((rd_T52 l0_2 x4_1).f3) ((rd_T52 l0_2 x4_1).f4))) = some r := H
          have A9 := Aside0.mk A90
          clear A90
          replace H := Option.bind_eq_some_iff.mp H
          obtain ⟨t293, A100, H⟩ := H
          replace H : (spec_BatMark.l1 k1 t293 x4_1 0 a0_0 a0_1 l0_2 a0_3 l0_4 l0_5 ((rd_T52 l0_2 x4_1).f0.f0) ((rd_T52 l0_2 x4_1).f0.f1.f0) ((rd_T52 l0_2 x4_1).f0.f1.f1) ((rd_T52 l0_2 x4_1).f0.f2.f0) ((rd_T52 l0_2 x4_1).f0.f2.f1) ((rd_T52 l0_2 x4_1).f0.f3) ((rd_T52 l0_2 x4_1).f1) ((rd_T52 l0_2 x4_1).f2.f0) ((rd_T52 l0_2 x4_1).f2.f1) ((rd_T52 l0_2 x4_1).f3) ((rd_T52 l0_2 x4_1).f4)) = some r := H
          have A10 := Aside0.mk A100
          clear A100
          have H' := Aside0.mk H
          clear H
          have hcz11_0 : wr.cell? ⟨gb286, 0, none⟩ = some (.int .i64 a0_0) := (blk_cell BK286.out 0).trans rfl
          have hcz11_1 : wr.cell? ⟨gb286, 1, none⟩ = some (.int .i64 a0_1) := (blk_cell BK286.out 1).trans rfl
          have hcz11_2 : wr.cell? ⟨gb286, 2, none⟩ = some (.slice A0_2 l0_2.length c0_2) := (blk_cell BK286.out 2).trans rfl
          have hcz11_3 : wr.cell? ⟨gb286, 3, none⟩ = some (.int .i64 a0_3) := (blk_cell BK286.out 3).trans rfl
          have hcz11_4 : wr.cell? ⟨gb286, 4, none⟩ = some (.slice A0_4 l0_4.length c0_4) := (blk_cell BK286.out 4).trans rfl
          have hcz11_5 : wr.cell? ⟨gb286, 5, none⟩ = some (.slice A0_5 l0_5.length c0_5) := (blk_cell BK286.out 5).trans rfl
          have hfz11_0 := blk_frozen BK286.out 0
          have hfz11_1 := blk_frozen BK286.out 1
          have hfz11_2 := blk_frozen BK286.out 2
          have hfz11_3 := blk_frozen BK286.out 3
          have hfz11_4 := blk_frozen BK286.out 4
          have hfz11_5 := blk_frozen BK286.out 5
          have p288 : 0 ≤ (x4_1 : Int) := of_decide_eq_true (by first | (with_reducible assumption) | assumption)
          have q288 : x4_1 < (l0_2.length : Int) := of_decide_eq_true (by first | (with_reducible assumption) | assumption)
          obtain ⟨ad288, A288_10, c288_10, e288, hx288_0, hx288_1, hx288_2, hx288_3, hx288_4, hx288_5, hx288_6, hx288_7, hx288_8, hx288_9, hx288_10, hl288_10, hi288_10⟩ := at_T52 HR0_2.out x4_1 p288 q288
          cases e288
          replace hx288_0 := (HB.out.cell (World.block_lt_of_cell? w _ hx288_0)).trans hx288_0
          replace hx288_1 := (HB.out.cell (World.block_lt_of_cell? w _ hx288_1)).trans hx288_1
          replace hx288_2 := (HB.out.cell (World.block_lt_of_cell? w _ hx288_2)).trans hx288_2
          replace hx288_3 := (HB.out.cell (World.block_lt_of_cell? w _ hx288_3)).trans hx288_3
          replace hx288_4 := (HB.out.cell (World.block_lt_of_cell? w _ hx288_4)).trans hx288_4
          replace hx288_5 := (HB.out.cell (World.block_lt_of_cell? w _ hx288_5)).trans hx288_5
          replace hx288_6 := (HB.out.cell (World.block_lt_of_cell? w _ hx288_6)).trans hx288_6
          replace hx288_7 := (HB.out.cell (World.block_lt_of_cell? w _ hx288_7)).trans hx288_7
          replace hx288_8 := (HB.out.cell (World.block_lt_of_cell? w _ hx288_8)).trans hx288_8
          replace hx288_9 := (HB.out.cell (World.block_lt_of_cell? w _ hx288_9)).trans hx288_9
          replace hx288_10 := (HB.out.cell (World.block_lt_of_cell? w _ hx288_10)).trans hx288_10
          have HR288_10 := Aside0.mk hi288_10
          have HC288_10 := Aside0.mk hl288_10
          clear hi288_10 hl288_10
          replace p288 := eq_true p288
          replace q288 := eq_true q288
          go_wp2_with (first | ((with_reducible refine gate_dst (N := 5) rfl ?_); refine box_event ?hg (N := 5) ?hd (cs := #[.int .i64 0, .int .i64 0, .int .i64 0, .int .i64 0, .int .i64 0, .int .i64 0, .int .i64 0, .int .i64 0, .int .i64 0, .int .i64 0, .slice none 0 0]) (t := 52) ?hr ?_; (case hd => rfl); (case hg => rfl); (case hr => first | (go_simp; done) | (go_simp; rfl)); intro gb289 hg w12 hbox hb; have n0_ := Aside0.mk (blk_below (g := gb286) (o := .cells #[.int .i64 a0_0, .int .i64 a0_1, .slice (some ad288) l0_2.length c0_2, .int .i64 a0_3, .slice A0_4 l0_4.length c0_4, .slice A0_5 l0_5.length c0_5] 27 (0, 0)) (by (with_reducible repeat (first | refine blk_drewN ?_ _ | refine blk_drew ?_ | refine blk_alloc ?_ _)); exact BK286.out) hb); have n1_ := Aside0.mk (below_step (by repeat (first | (with_reducible first | exact HB.out | apply below_alloc | apply pw_below_drewN | apply below_drew1 | refine below_set ?_ GE286.out) | exact HB.out)) hb); have n2_ := Aside0.mk (hbox); have n3_ := Aside0.mk ((by rw [hg]; exact (below_size (by repeat (first | (with_reducible first | exact HB.out | apply below_alloc | apply pw_below_drewN | apply below_drew1 | refine below_set ?_ GE286.out) | exact HB.out))) : w.heap.size ≤ gb289)); have n4_ := Aside0.mk ((by rw [hg]; exact (below_size (by repeat (first | (with_reducible first | exact HB.out | apply below_alloc | apply pw_below_drewN | apply below_drew1 | refine below_set ?_ GE286.out) | exact HB.out))) : w.heap.size ≤ gb289)); have n5_ := Aside0.mk ((by rw [hg]; exact Nat.ne_of_lt (blk_lt (g := gb286) (o := .cells #[.int .i64 a0_0, .int .i64 a0_1, .slice (some ad288) l0_2.length c0_2, .int .i64 a0_3, .slice A0_4 l0_4.length c0_4, .slice A0_5 l0_5.length c0_5] 27 (0, 0)) (by (with_reducible repeat (first | refine blk_drewN ?_ _ | refine blk_drew ?_ | refine blk_alloc ?_ _)); exact BK286.out)) : gb286 ≠ gb289)); have n6_ := Aside0.mk ((by rw [hg]; exact Nat.ne_of_gt (blk_lt (g := gb286) (o := .cells #[.int .i64 a0_0, .int .i64 a0_1, .slice (some ad288) l0_2.length c0_2, .int .i64 a0_3, .slice A0_4 l0_4.length c0_4, .slice A0_5 l0_5.length c0_5] 27 (0, 0)) (by (with_reducible repeat (first | refine blk_drewN ?_ _ | refine blk_drew ?_ | refine blk_alloc ?_ _)); exact BK286.out)) : gb289 ≠ gb286)); clear BK286; clear HB; have BK286 := n0_; have HB := n1_; have BK289 := n2_; have GW289 := n3_; have GE289 := n4_; have NB286_289 := n5_; have NB289_286 := n6_; clear n0_ n1_ n2_ n3_ n4_ n5_ n6_; clear hb hbox hg; have hnb13 := NB289_286.out; have hnc13 := NB286_289.out; have hcz14_0 : w12.cell? ⟨gb289, 0, none⟩ = some (.int .i64 0) := (blk_cell BK289.out 0).trans rfl; have hcz14_1 : w12.cell? ⟨gb289, 1, none⟩ = some (.int .i64 0) := (blk_cell BK289.out 1).trans rfl; have hcz14_2 : w12.cell? ⟨gb289, 2, none⟩ = some (.int .i64 0) := (blk_cell BK289.out 2).trans rfl; have hcz14_3 : w12.cell? ⟨gb289, 3, none⟩ = some (.int .i64 0) := (blk_cell BK289.out 3).trans rfl; have hcz14_4 : w12.cell? ⟨gb289, 4, none⟩ = some (.int .i64 0) := (blk_cell BK289.out 4).trans rfl; have hcz14_5 : w12.cell? ⟨gb289, 5, none⟩ = some (.int .i64 0) := (blk_cell BK289.out 5).trans rfl; have hcz14_6 : w12.cell? ⟨gb289, 6, none⟩ = some (.int .i64 0) := (blk_cell BK289.out 6).trans rfl; have hcz14_7 : w12.cell? ⟨gb289, 7, none⟩ = some (.int .i64 0) := (blk_cell BK289.out 7).trans rfl; have hcz14_8 : w12.cell? ⟨gb289, 8, none⟩ = some (.int .i64 0) := (blk_cell BK289.out 8).trans rfl; have hcz14_9 : w12.cell? ⟨gb289, 9, none⟩ = some (.int .i64 0) := (blk_cell BK289.out 9).trans rfl; have hcz14_10 : w12.cell? ⟨gb289, 10, none⟩ = some (.slice none 0 0) := (blk_cell BK289.out 10).trans rfl; have hfz14_0 := blk_frozen BK289.out 0; have hfz14_1 := blk_frozen BK289.out 1; have hfz14_2 := blk_frozen BK289.out 2; have hfz14_3 := blk_frozen BK289.out 3; have hfz14_4 := blk_frozen BK289.out 4; have hfz14_5 := blk_frozen BK289.out 5; have hfz14_6 := blk_frozen BK289.out 6; have hfz14_7 := blk_frozen BK289.out 7; have hfz14_8 := blk_frozen BK289.out 8; have hfz14_9 := blk_frozen BK289.out 9; have hfz14_10 := blk_frozen BK289.out 10) | (go_at_call 20; (with_reducible refine (spec_l6Mix.calls x3_1 ((rd_T52 l0_2 x4_1).f1) t290 _ A7.out).mono ?_); rintro e w' ⟨rfl, ⟨nd, rfl⟩⟩; (try first | exact ⟨rfl, _, World.drewN_drewN _ _ _⟩ | exact ⟨rfl, _, Eq.trans (World.drewN_drewN _ _ _) (congrArg (World.drewN _) (Nat.add_assoc _ _ _))⟩)) | (go_at_call 20; (with_reducible refine (spec_l6Mix.calls t290 ((rd_T52 l0_2 x4_1).f2.f0) t291 _ A8.out).mono ?_); rintro e w' ⟨rfl, ⟨nd, rfl⟩⟩; (try first | exact ⟨rfl, _, World.drewN_drewN _ _ _⟩ | exact ⟨rfl, _, Eq.trans (World.drewN_drewN _ _ _) (congrArg (World.drewN _) (Nat.add_assoc _ _ _))⟩)) | (go_at_call 20; (with_reducible refine (spec_l6Mix.calls t291 ((rd_T52 l0_2 x4_1).f2.f1) t292 _ A9.out).mono ?_); rintro e w' ⟨rfl, ⟨nd, rfl⟩⟩; (try first | exact ⟨rfl, _, World.drewN_drewN _ _ _⟩ | exact ⟨rfl, _, Eq.trans (World.drewN_drewN _ _ _) (congrArg (World.drewN _) (Nat.add_assoc _ _ _))⟩)) | (go_at_call 20; (with_reducible refine (spec_l6Mix.calls t292 ((rd_T52 l0_2 x4_1).f3) t293 _ A10.out).mono ?_); rintro e w' ⟨rfl, ⟨nd, rfl⟩⟩; (try first | exact ⟨rfl, _, World.drewN_drewN _ _ _⟩ | exact ⟨rfl, _, Eq.trans (World.drewN_drewN _ _ _) (congrArg (World.drewN _) (Nat.add_assoc _ _ _))⟩)))
          repeat (go_quiet (first | ((with_reducible refine gate_dst (N := 5) rfl ?_); refine box_event ?hg (N := 5) ?hd (cs := #[.int .i64 0, .int .i64 0, .int .i64 0, .int .i64 0, .int .i64 0, .int .i64 0, .int .i64 0, .int .i64 0, .int .i64 0, .int .i64 0, .slice none 0 0]) (t := 52) ?hr ?_; (case hd => rfl); (case hg => rfl); (case hr => first | (go_simp; done) | (go_simp; rfl)); intro gb289 hg w12 hbox hb; have n0_ := Aside0.mk (blk_below (g := gb286) (o := .cells #[.int .i64 a0_0, .int .i64 a0_1, .slice (some ad288) l0_2.length c0_2, .int .i64 a0_3, .slice A0_4 l0_4.length c0_4, .slice A0_5 l0_5.length c0_5] 27 (0, 0)) (by (with_reducible repeat (first | refine blk_drewN ?_ _ | refine blk_drew ?_ | refine blk_alloc ?_ _)); exact BK286.out) hb); have n1_ := Aside0.mk (below_step (by repeat (first | (with_reducible first | exact HB.out | apply below_alloc | apply pw_below_drewN | apply below_drew1 | refine below_set ?_ GE286.out) | exact HB.out)) hb); have n2_ := Aside0.mk (hbox); have n3_ := Aside0.mk ((by rw [hg]; exact (below_size (by repeat (first | (with_reducible first | exact HB.out | apply below_alloc | apply pw_below_drewN | apply below_drew1 | refine below_set ?_ GE286.out) | exact HB.out))) : w.heap.size ≤ gb289)); have n4_ := Aside0.mk ((by rw [hg]; exact (below_size (by repeat (first | (with_reducible first | exact HB.out | apply below_alloc | apply pw_below_drewN | apply below_drew1 | refine below_set ?_ GE286.out) | exact HB.out))) : w.heap.size ≤ gb289)); have n5_ := Aside0.mk ((by rw [hg]; exact Nat.ne_of_lt (blk_lt (g := gb286) (o := .cells #[.int .i64 a0_0, .int .i64 a0_1, .slice (some ad288) l0_2.length c0_2, .int .i64 a0_3, .slice A0_4 l0_4.length c0_4, .slice A0_5 l0_5.length c0_5] 27 (0, 0)) (by (with_reducible repeat (first | refine blk_drewN ?_ _ | refine blk_drew ?_ | refine blk_alloc ?_ _)); exact BK286.out)) : gb286 ≠ gb289)); have n6_ := Aside0.mk ((by rw [hg]; exact Nat.ne_of_gt (blk_lt (g := gb286) (o := .cells #[.int .i64 a0_0, .int .i64 a0_1, .slice (some ad288) l0_2.length c0_2, .int .i64 a0_3, .slice A0_4 l0_4.length c0_4, .slice A0_5 l0_5.length c0_5] 27 (0, 0)) (by (with_reducible repeat (first | refine blk_drewN ?_ _ | refine blk_drew ?_ | refine blk_alloc ?_ _)); exact BK286.out)) : gb289 ≠ gb286)); clear BK286; clear HB; have BK286 := n0_; have HB := n1_; have BK289 := n2_; have GW289 := n3_; have GE289 := n4_; have NB286_289 := n5_; have NB289_286 := n6_; clear n0_ n1_ n2_ n3_ n4_ n5_ n6_; clear hb hbox hg; have hnb13 := NB289_286.out; have hnc13 := NB286_289.out; have hcz14_0 : w12.cell? ⟨gb289, 0, none⟩ = some (.int .i64 0) := (blk_cell BK289.out 0).trans rfl; have hcz14_1 : w12.cell? ⟨gb289, 1, none⟩ = some (.int .i64 0) := (blk_cell BK289.out 1).trans rfl; have hcz14_2 : w12.cell? ⟨gb289, 2, none⟩ = some (.int .i64 0) := (blk_cell BK289.out 2).trans rfl; have hcz14_3 : w12.cell? ⟨gb289, 3, none⟩ = some (.int .i64 0) := (blk_cell BK289.out 3).trans rfl; have hcz14_4 : w12.cell? ⟨gb289, 4, none⟩ = some (.int .i64 0) := (blk_cell BK289.out 4).trans rfl; have hcz14_5 : w12.cell? ⟨gb289, 5, none⟩ = some (.int .i64 0) := (blk_cell BK289.out 5).trans rfl; have hcz14_6 : w12.cell? ⟨gb289, 6, none⟩ = some (.int .i64 0) := (blk_cell BK289.out 6).trans rfl; have hcz14_7 : w12.cell? ⟨gb289, 7, none⟩ = some (.int .i64 0) := (blk_cell BK289.out 7).trans rfl; have hcz14_8 : w12.cell? ⟨gb289, 8, none⟩ = some (.int .i64 0) := (blk_cell BK289.out 8).trans rfl; have hcz14_9 : w12.cell? ⟨gb289, 9, none⟩ = some (.int .i64 0) := (blk_cell BK289.out 9).trans rfl; have hcz14_10 : w12.cell? ⟨gb289, 10, none⟩ = some (.slice none 0 0) := (blk_cell BK289.out 10).trans rfl; have hfz14_0 := blk_frozen BK289.out 0; have hfz14_1 := blk_frozen BK289.out 1; have hfz14_2 := blk_frozen BK289.out 2; have hfz14_3 := blk_frozen BK289.out 3; have hfz14_4 := blk_frozen BK289.out 4; have hfz14_5 := blk_frozen BK289.out 5; have hfz14_6 := blk_frozen BK289.out 6; have hfz14_7 := blk_frozen BK289.out 7; have hfz14_8 := blk_frozen BK289.out 8; have hfz14_9 := blk_frozen BK289.out 9; have hfz14_10 := blk_frozen BK289.out 10) | (go_at_call 20; (with_reducible refine (spec_l6Mix.calls x3_1 ((rd_T52 l0_2 x4_1).f1) t290 _ A7.out).mono ?_); rintro e w' ⟨rfl, ⟨nd, rfl⟩⟩; (try first | exact ⟨rfl, _, World.drewN_drewN _ _ _⟩ | exact ⟨rfl, _, Eq.trans (World.drewN_drewN _ _ _) (congrArg (World.drewN _) (Nat.add_assoc _ _ _))⟩)) | (go_at_call 20; (with_reducible refine (spec_l6Mix.calls t290 ((rd_T52 l0_2 x4_1).f2.f0) t291 _ A8.out).mono ?_); rintro e w' ⟨rfl, ⟨nd, rfl⟩⟩; (try first | exact ⟨rfl, _, World.drewN_drewN _ _ _⟩ | exact ⟨rfl, _, Eq.trans (World.drewN_drewN _ _ _) (congrArg (World.drewN _) (Nat.add_assoc _ _ _))⟩)) | (go_at_call 20; (with_reducible refine (spec_l6Mix.calls t291 ((rd_T52 l0_2 x4_1).f2.f1) t292 _ A9.out).mono ?_); rintro e w' ⟨rfl, ⟨nd, rfl⟩⟩; (try first | exact ⟨rfl, _, World.drewN_drewN _ _ _⟩ | exact ⟨rfl, _, Eq.trans (World.drewN_drewN _ _ _) (congrArg (World.drewN _) (Nat.add_assoc _ _ _))⟩)) | (go_at_call 20; (with_reducible refine (spec_l6Mix.calls t292 ((rd_T52 l0_2 x4_1).f3) t293 _ A10.out).mono ?_); rintro e w' ⟨rfl, ⟨nd, rfl⟩⟩; (try first | exact ⟨rfl, _, World.drewN_drewN _ _ _⟩ | exact ⟨rfl, _, Eq.trans (World.drewN_drewN _ _ _) (congrArg (World.drewN _) (Nat.add_assoc _ _ _))⟩))); try go_wp2_with (first | ((with_reducible refine gate_dst (N := 5) rfl ?_); refine box_event ?hg (N := 5) ?hd (cs := #[.int .i64 0, .int .i64 0, .int .i64 0, .int .i64 0, .int .i64 0, .int .i64 0, .int .i64 0, .int .i64 0, .int .i64 0, .int .i64 0, .slice none 0 0]) (t := 52) ?hr ?_; (case hd => rfl); (case hg => rfl); (case hr => first | (go_simp; done) | (go_simp; rfl)); intro gb289 hg w12 hbox hb; have n0_ := Aside0.mk (blk_below (g := gb286) (o := .cells #[.int .i64 a0_0, .int .i64 a0_1, .slice (some ad288) l0_2.length c0_2, .int .i64 a0_3, .slice A0_4 l0_4.length c0_4, .slice A0_5 l0_5.length c0_5] 27 (0, 0)) (by (with_reducible repeat (first | refine blk_drewN ?_ _ | refine blk_drew ?_ | refine blk_alloc ?_ _)); exact BK286.out) hb); have n1_ := Aside0.mk (below_step (by repeat (first | (with_reducible first | exact HB.out | apply below_alloc | apply pw_below_drewN | apply below_drew1 | refine below_set ?_ GE286.out) | exact HB.out)) hb); have n2_ := Aside0.mk (hbox); have n3_ := Aside0.mk ((by rw [hg]; exact (below_size (by repeat (first | (with_reducible first | exact HB.out | apply below_alloc | apply pw_below_drewN | apply below_drew1 | refine below_set ?_ GE286.out) | exact HB.out))) : w.heap.size ≤ gb289)); have n4_ := Aside0.mk ((by rw [hg]; exact (below_size (by repeat (first | (with_reducible first | exact HB.out | apply below_alloc | apply pw_below_drewN | apply below_drew1 | refine below_set ?_ GE286.out) | exact HB.out))) : w.heap.size ≤ gb289)); have n5_ := Aside0.mk ((by rw [hg]; exact Nat.ne_of_lt (blk_lt (g := gb286) (o := .cells #[.int .i64 a0_0, .int .i64 a0_1, .slice (some ad288) l0_2.length c0_2, .int .i64 a0_3, .slice A0_4 l0_4.length c0_4, .slice A0_5 l0_5.length c0_5] 27 (0, 0)) (by (with_reducible repeat (first | refine blk_drewN ?_ _ | refine blk_drew ?_ | refine blk_alloc ?_ _)); exact BK286.out)) : gb286 ≠ gb289)); have n6_ := Aside0.mk ((by rw [hg]; exact Nat.ne_of_gt (blk_lt (g := gb286) (o := .cells #[.int .i64 a0_0, .int .i64 a0_1, .slice (some ad288) l0_2.length c0_2, .int .i64 a0_3, .slice A0_4 l0_4.length c0_4, .slice A0_5 l0_5.length c0_5] 27 (0, 0)) (by (with_reducible repeat (first | refine blk_drewN ?_ _ | refine blk_drew ?_ | refine blk_alloc ?_ _)); exact BK286.out)) : gb289 ≠ gb286)); clear BK286; clear HB; have BK286 := n0_; have HB := n1_; have BK289 := n2_; have GW289 := n3_; have GE289 := n4_; have NB286_289 := n5_; have NB289_286 := n6_; clear n0_ n1_ n2_ n3_ n4_ n5_ n6_; clear hb hbox hg; have hnb13 := NB289_286.out; have hnc13 := NB286_289.out; have hcz14_0 : w12.cell? ⟨gb289, 0, none⟩ = some (.int .i64 0) := (blk_cell BK289.out 0).trans rfl; have hcz14_1 : w12.cell? ⟨gb289, 1, none⟩ = some (.int .i64 0) := (blk_cell BK289.out 1).trans rfl; have hcz14_2 : w12.cell? ⟨gb289, 2, none⟩ = some (.int .i64 0) := (blk_cell BK289.out 2).trans rfl; have hcz14_3 : w12.cell? ⟨gb289, 3, none⟩ = some (.int .i64 0) := (blk_cell BK289.out 3).trans rfl; have hcz14_4 : w12.cell? ⟨gb289, 4, none⟩ = some (.int .i64 0) := (blk_cell BK289.out 4).trans rfl; have hcz14_5 : w12.cell? ⟨gb289, 5, none⟩ = some (.int .i64 0) := (blk_cell BK289.out 5).trans rfl; have hcz14_6 : w12.cell? ⟨gb289, 6, none⟩ = some (.int .i64 0) := (blk_cell BK289.out 6).trans rfl; have hcz14_7 : w12.cell? ⟨gb289, 7, none⟩ = some (.int .i64 0) := (blk_cell BK289.out 7).trans rfl; have hcz14_8 : w12.cell? ⟨gb289, 8, none⟩ = some (.int .i64 0) := (blk_cell BK289.out 8).trans rfl; have hcz14_9 : w12.cell? ⟨gb289, 9, none⟩ = some (.int .i64 0) := (blk_cell BK289.out 9).trans rfl; have hcz14_10 : w12.cell? ⟨gb289, 10, none⟩ = some (.slice none 0 0) := (blk_cell BK289.out 10).trans rfl; have hfz14_0 := blk_frozen BK289.out 0; have hfz14_1 := blk_frozen BK289.out 1; have hfz14_2 := blk_frozen BK289.out 2; have hfz14_3 := blk_frozen BK289.out 3; have hfz14_4 := blk_frozen BK289.out 4; have hfz14_5 := blk_frozen BK289.out 5; have hfz14_6 := blk_frozen BK289.out 6; have hfz14_7 := blk_frozen BK289.out 7; have hfz14_8 := blk_frozen BK289.out 8; have hfz14_9 := blk_frozen BK289.out 9; have hfz14_10 := blk_frozen BK289.out 10) | (go_at_call 20; (with_reducible refine (spec_l6Mix.calls x3_1 ((rd_T52 l0_2 x4_1).f1) t290 _ A7.out).mono ?_); rintro e w' ⟨rfl, ⟨nd, rfl⟩⟩; (try first | exact ⟨rfl, _, World.drewN_drewN _ _ _⟩ | exact ⟨rfl, _, Eq.trans (World.drewN_drewN _ _ _) (congrArg (World.drewN _) (Nat.add_assoc _ _ _))⟩)) | (go_at_call 20; (with_reducible refine (spec_l6Mix.calls t290 ((rd_T52 l0_2 x4_1).f2.f0) t291 _ A8.out).mono ?_); rintro e w' ⟨rfl, ⟨nd, rfl⟩⟩; (try first | exact ⟨rfl, _, World.drewN_drewN _ _ _⟩ | exact ⟨rfl, _, Eq.trans (World.drewN_drewN _ _ _) (congrArg (World.drewN _) (Nat.add_assoc _ _ _))⟩)) | (go_at_call 20; (with_reducible refine (spec_l6Mix.calls t291 ((rd_T52 l0_2 x4_1).f2.f1) t292 _ A9.out).mono ?_); rintro e w' ⟨rfl, ⟨nd, rfl⟩⟩; (try first | exact ⟨rfl, _, World.drewN_drewN _ _ _⟩ | exact ⟨rfl, _, Eq.trans (World.drewN_drewN _ _ _) (congrArg (World.drewN _) (Nat.add_assoc _ _ _))⟩)) | (go_at_call 20; (with_reducible refine (spec_l6Mix.calls t292 ((rd_T52 l0_2 x4_1).f3) t293 _ A10.out).mono ?_); rintro e w' ⟨rfl, ⟨nd, rfl⟩⟩; (try first | exact ⟨rfl, _, World.drewN_drewN _ _ _⟩ | exact ⟨rfl, _, Eq.trans (World.drewN_drewN _ _ _) (congrArg (World.drewN _) (Nat.add_assoc _ _ _))⟩))))
          go_loopg [3, 6] k1 (fun kq v3 v6 w' => ∃ (x3_2 : Int) (x6_2 : Int), v3 = .int .i64 x3_2 ∧ v6 = .int .i64 x6_2 ∧ Aside0 (spec_BatMark.l1 kq x3_2 x4_1 x6_2 a0_0 a0_1 l0_2 a0_3 l0_4 l0_5 ((rd_T52 l0_2 x4_1).f0.f0) ((rd_T52 l0_2 x4_1).f0.f1.f0) ((rd_T52 l0_2 x4_1).f0.f1.f1) ((rd_T52 l0_2 x4_1).f0.f2.f0) ((rd_T52 l0_2 x4_1).f0.f2.f1) ((rd_T52 l0_2 x4_1).f0.f3) ((rd_T52 l0_2 x4_1).f1) ((rd_T52 l0_2 x4_1).f2.f0) ((rd_T52 l0_2 x4_1).f2.f1) ((rd_T52 l0_2 x4_1).f3) ((rd_T52 l0_2 x4_1).f4) = some r) ∧ Aside0 (kq ≤ k1) ∧ Aside0 (w'.heap[gb286]? = some (.cells #[.int .i64 a0_0, .int .i64 a0_1, (.slice (some ad288) l0_2.length c0_2), .int .i64 a0_3, (.slice A0_4 l0_4.length c0_4), (.slice A0_5 l0_5.length c0_5)] 27 (0, 0))) ∧ Aside0 (w'.heap[gb289]? = some (.cells #[.int .i64 ((rd_T52 l0_2 x4_1).f0.f0), .int .i64 ((rd_T52 l0_2 x4_1).f0.f1.f0), .int .i64 ((rd_T52 l0_2 x4_1).f0.f1.f1), .int .i64 ((rd_T52 l0_2 x4_1).f0.f2.f0), .int .i64 ((rd_T52 l0_2 x4_1).f0.f2.f1), .int .i64 ((rd_T52 l0_2 x4_1).f0.f3), .int .i64 ((rd_T52 l0_2 x4_1).f1), .int .i64 ((rd_T52 l0_2 x4_1).f2.f0), .int .i64 ((rd_T52 l0_2 x4_1).f2.f1), .int .i64 ((rd_T52 l0_2 x4_1).f3), (.slice A288_10 ((rd_T52 l0_2 x4_1).f4).length c288_10)] 52 (0, 0))) ∧ Aside0 (Below w.heap.size w w'))
          case atStart => exact ⟨(t293), (0), (by first | rfl | (simp; done) | (simp [*]; done)), (by first | rfl | (simp; done) | (simp [*]; done)), H', ⟨Nat.le_refl _⟩, ⟨by (with_reducible repeat (first | refine blk_drewN ?_ _ | refine blk_drew ?_ | refine blk_alloc ?_ _)); refine blk_far ?_ NB286_289.out _; (with_reducible repeat (first | refine blk_drewN ?_ _ | refine blk_drew ?_ | refine blk_alloc ?_ _)); refine blk_far ?_ NB286_289.out _; (with_reducible repeat (first | refine blk_drewN ?_ _ | refine blk_drew ?_ | refine blk_alloc ?_ _)); refine blk_far ?_ NB286_289.out _; (with_reducible repeat (first | refine blk_drewN ?_ _ | refine blk_drew ?_ | refine blk_alloc ?_ _)); refine blk_far ?_ NB286_289.out _; (with_reducible repeat (first | refine blk_drewN ?_ _ | refine blk_drew ?_ | refine blk_alloc ?_ _)); refine blk_far ?_ NB286_289.out _; (with_reducible repeat (first | refine blk_drewN ?_ _ | refine blk_drew ?_ | refine blk_alloc ?_ _)); refine blk_far ?_ NB286_289.out _; (with_reducible repeat (first | refine blk_drewN ?_ _ | refine blk_drew ?_ | refine blk_alloc ?_ _)); refine blk_far ?_ NB286_289.out _; (with_reducible repeat (first | refine blk_drewN ?_ _ | refine blk_drew ?_ | refine blk_alloc ?_ _)); refine blk_far ?_ NB286_289.out _; (with_reducible repeat (first | refine blk_drewN ?_ _ | refine blk_drew ?_ | refine blk_alloc ?_ _)); refine blk_far ?_ NB286_289.out _; (with_reducible repeat (first | refine blk_drewN ?_ _ | refine blk_drew ?_ | refine blk_alloc ?_ _)); refine blk_far ?_ NB286_289.out _; (with_reducible repeat (first | refine blk_drewN ?_ _ | refine blk_drew ?_ | refine blk_alloc ?_ _)); refine blk_far ?_ NB286_289.out _; (with_reducible repeat (first | refine blk_drewN ?_ _ | refine blk_drew ?_ | refine blk_alloc ?_ _)); exact BK286.out⟩, ⟨by (with_reducible repeat (first | refine blk_drewN ?_ _ | refine blk_drew ?_ | refine blk_alloc ?_ _)); refine blk_put (cs := #[.int .i64 ((rd_T52 l0_2 x4_1).f0.f0), .int .i64 ((rd_T52 l0_2 x4_1).f0.f1.f0), .int .i64 ((rd_T52 l0_2 x4_1).f0.f1.f1), .int .i64 ((rd_T52 l0_2 x4_1).f0.f2.f0), .int .i64 ((rd_T52 l0_2 x4_1).f0.f2.f1), .int .i64 ((rd_T52 l0_2 x4_1).f0.f3), .int .i64 ((rd_T52 l0_2 x4_1).f1), .int .i64 ((rd_T52 l0_2 x4_1).f2.f0), .int .i64 ((rd_T52 l0_2 x4_1).f2.f1), .int .i64 ((rd_T52 l0_2 x4_1).f3), .slice none 0 0]) ?_ 10 _ rfl; (with_reducible repeat (first | refine blk_drewN ?_ _ | refine blk_drew ?_ | refine blk_alloc ?_ _)); refine blk_put (cs := #[.int .i64 ((rd_T52 l0_2 x4_1).f0.f0), .int .i64 ((rd_T52 l0_2 x4_1).f0.f1.f0), .int .i64 ((rd_T52 l0_2 x4_1).f0.f1.f1), .int .i64 ((rd_T52 l0_2 x4_1).f0.f2.f0), .int .i64 ((rd_T52 l0_2 x4_1).f0.f2.f1), .int .i64 ((rd_T52 l0_2 x4_1).f0.f3), .int .i64 ((rd_T52 l0_2 x4_1).f1), .int .i64 ((rd_T52 l0_2 x4_1).f2.f0), .int .i64 ((rd_T52 l0_2 x4_1).f2.f1), .int .i64 0, .slice none 0 0]) ?_ 9 _ rfl; (with_reducible repeat (first | refine blk_drewN ?_ _ | refine blk_drew ?_ | refine blk_alloc ?_ _)); refine blk_put (cs := #[.int .i64 ((rd_T52 l0_2 x4_1).f0.f0), .int .i64 ((rd_T52 l0_2 x4_1).f0.f1.f0), .int .i64 ((rd_T52 l0_2 x4_1).f0.f1.f1), .int .i64 ((rd_T52 l0_2 x4_1).f0.f2.f0), .int .i64 ((rd_T52 l0_2 x4_1).f0.f2.f1), .int .i64 ((rd_T52 l0_2 x4_1).f0.f3), .int .i64 ((rd_T52 l0_2 x4_1).f1), .int .i64 ((rd_T52 l0_2 x4_1).f2.f0), .int .i64 0, .int .i64 0, .slice none 0 0]) ?_ 8 _ rfl; (with_reducible repeat (first | refine blk_drewN ?_ _ | refine blk_drew ?_ | refine blk_alloc ?_ _)); refine blk_put (cs := #[.int .i64 ((rd_T52 l0_2 x4_1).f0.f0), .int .i64 ((rd_T52 l0_2 x4_1).f0.f1.f0), .int .i64 ((rd_T52 l0_2 x4_1).f0.f1.f1), .int .i64 ((rd_T52 l0_2 x4_1).f0.f2.f0), .int .i64 ((rd_T52 l0_2 x4_1).f0.f2.f1), .int .i64 ((rd_T52 l0_2 x4_1).f0.f3), .int .i64 ((rd_T52 l0_2 x4_1).f1), .int .i64 0, .int .i64 0, .int .i64 0, .slice none 0 0]) ?_ 7 _ rfl; (with_reducible repeat (first | refine blk_drewN ?_ _ | refine blk_drew ?_ | refine blk_alloc ?_ _)); refine blk_put (cs := #[.int .i64 ((rd_T52 l0_2 x4_1).f0.f0), .int .i64 ((rd_T52 l0_2 x4_1).f0.f1.f0), .int .i64 ((rd_T52 l0_2 x4_1).f0.f1.f1), .int .i64 ((rd_T52 l0_2 x4_1).f0.f2.f0), .int .i64 ((rd_T52 l0_2 x4_1).f0.f2.f1), .int .i64 ((rd_T52 l0_2 x4_1).f0.f3), .int .i64 0, .int .i64 0, .int .i64 0, .int .i64 0, .slice none 0 0]) ?_ 6 _ rfl; (with_reducible repeat (first | refine blk_drewN ?_ _ | refine blk_drew ?_ | refine blk_alloc ?_ _)); refine blk_put (cs := #[.int .i64 ((rd_T52 l0_2 x4_1).f0.f0), .int .i64 ((rd_T52 l0_2 x4_1).f0.f1.f0), .int .i64 ((rd_T52 l0_2 x4_1).f0.f1.f1), .int .i64 ((rd_T52 l0_2 x4_1).f0.f2.f0), .int .i64 ((rd_T52 l0_2 x4_1).f0.f2.f1), .int .i64 0, .int .i64 0, .int .i64 0, .int .i64 0, .int .i64 0, .slice none 0 0]) ?_ 5 _ rfl; (with_reducible repeat (first | refine blk_drewN ?_ _ | refine blk_drew ?_ | refine blk_alloc ?_ _)); refine blk_put (cs := #[.int .i64 ((rd_T52 l0_2 x4_1).f0.f0), .int .i64 ((rd_T52 l0_2 x4_1).f0.f1.f0), .int .i64 ((rd_T52 l0_2 x4_1).f0.f1.f1), .int .i64 ((rd_T52 l0_2 x4_1).f0.f2.f0), .int .i64 0, .int .i64 0, .int .i64 0, .int .i64 0, .int .i64 0, .int .i64 0, .slice none 0 0]) ?_ 4 _ rfl; (with_reducible repeat (first | refine blk_drewN ?_ _ | refine blk_drew ?_ | refine blk_alloc ?_ _)); refine blk_put (cs := #[.int .i64 ((rd_T52 l0_2 x4_1).f0.f0), .int .i64 ((rd_T52 l0_2 x4_1).f0.f1.f0), .int .i64 ((rd_T52 l0_2 x4_1).f0.f1.f1), .int .i64 0, .int .i64 0, .int .i64 0, .int .i64 0, .int .i64 0, .int .i64 0, .int .i64 0, .slice none 0 0]) ?_ 3 _ rfl; (with_reducible repeat (first | refine blk_drewN ?_ _ | refine blk_drew ?_ | refine blk_alloc ?_ _)); refine blk_put (cs := #[.int .i64 ((rd_T52 l0_2 x4_1).f0.f0), .int .i64 ((rd_T52 l0_2 x4_1).f0.f1.f0), .int .i64 0, .int .i64 0, .int .i64 0, .int .i64 0, .int .i64 0, .int .i64 0, .int .i64 0, .int .i64 0, .slice none 0 0]) ?_ 2 _ rfl; (with_reducible repeat (first | refine blk_drewN ?_ _ | refine blk_drew ?_ | refine blk_alloc ?_ _)); refine blk_put (cs := #[.int .i64 ((rd_T52 l0_2 x4_1).f0.f0), .int .i64 0, .int .i64 0, .int .i64 0, .int .i64 0, .int .i64 0, .int .i64 0, .int .i64 0, .int .i64 0, .int .i64 0, .slice none 0 0]) ?_ 1 _ rfl; (with_reducible repeat (first | refine blk_drewN ?_ _ | refine blk_drew ?_ | refine blk_alloc ?_ _)); refine blk_put (cs := #[.int .i64 0, .int .i64 0, .int .i64 0, .int .i64 0, .int .i64 0, .int .i64 0, .int .i64 0, .int .i64 0, .int .i64 0, .int .i64 0, .slice none 0 0]) ?_ 0 _ rfl; (with_reducible repeat (first | refine blk_drewN ?_ _ | refine blk_drew ?_ | refine blk_alloc ?_ _)); exact BK289.out⟩, ⟨by repeat (first | (with_reducible first | exact HB.out | apply below_alloc | apply pw_below_drewN | apply below_drew1 | refine below_set ?_ GE286.out | refine below_set ?_ GE289.out) | exact HB.out)⟩⟩
          case round =>
            clear H'
            try clear c1
            try clear c2
            try clear p2
            try clear q2
            try clear hx2
            try clear c5
            try clear c5b0
            try clear c6
            try clear c6b0
            try clear c8
            try clear c13
            try clear hcz11_0
            try clear hcz11_1
            try clear hcz11_2
            try clear hcz11_3
            try clear hcz11_4
            try clear hcz11_5
            try clear hcz14_0
            try clear hcz14_1
            try clear hcz14_10
            try clear hcz14_2
            try clear hcz14_3
            try clear hcz14_4
            try clear hcz14_5
            try clear hcz14_6
            try clear hcz14_7
            try clear hcz14_8
            try clear hcz14_9
            try clear hcz4_0
            try clear hcz4_1
            try clear hcz4_2
            try clear hcz4_3
            try clear hcz4_4
            try clear hcz4_5
            try clear hfz11_0
            try clear hfz11_1
            try clear hfz11_2
            try clear hfz11_3
            try clear hfz11_4
            try clear hfz11_5
            try clear hfz14_0
            try clear hfz14_1
            try clear hfz14_10
            try clear hfz14_2
            try clear hfz14_3
            try clear hfz14_4
            try clear hfz14_5
            try clear hfz14_6
            try clear hfz14_7
            try clear hfz14_8
            try clear hfz14_9
            try clear hfz4_0
            try clear hfz4_1
            try clear hfz4_2
            try clear hfz4_3
            try clear hfz4_4
            try clear hfz4_5
            try clear hx288_0
            try clear hx288_1
            try clear hx288_10
            try clear hx288_2
            try clear hx288_3
            try clear hx288_4
            try clear hx288_5
            try clear hx288_6
            try clear hx288_7
            try clear hx288_8
            try clear hx288_9
            try clear p2
            try clear p288
            try clear q288
            obtain ⟨x3_2, x6_2, rfl, rfl, HA, HK2, BK286, BK289, HB⟩ := hrel
            cases gk with
            | zero => exact absurd HA.out (by simp [spec_BatMark.l1])
            | succ k2 =>
              have H := HA.out
              clear HA
              simp only [spec_BatMark.l1] at H
              by_cases c15 : x6_2 < (((rd_T52 l0_2 x4_1).f4).length : Int)
              · rw [if_pos c15] at H
                have c15b0 : decide (x6_2 < (((rd_T52 l0_2 x4_1).f4).length : Int)) = true := decide_eq_true c15
                clear c15
                by_cases c16 : 0 ≤ x6_2
                · rw [if_pos c16] at H
                  have c16b0 : decide (0 ≤ x6_2) = true := decide_eq_true c16
                  clear c16
                  replace H := Option.bind_eq_some_iff.mp H
                  obtain ⟨t295, A170, H⟩ := H
                  replace H : ((spec_l6Mix.f t295 ((rd_T47 ((rd_T52 l0_2 x4_1).f4) x6_2).f1)).bind fun t297 => (spec_BatMark.l1 k2 t297 x4_1 (wrap64 (x6_2 + 1)) a0_0 a0_1 l0_2 a0_3 l0_4 l0_5 ((rd_T52 l0_2 x4_1).f0.f0) ((rd_T52 l0_2 x4_1).f0.f1.f0) ((rd_T52 l0_2 x4_1).f0.f1.f1) ((rd_T52 l0_2 x4_1).f0.f2.f0) ((rd_T52 l0_2 x4_1).f0.f2.f1) ((rd_T52 l0_2 x4_1).f0.f3) ((rd_T52 l0_2 x4_1).f1) ((rd_T52 l0_2 x4_1).f2.f0) ((rd_T52 l0_2 x4_1).f2.f1) ((rd_T52 l0_2 x4_1).f3) ((rd_T52 l0_2 x4_1).f4))) = some r := H
                  have A17 := Aside0.mk A170
                  clear A170
                  replace H := Option.bind_eq_some_iff.mp H
                  obtain ⟨t297, A180, H⟩ := H
                  replace H : (spec_BatMark.l1 k2 t297 x4_1 (wrap64 (x6_2 + 1)) a0_0 a0_1 l0_2 a0_3 l0_4 l0_5 ((rd_T52 l0_2 x4_1).f0.f0) ((rd_T52 l0_2 x4_1).f0.f1.f0) ((rd_T52 l0_2 x4_1).f0.f1.f1) ((rd_T52 l0_2 x4_1).f0.f2.f0) ((rd_T52 l0_2 x4_1).f0.f2.f1) ((rd_T52 l0_2 x4_1).f0.f3) ((rd_T52 l0_2 x4_1).f1) ((rd_T52 l0_2 x4_1).f2.f0) ((rd_T52 l0_2 x4_1).f2.f1) ((rd_T52 l0_2 x4_1).f3) ((rd_T52 l0_2 x4_1).f4)) = some r := H
                  have A18 := Aside0.mk A180
                  clear A180
                  have H' := Aside0.mk H
                  clear H
                  have hnb19 := NB289_286.out
                  have hnc19 := NB286_289.out
                  have hcz20_0 : wr.cell? ⟨gb289, 0, none⟩ = some (.int .i64 ((rd_T52 l0_2 x4_1).f0.f0)) := (blk_cell BK289.out 0).trans rfl
                  have hcz20_1 : wr.cell? ⟨gb289, 1, none⟩ = some (.int .i64 ((rd_T52 l0_2 x4_1).f0.f1.f0)) := (blk_cell BK289.out 1).trans rfl
                  have hcz20_2 : wr.cell? ⟨gb289, 2, none⟩ = some (.int .i64 ((rd_T52 l0_2 x4_1).f0.f1.f1)) := (blk_cell BK289.out 2).trans rfl
                  have hcz20_3 : wr.cell? ⟨gb289, 3, none⟩ = some (.int .i64 ((rd_T52 l0_2 x4_1).f0.f2.f0)) := (blk_cell BK289.out 3).trans rfl
                  have hcz20_4 : wr.cell? ⟨gb289, 4, none⟩ = some (.int .i64 ((rd_T52 l0_2 x4_1).f0.f2.f1)) := (blk_cell BK289.out 4).trans rfl
                  have hcz20_5 : wr.cell? ⟨gb289, 5, none⟩ = some (.int .i64 ((rd_T52 l0_2 x4_1).f0.f3)) := (blk_cell BK289.out 5).trans rfl
                  have hcz20_6 : wr.cell? ⟨gb289, 6, none⟩ = some (.int .i64 ((rd_T52 l0_2 x4_1).f1)) := (blk_cell BK289.out 6).trans rfl
                  have hcz20_7 : wr.cell? ⟨gb289, 7, none⟩ = some (.int .i64 ((rd_T52 l0_2 x4_1).f2.f0)) := (blk_cell BK289.out 7).trans rfl
                  have hcz20_8 : wr.cell? ⟨gb289, 8, none⟩ = some (.int .i64 ((rd_T52 l0_2 x4_1).f2.f1)) := (blk_cell BK289.out 8).trans rfl
                  have hcz20_9 : wr.cell? ⟨gb289, 9, none⟩ = some (.int .i64 ((rd_T52 l0_2 x4_1).f3)) := (blk_cell BK289.out 9).trans rfl
                  have hcz20_10 : wr.cell? ⟨gb289, 10, none⟩ = some (.slice A288_10 ((rd_T52 l0_2 x4_1).f4).length c288_10) := (blk_cell BK289.out 10).trans rfl
                  have hfz20_0 := blk_frozen BK289.out 0
                  have hfz20_1 := blk_frozen BK289.out 1
                  have hfz20_2 := blk_frozen BK289.out 2
                  have hfz20_3 := blk_frozen BK289.out 3
                  have hfz20_4 := blk_frozen BK289.out 4
                  have hfz20_5 := blk_frozen BK289.out 5
                  have hfz20_6 := blk_frozen BK289.out 6
                  have hfz20_7 := blk_frozen BK289.out 7
                  have hfz20_8 := blk_frozen BK289.out 8
                  have hfz20_9 := blk_frozen BK289.out 9
                  have hfz20_10 := blk_frozen BK289.out 10
                  have p294 : 0 ≤ (x6_2 : Int) := of_decide_eq_true (by first | (with_reducible assumption) | assumption)
                  have q294 : x6_2 < (((rd_T52 l0_2 x4_1).f4).length : Int) := of_decide_eq_true (by first | (with_reducible assumption) | assumption)
                  obtain ⟨ad294, e294, hx294_0, hx294_1⟩ := at_T47 HR288_10.out x6_2 p294 q294
                  cases e294
                  replace hx294_0 := (HB.out.cell (World.block_lt_of_cell? w _ hx294_0)).trans hx294_0
                  replace hx294_1 := (HB.out.cell (World.block_lt_of_cell? w _ hx294_1)).trans hx294_1
                  replace p294 := eq_true p294
                  replace q294 := eq_true q294
                  go_wp2_with (first | (go_at_call 20; (with_reducible refine (spec_l6Mix.calls x3_2 ((rd_T47 ((rd_T52 l0_2 x4_1).f4) x6_2).f0) t295 _ A17.out).mono ?_); rintro e w' ⟨rfl, ⟨nd, rfl⟩⟩; (try first | exact ⟨rfl, _, World.drewN_drewN _ _ _⟩ | exact ⟨rfl, _, Eq.trans (World.drewN_drewN _ _ _) (congrArg (World.drewN _) (Nat.add_assoc _ _ _))⟩); have p296 : 0 ≤ (x6_2 : Int) := of_decide_eq_true (by first | (with_reducible assumption) | assumption); have q296 : x6_2 < (((rd_T52 l0_2 x4_1).f4).length : Int) := of_decide_eq_true (by first | (with_reducible assumption) | assumption); obtain ⟨ad296, e296, hx296_0, hx296_1⟩ := at_T47 HR288_10.out x6_2 p296 q296; obtain rfl : ad294 = ad296 := (by injection e296); replace hx296_0 := (HB.out.cell (World.block_lt_of_cell? w _ hx296_0)).trans hx296_0; replace hx296_1 := (HB.out.cell (World.block_lt_of_cell? w _ hx296_1)).trans hx296_1; replace p296 := eq_true p296; replace q296 := eq_true q296) | (go_at_call 20; (with_reducible refine (spec_l6Mix.calls t295 ((rd_T47 ((rd_T52 l0_2 x4_1).f4) x6_2).f1) t297 _ A18.out).mono ?_); rintro e w' ⟨rfl, ⟨nd, rfl⟩⟩; (try first | exact ⟨rfl, _, World.drewN_drewN _ _ _⟩ | exact ⟨rfl, _, Eq.trans (World.drewN_drewN _ _ _) (congrArg (World.drewN _) (Nat.add_assoc _ _ _))⟩)))
                  repeat (go_quiet (first | (go_at_call 20; (with_reducible refine (spec_l6Mix.calls x3_2 ((rd_T47 ((rd_T52 l0_2 x4_1).f4) x6_2).f0) t295 _ A17.out).mono ?_); rintro e w' ⟨rfl, ⟨nd, rfl⟩⟩; (try first | exact ⟨rfl, _, World.drewN_drewN _ _ _⟩ | exact ⟨rfl, _, Eq.trans (World.drewN_drewN _ _ _) (congrArg (World.drewN _) (Nat.add_assoc _ _ _))⟩); have p296 : 0 ≤ (x6_2 : Int) := of_decide_eq_true (by first | (with_reducible assumption) | assumption); have q296 : x6_2 < (((rd_T52 l0_2 x4_1).f4).length : Int) := of_decide_eq_true (by first | (with_reducible assumption) | assumption); obtain ⟨ad296, e296, hx296_0, hx296_1⟩ := at_T47 HR288_10.out x6_2 p296 q296; obtain rfl : ad294 = ad296 := (by injection e296); replace hx296_0 := (HB.out.cell (World.block_lt_of_cell? w _ hx296_0)).trans hx296_0; replace hx296_1 := (HB.out.cell (World.block_lt_of_cell? w _ hx296_1)).trans hx296_1; replace p296 := eq_true p296; replace q296 := eq_true q296) | (go_at_call 20; (with_reducible refine (spec_l6Mix.calls t295 ((rd_T47 ((rd_T52 l0_2 x4_1).f4) x6_2).f1) t297 _ A18.out).mono ?_); rintro e w' ⟨rfl, ⟨nd, rfl⟩⟩; (try first | exact ⟨rfl, _, World.drewN_drewN _ _ _⟩ | exact ⟨rfl, _, Eq.trans (World.drewN_drewN _ _ _) (congrArg (World.drewN _) (Nat.add_assoc _ _ _))⟩))); try go_wp2_with (first | (go_at_call 20; (with_reducible refine (spec_l6Mix.calls x3_2 ((rd_T47 ((rd_T52 l0_2 x4_1).f4) x6_2).f0) t295 _ A17.out).mono ?_); rintro e w' ⟨rfl, ⟨nd, rfl⟩⟩; (try first | exact ⟨rfl, _, World.drewN_drewN _ _ _⟩ | exact ⟨rfl, _, Eq.trans (World.drewN_drewN _ _ _) (congrArg (World.drewN _) (Nat.add_assoc _ _ _))⟩); have p296 : 0 ≤ (x6_2 : Int) := of_decide_eq_true (by first | (with_reducible assumption) | assumption); have q296 : x6_2 < (((rd_T52 l0_2 x4_1).f4).length : Int) := of_decide_eq_true (by first | (with_reducible assumption) | assumption); obtain ⟨ad296, e296, hx296_0, hx296_1⟩ := at_T47 HR288_10.out x6_2 p296 q296; obtain rfl : ad294 = ad296 := (by injection e296); replace hx296_0 := (HB.out.cell (World.block_lt_of_cell? w _ hx296_0)).trans hx296_0; replace hx296_1 := (HB.out.cell (World.block_lt_of_cell? w _ hx296_1)).trans hx296_1; replace p296 := eq_true p296; replace q296 := eq_true q296) | (go_at_call 20; (with_reducible refine (spec_l6Mix.calls t295 ((rd_T47 ((rd_T52 l0_2 x4_1).f4) x6_2).f1) t297 _ A18.out).mono ?_); rintro e w' ⟨rfl, ⟨nd, rfl⟩⟩; (try first | exact ⟨rfl, _, World.drewN_drewN _ _ _⟩ | exact ⟨rfl, _, Eq.trans (World.drewN_drewN _ _ _) (congrArg (World.drewN _) (Nat.add_assoc _ _ _))⟩))))
                  go_roundg k2
                  case measure => have := HK1.out; have := HK2.out; omega
                  case rel => exact ⟨(t297), (wrap64 (x6_2 + 1)), (by first | rfl | (simp; done) | (simp [*]; done)), (by first | rfl | (simp; done) | (simp [*]; done)), H', ⟨by have := HK1.out; have := HK2.out; omega⟩, ⟨by (with_reducible repeat (first | refine blk_drewN ?_ _ | refine blk_drew ?_ | refine blk_alloc ?_ _)); exact BK286.out⟩, ⟨by (with_reducible repeat (first | refine blk_drewN ?_ _ | refine blk_drew ?_ | refine blk_alloc ?_ _)); exact BK289.out⟩, ⟨by repeat (first | (with_reducible first | exact HB.out | apply below_alloc | apply pw_below_drewN | apply below_drew1 | refine below_set ?_ GE286.out | refine below_set ?_ GE289.out) | exact HB.out)⟩⟩
                · rw [if_neg c16] at H
                  exact absurd H (by simp)
              · rw [if_neg c15] at H
                have c15b0 : decide (x6_2 < (((rd_T52 l0_2 x4_1).f4).length : Int)) = false := decide_eq_false c15
                clear c15
                have H' := Aside0.mk H
                clear H
                have hnb21 := NB289_286.out
                have hnc21 := NB286_289.out
                have hcz22_0 : wr.cell? ⟨gb289, 0, none⟩ = some (.int .i64 ((rd_T52 l0_2 x4_1).f0.f0)) := (blk_cell BK289.out 0).trans rfl
                have hcz22_1 : wr.cell? ⟨gb289, 1, none⟩ = some (.int .i64 ((rd_T52 l0_2 x4_1).f0.f1.f0)) := (blk_cell BK289.out 1).trans rfl
                have hcz22_2 : wr.cell? ⟨gb289, 2, none⟩ = some (.int .i64 ((rd_T52 l0_2 x4_1).f0.f1.f1)) := (blk_cell BK289.out 2).trans rfl
                have hcz22_3 : wr.cell? ⟨gb289, 3, none⟩ = some (.int .i64 ((rd_T52 l0_2 x4_1).f0.f2.f0)) := (blk_cell BK289.out 3).trans rfl
                have hcz22_4 : wr.cell? ⟨gb289, 4, none⟩ = some (.int .i64 ((rd_T52 l0_2 x4_1).f0.f2.f1)) := (blk_cell BK289.out 4).trans rfl
                have hcz22_5 : wr.cell? ⟨gb289, 5, none⟩ = some (.int .i64 ((rd_T52 l0_2 x4_1).f0.f3)) := (blk_cell BK289.out 5).trans rfl
                have hcz22_6 : wr.cell? ⟨gb289, 6, none⟩ = some (.int .i64 ((rd_T52 l0_2 x4_1).f1)) := (blk_cell BK289.out 6).trans rfl
                have hcz22_7 : wr.cell? ⟨gb289, 7, none⟩ = some (.int .i64 ((rd_T52 l0_2 x4_1).f2.f0)) := (blk_cell BK289.out 7).trans rfl
                have hcz22_8 : wr.cell? ⟨gb289, 8, none⟩ = some (.int .i64 ((rd_T52 l0_2 x4_1).f2.f1)) := (blk_cell BK289.out 8).trans rfl
                have hcz22_9 : wr.cell? ⟨gb289, 9, none⟩ = some (.int .i64 ((rd_T52 l0_2 x4_1).f3)) := (blk_cell BK289.out 9).trans rfl
                have hcz22_10 : wr.cell? ⟨gb289, 10, none⟩ = some (.slice A288_10 ((rd_T52 l0_2 x4_1).f4).length c288_10) := (blk_cell BK289.out 10).trans rfl
                have hfz22_0 := blk_frozen BK289.out 0
                have hfz22_1 := blk_frozen BK289.out 1
                have hfz22_2 := blk_frozen BK289.out 2
                have hfz22_3 := blk_frozen BK289.out 3
                have hfz22_4 := blk_frozen BK289.out 4
                have hfz22_5 := blk_frozen BK289.out 5
                have hfz22_6 := blk_frozen BK289.out 6
                have hfz22_7 := blk_frozen BK289.out 7
                have hfz22_8 := blk_frozen BK289.out 8
                have hfz22_9 := blk_frozen BK289.out 9
                have hfz22_10 := blk_frozen BK289.out 10
                go_wp2
                repeat (go_quiet (fail); try go_wp2)
                go_roundg k2
                case measure => have := HK1.out; have := HK2.out; omega
                case rel => exact ⟨(x3_2), (wrap64 (x4_1 + 1)), (by first | rfl | (simp; done) | (simp [*]; done)), (by first | rfl | (simp; done) | (simp [*]; done)), H', ⟨by have := HK1.out; have := HK2.out; omega⟩, ⟨by (with_reducible repeat (first | refine blk_drewN ?_ _ | refine blk_drew ?_ | refine blk_alloc ?_ _)); exact BK286.out⟩, ⟨by repeat (first | (with_reducible first | exact HB.out | apply below_alloc | apply pw_below_drewN | apply below_drew1 | refine below_set ?_ GE286.out | refine below_set ?_ GE289.out) | exact HB.out)⟩⟩
        · rw [if_neg c6] at H
          exact absurd H (by simp)
      · rw [if_neg c5] at H
        have c5b0 : decide (x4_1 < (l0_2.length : Int)) = false := decide_eq_false c5
        clear c5
        have H' := Aside0.mk H
        clear H
        have hcz23_0 : wr.cell? ⟨gb286, 0, none⟩ = some (.int .i64 a0_0) := (blk_cell BK286.out 0).trans rfl
        have hcz23_1 : wr.cell? ⟨gb286, 1, none⟩ = some (.int .i64 a0_1) := (blk_cell BK286.out 1).trans rfl
        have hcz23_2 : wr.cell? ⟨gb286, 2, none⟩ = some (.slice A0_2 l0_2.length c0_2) := (blk_cell BK286.out 2).trans rfl
        have hcz23_3 : wr.cell? ⟨gb286, 3, none⟩ = some (.int .i64 a0_3) := (blk_cell BK286.out 3).trans rfl
        have hcz23_4 : wr.cell? ⟨gb286, 4, none⟩ = some (.slice A0_4 l0_4.length c0_4) := (blk_cell BK286.out 4).trans rfl
        have hcz23_5 : wr.cell? ⟨gb286, 5, none⟩ = some (.slice A0_5 l0_5.length c0_5) := (blk_cell BK286.out 5).trans rfl
        have hfz23_0 := blk_frozen BK286.out 0
        have hfz23_1 := blk_frozen BK286.out 1
        have hfz23_2 := blk_frozen BK286.out 2
        have hfz23_3 := blk_frozen BK286.out 3
        have hfz23_4 := blk_frozen BK286.out 4
        have hfz23_5 := blk_frozen BK286.out 5
        go_wp2
        repeat (go_quiet (fail); try go_wp2)
        go_loopg [3, 7] k1 (fun kq v3 v7 w' => ∃ (x3_2 : Int) (x7_2 : Int), v3 = .int .i64 x3_2 ∧ v7 = .int .i64 x7_2 ∧ Aside0 (spec_BatMark.l2 kq x3_2 x7_2 a0_0 a0_1 l0_2 a0_3 l0_4 l0_5 = some r) ∧ Aside0 (kq ≤ k1) ∧ Aside0 (w'.heap[gb286]? = some (.cells #[.int .i64 a0_0, .int .i64 a0_1, (.slice A0_2 l0_2.length c0_2), .int .i64 a0_3, (.slice A0_4 l0_4.length c0_4), (.slice A0_5 l0_5.length c0_5)] 27 (0, 0))) ∧ Aside0 (Below w.heap.size w w'))
        case atStart => exact ⟨(x3_1), (0), (by first | rfl | (simp; done) | (simp [*]; done)), (by first | rfl | (simp; done) | (simp [*]; done)), H', ⟨Nat.le_refl _⟩, ⟨by (with_reducible repeat (first | refine blk_drewN ?_ _ | refine blk_drew ?_ | refine blk_alloc ?_ _)); exact BK286.out⟩, ⟨by repeat (first | (with_reducible first | exact HB.out | apply below_alloc | apply pw_below_drewN | apply below_drew1 | refine below_set ?_ GE286.out) | exact HB.out)⟩⟩
        case round =>
          clear H'
          try clear c1
          try clear c2
          try clear p2
          try clear q2
          try clear hx2
          try clear c5
          try clear c5b0
          try clear c6
          try clear c6b0
          try clear p6
          try clear c8
          try clear c13
          try clear c15
          try clear c15b0
          try clear c16
          try clear c16b0
          try clear c19
          try clear c21
          try clear hcz11_0
          try clear hcz11_1
          try clear hcz11_2
          try clear hcz11_3
          try clear hcz11_4
          try clear hcz11_5
          try clear hcz14_0
          try clear hcz14_1
          try clear hcz14_10
          try clear hcz14_2
          try clear hcz14_3
          try clear hcz14_4
          try clear hcz14_5
          try clear hcz14_6
          try clear hcz14_7
          try clear hcz14_8
          try clear hcz14_9
          try clear hcz20_0
          try clear hcz20_1
          try clear hcz20_10
          try clear hcz20_2
          try clear hcz20_3
          try clear hcz20_4
          try clear hcz20_5
          try clear hcz20_6
          try clear hcz20_7
          try clear hcz20_8
          try clear hcz20_9
          try clear hcz22_0
          try clear hcz22_1
          try clear hcz22_10
          try clear hcz22_2
          try clear hcz22_3
          try clear hcz22_4
          try clear hcz22_5
          try clear hcz22_6
          try clear hcz22_7
          try clear hcz22_8
          try clear hcz22_9
          try clear hcz23_0
          try clear hcz23_1
          try clear hcz23_2
          try clear hcz23_3
          try clear hcz23_4
          try clear hcz23_5
          try clear hcz4_0
          try clear hcz4_1
          try clear hcz4_2
          try clear hcz4_3
          try clear hcz4_4
          try clear hcz4_5
          try clear hfz11_0
          try clear hfz11_1
          try clear hfz11_2
          try clear hfz11_3
          try clear hfz11_4
          try clear hfz11_5
          try clear hfz14_0
          try clear hfz14_1
          try clear hfz14_10
          try clear hfz14_2
          try clear hfz14_3
          try clear hfz14_4
          try clear hfz14_5
          try clear hfz14_6
          try clear hfz14_7
          try clear hfz14_8
          try clear hfz14_9
          try clear hfz20_0
          try clear hfz20_1
          try clear hfz20_10
          try clear hfz20_2
          try clear hfz20_3
          try clear hfz20_4
          try clear hfz20_5
          try clear hfz20_6
          try clear hfz20_7
          try clear hfz20_8
          try clear hfz20_9
          try clear hfz22_0
          try clear hfz22_1
          try clear hfz22_10
          try clear hfz22_2
          try clear hfz22_3
          try clear hfz22_4
          try clear hfz22_5
          try clear hfz22_6
          try clear hfz22_7
          try clear hfz22_8
          try clear hfz22_9
          try clear hfz23_0
          try clear hfz23_1
          try clear hfz23_2
          try clear hfz23_3
          try clear hfz23_4
          try clear hfz23_5
          try clear hfz4_0
          try clear hfz4_1
          try clear hfz4_2
          try clear hfz4_3
          try clear hfz4_4
          try clear hfz4_5
          try clear hx288_0
          try clear hx288_1
          try clear hx288_10
          try clear hx288_2
          try clear hx288_3
          try clear hx288_4
          try clear hx288_5
          try clear hx288_6
          try clear hx288_7
          try clear hx288_8
          try clear hx288_9
          try clear hx294_0
          try clear hx294_1
          try clear hx296_0
          try clear hx296_1
          try clear p2
          try clear p288
          try clear p294
          try clear p296
          try clear q2
          try clear q288
          try clear q294
          try clear q296
          obtain ⟨x3_2, x7_2, rfl, rfl, HA, HK2, BK286, HB⟩ := hrel
          cases gk with
          | zero => exact absurd HA.out (by simp [spec_BatMark.l2])
          | succ k2 =>
            have H := HA.out
            clear HA
            simp only [spec_BatMark.l2] at H
            by_cases c24 : x7_2 < (l0_5.length : Int)
            · rw [if_pos c24] at H
              have c24b0 : decide (x7_2 < (l0_5.length : Int)) = true := decide_eq_true c24
              clear c24
              replace H := Option.bind_eq_some_iff.mp H
              obtain ⟨t298, A250, H⟩ := H
              replace H : (if 0 ≤ x7_2 then (if rdOf false l0_5 x7_2 = true then ((spec_l6Mix.f t298 77).bind fun t300 => (spec_BatMark.l2 k2 t300 (wrap64 (x7_2 + 1)) a0_0 a0_1 l0_2 a0_3 l0_4 l0_5)) else (spec_BatMark.l2 k2 t298 (wrap64 (x7_2 + 1)) a0_0 a0_1 l0_2 a0_3 l0_4 l0_5)) else (none)) = some r := H
              have A25 := Aside0.mk A250
              clear A250
              by_cases c26 : 0 ≤ x7_2
              · rw [if_pos c26] at H
                have c26b0 : decide (0 ≤ x7_2) = true := decide_eq_true c26
                clear c26
                obtain ⟨bq27, hbq27⟩ : ∃ b_ : Bool, b_ = (rdOf false l0_5 x7_2) := ⟨_, rfl⟩
                replace H : (if bq27 = true then ((spec_l6Mix.f t298 77).bind fun t300 => (spec_BatMark.l2 k2 t300 (wrap64 (x7_2 + 1)) a0_0 a0_1 l0_2 a0_3 l0_4 l0_5)) else (spec_BatMark.l2 k2 t298 (wrap64 (x7_2 + 1)) a0_0 a0_1 l0_2 a0_3 l0_4 l0_5)) = some r := by rw [← hbq27] at H; exact H
                have Nbq27 := Aside0.mk hbq27
                clear hbq27
                by_cases c28 : bq27 = true
                · subst c28
                  have H1 : ((spec_l6Mix.f t298 77).bind fun t300 => (spec_BatMark.l2 k2 t300 (wrap64 (x7_2 + 1)) a0_0 a0_1 l0_2 a0_3 l0_4 l0_5)) = some r := by rw [if_pos rfl] at H; exact H
                  clear H
                  have H := H1
                  clear H1
                  replace H := Option.bind_eq_some_iff.mp H
                  obtain ⟨t300, A290, H⟩ := H
                  replace H : (spec_BatMark.l2 k2 t300 (wrap64 (x7_2 + 1)) a0_0 a0_1 l0_2 a0_3 l0_4 l0_5) = some r := H
                  have A29 := Aside0.mk A290
                  clear A290
                  have H' := Aside0.mk H
                  clear H
                  have hcz30_0 : wr.cell? ⟨gb286, 0, none⟩ = some (.int .i64 a0_0) := (blk_cell BK286.out 0).trans rfl
                  have hcz30_1 : wr.cell? ⟨gb286, 1, none⟩ = some (.int .i64 a0_1) := (blk_cell BK286.out 1).trans rfl
                  have hcz30_2 : wr.cell? ⟨gb286, 2, none⟩ = some (.slice A0_2 l0_2.length c0_2) := (blk_cell BK286.out 2).trans rfl
                  have hcz30_3 : wr.cell? ⟨gb286, 3, none⟩ = some (.int .i64 a0_3) := (blk_cell BK286.out 3).trans rfl
                  have hcz30_4 : wr.cell? ⟨gb286, 4, none⟩ = some (.slice A0_4 l0_4.length c0_4) := (blk_cell BK286.out 4).trans rfl
                  have hcz30_5 : wr.cell? ⟨gb286, 5, none⟩ = some (.slice A0_5 l0_5.length c0_5) := (blk_cell BK286.out 5).trans rfl
                  have hfz30_0 := blk_frozen BK286.out 0
                  have hfz30_1 := blk_frozen BK286.out 1
                  have hfz30_2 := blk_frozen BK286.out 2
                  have hfz30_3 := blk_frozen BK286.out 3
                  have hfz30_4 := blk_frozen BK286.out 4
                  have hfz30_5 := blk_frozen BK286.out 5
                  go_wp2_with (first | (go_at_call 20; (with_reducible refine (spec_l6Mix.calls x3_2 (wrap64 (x7_2 + 1)) t298 _ A25.out).mono ?_); rintro e w' ⟨rfl, ⟨nd, rfl⟩⟩; (try first | exact ⟨rfl, _, World.drewN_drewN _ _ _⟩ | exact ⟨rfl, _, Eq.trans (World.drewN_drewN _ _ _) (congrArg (World.drewN _) (Nat.add_assoc _ _ _))⟩); have p299 : 0 ≤ (x7_2 : Int) := of_decide_eq_true (by first | (with_reducible assumption) | assumption); have q299 : x7_2 < (l0_5.length : Int) := of_decide_eq_true (by first | (with_reducible assumption) | assumption); obtain ⟨ad299, e299, hx299_0⟩ := Kd.at_bool HR0_5.out x7_2 p299 q299; (try rw [← Nbq27.out] at hx299_0); cases e299; replace hx299_0 := (HB.out.cell (World.block_lt_of_cell? w _ hx299_0)).trans hx299_0; replace p299 := eq_true p299; replace q299 := eq_true q299) | (go_at_call 20; (with_reducible refine (spec_l6Mix.calls t298 77 t300 _ A29.out).mono ?_); rintro e w' ⟨rfl, ⟨nd, rfl⟩⟩; (try first | exact ⟨rfl, _, World.drewN_drewN _ _ _⟩ | exact ⟨rfl, _, Eq.trans (World.drewN_drewN _ _ _) (congrArg (World.drewN _) (Nat.add_assoc _ _ _))⟩)))
                  repeat (go_quiet (first | (go_at_call 20; (with_reducible refine (spec_l6Mix.calls x3_2 (wrap64 (x7_2 + 1)) t298 _ A25.out).mono ?_); rintro e w' ⟨rfl, ⟨nd, rfl⟩⟩; (try first | exact ⟨rfl, _, World.drewN_drewN _ _ _⟩ | exact ⟨rfl, _, Eq.trans (World.drewN_drewN _ _ _) (congrArg (World.drewN _) (Nat.add_assoc _ _ _))⟩); have p299 : 0 ≤ (x7_2 : Int) := of_decide_eq_true (by first | (with_reducible assumption) | assumption); have q299 : x7_2 < (l0_5.length : Int) := of_decide_eq_true (by first | (with_reducible assumption) | assumption); obtain ⟨ad299, e299, hx299_0⟩ := Kd.at_bool HR0_5.out x7_2 p299 q299; (try rw [← Nbq27.out] at hx299_0); cases e299; replace hx299_0 := (HB.out.cell (World.block_lt_of_cell? w _ hx299_0)).trans hx299_0; replace p299 := eq_true p299; replace q299 := eq_true q299) | (go_at_call 20; (with_reducible refine (spec_l6Mix.calls t298 77 t300 _ A29.out).mono ?_); rintro e w' ⟨rfl, ⟨nd, rfl⟩⟩; (try first | exact ⟨rfl, _, World.drewN_drewN _ _ _⟩ | exact ⟨rfl, _, Eq.trans (World.drewN_drewN _ _ _) (congrArg (World.drewN _) (Nat.add_assoc _ _ _))⟩))); try go_wp2_with (first | (go_at_call 20; (with_reducible refine (spec_l6Mix.calls x3_2 (wrap64 (x7_2 + 1)) t298 _ A25.out).mono ?_); rintro e w' ⟨rfl, ⟨nd, rfl⟩⟩; (try first | exact ⟨rfl, _, World.drewN_drewN _ _ _⟩ | exact ⟨rfl, _, Eq.trans (World.drewN_drewN _ _ _) (congrArg (World.drewN _) (Nat.add_assoc _ _ _))⟩); have p299 : 0 ≤ (x7_2 : Int) := of_decide_eq_true (by first | (with_reducible assumption) | assumption); have q299 : x7_2 < (l0_5.length : Int) := of_decide_eq_true (by first | (with_reducible assumption) | assumption); obtain ⟨ad299, e299, hx299_0⟩ := Kd.at_bool HR0_5.out x7_2 p299 q299; (try rw [← Nbq27.out] at hx299_0); cases e299; replace hx299_0 := (HB.out.cell (World.block_lt_of_cell? w _ hx299_0)).trans hx299_0; replace p299 := eq_true p299; replace q299 := eq_true q299) | (go_at_call 20; (with_reducible refine (spec_l6Mix.calls t298 77 t300 _ A29.out).mono ?_); rintro e w' ⟨rfl, ⟨nd, rfl⟩⟩; (try first | exact ⟨rfl, _, World.drewN_drewN _ _ _⟩ | exact ⟨rfl, _, Eq.trans (World.drewN_drewN _ _ _) (congrArg (World.drewN _) (Nat.add_assoc _ _ _))⟩))))
                  go_roundg k2
                  case measure => have := HK1.out; have := HK2.out; omega
                  case rel => exact ⟨(t300), (wrap64 (x7_2 + 1)), (by first | rfl | (simp; done) | (simp [*]; done)), (by first | rfl | (simp; done) | (simp [*]; done)), H', ⟨by have := HK1.out; have := HK2.out; omega⟩, ⟨by (with_reducible repeat (first | refine blk_drewN ?_ _ | refine blk_drew ?_ | refine blk_alloc ?_ _)); exact BK286.out⟩, ⟨by repeat (first | (with_reducible first | exact HB.out | apply below_alloc | apply pw_below_drewN | apply below_drew1 | refine below_set ?_ GE286.out) | exact HB.out)⟩⟩
                · replace c28 := Bool.eq_false_iff.mpr c28
                  subst c28
                  have H1 : (spec_BatMark.l2 k2 t298 (wrap64 (x7_2 + 1)) a0_0 a0_1 l0_2 a0_3 l0_4 l0_5) = some r := by rw [if_neg (show ¬ (false = true) by decide)] at H; exact H
                  clear H
                  have H := H1
                  clear H1
                  have H' := Aside0.mk H
                  clear H
                  have hcz31_0 : wr.cell? ⟨gb286, 0, none⟩ = some (.int .i64 a0_0) := (blk_cell BK286.out 0).trans rfl
                  have hcz31_1 : wr.cell? ⟨gb286, 1, none⟩ = some (.int .i64 a0_1) := (blk_cell BK286.out 1).trans rfl
                  have hcz31_2 : wr.cell? ⟨gb286, 2, none⟩ = some (.slice A0_2 l0_2.length c0_2) := (blk_cell BK286.out 2).trans rfl
                  have hcz31_3 : wr.cell? ⟨gb286, 3, none⟩ = some (.int .i64 a0_3) := (blk_cell BK286.out 3).trans rfl
                  have hcz31_4 : wr.cell? ⟨gb286, 4, none⟩ = some (.slice A0_4 l0_4.length c0_4) := (blk_cell BK286.out 4).trans rfl
                  have hcz31_5 : wr.cell? ⟨gb286, 5, none⟩ = some (.slice A0_5 l0_5.length c0_5) := (blk_cell BK286.out 5).trans rfl
                  have hfz31_0 := blk_frozen BK286.out 0
                  have hfz31_1 := blk_frozen BK286.out 1
                  have hfz31_2 := blk_frozen BK286.out 2
                  have hfz31_3 := blk_frozen BK286.out 3
                  have hfz31_4 := blk_frozen BK286.out 4
                  have hfz31_5 := blk_frozen BK286.out 5
                  go_wp2_with (first | (go_at_call 20; (with_reducible refine (spec_l6Mix.calls x3_2 (wrap64 (x7_2 + 1)) t298 _ A25.out).mono ?_); rintro e w' ⟨rfl, ⟨nd, rfl⟩⟩; (try first | exact ⟨rfl, _, World.drewN_drewN _ _ _⟩ | exact ⟨rfl, _, Eq.trans (World.drewN_drewN _ _ _) (congrArg (World.drewN _) (Nat.add_assoc _ _ _))⟩); have p299 : 0 ≤ (x7_2 : Int) := of_decide_eq_true (by first | (with_reducible assumption) | assumption); have q299 : x7_2 < (l0_5.length : Int) := of_decide_eq_true (by first | (with_reducible assumption) | assumption); obtain ⟨ad299, e299, hx299_0⟩ := Kd.at_bool HR0_5.out x7_2 p299 q299; (try rw [← Nbq27.out] at hx299_0); cases e299; replace hx299_0 := (HB.out.cell (World.block_lt_of_cell? w _ hx299_0)).trans hx299_0; replace p299 := eq_true p299; replace q299 := eq_true q299))
                  repeat (go_quiet (first | (go_at_call 20; (with_reducible refine (spec_l6Mix.calls x3_2 (wrap64 (x7_2 + 1)) t298 _ A25.out).mono ?_); rintro e w' ⟨rfl, ⟨nd, rfl⟩⟩; (try first | exact ⟨rfl, _, World.drewN_drewN _ _ _⟩ | exact ⟨rfl, _, Eq.trans (World.drewN_drewN _ _ _) (congrArg (World.drewN _) (Nat.add_assoc _ _ _))⟩); have p299 : 0 ≤ (x7_2 : Int) := of_decide_eq_true (by first | (with_reducible assumption) | assumption); have q299 : x7_2 < (l0_5.length : Int) := of_decide_eq_true (by first | (with_reducible assumption) | assumption); obtain ⟨ad299, e299, hx299_0⟩ := Kd.at_bool HR0_5.out x7_2 p299 q299; (try rw [← Nbq27.out] at hx299_0); cases e299; replace hx299_0 := (HB.out.cell (World.block_lt_of_cell? w _ hx299_0)).trans hx299_0; replace p299 := eq_true p299; replace q299 := eq_true q299)); try go_wp2_with (first | (go_at_call 20; (with_reducible refine (spec_l6Mix.calls x3_2 (wrap64 (x7_2 + 1)) t298 _ A25.out).mono ?_); rintro e w' ⟨rfl, ⟨nd, rfl⟩⟩; (try first | exact ⟨rfl, _, World.drewN_drewN _ _ _⟩ | exact ⟨rfl, _, Eq.trans (World.drewN_drewN _ _ _) (congrArg (World.drewN _) (Nat.add_assoc _ _ _))⟩); have p299 : 0 ≤ (x7_2 : Int) := of_decide_eq_true (by first | (with_reducible assumption) | assumption); have q299 : x7_2 < (l0_5.length : Int) := of_decide_eq_true (by first | (with_reducible assumption) | assumption); obtain ⟨ad299, e299, hx299_0⟩ := Kd.at_bool HR0_5.out x7_2 p299 q299; (try rw [← Nbq27.out] at hx299_0); cases e299; replace hx299_0 := (HB.out.cell (World.block_lt_of_cell? w _ hx299_0)).trans hx299_0; replace p299 := eq_true p299; replace q299 := eq_true q299)))
                  go_roundg k2
                  case measure => have := HK1.out; have := HK2.out; omega
                  case rel => exact ⟨(t298), (wrap64 (x7_2 + 1)), (by first | rfl | (simp; done) | (simp [*]; done)), (by first | rfl | (simp; done) | (simp [*]; done)), H', ⟨by have := HK1.out; have := HK2.out; omega⟩, ⟨by (with_reducible repeat (first | refine blk_drewN ?_ _ | refine blk_drew ?_ | refine blk_alloc ?_ _)); exact BK286.out⟩, ⟨by repeat (first | (with_reducible first | exact HB.out | apply below_alloc | apply pw_below_drewN | apply below_drew1 | refine below_set ?_ GE286.out) | exact HB.out)⟩⟩
              · rw [if_neg c26] at H
                exact absurd H (by simp)
            · rw [if_neg c24] at H
              have c24b0 : decide (x7_2 < (l0_5.length : Int)) = false := decide_eq_false c24
              clear c24
              obtain rfl := Option.some.inj H
              have hcz32_0 : wr.cell? ⟨gb286, 0, none⟩ = some (.int .i64 a0_0) := (blk_cell BK286.out 0).trans rfl
              have hcz32_1 : wr.cell? ⟨gb286, 1, none⟩ = some (.int .i64 a0_1) := (blk_cell BK286.out 1).trans rfl
              have hcz32_2 : wr.cell? ⟨gb286, 2, none⟩ = some (.slice A0_2 l0_2.length c0_2) := (blk_cell BK286.out 2).trans rfl
              have hcz32_3 : wr.cell? ⟨gb286, 3, none⟩ = some (.int .i64 a0_3) := (blk_cell BK286.out 3).trans rfl
              have hcz32_4 : wr.cell? ⟨gb286, 4, none⟩ = some (.slice A0_4 l0_4.length c0_4) := (blk_cell BK286.out 4).trans rfl
              have hcz32_5 : wr.cell? ⟨gb286, 5, none⟩ = some (.slice A0_5 l0_5.length c0_5) := (blk_cell BK286.out 5).trans rfl
              have hfz32_0 := blk_frozen BK286.out 0
              have hfz32_1 := blk_frozen BK286.out 1
              have hfz32_2 := blk_frozen BK286.out 2
              have hfz32_3 := blk_frozen BK286.out 3
              have hfz32_4 := blk_frozen BK286.out 4
              have hfz32_5 := blk_frozen BK286.out 5
              go_wp2
              repeat (go_quiet (fail); try go_wp2)
              go_ret
              exact ⟨by first | rfl | (simp [errW_none, errW_some] <;> rfl) | (simp [*, errW_none, errW_some] <;> rfl), by repeat (first | (with_reducible first | exact HB.out | apply below_alloc | apply pw_below_drewN | apply below_drew1 | refine below_set ?_ GE286.out) | exact HB.out)⟩

end Go.Proofs.Ytipfdcmjcelbiaa.All
