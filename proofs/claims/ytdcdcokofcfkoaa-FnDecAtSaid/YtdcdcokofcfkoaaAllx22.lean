-- Written by the session's own program wip/allprint.py, which drives the kit's print; Lean checks it.
import Derived.Test.YtdcdcokofcfkoaaAllx0
import Derived.Test.YtdcdcokofcfkoaaAllx1
import Derived.Test.YtdcdcokofcfkoaaAllx3
import Derived.Test.YtdcdcokofcfkoaaAllx4
import Derived.Test.YtdcdcokofcfkoaaAllx6
import Derived.Test.YtdcdcokofcfkoaaAllx8
import Derived.Test.YtdcdcokofcfkoaaAllx12
import Derived.Test.YtdcdcokofcfkoaaAllx21
namespace Go.Proofs.Ytdcdcokofcfkoaa.All
open Go.RowKit Go.Proofs.YtdcdcokofcfkoaaW.PrintWords Go.Proofs.YtdcdcokofcfkoaaW.PrintLast Go.Proofs.YtdcdcokofcfkoaaW.PrintMore
attribute [local go_sem] max2_int min2_int max_two min_two max_three min_three max_four min_four   -- for this text's walks alone
set_option linter.unusedVariables false
set_option linter.unusedSimpArgs false

attribute [local go_sem high] eqA24
/-! ### laws_FnDecAt: function 11 -/
mutual
def laws_FnDecAt.j0 : Nat → Int → Bool → Int → Int → Int → Int → Option (Bool)
  | 0, _, _, _, _, _, _ => none
  | k + 1, x4, x36, x565000, x565001, x568000, x568001 => if x36 = true then (if (x568000 == 0 && (x568001 == 0)) = true then ((laws_cuOk.f).bind fun t571 => (some t571)) else (some false)) else (if x4 ≥ x565001 then ((impl_DecCmp.f k x568000 x568001 x565000 x565001).bind fun t572 => (if t572 = 0 then (if x568001 = x4 then ((impl_DecOk.f k x568000 x568001).bind fun t573 => (some t573)) else (some false)) else (some false))) else (laws_FnDecAt.l0 k x4 1 x4 x565000 x565001 x568000 x568001))
def laws_FnDecAt.l0 : Nat → Int → Int → Int → Int → Int → Int → Int → Option (Bool)
  | 0, _, _, _, _, _, _, _ => none
  | k + 1, x4, x6, x7, x565000, x565001, x568000, x568001 => if x7 < x565001 then (laws_FnDecAt.l0 k x4 (wrap64 (x6 * 10)) (wrap64 (x7 + 1)) x565000 x565001 x568000 x568001) else (if x565000 ≥ 0 then (if (wrap64 (x565000 - (wrap64 (x568000 * x6)))) = (wrap64 (Int.tdiv (wrap64 (-x6)) 2)) then (if x568001 = x4 then ((impl_DecOk.f k x568000 x568001).bind fun t574 => (if t574 = true then (if (wrap64 (2 * (wrap64 (x565000 - (wrap64 (x568000 * x6)))))) < x6 then (if (wrap64 ((-2) * (wrap64 (x565000 - (wrap64 (x568000 * x6)))))) < x6 then (some true) else (some true)) else (some true)) else (some false))) else (some false)) else (if x565000 < 0 then (if x568001 = x4 then ((impl_DecOk.f k x568000 x568001).bind fun t575 => (if t575 = true then (if (wrap64 (2 * (wrap64 (x565000 - (wrap64 (x568000 * x6)))))) < x6 then (if (wrap64 ((-2) * (wrap64 (x565000 - (wrap64 (x568000 * x6)))))) < x6 then (some true) else (some ((wrap64 (x565000 - (wrap64 (x568000 * x6)))) == (wrap64 (Int.tdiv x6 2))))) else (some ((wrap64 (x565000 - (wrap64 (x568000 * x6)))) == (wrap64 (Int.tdiv x6 2))))) else (some false))) else (some false)) else (if x568001 = x4 then ((impl_DecOk.f k x568000 x568001).bind fun t576 => (if t576 = true then (if (wrap64 (2 * (wrap64 (x565000 - (wrap64 (x568000 * x6)))))) < x6 then (if (wrap64 ((-2) * (wrap64 (x565000 - (wrap64 (x568000 * x6)))))) < x6 then (some true) else (some false)) else (some false)) else (some false))) else (some false)))) else (if x565000 < 0 then (if x568001 = x4 then ((impl_DecOk.f k x568000 x568001).bind fun t577 => (if t577 = true then (if (wrap64 (2 * (wrap64 (x565000 - (wrap64 (x568000 * x6)))))) < x6 then (if (wrap64 ((-2) * (wrap64 (x565000 - (wrap64 (x568000 * x6)))))) < x6 then (some true) else (some ((wrap64 (x565000 - (wrap64 (x568000 * x6)))) == (wrap64 (Int.tdiv x6 2))))) else (some ((wrap64 (x565000 - (wrap64 (x568000 * x6)))) == (wrap64 (Int.tdiv x6 2))))) else (some false))) else (some false)) else (if x568001 = x4 then ((impl_DecOk.f k x568000 x568001).bind fun t578 => (if t578 = true then (if (wrap64 (2 * (wrap64 (x565000 - (wrap64 (x568000 * x6)))))) < x6 then (if (wrap64 ((-2) * (wrap64 (x565000 - (wrap64 (x568000 * x6)))))) < x6 then (some true) else (some false)) else (some false)) else (some false))) else (some false))))
end
def laws_FnDecAt.f (k : Nat) (l0 : List Int) : Option (Bool) := if (l0.length : Int) > 1048576 then (some true) else ((spec_DrawDecAt.f k l0).bind fun bt561 => ((impl_DecAt.f k bt561.1 bt561.2.1 bt561.2.2).bind fun bt565 => ((spec_DecAt.f k bt561.1 bt561.2.1 bt561.2.2).bind fun bt568 => (if (!(bt565.1 == bt568.1) || (!(bt565.2 == bt568.2))) = true then (some false) else ((spec_DecOk.f k bt561.1 bt561.2.1).bind fun t570 => (if t570 = true then (if bt561.2.2 < 0 then (laws_FnDecAt.j0 k bt561.2.2 true bt561.1 bt561.2.1 bt565.1 bt565.2) else (laws_FnDecAt.j0 k bt561.2.2 (decide (bt561.2.2 > 3)) bt561.1 bt561.2.1 bt565.1 bt565.2)) else (laws_FnDecAt.j0 k bt561.2.2 true bt561.1 bt561.2.1 bt565.1 bt565.2)))))))
theorem laws_FnDecAt.mono_l : ∀ k, (∀ y0 y1 y2 y3 y4 y5, LeO (laws_FnDecAt.j0 k y0 y1 y2 y3 y4 y5) (laws_FnDecAt.j0 (k + 1) y0 y1 y2 y3 y4 y5)) ∧ (∀ y0 y1 y2 y3 y4 y5 y6, LeO (laws_FnDecAt.l0 k y0 y1 y2 y3 y4 y5 y6) (laws_FnDecAt.l0 (k + 1) y0 y1 y2 y3 y4 y5 y6))
  | 0 => ⟨fun _ _ _ _ _ _ r h => by simp [laws_FnDecAt.j0] at h, fun _ _ _ _ _ _ _ r h => by simp [laws_FnDecAt.l0] at h⟩
  | k + 1 => by
    obtain ⟨ih0, ih1⟩ := laws_FnDecAt.mono_l k
    refine ⟨?_, ?_⟩
    · intro y0 y1 y2 y3 y4 y5
      unfold laws_FnDecAt.j0
      repeat' first
      | (with_reducible exact ih0 _ _ _ _ _ _)
      | (with_reducible exact ih1 _ _ _ _ _ _ _)
      | (with_reducible exact impl_DecAt.mono _ _ _ _)
      | (with_reducible exact impl_DecCmp.mono _ _ _ _ _)
      | (with_reducible exact impl_DecOk.mono _ _ _)
      | (with_reducible exact spec_DecAt.mono _ _ _ _)
      | (with_reducible exact spec_DecOk.mono _ _ _)
      | (with_reducible exact spec_DrawDecAt.mono _ _)
      | (with_reducible exact LeO.refl _)
      | (with_reducible exact LeO.none _)
      | (with_reducible refine LeO.ite ?_ ?_)
      | (with_reducible refine LeO.bind ?_ (fun _ => ?_))
      | exact ih0 _ _ _ _ _ _
      | exact ih1 _ _ _ _ _ _ _
      | exact impl_DecAt.mono _ _ _ _
      | exact impl_DecCmp.mono _ _ _ _ _
      | exact impl_DecOk.mono _ _ _
      | exact spec_DecAt.mono _ _ _ _
      | exact spec_DecOk.mono _ _ _
      | exact spec_DrawDecAt.mono _ _
      | exact LeO.none _
      | refine LeO.ite ?_ ?_
      | refine LeO.bind ?_ (fun _ => ?_)
    · intro y0 y1 y2 y3 y4 y5 y6
      unfold laws_FnDecAt.l0
      repeat' first
      | (with_reducible exact ih0 _ _ _ _ _ _)
      | (with_reducible exact ih1 _ _ _ _ _ _ _)
      | (with_reducible exact impl_DecAt.mono _ _ _ _)
      | (with_reducible exact impl_DecCmp.mono _ _ _ _ _)
      | (with_reducible exact impl_DecOk.mono _ _ _)
      | (with_reducible exact spec_DecAt.mono _ _ _ _)
      | (with_reducible exact spec_DecOk.mono _ _ _)
      | (with_reducible exact spec_DrawDecAt.mono _ _)
      | (with_reducible exact LeO.refl _)
      | (with_reducible exact LeO.none _)
      | (with_reducible refine LeO.ite ?_ ?_)
      | (with_reducible refine LeO.bind ?_ (fun _ => ?_))
      | exact ih0 _ _ _ _ _ _
      | exact ih1 _ _ _ _ _ _ _
      | exact impl_DecAt.mono _ _ _ _
      | exact impl_DecCmp.mono _ _ _ _ _
      | exact impl_DecOk.mono _ _ _
      | exact spec_DecAt.mono _ _ _ _
      | exact spec_DecOk.mono _ _ _
      | exact spec_DrawDecAt.mono _ _
      | exact LeO.none _
      | refine LeO.ite ?_ ?_
      | refine LeO.bind ?_ (fun _ => ?_)
theorem laws_FnDecAt.mono : ∀ a0 k, LeO (laws_FnDecAt.f k a0) (laws_FnDecAt.f (k + 1) a0) := by
  intro a0 k
  obtain ⟨ih0, ih1⟩ := laws_FnDecAt.mono_l k
  unfold laws_FnDecAt.f
  repeat' first
      | (with_reducible exact ih0 _ _ _ _ _ _)
      | (with_reducible exact ih1 _ _ _ _ _ _ _)
      | (with_reducible exact impl_DecAt.mono _ _ _ _)
      | (with_reducible exact impl_DecCmp.mono _ _ _ _ _)
      | (with_reducible exact impl_DecOk.mono _ _ _)
      | (with_reducible exact spec_DecAt.mono _ _ _ _)
      | (with_reducible exact spec_DecOk.mono _ _ _)
      | (with_reducible exact spec_DrawDecAt.mono _ _)
      | (with_reducible exact LeO.refl _)
      | (with_reducible exact LeO.none _)
      | (with_reducible refine LeO.ite ?_ ?_)
      | (with_reducible refine LeO.bind ?_ (fun _ => ?_))
      | exact ih0 _ _ _ _ _ _
      | exact ih1 _ _ _ _ _ _ _
      | exact impl_DecAt.mono _ _ _ _
      | exact impl_DecCmp.mono _ _ _ _ _
      | exact impl_DecOk.mono _ _ _
      | exact spec_DecAt.mono _ _ _ _
      | exact spec_DecOk.mono _ _ _
      | exact spec_DrawDecAt.mono _ _
      | exact LeO.none _
      | refine LeO.ite ?_ ?_
      | refine LeO.bind ?_ (fun _ => ?_)
set_option maxHeartbeats 8000000 in
set_option maxRecDepth 100000 in
theorem laws_FnDecAt.calls (k : Nat) (A0 : Option Addr) (c0 : Nat) (l0 : List Int) (r : Bool) (w : World) (hr0 : Kd.C (Kd.int .u8) w A0 l0.length l0) (hc0 : l0.length ≤ c0) (h : laws_FnDecAt.f k l0 = some r) :
    Calls Try.prog 11 #[.slice A0 l0.length c0] w fun e w' => e = .returned (.bool r) ∧ Below w.heap.size w w' := by
  have hu24 := Try.underlying24
  have HR0 := Aside0.mk hr0
  have HC0 := Aside0.mk hc0
  clear hr0 hc0
  have HB := Aside0.mk (Below.refl w.heap.size w)
  have H : (if (l0.length : Int) > 1048576 then (some true) else ((spec_DrawDecAt.f k l0).bind fun bt561 => ((impl_DecAt.f k bt561.1 bt561.2.1 bt561.2.2).bind fun bt565 => ((spec_DecAt.f k bt561.1 bt561.2.1 bt561.2.2).bind fun bt568 => (if (!(bt565.1 == bt568.1) || (!(bt565.2 == bt568.2))) = true then (some false) else ((spec_DecOk.f k bt561.1 bt561.2.1).bind fun t570 => (if t570 = true then (if bt561.2.2 < 0 then (laws_FnDecAt.j0 k bt561.2.2 true bt561.1 bt561.2.1 bt565.1 bt565.2) else (laws_FnDecAt.j0 k bt561.2.2 (decide (bt561.2.2 > 3)) bt561.1 bt561.2.1 bt565.1 bt565.2)) else (laws_FnDecAt.j0 k bt561.2.2 true bt561.1 bt561.2.1 bt565.1 bt565.2)))))))) = some r := h
  clear h
  by_cases c2 : (l0.length : Int) > 1048576
  · rw [if_pos c2] at H
    have c2b0 : decide (1048576 < (l0.length : Int)) = true := decide_eq_true c2
    have c2b1 : decide (1048576 < l0.length) = true := decide_eq_true (by omega)
    clear c2
    obtain rfl := Option.some.inj H
    go_enter Try.func11, Try.ntmps11
    go_wp2
    go_ret
    exact ⟨by first | rfl | (simp [errW_none, errW_some] <;> rfl) | (simp [*, errW_none, errW_some] <;> rfl), by repeat (first | (with_reducible first | exact HB.out | apply below_alloc | apply pw_below_drewN | apply below_drew1) | exact HB.out)⟩
  · rw [if_neg c2] at H
    have c2b0 : decide (1048576 < (l0.length : Int)) = false := decide_eq_false c2
    have c2b1 : decide (1048576 < l0.length) = false := decide_eq_false (by omega)
    clear c2
    replace H := Option.bind_eq_some_iff.mp H
    obtain ⟨⟨t561, t562, t563⟩, A30, H⟩ := H
    replace H : ((impl_DecAt.f k t561 t562 t563).bind fun bt565 => ((spec_DecAt.f k t561 t562 t563).bind fun bt568 => (if (!(bt565.1 == bt568.1) || (!(bt565.2 == bt568.2))) = true then (some false) else ((spec_DecOk.f k t561 t562).bind fun t570 => (if t570 = true then (if t563 < 0 then (laws_FnDecAt.j0 k t563 true t561 t562 bt565.1 bt565.2) else (laws_FnDecAt.j0 k t563 (decide (t563 > 3)) t561 t562 bt565.1 bt565.2)) else (laws_FnDecAt.j0 k t563 true t561 t562 bt565.1 bt565.2)))))) = some r := H
    have A3 := Aside0.mk A30
    clear A30
    replace H := Option.bind_eq_some_iff.mp H
    obtain ⟨⟨t565, t566⟩, A40, H⟩ := H
    replace H : ((spec_DecAt.f k t561 t562 t563).bind fun bt568 => (if (!(t565 == bt568.1) || (!(t566 == bt568.2))) = true then (some false) else ((spec_DecOk.f k t561 t562).bind fun t570 => (if t570 = true then (if t563 < 0 then (laws_FnDecAt.j0 k t563 true t561 t562 t565 t566) else (laws_FnDecAt.j0 k t563 (decide (t563 > 3)) t561 t562 t565 t566)) else (laws_FnDecAt.j0 k t563 true t561 t562 t565 t566))))) = some r := H
    have A4 := Aside0.mk A40
    clear A40
    replace H := Option.bind_eq_some_iff.mp H
    obtain ⟨⟨t568, t569⟩, A50, H⟩ := H
    replace H : (if (!(t565 == t568) || (!(t566 == t569))) = true then (some false) else ((spec_DecOk.f k t561 t562).bind fun t570 => (if t570 = true then (if t563 < 0 then (laws_FnDecAt.j0 k t563 true t561 t562 t565 t566) else (laws_FnDecAt.j0 k t563 (decide (t563 > 3)) t561 t562 t565 t566)) else (laws_FnDecAt.j0 k t563 true t561 t562 t565 t566)))) = some r := H
    have A5 := Aside0.mk A50
    clear A50
    by_cases c6 : (!(t565 == t568) || (!(t566 == t569))) = true
    · rw [if_pos c6] at H
      have c6b0 : (!(t565 == t568) || (!(t566 == t569))) = true := c6
      clear c6
      obtain rfl := Option.some.inj H
      go_enter Try.func11, Try.ntmps11
      try go_wp2_with (first | ((with_reducible refine gate_callee (f := 50) rfl ?_); refine goesL_ (some 15) rfl rfl Try.func50 (by kernel_rfl) rfl #[.slice A0 l0.length c0] rfl (by (try simp only [List.map_toArray, List.map_cons, List.map_nil]); first | done | rfl | (simp only [List.length_drop, List.length_take]; rfl)) ?_; (with_reducible refine (spec_DrawDecAt.calls k _ _ l0 t561 t562 t563 _ ?side1 ?side2 A3.out).mono ?_); (case side1 => repeat (first | exact HR0.out | (with_reducible refine Kd.C_alloc ?_ _) | (with_reducible refine Kd.C_drewN ?_ _) | (with_reducible refine Kd.C_drew ?_))); (case side2 => exact HC0.out); rintro e w7 ⟨rfl, hb⟩; refine ⟨_, rfl, ?_⟩; have n0_ := Aside0.mk (below_step (by repeat (first | (with_reducible first | exact HB.out | apply below_alloc | apply pw_below_drewN | apply below_drew1) | exact HB.out)) hb); clear HB; have HB := n0_; clear n0_; (try clear hb); (try clear hb2); (try clear hk); (try clear hi)) | ((with_reducible refine gate_dst (N := 3) rfl ?_); refine box_event ?hg (N := 3) ?hd (cs := #[.int .i64 0, .int .i64 0]) (t := 24) ?hr ?_; (case hd => rfl); (case hg => rfl); (case hr => first | (go_simp; done) | (go_simp; rfl)); intro gb564 hg w8 hbox hb; have n0_ := Aside0.mk (below_step (by repeat (first | (with_reducible first | exact HB.out | apply below_alloc | apply pw_below_drewN | apply below_drew1) | exact HB.out)) hb); have n1_ := Aside0.mk (hbox); have n2_ := Aside0.mk ((by rw [hg]; exact (below_size (by repeat (first | (with_reducible first | exact HB.out | apply below_alloc | apply pw_below_drewN | apply below_drew1) | exact HB.out))) : w.heap.size ≤ gb564)); have n3_ := Aside0.mk ((by rw [hg]; exact (below_size (by repeat (first | (with_reducible first | exact HB.out | apply below_alloc | apply pw_below_drewN | apply below_drew1) | exact HB.out))) : w.heap.size ≤ gb564)); clear HB; have HB := n0_; have BK564 := n1_; have GW564 := n2_; have GE564 := n3_; clear n0_ n1_ n2_ n3_; clear hb hbox hg; have hcz9_0 : w8.cell? ⟨gb564, 0, none⟩ = some (.int .i64 0) := (blk_cell BK564.out 0).trans rfl; have hcz9_1 : w8.cell? ⟨gb564, 1, none⟩ = some (.int .i64 0) := (blk_cell BK564.out 1).trans rfl; have hfz9_0 := blk_frozen BK564.out 0; have hfz9_1 := blk_frozen BK564.out 1) | ((with_reducible refine gate_callee (f := 17) rfl ?_); refine goesL_ (some 20) rfl rfl Try.func17 (by kernel_rfl) rfl #[.agg #[.int .i64 t561, .int .i64 t562], .int .i64 t563] rfl (by (try simp only [List.map_toArray, List.map_cons, List.map_nil]); first | done | rfl | (simp only [List.length_drop, List.length_take]; rfl)) ?_; (with_reducible refine (impl_DecAt.calls k t561 t562 t563 t565 t566 _ A4.out).mono ?_); rintro e w10 ⟨rfl, hb⟩; refine ⟨_, rfl, ?_⟩; have n0_ := Aside0.mk (blk_below (g := gb564) (o := .cells #[.int .i64 t561, .int .i64 t562] 24 (0, 0)) (by (with_reducible repeat (first | refine blk_drewN ?_ _ | refine blk_drew ?_ | refine blk_alloc ?_ _)); refine blk_put (cs := #[.int .i64 t561, .int .i64 0]) ?_ 1 _ rfl; (with_reducible repeat (first | refine blk_drewN ?_ _ | refine blk_drew ?_ | refine blk_alloc ?_ _)); refine blk_put (cs := #[.int .i64 0, .int .i64 0]) ?_ 0 _ rfl; (with_reducible repeat (first | refine blk_drewN ?_ _ | refine blk_drew ?_ | refine blk_alloc ?_ _)); exact BK564.out) hb); have n1_ := Aside0.mk (below_step (by repeat (first | (with_reducible first | exact HB.out | apply below_alloc | apply pw_below_drewN | apply below_drew1 | refine below_set ?_ GE564.out) | exact HB.out)) hb); clear BK564; clear HB; have BK564 := n0_; have HB := n1_; clear n0_ n1_; (try clear hb); (try clear hb2); (try clear hk); (try clear hi)) | ((with_reducible refine gate_dst (N := 5) rfl ?_); refine box_event ?hg (N := 5) ?hd (cs := #[.int .i64 0, .int .i64 0]) (t := 24) ?hr ?_; (case hd => rfl); (case hg => rfl); (case hr => first | (go_simp; done) | (go_simp; rfl)); intro gb567 hg w11 hbox hb; have n0_ := Aside0.mk (blk_below (g := gb564) (o := .cells #[.int .i64 t561, .int .i64 t562] 24 (0, 0)) (by (with_reducible repeat (first | refine blk_drewN ?_ _ | refine blk_drew ?_ | refine blk_alloc ?_ _)); exact BK564.out) hb); have n1_ := Aside0.mk (below_step (by repeat (first | (with_reducible first | exact HB.out | apply below_alloc | apply pw_below_drewN | apply below_drew1 | refine below_set ?_ GE564.out) | exact HB.out)) hb); have n2_ := Aside0.mk (hbox); have n3_ := Aside0.mk ((by rw [hg]; exact (below_size (by repeat (first | (with_reducible first | exact HB.out | apply below_alloc | apply pw_below_drewN | apply below_drew1 | refine below_set ?_ GE564.out) | exact HB.out))) : w.heap.size ≤ gb567)); have n4_ := Aside0.mk ((by rw [hg]; exact (below_size (by repeat (first | (with_reducible first | exact HB.out | apply below_alloc | apply pw_below_drewN | apply below_drew1 | refine below_set ?_ GE564.out) | exact HB.out))) : w.heap.size ≤ gb567)); have n5_ := Aside0.mk ((by rw [hg]; exact Nat.ne_of_lt (blk_lt (g := gb564) (o := .cells #[.int .i64 t561, .int .i64 t562] 24 (0, 0)) (by (with_reducible repeat (first | refine blk_drewN ?_ _ | refine blk_drew ?_ | refine blk_alloc ?_ _)); exact BK564.out)) : gb564 ≠ gb567)); have n6_ := Aside0.mk ((by rw [hg]; exact Nat.ne_of_gt (blk_lt (g := gb564) (o := .cells #[.int .i64 t561, .int .i64 t562] 24 (0, 0)) (by (with_reducible repeat (first | refine blk_drewN ?_ _ | refine blk_drew ?_ | refine blk_alloc ?_ _)); exact BK564.out)) : gb567 ≠ gb564)); clear BK564; clear HB; have BK564 := n0_; have HB := n1_; have BK567 := n2_; have GW567 := n3_; have GE567 := n4_; have NB564_567 := n5_; have NB567_564 := n6_; clear n0_ n1_ n2_ n3_ n4_ n5_ n6_; clear hb hbox hg; have hnb12 := NB567_564.out; have hnc12 := NB564_567.out; have hcz13_0 : w11.cell? ⟨gb567, 0, none⟩ = some (.int .i64 0) := (blk_cell BK567.out 0).trans rfl; have hcz13_1 : w11.cell? ⟨gb567, 1, none⟩ = some (.int .i64 0) := (blk_cell BK567.out 1).trans rfl; have hfz13_0 := blk_frozen BK567.out 0; have hfz13_1 := blk_frozen BK567.out 1))
      have n0_ : Aside0 (((w11.setCell ⟨gb567, 0, none⟩ (.int .i64 t565)).setCell ⟨gb567, 1, none⟩ (.int .i64 t566)).heap[gb564]? = some (.cells #[.int .i64 t561, .int .i64 t562] 24 (0, 0))) := ⟨by (with_reducible repeat (first | refine blk_drewN ?_ _ | refine blk_drew ?_ | refine blk_alloc ?_ _)); refine blk_far ?_ NB564_567.out _; (with_reducible repeat (first | refine blk_drewN ?_ _ | refine blk_drew ?_ | refine blk_alloc ?_ _)); refine blk_far ?_ NB564_567.out _; (with_reducible repeat (first | refine blk_drewN ?_ _ | refine blk_drew ?_ | refine blk_alloc ?_ _)); exact BK564.out⟩
      have n1_ : Aside0 (((w11.setCell ⟨gb567, 0, none⟩ (.int .i64 t565)).setCell ⟨gb567, 1, none⟩ (.int .i64 t566)).heap[gb567]? = some (.cells #[.int .i64 t565, .int .i64 t566] 24 (0, 0))) := ⟨by (with_reducible repeat (first | refine blk_drewN ?_ _ | refine blk_drew ?_ | refine blk_alloc ?_ _)); refine blk_put (cs := #[.int .i64 t565, .int .i64 0]) ?_ 1 _ rfl; (with_reducible repeat (first | refine blk_drewN ?_ _ | refine blk_drew ?_ | refine blk_alloc ?_ _)); refine blk_put (cs := #[.int .i64 0, .int .i64 0]) ?_ 0 _ rfl; (with_reducible repeat (first | refine blk_drewN ?_ _ | refine blk_drew ?_ | refine blk_alloc ?_ _)); exact BK567.out⟩
      have n2_ : Aside0 (Below w.heap.size w ((w11.setCell ⟨gb567, 0, none⟩ (.int .i64 t565)).setCell ⟨gb567, 1, none⟩ (.int .i64 t566))) := ⟨by repeat (first | (with_reducible first | exact HB.out | apply below_alloc | apply pw_below_drewN | apply below_drew1 | refine below_set ?_ GE564.out | refine below_set ?_ GE567.out) | exact HB.out)⟩
      (try clear BK564)
      (try clear BK567)
      (try clear HB)
      generalize ((w11.setCell ⟨gb567, 0, none⟩ (.int .i64 t565)).setCell ⟨gb567, 1, none⟩ (.int .i64 t566)) = w14 at n0_ n1_ n2_ ⊢
      have BK564 := n0_
      have BK567 := n1_
      have HB := n2_
      clear n0_ n1_ n2_
      have n0_ := Aside0.mk (blk_drew BK564.out)
      have n1_ := Aside0.mk (blk_drew BK567.out)
      have n2_ := Aside0.mk (below_drew1 HB.out)
      clear BK564
      clear BK567
      clear HB
      have BK564 := n0_
      have BK567 := n1_
      have HB := n2_
      clear n0_ n1_ n2_
      refine start_ (n := 5) (S := fun w' => w'.cell? ⟨gb567, 0, none⟩ = some (.int .i64 t565) ∧ w'.cell? ⟨gb567, 1, none⟩ = some (.int .i64 t566) ∧ w'.cell? ⟨gb564, 0, none⟩ = some (.int .i64 t561) ∧ w'.cell? ⟨gb564, 1, none⟩ = some (.int .i64 t562)) (ds := []) #[false, false, false, false, false] (by kernel_rfl) rfl rfl ⟨(blk_cell BK567.out 0).trans rfl, (blk_cell BK567.out 1).trans rfl, (blk_cell BK564.out 0).trans rfl, (blk_cell BK564.out 1).trans rfl⟩ (fun hHeld => ?_)
      generalize w14.drew = w15 at BK564 BK567 HB hHeld ⊢
      refine pure_ (i := 2) (N := some 23) (v := ?_) (a' := ?_) #[false, false, true, false, false] rfl rfl (by kernel_rfl) (fun _ _ _ h => h) (Or.inl ⟨by rfl, ?_⟩) ?_ ?_
      rotate_left
      · intro w'
        go_simp
        with_reducible rfl
      rotate_left
      · simp only [Act.put, List.setIfInBounds_toArray, List.set_cons_zero, List.set_cons_succ, i64_w, i32_w]
        rfl
      refine take_ (i := 0) (N := some 21) (v := ?_) (a' := ?_) #[true, false, true, false, false] rfl rfl (by kernel_rfl) (fun _ _ _ h => h) (Or.inl ⟨by rfl, ?_⟩) hHeld ?_ ?_
      rotate_left
      · rintro w' ⟨s0, s1, s2, s3⟩
        go_simp
        with_reducible rfl
      rotate_left
      · simp only [Act.put, List.setIfInBounds_toArray, List.set_cons_zero, List.set_cons_succ, i64_w, i32_w]
        rfl
      refine take_ (i := 1) (N := some 22) (v := ?_) (a' := ?_) #[true, true, true, false, false] rfl rfl (by kernel_rfl) (fun _ _ _ h => h) (Or.inl ⟨by rfl, ?_⟩) hHeld ?_ ?_
      rotate_left
      · rintro w' ⟨s0, s1, s2, s3⟩
        go_simp
        with_reducible rfl
      rotate_left
      · simp only [Act.put, List.setIfInBounds_toArray, List.set_cons_zero, List.set_cons_succ, i64_w, i32_w]
        rfl
      refine one_ (i := 3) (N := some 24) #[true, true, true, true, false] rfl rfl (by kernel_rfl) (by decide) (fun K hK => ?_)
      refine goes_ Try.func15 (by kernel_rfl) rfl #[.agg #[.int .i64 t561, .int .i64 t562], .int .i64 t563] (by rfl) rfl rfl (by (try simp only [List.map_toArray, List.map_cons, List.map_nil]); first | done | rfl | (simp only [List.length_drop, List.length_take]; rfl)) ?_
      with_reducible refine (spec_DecAt.calls k t561 t562 t563 t568 t569 _ A5.out).mono ?_
      rintro e w16 ⟨rfl, hb⟩
      refine ⟨_, rfl, ?_⟩
      have n0_ := Aside0.mk (blk_below (g := gb564) (o := .cells #[.int .i64 t561, .int .i64 t562] 24 (0, 0)) (by (with_reducible repeat (first | refine blk_drewN ?_ _ | refine blk_drew ?_ | refine blk_alloc ?_ _)); exact BK564.out) hb)
      have n1_ := Aside0.mk (blk_below (g := gb567) (o := .cells #[.int .i64 t565, .int .i64 t566] 24 (0, 0)) (by (with_reducible repeat (first | refine blk_drewN ?_ _ | refine blk_drew ?_ | refine blk_alloc ?_ _)); exact BK567.out) hb)
      have n2_ := Aside0.mk (below_step (by repeat (first | (with_reducible first | exact HB.out | apply below_alloc | apply pw_below_drewN | apply below_drew1 | refine below_set ?_ GE564.out | refine below_set ?_ GE567.out) | exact HB.out)) hb)
      clear BK564
      clear BK567
      clear HB
      have BK564 := n0_
      have BK567 := n1_
      have HB := n2_
      clear n0_ n1_ n2_
      (try clear hb)
      (try clear hb2)
      (try clear hk)
      (try clear hi)
      refine hK.out _ _ ⟨(blk_cell BK567.out 0).trans rfl, (blk_cell BK567.out 1).trans rfl, (blk_cell BK564.out 0).trans rfl, (blk_cell BK564.out 1).trans rfl⟩ (fun hHeld => ?_)
      clear hK K
      refine norm_ (a' := ?_) ?_ ?_
      rotate_left
      · show Act.put _ (some 24) _ = _
        simp only [Act.put, List.setIfInBounds_toArray, List.set_cons_zero, List.set_cons_succ, i64_w, i32_w]
        rfl
      refine pure_ (i := 4) (N := some 25) (v := ?_) (a' := ?_) #[true, true, true, true, true] rfl rfl (by kernel_rfl) (fun _ _ _ h => h) (Or.inl ⟨by rfl, ?_⟩) ?_ ?_
      rotate_left
      · intro w'
        go_simp
        with_reducible rfl
      rotate_left
      · simp only [Act.put, List.setIfInBounds_toArray, List.set_cons_zero, List.set_cons_succ, i64_w, i32_w]
        rfl
      refine done_ (by kernel_rfl) ?_
      try go_wp2
      go_ret
      exact ⟨by first | rfl | (simp [errW_none, errW_some] <;> rfl) | (simp [*, errW_none, errW_some] <;> rfl), by repeat (first | (with_reducible first | exact HB.out | apply below_alloc | apply pw_below_drewN | apply below_drew1 | refine below_set ?_ GE564.out | refine below_set ?_ GE567.out) | exact HB.out)⟩
    · rw [if_neg c6] at H
      have c6b0 : (!(t565 == t568) || (!(t566 == t569))) = false := by simpa using c6
      clear c6
      have HC17 := Aside0.mk H
      clear H
      go_enter Try.func11, Try.ntmps11
      try go_wp2_with (first | ((with_reducible refine gate_callee (f := 50) rfl ?_); refine goesL_ (some 15) rfl rfl Try.func50 (by kernel_rfl) rfl #[.slice A0 l0.length c0] rfl (by (try simp only [List.map_toArray, List.map_cons, List.map_nil]); first | done | rfl | (simp only [List.length_drop, List.length_take]; rfl)) ?_; (with_reducible refine (spec_DrawDecAt.calls k _ _ l0 t561 t562 t563 _ ?side1 ?side2 A3.out).mono ?_); (case side1 => repeat (first | exact HR0.out | (with_reducible refine Kd.C_alloc ?_ _) | (with_reducible refine Kd.C_drewN ?_ _) | (with_reducible refine Kd.C_drew ?_))); (case side2 => exact HC0.out); rintro e w18 ⟨rfl, hb⟩; refine ⟨_, rfl, ?_⟩; have n0_ := Aside0.mk (below_step (by repeat (first | (with_reducible first | exact HB.out | apply below_alloc | apply pw_below_drewN | apply below_drew1) | exact HB.out)) hb); clear HB; have HB := n0_; clear n0_; (try clear hb); (try clear hb2); (try clear hk); (try clear hi)) | ((with_reducible refine gate_dst (N := 3) rfl ?_); refine box_event ?hg (N := 3) ?hd (cs := #[.int .i64 0, .int .i64 0]) (t := 24) ?hr ?_; (case hd => rfl); (case hg => rfl); (case hr => first | (go_simp; done) | (go_simp; rfl)); intro gb564 hg w19 hbox hb; have n0_ := Aside0.mk (below_step (by repeat (first | (with_reducible first | exact HB.out | apply below_alloc | apply pw_below_drewN | apply below_drew1) | exact HB.out)) hb); have n1_ := Aside0.mk (hbox); have n2_ := Aside0.mk ((by rw [hg]; exact (below_size (by repeat (first | (with_reducible first | exact HB.out | apply below_alloc | apply pw_below_drewN | apply below_drew1) | exact HB.out))) : w.heap.size ≤ gb564)); have n3_ := Aside0.mk ((by rw [hg]; exact (below_size (by repeat (first | (with_reducible first | exact HB.out | apply below_alloc | apply pw_below_drewN | apply below_drew1) | exact HB.out))) : w.heap.size ≤ gb564)); clear HB; have HB := n0_; have BK564 := n1_; have GW564 := n2_; have GE564 := n3_; clear n0_ n1_ n2_ n3_; clear hb hbox hg; have hcz20_0 : w19.cell? ⟨gb564, 0, none⟩ = some (.int .i64 0) := (blk_cell BK564.out 0).trans rfl; have hcz20_1 : w19.cell? ⟨gb564, 1, none⟩ = some (.int .i64 0) := (blk_cell BK564.out 1).trans rfl; have hfz20_0 := blk_frozen BK564.out 0; have hfz20_1 := blk_frozen BK564.out 1) | ((with_reducible refine gate_callee (f := 17) rfl ?_); refine goesL_ (some 20) rfl rfl Try.func17 (by kernel_rfl) rfl #[.agg #[.int .i64 t561, .int .i64 t562], .int .i64 t563] rfl (by (try simp only [List.map_toArray, List.map_cons, List.map_nil]); first | done | rfl | (simp only [List.length_drop, List.length_take]; rfl)) ?_; (with_reducible refine (impl_DecAt.calls k t561 t562 t563 t565 t566 _ A4.out).mono ?_); rintro e w21 ⟨rfl, hb⟩; refine ⟨_, rfl, ?_⟩; have n0_ := Aside0.mk (blk_below (g := gb564) (o := .cells #[.int .i64 t561, .int .i64 t562] 24 (0, 0)) (by (with_reducible repeat (first | refine blk_drewN ?_ _ | refine blk_drew ?_ | refine blk_alloc ?_ _)); refine blk_put (cs := #[.int .i64 t561, .int .i64 0]) ?_ 1 _ rfl; (with_reducible repeat (first | refine blk_drewN ?_ _ | refine blk_drew ?_ | refine blk_alloc ?_ _)); refine blk_put (cs := #[.int .i64 0, .int .i64 0]) ?_ 0 _ rfl; (with_reducible repeat (first | refine blk_drewN ?_ _ | refine blk_drew ?_ | refine blk_alloc ?_ _)); exact BK564.out) hb); have n1_ := Aside0.mk (below_step (by repeat (first | (with_reducible first | exact HB.out | apply below_alloc | apply pw_below_drewN | apply below_drew1 | refine below_set ?_ GE564.out) | exact HB.out)) hb); clear BK564; clear HB; have BK564 := n0_; have HB := n1_; clear n0_ n1_; (try clear hb); (try clear hb2); (try clear hk); (try clear hi)) | ((with_reducible refine gate_dst (N := 5) rfl ?_); refine box_event ?hg (N := 5) ?hd (cs := #[.int .i64 0, .int .i64 0]) (t := 24) ?hr ?_; (case hd => rfl); (case hg => rfl); (case hr => first | (go_simp; done) | (go_simp; rfl)); intro gb567 hg w22 hbox hb; have n0_ := Aside0.mk (blk_below (g := gb564) (o := .cells #[.int .i64 t561, .int .i64 t562] 24 (0, 0)) (by (with_reducible repeat (first | refine blk_drewN ?_ _ | refine blk_drew ?_ | refine blk_alloc ?_ _)); exact BK564.out) hb); have n1_ := Aside0.mk (below_step (by repeat (first | (with_reducible first | exact HB.out | apply below_alloc | apply pw_below_drewN | apply below_drew1 | refine below_set ?_ GE564.out) | exact HB.out)) hb); have n2_ := Aside0.mk (hbox); have n3_ := Aside0.mk ((by rw [hg]; exact (below_size (by repeat (first | (with_reducible first | exact HB.out | apply below_alloc | apply pw_below_drewN | apply below_drew1 | refine below_set ?_ GE564.out) | exact HB.out))) : w.heap.size ≤ gb567)); have n4_ := Aside0.mk ((by rw [hg]; exact (below_size (by repeat (first | (with_reducible first | exact HB.out | apply below_alloc | apply pw_below_drewN | apply below_drew1 | refine below_set ?_ GE564.out) | exact HB.out))) : w.heap.size ≤ gb567)); have n5_ := Aside0.mk ((by rw [hg]; exact Nat.ne_of_lt (blk_lt (g := gb564) (o := .cells #[.int .i64 t561, .int .i64 t562] 24 (0, 0)) (by (with_reducible repeat (first | refine blk_drewN ?_ _ | refine blk_drew ?_ | refine blk_alloc ?_ _)); exact BK564.out)) : gb564 ≠ gb567)); have n6_ := Aside0.mk ((by rw [hg]; exact Nat.ne_of_gt (blk_lt (g := gb564) (o := .cells #[.int .i64 t561, .int .i64 t562] 24 (0, 0)) (by (with_reducible repeat (first | refine blk_drewN ?_ _ | refine blk_drew ?_ | refine blk_alloc ?_ _)); exact BK564.out)) : gb567 ≠ gb564)); clear BK564; clear HB; have BK564 := n0_; have HB := n1_; have BK567 := n2_; have GW567 := n3_; have GE567 := n4_; have NB564_567 := n5_; have NB567_564 := n6_; clear n0_ n1_ n2_ n3_ n4_ n5_ n6_; clear hb hbox hg; have hnb23 := NB567_564.out; have hnc23 := NB564_567.out; have hcz24_0 : w22.cell? ⟨gb567, 0, none⟩ = some (.int .i64 0) := (blk_cell BK567.out 0).trans rfl; have hcz24_1 : w22.cell? ⟨gb567, 1, none⟩ = some (.int .i64 0) := (blk_cell BK567.out 1).trans rfl; have hfz24_0 := blk_frozen BK567.out 0; have hfz24_1 := blk_frozen BK567.out 1))
      have n0_ : Aside0 (((w22.setCell ⟨gb567, 0, none⟩ (.int .i64 t565)).setCell ⟨gb567, 1, none⟩ (.int .i64 t566)).heap[gb564]? = some (.cells #[.int .i64 t561, .int .i64 t562] 24 (0, 0))) := ⟨by (with_reducible repeat (first | refine blk_drewN ?_ _ | refine blk_drew ?_ | refine blk_alloc ?_ _)); refine blk_far ?_ NB564_567.out _; (with_reducible repeat (first | refine blk_drewN ?_ _ | refine blk_drew ?_ | refine blk_alloc ?_ _)); refine blk_far ?_ NB564_567.out _; (with_reducible repeat (first | refine blk_drewN ?_ _ | refine blk_drew ?_ | refine blk_alloc ?_ _)); exact BK564.out⟩
      have n1_ : Aside0 (((w22.setCell ⟨gb567, 0, none⟩ (.int .i64 t565)).setCell ⟨gb567, 1, none⟩ (.int .i64 t566)).heap[gb567]? = some (.cells #[.int .i64 t565, .int .i64 t566] 24 (0, 0))) := ⟨by (with_reducible repeat (first | refine blk_drewN ?_ _ | refine blk_drew ?_ | refine blk_alloc ?_ _)); refine blk_put (cs := #[.int .i64 t565, .int .i64 0]) ?_ 1 _ rfl; (with_reducible repeat (first | refine blk_drewN ?_ _ | refine blk_drew ?_ | refine blk_alloc ?_ _)); refine blk_put (cs := #[.int .i64 0, .int .i64 0]) ?_ 0 _ rfl; (with_reducible repeat (first | refine blk_drewN ?_ _ | refine blk_drew ?_ | refine blk_alloc ?_ _)); exact BK567.out⟩
      have n2_ : Aside0 (Below w.heap.size w ((w22.setCell ⟨gb567, 0, none⟩ (.int .i64 t565)).setCell ⟨gb567, 1, none⟩ (.int .i64 t566))) := ⟨by repeat (first | (with_reducible first | exact HB.out | apply below_alloc | apply pw_below_drewN | apply below_drew1 | refine below_set ?_ GE564.out | refine below_set ?_ GE567.out) | exact HB.out)⟩
      (try clear BK564)
      (try clear BK567)
      (try clear HB)
      generalize ((w22.setCell ⟨gb567, 0, none⟩ (.int .i64 t565)).setCell ⟨gb567, 1, none⟩ (.int .i64 t566)) = w25 at n0_ n1_ n2_ ⊢
      have BK564 := n0_
      have BK567 := n1_
      have HB := n2_
      clear n0_ n1_ n2_
      have n0_ := Aside0.mk (blk_drew BK564.out)
      have n1_ := Aside0.mk (blk_drew BK567.out)
      have n2_ := Aside0.mk (below_drew1 HB.out)
      clear BK564
      clear BK567
      clear HB
      have BK564 := n0_
      have BK567 := n1_
      have HB := n2_
      clear n0_ n1_ n2_
      refine start_ (n := 5) (S := fun w' => w'.cell? ⟨gb567, 0, none⟩ = some (.int .i64 t565) ∧ w'.cell? ⟨gb567, 1, none⟩ = some (.int .i64 t566) ∧ w'.cell? ⟨gb564, 0, none⟩ = some (.int .i64 t561) ∧ w'.cell? ⟨gb564, 1, none⟩ = some (.int .i64 t562)) (ds := []) #[false, false, false, false, false] (by kernel_rfl) rfl rfl ⟨(blk_cell BK567.out 0).trans rfl, (blk_cell BK567.out 1).trans rfl, (blk_cell BK564.out 0).trans rfl, (blk_cell BK564.out 1).trans rfl⟩ (fun hHeld => ?_)
      generalize w25.drew = w26 at BK564 BK567 HB hHeld ⊢
      refine pure_ (i := 2) (N := some 23) (v := ?_) (a' := ?_) #[false, false, true, false, false] rfl rfl (by kernel_rfl) (fun _ _ _ h => h) (Or.inl ⟨by rfl, ?_⟩) ?_ ?_
      rotate_left
      · intro w'
        go_simp
        with_reducible rfl
      rotate_left
      · simp only [Act.put, List.setIfInBounds_toArray, List.set_cons_zero, List.set_cons_succ, i64_w, i32_w]
        rfl
      refine take_ (i := 0) (N := some 21) (v := ?_) (a' := ?_) #[true, false, true, false, false] rfl rfl (by kernel_rfl) (fun _ _ _ h => h) (Or.inl ⟨by rfl, ?_⟩) hHeld ?_ ?_
      rotate_left
      · rintro w' ⟨s0, s1, s2, s3⟩
        go_simp
        with_reducible rfl
      rotate_left
      · simp only [Act.put, List.setIfInBounds_toArray, List.set_cons_zero, List.set_cons_succ, i64_w, i32_w]
        rfl
      refine take_ (i := 1) (N := some 22) (v := ?_) (a' := ?_) #[true, true, true, false, false] rfl rfl (by kernel_rfl) (fun _ _ _ h => h) (Or.inl ⟨by rfl, ?_⟩) hHeld ?_ ?_
      rotate_left
      · rintro w' ⟨s0, s1, s2, s3⟩
        go_simp
        with_reducible rfl
      rotate_left
      · simp only [Act.put, List.setIfInBounds_toArray, List.set_cons_zero, List.set_cons_succ, i64_w, i32_w]
        rfl
      refine one_ (i := 3) (N := some 24) #[true, true, true, true, false] rfl rfl (by kernel_rfl) (by decide) (fun K hK => ?_)
      refine goes_ Try.func15 (by kernel_rfl) rfl #[.agg #[.int .i64 t561, .int .i64 t562], .int .i64 t563] (by rfl) rfl rfl (by (try simp only [List.map_toArray, List.map_cons, List.map_nil]); first | done | rfl | (simp only [List.length_drop, List.length_take]; rfl)) ?_
      with_reducible refine (spec_DecAt.calls k t561 t562 t563 t568 t569 _ A5.out).mono ?_
      rintro e w27 ⟨rfl, hb⟩
      refine ⟨_, rfl, ?_⟩
      have n0_ := Aside0.mk (blk_below (g := gb564) (o := .cells #[.int .i64 t561, .int .i64 t562] 24 (0, 0)) (by (with_reducible repeat (first | refine blk_drewN ?_ _ | refine blk_drew ?_ | refine blk_alloc ?_ _)); exact BK564.out) hb)
      have n1_ := Aside0.mk (blk_below (g := gb567) (o := .cells #[.int .i64 t565, .int .i64 t566] 24 (0, 0)) (by (with_reducible repeat (first | refine blk_drewN ?_ _ | refine blk_drew ?_ | refine blk_alloc ?_ _)); exact BK567.out) hb)
      have n2_ := Aside0.mk (below_step (by repeat (first | (with_reducible first | exact HB.out | apply below_alloc | apply pw_below_drewN | apply below_drew1 | refine below_set ?_ GE564.out | refine below_set ?_ GE567.out) | exact HB.out)) hb)
      clear BK564
      clear BK567
      clear HB
      have BK564 := n0_
      have BK567 := n1_
      have HB := n2_
      clear n0_ n1_ n2_
      (try clear hb)
      (try clear hb2)
      (try clear hk)
      (try clear hi)
      refine hK.out _ _ ⟨(blk_cell BK567.out 0).trans rfl, (blk_cell BK567.out 1).trans rfl, (blk_cell BK564.out 0).trans rfl, (blk_cell BK564.out 1).trans rfl⟩ (fun hHeld => ?_)
      clear hK K
      refine norm_ (a' := ?_) ?_ ?_
      rotate_left
      · show Act.put _ (some 24) _ = _
        simp only [Act.put, List.setIfInBounds_toArray, List.set_cons_zero, List.set_cons_succ, i64_w, i32_w]
        rfl
      refine pure_ (i := 4) (N := some 25) (v := ?_) (a' := ?_) #[true, true, true, true, true] rfl rfl (by kernel_rfl) (fun _ _ _ h => h) (Or.inl ⟨by rfl, ?_⟩) ?_ ?_
      rotate_left
      · intro w'
        go_simp
        with_reducible rfl
      rotate_left
      · simp only [Act.put, List.setIfInBounds_toArray, List.set_cons_zero, List.set_cons_succ, i64_w, i32_w]
        rfl
      refine done_ (by kernel_rfl) ?_
      go_upto_region 7 with (fail)
      go_cut [36] (fun v36 wc => ∃ (kq : Nat) (x36_16 : Bool), v36 = .bool x36_16 ∧ Aside0 (laws_FnDecAt.j0 kq t563 x36_16 t561 t562 t565 t566 = some r) ∧ Aside0 (kq ≤ k) ∧ Aside0 (wc.heap[gb564]? = some (.cells #[.int .i64 t561, .int .i64 t562] 24 (0, 0))) ∧ Aside0 (wc.heap[gb567]? = some (.cells #[.int .i64 t565, .int .i64 t566] 24 (0, 0))) ∧ Aside0 (Below w.heap.size w wc))
      case first =>
        have H := HC17.out
        clear HC17
        replace H := Option.bind_eq_some_iff.mp H
        obtain ⟨t570, A280, H⟩ := H
        replace H : (if t570 = true then (if t563 < 0 then (laws_FnDecAt.j0 k t563 true t561 t562 t565 t566) else (laws_FnDecAt.j0 k t563 (decide (t563 > 3)) t561 t562 t565 t566)) else (laws_FnDecAt.j0 k t563 true t561 t562 t565 t566)) = some r := H
        have A28 := Aside0.mk A280
        clear A280
        by_cases c29 : t570 = true
        · subst c29
          have H1 : (if t563 < 0 then (laws_FnDecAt.j0 k t563 true t561 t562 t565 t566) else (laws_FnDecAt.j0 k t563 (decide (t563 > 3)) t561 t562 t565 t566)) = some r := by rw [if_pos rfl] at H; exact H
          clear H
          have H := H1
          clear H1
          by_cases c30 : t563 < 0
          · rw [if_pos c30] at H
            have c30b0 : decide (t563 < 0) = true := decide_eq_true c30
            clear c30
            (first | rw [c30b0] | (simp only [i64_w, i32_w]; rw [c30b0]) | skip)
            have H' := Aside0.mk H
            clear H
            have hnb31 := NB564_567.out
            have hnc31 := NB567_564.out
            have hcz32_0 : w27.cell? ⟨gb564, 0, none⟩ = some (.int .i64 t561) := (blk_cell BK564.out 0).trans rfl
            have hcz32_1 : w27.cell? ⟨gb564, 1, none⟩ = some (.int .i64 t562) := (blk_cell BK564.out 1).trans rfl
            have hfz32_0 := blk_frozen BK564.out 0
            have hfz32_1 := blk_frozen BK564.out 1
            go_wp2_with (first | ((with_reducible refine gate_callee (f := 51) rfl ?_); refine goesL_ (some 27) rfl rfl Try.func51 (by kernel_rfl) rfl #[.agg #[.int .i64 t561, .int .i64 t562]] rfl (by (try simp only [List.map_toArray, List.map_cons, List.map_nil]); first | done | rfl | (simp only [List.length_drop, List.length_take]; rfl)) ?_; (with_reducible refine (spec_DecOk.calls k t561 t562 true _ A28.out).mono ?_); rintro e w33 ⟨rfl, hb⟩; refine ⟨_, rfl, ?_⟩; have n0_ := Aside0.mk (blk_below (g := gb564) (o := .cells #[.int .i64 t561, .int .i64 t562] 24 (0, 0)) (by (with_reducible repeat (first | refine blk_drewN ?_ _ | refine blk_drew ?_ | refine blk_alloc ?_ _)); exact BK564.out) hb); have n1_ := Aside0.mk (blk_below (g := gb567) (o := .cells #[.int .i64 t565, .int .i64 t566] 24 (0, 0)) (by (with_reducible repeat (first | refine blk_drewN ?_ _ | refine blk_drew ?_ | refine blk_alloc ?_ _)); exact BK567.out) hb); have n2_ := Aside0.mk (below_step (by repeat (first | (with_reducible first | exact HB.out | apply below_alloc | apply pw_below_drewN | apply below_drew1 | refine below_set ?_ GE564.out | refine below_set ?_ GE567.out) | exact HB.out)) hb); clear BK564; clear BK567; clear HB; have BK564 := n0_; have BK567 := n1_; have HB := n2_; clear n0_ n1_ n2_; (try clear hb); (try clear hb2); (try clear hk); (try clear hi)))
            go_meet
            case rel => exact ⟨_, (true), (by first | rfl | (simp; done) | (simp [*]; done)), H', ⟨by first | omega | exact Nat.le_refl _⟩, ⟨by (with_reducible repeat (first | refine blk_drewN ?_ _ | refine blk_drew ?_ | refine blk_alloc ?_ _)); exact BK564.out⟩, ⟨by (with_reducible repeat (first | refine blk_drewN ?_ _ | refine blk_drew ?_ | refine blk_alloc ?_ _)); exact BK567.out⟩, ⟨by repeat (first | (with_reducible first | exact HB.out | apply below_alloc | apply pw_below_drewN | apply below_drew1 | refine below_set ?_ GE564.out | refine below_set ?_ GE567.out) | exact HB.out)⟩⟩
          · rw [if_neg c30] at H
            have c30b0 : decide (t563 < 0) = false := decide_eq_false c30
            clear c30
            (first | rw [c30b0] | (simp only [i64_w, i32_w]; rw [c30b0]) | skip)
            have H' := Aside0.mk H
            clear H
            have hnb34 := NB564_567.out
            have hnc34 := NB567_564.out
            have hcz35_0 : w27.cell? ⟨gb564, 0, none⟩ = some (.int .i64 t561) := (blk_cell BK564.out 0).trans rfl
            have hcz35_1 : w27.cell? ⟨gb564, 1, none⟩ = some (.int .i64 t562) := (blk_cell BK564.out 1).trans rfl
            have hfz35_0 := blk_frozen BK564.out 0
            have hfz35_1 := blk_frozen BK564.out 1
            go_wp2_with (first | ((with_reducible refine gate_callee (f := 51) rfl ?_); refine goesL_ (some 27) rfl rfl Try.func51 (by kernel_rfl) rfl #[.agg #[.int .i64 t561, .int .i64 t562]] rfl (by (try simp only [List.map_toArray, List.map_cons, List.map_nil]); first | done | rfl | (simp only [List.length_drop, List.length_take]; rfl)) ?_; (with_reducible refine (spec_DecOk.calls k t561 t562 true _ A28.out).mono ?_); rintro e w36 ⟨rfl, hb⟩; refine ⟨_, rfl, ?_⟩; have n0_ := Aside0.mk (blk_below (g := gb564) (o := .cells #[.int .i64 t561, .int .i64 t562] 24 (0, 0)) (by (with_reducible repeat (first | refine blk_drewN ?_ _ | refine blk_drew ?_ | refine blk_alloc ?_ _)); exact BK564.out) hb); have n1_ := Aside0.mk (blk_below (g := gb567) (o := .cells #[.int .i64 t565, .int .i64 t566] 24 (0, 0)) (by (with_reducible repeat (first | refine blk_drewN ?_ _ | refine blk_drew ?_ | refine blk_alloc ?_ _)); exact BK567.out) hb); have n2_ := Aside0.mk (below_step (by repeat (first | (with_reducible first | exact HB.out | apply below_alloc | apply pw_below_drewN | apply below_drew1 | refine below_set ?_ GE564.out | refine below_set ?_ GE567.out) | exact HB.out)) hb); clear BK564; clear BK567; clear HB; have BK564 := n0_; have BK567 := n1_; have HB := n2_; clear n0_ n1_ n2_; (try clear hb); (try clear hb2); (try clear hk); (try clear hi)))
            go_meet
            case rel => exact ⟨_, (decide (t563 > 3)), (by first | rfl | (simp; done) | (simp [*]; done)), H', ⟨by first | omega | exact Nat.le_refl _⟩, ⟨by (with_reducible repeat (first | refine blk_drewN ?_ _ | refine blk_drew ?_ | refine blk_alloc ?_ _)); exact BK564.out⟩, ⟨by (with_reducible repeat (first | refine blk_drewN ?_ _ | refine blk_drew ?_ | refine blk_alloc ?_ _)); exact BK567.out⟩, ⟨by repeat (first | (with_reducible first | exact HB.out | apply below_alloc | apply pw_below_drewN | apply below_drew1 | refine below_set ?_ GE564.out | refine below_set ?_ GE567.out) | exact HB.out)⟩⟩
        · replace c29 := Bool.eq_false_iff.mpr c29
          subst c29
          have H1 : (laws_FnDecAt.j0 k t563 true t561 t562 t565 t566) = some r := by rw [if_neg (show ¬ (false = true) by decide)] at H; exact H
          clear H
          have H := H1
          clear H1
          have H' := Aside0.mk H
          clear H
          have hnb37 := NB564_567.out
          have hnc37 := NB567_564.out
          have hcz38_0 : w27.cell? ⟨gb564, 0, none⟩ = some (.int .i64 t561) := (blk_cell BK564.out 0).trans rfl
          have hcz38_1 : w27.cell? ⟨gb564, 1, none⟩ = some (.int .i64 t562) := (blk_cell BK564.out 1).trans rfl
          have hfz38_0 := blk_frozen BK564.out 0
          have hfz38_1 := blk_frozen BK564.out 1
          go_wp2_with (first | ((with_reducible refine gate_callee (f := 51) rfl ?_); refine goesL_ (some 27) rfl rfl Try.func51 (by kernel_rfl) rfl #[.agg #[.int .i64 t561, .int .i64 t562]] rfl (by (try simp only [List.map_toArray, List.map_cons, List.map_nil]); first | done | rfl | (simp only [List.length_drop, List.length_take]; rfl)) ?_; (with_reducible refine (spec_DecOk.calls k t561 t562 false _ A28.out).mono ?_); rintro e w39 ⟨rfl, hb⟩; refine ⟨_, rfl, ?_⟩; have n0_ := Aside0.mk (blk_below (g := gb564) (o := .cells #[.int .i64 t561, .int .i64 t562] 24 (0, 0)) (by (with_reducible repeat (first | refine blk_drewN ?_ _ | refine blk_drew ?_ | refine blk_alloc ?_ _)); exact BK564.out) hb); have n1_ := Aside0.mk (blk_below (g := gb567) (o := .cells #[.int .i64 t565, .int .i64 t566] 24 (0, 0)) (by (with_reducible repeat (first | refine blk_drewN ?_ _ | refine blk_drew ?_ | refine blk_alloc ?_ _)); exact BK567.out) hb); have n2_ := Aside0.mk (below_step (by repeat (first | (with_reducible first | exact HB.out | apply below_alloc | apply pw_below_drewN | apply below_drew1 | refine below_set ?_ GE564.out | refine below_set ?_ GE567.out) | exact HB.out)) hb); clear BK564; clear BK567; clear HB; have BK564 := n0_; have BK567 := n1_; have HB := n2_; clear n0_ n1_ n2_; (try clear hb); (try clear hb2); (try clear hk); (try clear hi)))
          go_meet
          case rel => exact ⟨_, (true), (by first | rfl | (simp; done) | (simp [*]; done)), H', ⟨by first | omega | exact Nat.le_refl _⟩, ⟨by (with_reducible repeat (first | refine blk_drewN ?_ _ | refine blk_drew ?_ | refine blk_alloc ?_ _)); exact BK564.out⟩, ⟨by (with_reducible repeat (first | refine blk_drewN ?_ _ | refine blk_drew ?_ | refine blk_alloc ?_ _)); exact BK567.out⟩, ⟨by repeat (first | (with_reducible first | exact HB.out | apply below_alloc | apply pw_below_drewN | apply below_drew1 | refine below_set ?_ GE564.out | refine below_set ?_ GE567.out) | exact HB.out)⟩⟩
      case rest =>
        clear HC17
        try clear c1
        try clear c2
        try clear c2b0
        try clear c2b1
        try clear p2
        try clear c3
        try clear c5
        try clear c6
        try clear c6b0
        try clear c11
        try clear c12
        try clear c15
        try clear c17
        try clear c23
        try clear c29
        try clear c30
        try clear c30b0
        try clear c31
        try clear c34
        try clear c37
        try clear hcz13_0
        try clear hcz13_1
        try clear hcz20_0
        try clear hcz20_1
        try clear hcz24_0
        try clear hcz24_1
        try clear hcz32_0
        try clear hcz32_1
        try clear hcz35_0
        try clear hcz35_1
        try clear hcz38_0
        try clear hcz38_1
        try clear hcz9_0
        try clear hcz9_1
        try clear hfz13_0
        try clear hfz13_1
        try clear hfz20_0
        try clear hfz20_1
        try clear hfz24_0
        try clear hfz24_1
        try clear hfz32_0
        try clear hfz32_1
        try clear hfz35_0
        try clear hfz35_1
        try clear hfz38_0
        try clear hfz38_1
        try clear hfz9_0
        try clear hfz9_1
        obtain ⟨kq, x36_16, rfl, HA, HJ16, BK564, BK567, HB⟩ := hcut
        cases kq with
        | zero => exact absurd HA.out (by simp [laws_FnDecAt.j0])
        | succ kj16 =>
          have H := HA.out
          clear HA
          simp only [laws_FnDecAt.j0] at H
          by_cases c40 : x36_16 = true
          · subst c40
            have H1 : (if (t565 == 0 && (t566 == 0)) = true then ((laws_cuOk.f).bind fun t571 => (some t571)) else (some false)) = some r := by rw [if_pos rfl] at H; exact H
            clear H
            have H := H1
            clear H1
            by_cases c41 : (t565 == 0 && (t566 == 0)) = true
            · rw [if_pos c41] at H
              have c41b0 : (t565 == 0 && (t566 == 0)) = true := c41
              (try (have c41b1 : decide (t565 = 0 && (t566 == 0)) = true := by simpa using c41))
              (try (have c41b2 : (t565 == 0 && (t566 == 0)) = true := by simpa using c41))
              clear c41
              replace H := Option.bind_eq_some_iff.mp H
              obtain ⟨t571, A420, H⟩ := H
              replace H : (some t571) = some r := H
              have A42 := Aside0.mk A420
              clear A420
              obtain rfl := Option.some.inj H
              have hnb43 := NB567_564.out
              have hnc43 := NB564_567.out
              have hcz44_0 : wc.cell? ⟨gb567, 0, none⟩ = some (.int .i64 t565) := (blk_cell BK567.out 0).trans rfl
              have hcz44_1 : wc.cell? ⟨gb567, 1, none⟩ = some (.int .i64 t566) := (blk_cell BK567.out 1).trans rfl
              have hfz44_0 := blk_frozen BK567.out 0
              have hfz44_1 := blk_frozen BK567.out 1
              go_wp2_with (first | (go_at_call 34; (with_reducible refine (laws_cuOk.calls  t571 _ A42.out).mono ?_); rintro e w45 ⟨rfl, hb⟩; have n0_ := Aside0.mk (blk_below (g := gb564) (o := .cells #[.int .i64 t561, .int .i64 t562] 24 (0, 0)) (by (with_reducible repeat (first | refine blk_drewN ?_ _ | refine blk_drew ?_ | refine blk_alloc ?_ _)); exact BK564.out) hb); have n1_ := Aside0.mk (blk_below (g := gb567) (o := .cells #[.int .i64 t565, .int .i64 t566] 24 (0, 0)) (by (with_reducible repeat (first | refine blk_drewN ?_ _ | refine blk_drew ?_ | refine blk_alloc ?_ _)); exact BK567.out) hb); have n2_ := Aside0.mk (below_step (by repeat (first | (with_reducible first | exact HB.out | apply below_alloc | apply pw_below_drewN | apply below_drew1 | refine below_set ?_ GE564.out | refine below_set ?_ GE567.out) | exact HB.out)) hb); clear BK564; clear BK567; clear HB; have BK564 := n0_; have BK567 := n1_; have HB := n2_; clear n0_ n1_ n2_; (try clear hb); (try clear hb2); (try clear hk); (try clear hi)))
              go_ret
              exact ⟨by first | rfl | (simp [errW_none, errW_some] <;> rfl) | (simp [*, errW_none, errW_some] <;> rfl), by repeat (first | (with_reducible first | exact HB.out | apply below_alloc | apply pw_below_drewN | apply below_drew1 | refine below_set ?_ GE564.out | refine below_set ?_ GE567.out) | exact HB.out)⟩
            · rw [if_neg c41] at H
              have c41b0 : (t565 == 0 && (t566 == 0)) = false := by simpa using c41
              (try (have c41b1 : decide (t565 = 0 && (t566 == 0)) = false := by simpa using c41))
              (try (have c41b2 : (t565 == 0 && (t566 == 0)) = false := by simpa using c41))
              (try (have c41b3 : ¬ (t565 = 0 && (t566 == 0)) := by simpa using c41))
              clear c41
              obtain rfl := Option.some.inj H
              have hnb46 := NB567_564.out
              have hnc46 := NB564_567.out
              have hcz47_0 : wc.cell? ⟨gb567, 0, none⟩ = some (.int .i64 t565) := (blk_cell BK567.out 0).trans rfl
              have hcz47_1 : wc.cell? ⟨gb567, 1, none⟩ = some (.int .i64 t566) := (blk_cell BK567.out 1).trans rfl
              have hfz47_0 := blk_frozen BK567.out 0
              have hfz47_1 := blk_frozen BK567.out 1
              go_wp2
              go_ret
              exact ⟨by first | rfl | (simp [errW_none, errW_some] <;> rfl) | (simp [*, errW_none, errW_some] <;> rfl), by repeat (first | (with_reducible first | exact HB.out | apply below_alloc | apply pw_below_drewN | apply below_drew1 | refine below_set ?_ GE564.out | refine below_set ?_ GE567.out) | exact HB.out)⟩
          · replace c40 := Bool.eq_false_iff.mpr c40
            subst c40
            have H1 : (if t563 ≥ t562 then ((impl_DecCmp.f kj16 t565 t566 t561 t562).bind fun t572 => (if t572 = 0 then (if t566 = t563 then ((impl_DecOk.f kj16 t565 t566).bind fun t573 => (some t573)) else (some false)) else (some false))) else (laws_FnDecAt.l0 kj16 t563 1 t563 t561 t562 t565 t566)) = some r := by rw [if_neg (show ¬ (false = true) by decide)] at H; exact H
            clear H
            have H := H1
            clear H1
            by_cases c48 : t563 ≥ t562
            · rw [if_pos c48] at H
              have c48b0 : decide (t562 ≤ t563) = true := decide_eq_true c48
              clear c48
              replace H := Option.bind_eq_some_iff.mp H
              obtain ⟨t572, A490, H⟩ := H
              replace H : (if t572 = 0 then (if t566 = t563 then ((impl_DecOk.f kj16 t565 t566).bind fun t573 => (some t573)) else (some false)) else (some false)) = some r := H
              have A49 := Aside0.mk A490
              clear A490
              by_cases c50 : t572 = 0
              · rw [if_pos c50] at H
                have c50b0 : (t572 == 0) = true := beq_iff_eq.mpr c50
                have c50b1 : (t572 != 0) = false := bne_eq_false_iff_eq.mpr c50
                clear c50
                by_cases c51 : t566 = t563
                · rw [if_pos c51] at H
                  have c51b0 : (t566 == t563) = true := beq_iff_eq.mpr c51
                  have c51b1 : (t566 != t563) = false := bne_eq_false_iff_eq.mpr c51
                  clear c51
                  replace H := Option.bind_eq_some_iff.mp H
                  obtain ⟨t573, A520, H⟩ := H
                  replace H : (some t573) = some r := H
                  have A52 := Aside0.mk A520
                  clear A520
                  obtain rfl := Option.some.inj H
                  have hnb53 := NB564_567.out
                  have hnc53 := NB567_564.out
                  have hcz54_0 : wc.cell? ⟨gb564, 0, none⟩ = some (.int .i64 t561) := (blk_cell BK564.out 0).trans rfl
                  have hcz54_1 : wc.cell? ⟨gb564, 1, none⟩ = some (.int .i64 t562) := (blk_cell BK564.out 1).trans rfl
                  have hfz54_0 := blk_frozen BK564.out 0
                  have hfz54_1 := blk_frozen BK564.out 1
                  have hcz55_0 : wc.cell? ⟨gb567, 0, none⟩ = some (.int .i64 t565) := (blk_cell BK567.out 0).trans rfl
                  have hcz55_1 : wc.cell? ⟨gb567, 1, none⟩ = some (.int .i64 t566) := (blk_cell BK567.out 1).trans rfl
                  have hfz55_0 := blk_frozen BK567.out 0
                  have hfz55_1 := blk_frozen BK567.out 1
                  go_wp2_with (first | ((with_reducible refine gate_callee (f := 26) rfl ?_); refine goesL_ (some 49) rfl rfl Try.func26 (by kernel_rfl) rfl #[.agg #[.int .i64 t565, .int .i64 t566], .agg #[.int .i64 t561, .int .i64 t562]] rfl (by (try simp only [List.map_toArray, List.map_cons, List.map_nil]); first | done | rfl | (simp only [List.length_drop, List.length_take]; rfl)) ?_; (with_reducible refine (impl_DecCmp.calls kj16 t565 t566 t561 t562 t572 _ A49.out).mono ?_); rintro e w56 ⟨rfl, hb⟩; refine ⟨_, rfl, ?_⟩; have n0_ := Aside0.mk (blk_below (g := gb564) (o := .cells #[.int .i64 t561, .int .i64 t562] 24 (0, 0)) (by (with_reducible repeat (first | refine blk_drewN ?_ _ | refine blk_drew ?_ | refine blk_alloc ?_ _)); exact BK564.out) hb); have n1_ := Aside0.mk (blk_below (g := gb567) (o := .cells #[.int .i64 t565, .int .i64 t566] 24 (0, 0)) (by (with_reducible repeat (first | refine blk_drewN ?_ _ | refine blk_drew ?_ | refine blk_alloc ?_ _)); exact BK567.out) hb); have n2_ := Aside0.mk (below_step (by repeat (first | (with_reducible first | exact HB.out | apply below_alloc | apply pw_below_drewN | apply below_drew1 | refine below_set ?_ GE564.out | refine below_set ?_ GE567.out) | exact HB.out)) hb); clear BK564; clear BK567; clear HB; have BK564 := n0_; have BK567 := n1_; have HB := n2_; clear n0_ n1_ n2_; (try clear hb); (try clear hb2); (try clear hk); (try clear hi); have hcz57_0 : w56.cell? ⟨gb567, 0, none⟩ = some (.int .i64 t565) := (blk_cell BK567.out 0).trans rfl; have hcz57_1 : w56.cell? ⟨gb567, 1, none⟩ = some (.int .i64 t566) := (blk_cell BK567.out 1).trans rfl; have hfz57_0 := blk_frozen BK567.out 0; have hfz57_1 := blk_frozen BK567.out 1) | (go_at_call 52; (with_reducible refine (impl_DecOk.calls kj16 t565 t566 t573 _ A52.out).mono ?_); rintro e w58 ⟨rfl, hb⟩; have n0_ := Aside0.mk (blk_below (g := gb564) (o := .cells #[.int .i64 t561, .int .i64 t562] 24 (0, 0)) (by (with_reducible repeat (first | refine blk_drewN ?_ _ | refine blk_drew ?_ | refine blk_alloc ?_ _)); exact BK564.out) hb); have n1_ := Aside0.mk (blk_below (g := gb567) (o := .cells #[.int .i64 t565, .int .i64 t566] 24 (0, 0)) (by (with_reducible repeat (first | refine blk_drewN ?_ _ | refine blk_drew ?_ | refine blk_alloc ?_ _)); exact BK567.out) hb); have n2_ := Aside0.mk (below_step (by repeat (first | (with_reducible first | exact HB.out | apply below_alloc | apply pw_below_drewN | apply below_drew1 | refine below_set ?_ GE564.out | refine below_set ?_ GE567.out) | exact HB.out)) hb); clear BK564; clear BK567; clear HB; have BK564 := n0_; have BK567 := n1_; have HB := n2_; clear n0_ n1_ n2_; (try clear hb); (try clear hb2); (try clear hk); (try clear hi)))
                  go_ret
                  exact ⟨by first | rfl | (simp [errW_none, errW_some] <;> rfl) | (simp [*, errW_none, errW_some] <;> rfl), by repeat (first | (with_reducible first | exact HB.out | apply below_alloc | apply pw_below_drewN | apply below_drew1 | refine below_set ?_ GE564.out | refine below_set ?_ GE567.out) | exact HB.out)⟩
                · rw [if_neg c51] at H
                  have c51b0 : (t566 == t563) = false := beq_eq_false_iff_ne.mpr c51
                  have c51b1 : (t566 != t563) = true := bne_iff_ne.mpr c51
                  obtain rfl := Option.some.inj H
                  have hnb59 := NB564_567.out
                  have hnc59 := NB567_564.out
                  have hcz60_0 : wc.cell? ⟨gb564, 0, none⟩ = some (.int .i64 t561) := (blk_cell BK564.out 0).trans rfl
                  have hcz60_1 : wc.cell? ⟨gb564, 1, none⟩ = some (.int .i64 t562) := (blk_cell BK564.out 1).trans rfl
                  have hfz60_0 := blk_frozen BK564.out 0
                  have hfz60_1 := blk_frozen BK564.out 1
                  have hcz61_0 : wc.cell? ⟨gb567, 0, none⟩ = some (.int .i64 t565) := (blk_cell BK567.out 0).trans rfl
                  have hcz61_1 : wc.cell? ⟨gb567, 1, none⟩ = some (.int .i64 t566) := (blk_cell BK567.out 1).trans rfl
                  have hfz61_0 := blk_frozen BK567.out 0
                  have hfz61_1 := blk_frozen BK567.out 1
                  go_wp2_with (first | ((with_reducible refine gate_callee (f := 26) rfl ?_); refine goesL_ (some 49) rfl rfl Try.func26 (by kernel_rfl) rfl #[.agg #[.int .i64 t565, .int .i64 t566], .agg #[.int .i64 t561, .int .i64 t562]] rfl (by (try simp only [List.map_toArray, List.map_cons, List.map_nil]); first | done | rfl | (simp only [List.length_drop, List.length_take]; rfl)) ?_; (with_reducible refine (impl_DecCmp.calls kj16 t565 t566 t561 t562 t572 _ A49.out).mono ?_); rintro e w62 ⟨rfl, hb⟩; refine ⟨_, rfl, ?_⟩; have n0_ := Aside0.mk (blk_below (g := gb564) (o := .cells #[.int .i64 t561, .int .i64 t562] 24 (0, 0)) (by (with_reducible repeat (first | refine blk_drewN ?_ _ | refine blk_drew ?_ | refine blk_alloc ?_ _)); exact BK564.out) hb); have n1_ := Aside0.mk (blk_below (g := gb567) (o := .cells #[.int .i64 t565, .int .i64 t566] 24 (0, 0)) (by (with_reducible repeat (first | refine blk_drewN ?_ _ | refine blk_drew ?_ | refine blk_alloc ?_ _)); exact BK567.out) hb); have n2_ := Aside0.mk (below_step (by repeat (first | (with_reducible first | exact HB.out | apply below_alloc | apply pw_below_drewN | apply below_drew1 | refine below_set ?_ GE564.out | refine below_set ?_ GE567.out) | exact HB.out)) hb); clear BK564; clear BK567; clear HB; have BK564 := n0_; have BK567 := n1_; have HB := n2_; clear n0_ n1_ n2_; (try clear hb); (try clear hb2); (try clear hk); (try clear hi); have hcz63_0 : w62.cell? ⟨gb567, 0, none⟩ = some (.int .i64 t565) := (blk_cell BK567.out 0).trans rfl; have hcz63_1 : w62.cell? ⟨gb567, 1, none⟩ = some (.int .i64 t566) := (blk_cell BK567.out 1).trans rfl; have hfz63_0 := blk_frozen BK567.out 0; have hfz63_1 := blk_frozen BK567.out 1))
                  go_ret
                  exact ⟨by first | rfl | (simp [errW_none, errW_some] <;> rfl) | (simp [*, errW_none, errW_some] <;> rfl), by repeat (first | (with_reducible first | exact HB.out | apply below_alloc | apply pw_below_drewN | apply below_drew1 | refine below_set ?_ GE564.out | refine below_set ?_ GE567.out) | exact HB.out)⟩
              · rw [if_neg c50] at H
                have c50b0 : (t572 == 0) = false := beq_eq_false_iff_ne.mpr c50
                have c50b1 : (t572 != 0) = true := bne_iff_ne.mpr c50
                obtain rfl := Option.some.inj H
                have hnb64 := NB564_567.out
                have hnc64 := NB567_564.out
                have hcz65_0 : wc.cell? ⟨gb564, 0, none⟩ = some (.int .i64 t561) := (blk_cell BK564.out 0).trans rfl
                have hcz65_1 : wc.cell? ⟨gb564, 1, none⟩ = some (.int .i64 t562) := (blk_cell BK564.out 1).trans rfl
                have hfz65_0 := blk_frozen BK564.out 0
                have hfz65_1 := blk_frozen BK564.out 1
                have hcz66_0 : wc.cell? ⟨gb567, 0, none⟩ = some (.int .i64 t565) := (blk_cell BK567.out 0).trans rfl
                have hcz66_1 : wc.cell? ⟨gb567, 1, none⟩ = some (.int .i64 t566) := (blk_cell BK567.out 1).trans rfl
                have hfz66_0 := blk_frozen BK567.out 0
                have hfz66_1 := blk_frozen BK567.out 1
                go_wp2_with (first | ((with_reducible refine gate_callee (f := 26) rfl ?_); refine goesL_ (some 49) rfl rfl Try.func26 (by kernel_rfl) rfl #[.agg #[.int .i64 t565, .int .i64 t566], .agg #[.int .i64 t561, .int .i64 t562]] rfl (by (try simp only [List.map_toArray, List.map_cons, List.map_nil]); first | done | rfl | (simp only [List.length_drop, List.length_take]; rfl)) ?_; (with_reducible refine (impl_DecCmp.calls kj16 t565 t566 t561 t562 t572 _ A49.out).mono ?_); rintro e w67 ⟨rfl, hb⟩; refine ⟨_, rfl, ?_⟩; have n0_ := Aside0.mk (blk_below (g := gb564) (o := .cells #[.int .i64 t561, .int .i64 t562] 24 (0, 0)) (by (with_reducible repeat (first | refine blk_drewN ?_ _ | refine blk_drew ?_ | refine blk_alloc ?_ _)); exact BK564.out) hb); have n1_ := Aside0.mk (blk_below (g := gb567) (o := .cells #[.int .i64 t565, .int .i64 t566] 24 (0, 0)) (by (with_reducible repeat (first | refine blk_drewN ?_ _ | refine blk_drew ?_ | refine blk_alloc ?_ _)); exact BK567.out) hb); have n2_ := Aside0.mk (below_step (by repeat (first | (with_reducible first | exact HB.out | apply below_alloc | apply pw_below_drewN | apply below_drew1 | refine below_set ?_ GE564.out | refine below_set ?_ GE567.out) | exact HB.out)) hb); clear BK564; clear BK567; clear HB; have BK564 := n0_; have BK567 := n1_; have HB := n2_; clear n0_ n1_ n2_; (try clear hb); (try clear hb2); (try clear hk); (try clear hi)))
                go_ret
                exact ⟨by first | rfl | (simp [errW_none, errW_some] <;> rfl) | (simp [*, errW_none, errW_some] <;> rfl), by repeat (first | (with_reducible first | exact HB.out | apply below_alloc | apply pw_below_drewN | apply below_drew1 | refine below_set ?_ GE564.out | refine below_set ?_ GE567.out) | exact HB.out)⟩
            · rw [if_neg c48] at H
              have c48b0 : decide (t562 ≤ t563) = false := decide_eq_false c48
              clear c48
              have H' := Aside0.mk H
              clear H
              have hnb68 := NB564_567.out
              have hnc68 := NB567_564.out
              have hcz69_0 : wc.cell? ⟨gb564, 0, none⟩ = some (.int .i64 t561) := (blk_cell BK564.out 0).trans rfl
              have hcz69_1 : wc.cell? ⟨gb564, 1, none⟩ = some (.int .i64 t562) := (blk_cell BK564.out 1).trans rfl
              have hfz69_0 := blk_frozen BK564.out 0
              have hfz69_1 := blk_frozen BK564.out 1
              go_wp2
              go_loopg [6, 7] kj16 (fun kq v6 v7 w' => ∃ (x6_2 : Int) (x7_2 : Int), v6 = .int .i64 x6_2 ∧ v7 = .int .i64 x7_2 ∧ Aside0 (laws_FnDecAt.l0 kq t563 x6_2 x7_2 t561 t562 t565 t566 = some r) ∧ Aside0 (kq ≤ kj16) ∧ Aside0 (w'.heap[gb564]? = some (.cells #[.int .i64 t561, .int .i64 t562] 24 (0, 0))) ∧ Aside0 (w'.heap[gb567]? = some (.cells #[.int .i64 t565, .int .i64 t566] 24 (0, 0))) ∧ Aside0 (Below w.heap.size w w'))
              case atStart => exact ⟨(1), (t563), (by first | rfl | (simp; done) | (simp [*]; done)), (by first | rfl | (simp; done) | (simp [*]; done)), H', ⟨Nat.le_refl _⟩, ⟨by (with_reducible repeat (first | refine blk_drewN ?_ _ | refine blk_drew ?_ | refine blk_alloc ?_ _)); exact BK564.out⟩, ⟨by (with_reducible repeat (first | refine blk_drewN ?_ _ | refine blk_drew ?_ | refine blk_alloc ?_ _)); exact BK567.out⟩, ⟨by repeat (first | (with_reducible first | exact HB.out | apply below_alloc | apply pw_below_drewN | apply below_drew1 | refine below_set ?_ GE564.out | refine below_set ?_ GE567.out) | exact HB.out)⟩⟩
              case round =>
                clear H'
                try clear c1
                try clear c2
                try clear c2b0
                try clear c2b1
                try clear p2
                try clear c3
                try clear c4
                try clear c5
                try clear c6
                try clear c6b0
                try clear c11
                try clear c12
                try clear c15
                try clear c17
                try clear c23
                try clear c26
                try clear c29
                try clear c30
                try clear c30b0
                try clear c31
                try clear c34
                try clear c37
                try clear c40
                try clear c41
                try clear c41b0
                try clear c41b1
                try clear c41b2
                try clear c43
                try clear c46
                try clear c48
                try clear c48b0
                try clear c50
                try clear c50b0
                try clear c50b1
                try clear c51
                try clear c51b0
                try clear c51b1
                try clear c53
                try clear c59
                try clear c64
                try clear c68
                try clear hcz13_0
                try clear hcz13_1
                try clear hcz20_0
                try clear hcz20_1
                try clear hcz24_0
                try clear hcz24_1
                try clear hcz32_0
                try clear hcz32_1
                try clear hcz35_0
                try clear hcz35_1
                try clear hcz38_0
                try clear hcz38_1
                try clear hcz44_0
                try clear hcz44_1
                try clear hcz47_0
                try clear hcz47_1
                try clear hcz54_0
                try clear hcz54_1
                try clear hcz55_0
                try clear hcz55_1
                try clear hcz57_0
                try clear hcz57_1
                try clear hcz60_0
                try clear hcz60_1
                try clear hcz61_0
                try clear hcz61_1
                try clear hcz63_0
                try clear hcz63_1
                try clear hcz65_0
                try clear hcz65_1
                try clear hcz66_0
                try clear hcz66_1
                try clear hcz69_0
                try clear hcz69_1
                try clear hcz9_0
                try clear hcz9_1
                try clear hfz13_0
                try clear hfz13_1
                try clear hfz20_0
                try clear hfz20_1
                try clear hfz24_0
                try clear hfz24_1
                try clear hfz32_0
                try clear hfz32_1
                try clear hfz35_0
                try clear hfz35_1
                try clear hfz38_0
                try clear hfz38_1
                try clear hfz44_0
                try clear hfz44_1
                try clear hfz47_0
                try clear hfz47_1
                try clear hfz54_0
                try clear hfz54_1
                try clear hfz55_0
                try clear hfz55_1
                try clear hfz57_0
                try clear hfz57_1
                try clear hfz60_0
                try clear hfz60_1
                try clear hfz61_0
                try clear hfz61_1
                try clear hfz63_0
                try clear hfz63_1
                try clear hfz65_0
                try clear hfz65_1
                try clear hfz66_0
                try clear hfz66_1
                try clear hfz69_0
                try clear hfz69_1
                try clear hfz9_0
                try clear hfz9_1
                try clear p2
                obtain ⟨x6_2, x7_2, rfl, rfl, HA, HK2, BK564, BK567, HB⟩ := hrel
                cases gk with
                | zero => exact absurd HA.out (by simp [laws_FnDecAt.l0])
                | succ k2 =>
                  have H := HA.out
                  clear HA
                  simp only [laws_FnDecAt.l0] at H
                  by_cases c70 : x7_2 < t562
                  · rw [if_pos c70] at H
                    have c70b0 : decide (x7_2 < t562) = true := decide_eq_true c70
                    clear c70
                    have H' := Aside0.mk H
                    clear H
                    have hnb71 := NB564_567.out
                    have hnc71 := NB567_564.out
                    have hcz72_0 : wr.cell? ⟨gb564, 0, none⟩ = some (.int .i64 t561) := (blk_cell BK564.out 0).trans rfl
                    have hcz72_1 : wr.cell? ⟨gb564, 1, none⟩ = some (.int .i64 t562) := (blk_cell BK564.out 1).trans rfl
                    have hfz72_0 := blk_frozen BK564.out 0
                    have hfz72_1 := blk_frozen BK564.out 1
                    go_wp2
                    go_roundg k2
                    case measure => have := HJ16.out; have := HK2.out; omega
                    case rel => exact ⟨(wrap64 (x6_2 * 10)), (wrap64 (x7_2 + 1)), (by first | rfl | (simp; done) | (simp [*]; done)), (by first | rfl | (simp; done) | (simp [*]; done)), H', ⟨by have := HJ16.out; have := HK2.out; omega⟩, ⟨by (with_reducible repeat (first | refine blk_drewN ?_ _ | refine blk_drew ?_ | refine blk_alloc ?_ _)); exact BK564.out⟩, ⟨by (with_reducible repeat (first | refine blk_drewN ?_ _ | refine blk_drew ?_ | refine blk_alloc ?_ _)); exact BK567.out⟩, ⟨by repeat (first | (with_reducible first | exact HB.out | apply below_alloc | apply pw_below_drewN | apply below_drew1 | refine below_set ?_ GE564.out | refine below_set ?_ GE567.out) | exact HB.out)⟩⟩
                  · rw [if_neg c70] at H
                    have c70b0 : decide (x7_2 < t562) = false := decide_eq_false c70
                    clear c70
                    by_cases c73 : t561 ≥ 0
                    · rw [if_pos c73] at H
                      have c73b0 : decide (0 ≤ t561) = true := decide_eq_true c73
                      clear c73
                      by_cases c74 : (wrap64 (t561 - (wrap64 (t565 * x6_2)))) = (wrap64 (Int.tdiv (wrap64 (-x6_2)) 2))
                      · rw [if_pos c74] at H
                        have c74b0 : ((wrap64 (t561 - (wrap64 (t565 * x6_2)))) == (wrap64 (Int.tdiv (wrap64 (-x6_2)) 2))) = true := beq_iff_eq.mpr c74
                        have c74b1 : ((wrap64 (t561 - (wrap64 (t565 * x6_2)))) != (wrap64 (Int.tdiv (wrap64 (-x6_2)) 2))) = false := bne_eq_false_iff_eq.mpr c74
                        clear c74
                        by_cases c75 : t566 = t563
                        · rw [if_pos c75] at H
                          have c75b0 : (t566 == t563) = true := beq_iff_eq.mpr c75
                          have c75b1 : (t566 != t563) = false := bne_eq_false_iff_eq.mpr c75
                          clear c75
                          replace H := Option.bind_eq_some_iff.mp H
                          obtain ⟨t574, A760, H⟩ := H
                          replace H : (if t574 = true then (if (wrap64 (2 * (wrap64 (t561 - (wrap64 (t565 * x6_2)))))) < x6_2 then (if (wrap64 ((-2) * (wrap64 (t561 - (wrap64 (t565 * x6_2)))))) < x6_2 then (some true) else (some true)) else (some true)) else (some false)) = some r := H
                          have A76 := Aside0.mk A760
                          clear A760
                          by_cases c77 : t574 = true
                          · subst c77
                            have H1 : (if (wrap64 (2 * (wrap64 (t561 - (wrap64 (t565 * x6_2)))))) < x6_2 then (if (wrap64 ((-2) * (wrap64 (t561 - (wrap64 (t565 * x6_2)))))) < x6_2 then (some true) else (some true)) else (some true)) = some r := by rw [if_pos rfl] at H; exact H
                            clear H
                            have H := H1
                            clear H1
                            by_cases c78 : (wrap64 (2 * (wrap64 (t561 - (wrap64 (t565 * x6_2)))))) < x6_2
                            · rw [if_pos c78] at H
                              have c78b0 : decide ((wrap64 (2 * (wrap64 (t561 - (wrap64 (t565 * x6_2)))))) < x6_2) = true := decide_eq_true c78
                              clear c78
                              by_cases c79 : (wrap64 ((-2) * (wrap64 (t561 - (wrap64 (t565 * x6_2)))))) < x6_2
                              · rw [if_pos c79] at H
                                have c79b0 : decide ((wrap64 ((-2) * (wrap64 (t561 - (wrap64 (t565 * x6_2)))))) < x6_2) = true := decide_eq_true c79
                                clear c79
                                obtain rfl := Option.some.inj H
                                have hnb80 := NB564_567.out
                                have hnc80 := NB567_564.out
                                have hcz81_0 : wr.cell? ⟨gb564, 0, none⟩ = some (.int .i64 t561) := (blk_cell BK564.out 0).trans rfl
                                have hcz81_1 : wr.cell? ⟨gb564, 1, none⟩ = some (.int .i64 t562) := (blk_cell BK564.out 1).trans rfl
                                have hfz81_0 := blk_frozen BK564.out 0
                                have hfz81_1 := blk_frozen BK564.out 1
                                have hcz82_0 : wr.cell? ⟨gb567, 0, none⟩ = some (.int .i64 t565) := (blk_cell BK567.out 0).trans rfl
                                have hcz82_1 : wr.cell? ⟨gb567, 1, none⟩ = some (.int .i64 t566) := (blk_cell BK567.out 1).trans rfl
                                have hfz82_0 := blk_frozen BK567.out 0
                                have hfz82_1 := blk_frozen BK567.out 1
                                go_wp2_with (first | (go_at_call 52; (with_reducible refine (impl_DecOk.calls k2 t565 t566 true _ A76.out).mono ?_); rintro e w83 ⟨rfl, hb⟩; have n0_ := Aside0.mk (blk_below (g := gb564) (o := .cells #[.int .i64 t561, .int .i64 t562] 24 (0, 0)) (by (with_reducible repeat (first | refine blk_drewN ?_ _ | refine blk_drew ?_ | refine blk_alloc ?_ _)); exact BK564.out) hb); have n1_ := Aside0.mk (blk_below (g := gb567) (o := .cells #[.int .i64 t565, .int .i64 t566] 24 (0, 0)) (by (with_reducible repeat (first | refine blk_drewN ?_ _ | refine blk_drew ?_ | refine blk_alloc ?_ _)); exact BK567.out) hb); have n2_ := Aside0.mk (below_step (by repeat (first | (with_reducible first | exact HB.out | apply below_alloc | apply pw_below_drewN | apply below_drew1 | refine below_set ?_ GE564.out | refine below_set ?_ GE567.out) | exact HB.out)) hb); clear BK564; clear BK567; clear HB; have BK564 := n0_; have BK567 := n1_; have HB := n2_; clear n0_ n1_ n2_; (try clear hb); (try clear hb2); (try clear hk); (try clear hi)))
                                go_ret
                                exact ⟨by first | rfl | (simp [errW_none, errW_some] <;> rfl) | (simp [*, errW_none, errW_some] <;> rfl), by repeat (first | (with_reducible first | exact HB.out | apply below_alloc | apply pw_below_drewN | apply below_drew1 | refine below_set ?_ GE564.out | refine below_set ?_ GE567.out) | exact HB.out)⟩
                              · rw [if_neg c79] at H
                                have c79b0 : decide ((wrap64 ((-2) * (wrap64 (t561 - (wrap64 (t565 * x6_2)))))) < x6_2) = false := decide_eq_false c79
                                clear c79
                                obtain rfl := Option.some.inj H
                                have hnb84 := NB564_567.out
                                have hnc84 := NB567_564.out
                                have hcz85_0 : wr.cell? ⟨gb564, 0, none⟩ = some (.int .i64 t561) := (blk_cell BK564.out 0).trans rfl
                                have hcz85_1 : wr.cell? ⟨gb564, 1, none⟩ = some (.int .i64 t562) := (blk_cell BK564.out 1).trans rfl
                                have hfz85_0 := blk_frozen BK564.out 0
                                have hfz85_1 := blk_frozen BK564.out 1
                                have hcz86_0 : wr.cell? ⟨gb567, 0, none⟩ = some (.int .i64 t565) := (blk_cell BK567.out 0).trans rfl
                                have hcz86_1 : wr.cell? ⟨gb567, 1, none⟩ = some (.int .i64 t566) := (blk_cell BK567.out 1).trans rfl
                                have hfz86_0 := blk_frozen BK567.out 0
                                have hfz86_1 := blk_frozen BK567.out 1
                                go_wp2_with (first | (go_at_call 52; (with_reducible refine (impl_DecOk.calls k2 t565 t566 true _ A76.out).mono ?_); rintro e w87 ⟨rfl, hb⟩; have n0_ := Aside0.mk (blk_below (g := gb564) (o := .cells #[.int .i64 t561, .int .i64 t562] 24 (0, 0)) (by (with_reducible repeat (first | refine blk_drewN ?_ _ | refine blk_drew ?_ | refine blk_alloc ?_ _)); exact BK564.out) hb); have n1_ := Aside0.mk (blk_below (g := gb567) (o := .cells #[.int .i64 t565, .int .i64 t566] 24 (0, 0)) (by (with_reducible repeat (first | refine blk_drewN ?_ _ | refine blk_drew ?_ | refine blk_alloc ?_ _)); exact BK567.out) hb); have n2_ := Aside0.mk (below_step (by repeat (first | (with_reducible first | exact HB.out | apply below_alloc | apply pw_below_drewN | apply below_drew1 | refine below_set ?_ GE564.out | refine below_set ?_ GE567.out) | exact HB.out)) hb); clear BK564; clear BK567; clear HB; have BK564 := n0_; have BK567 := n1_; have HB := n2_; clear n0_ n1_ n2_; (try clear hb); (try clear hb2); (try clear hk); (try clear hi)))
                                go_ret
                                exact ⟨by first | rfl | (simp [errW_none, errW_some] <;> rfl) | (simp [*, errW_none, errW_some] <;> rfl), by repeat (first | (with_reducible first | exact HB.out | apply below_alloc | apply pw_below_drewN | apply below_drew1 | refine below_set ?_ GE564.out | refine below_set ?_ GE567.out) | exact HB.out)⟩
                            · rw [if_neg c78] at H
                              have c78b0 : decide ((wrap64 (2 * (wrap64 (t561 - (wrap64 (t565 * x6_2)))))) < x6_2) = false := decide_eq_false c78
                              clear c78
                              obtain rfl := Option.some.inj H
                              have hnb88 := NB564_567.out
                              have hnc88 := NB567_564.out
                              have hcz89_0 : wr.cell? ⟨gb564, 0, none⟩ = some (.int .i64 t561) := (blk_cell BK564.out 0).trans rfl
                              have hcz89_1 : wr.cell? ⟨gb564, 1, none⟩ = some (.int .i64 t562) := (blk_cell BK564.out 1).trans rfl
                              have hfz89_0 := blk_frozen BK564.out 0
                              have hfz89_1 := blk_frozen BK564.out 1
                              have hcz90_0 : wr.cell? ⟨gb567, 0, none⟩ = some (.int .i64 t565) := (blk_cell BK567.out 0).trans rfl
                              have hcz90_1 : wr.cell? ⟨gb567, 1, none⟩ = some (.int .i64 t566) := (blk_cell BK567.out 1).trans rfl
                              have hfz90_0 := blk_frozen BK567.out 0
                              have hfz90_1 := blk_frozen BK567.out 1
                              go_wp2_with (first | (go_at_call 52; (with_reducible refine (impl_DecOk.calls k2 t565 t566 true _ A76.out).mono ?_); rintro e w91 ⟨rfl, hb⟩; have n0_ := Aside0.mk (blk_below (g := gb564) (o := .cells #[.int .i64 t561, .int .i64 t562] 24 (0, 0)) (by (with_reducible repeat (first | refine blk_drewN ?_ _ | refine blk_drew ?_ | refine blk_alloc ?_ _)); exact BK564.out) hb); have n1_ := Aside0.mk (blk_below (g := gb567) (o := .cells #[.int .i64 t565, .int .i64 t566] 24 (0, 0)) (by (with_reducible repeat (first | refine blk_drewN ?_ _ | refine blk_drew ?_ | refine blk_alloc ?_ _)); exact BK567.out) hb); have n2_ := Aside0.mk (below_step (by repeat (first | (with_reducible first | exact HB.out | apply below_alloc | apply pw_below_drewN | apply below_drew1 | refine below_set ?_ GE564.out | refine below_set ?_ GE567.out) | exact HB.out)) hb); clear BK564; clear BK567; clear HB; have BK564 := n0_; have BK567 := n1_; have HB := n2_; clear n0_ n1_ n2_; (try clear hb); (try clear hb2); (try clear hk); (try clear hi)))
                              go_ret
                              exact ⟨by first | rfl | (simp [errW_none, errW_some] <;> rfl) | (simp [*, errW_none, errW_some] <;> rfl), by repeat (first | (with_reducible first | exact HB.out | apply below_alloc | apply pw_below_drewN | apply below_drew1 | refine below_set ?_ GE564.out | refine below_set ?_ GE567.out) | exact HB.out)⟩
                          · replace c77 := Bool.eq_false_iff.mpr c77
                            subst c77
                            have H1 : (some false) = some r := by rw [if_neg (show ¬ (false = true) by decide)] at H; exact H
                            clear H
                            have H := H1
                            clear H1
                            obtain rfl := Option.some.inj H
                            have hnb92 := NB564_567.out
                            have hnc92 := NB567_564.out
                            have hcz93_0 : wr.cell? ⟨gb564, 0, none⟩ = some (.int .i64 t561) := (blk_cell BK564.out 0).trans rfl
                            have hcz93_1 : wr.cell? ⟨gb564, 1, none⟩ = some (.int .i64 t562) := (blk_cell BK564.out 1).trans rfl
                            have hfz93_0 := blk_frozen BK564.out 0
                            have hfz93_1 := blk_frozen BK564.out 1
                            have hcz94_0 : wr.cell? ⟨gb567, 0, none⟩ = some (.int .i64 t565) := (blk_cell BK567.out 0).trans rfl
                            have hcz94_1 : wr.cell? ⟨gb567, 1, none⟩ = some (.int .i64 t566) := (blk_cell BK567.out 1).trans rfl
                            have hfz94_0 := blk_frozen BK567.out 0
                            have hfz94_1 := blk_frozen BK567.out 1
                            go_wp2_with (first | (go_at_call 52; (with_reducible refine (impl_DecOk.calls k2 t565 t566 false _ A76.out).mono ?_); rintro e w95 ⟨rfl, hb⟩; have n0_ := Aside0.mk (blk_below (g := gb564) (o := .cells #[.int .i64 t561, .int .i64 t562] 24 (0, 0)) (by (with_reducible repeat (first | refine blk_drewN ?_ _ | refine blk_drew ?_ | refine blk_alloc ?_ _)); exact BK564.out) hb); have n1_ := Aside0.mk (blk_below (g := gb567) (o := .cells #[.int .i64 t565, .int .i64 t566] 24 (0, 0)) (by (with_reducible repeat (first | refine blk_drewN ?_ _ | refine blk_drew ?_ | refine blk_alloc ?_ _)); exact BK567.out) hb); have n2_ := Aside0.mk (below_step (by repeat (first | (with_reducible first | exact HB.out | apply below_alloc | apply pw_below_drewN | apply below_drew1 | refine below_set ?_ GE564.out | refine below_set ?_ GE567.out) | exact HB.out)) hb); clear BK564; clear BK567; clear HB; have BK564 := n0_; have BK567 := n1_; have HB := n2_; clear n0_ n1_ n2_; (try clear hb); (try clear hb2); (try clear hk); (try clear hi)))
                            go_ret
                            exact ⟨by first | rfl | (simp [errW_none, errW_some] <;> rfl) | (simp [*, errW_none, errW_some] <;> rfl), by repeat (first | (with_reducible first | exact HB.out | apply below_alloc | apply pw_below_drewN | apply below_drew1 | refine below_set ?_ GE564.out | refine below_set ?_ GE567.out) | exact HB.out)⟩
                        · rw [if_neg c75] at H
                          have c75b0 : (t566 == t563) = false := beq_eq_false_iff_ne.mpr c75
                          have c75b1 : (t566 != t563) = true := bne_iff_ne.mpr c75
                          obtain rfl := Option.some.inj H
                          have hnb96 := NB564_567.out
                          have hnc96 := NB567_564.out
                          have hcz97_0 : wr.cell? ⟨gb564, 0, none⟩ = some (.int .i64 t561) := (blk_cell BK564.out 0).trans rfl
                          have hcz97_1 : wr.cell? ⟨gb564, 1, none⟩ = some (.int .i64 t562) := (blk_cell BK564.out 1).trans rfl
                          have hfz97_0 := blk_frozen BK564.out 0
                          have hfz97_1 := blk_frozen BK564.out 1
                          have hcz98_0 : wr.cell? ⟨gb567, 0, none⟩ = some (.int .i64 t565) := (blk_cell BK567.out 0).trans rfl
                          have hcz98_1 : wr.cell? ⟨gb567, 1, none⟩ = some (.int .i64 t566) := (blk_cell BK567.out 1).trans rfl
                          have hfz98_0 := blk_frozen BK567.out 0
                          have hfz98_1 := blk_frozen BK567.out 1
                          go_wp2
                          go_ret
                          exact ⟨by first | rfl | (simp [errW_none, errW_some] <;> rfl) | (simp [*, errW_none, errW_some] <;> rfl), by repeat (first | (with_reducible first | exact HB.out | apply below_alloc | apply pw_below_drewN | apply below_drew1 | refine below_set ?_ GE564.out | refine below_set ?_ GE567.out) | exact HB.out)⟩
                      · rw [if_neg c74] at H
                        have c74b0 : ((wrap64 (t561 - (wrap64 (t565 * x6_2)))) == (wrap64 (Int.tdiv (wrap64 (-x6_2)) 2))) = false := beq_eq_false_iff_ne.mpr c74
                        have c74b1 : ((wrap64 (t561 - (wrap64 (t565 * x6_2)))) != (wrap64 (Int.tdiv (wrap64 (-x6_2)) 2))) = true := bne_iff_ne.mpr c74
                        by_cases c99 : t561 < 0
                        · rw [if_pos c99] at H
                          have c99b0 : decide (t561 < 0) = true := decide_eq_true c99
                          clear c99
                          by_cases c100 : t566 = t563
                          · rw [if_pos c100] at H
                            have c100b0 : (t566 == t563) = true := beq_iff_eq.mpr c100
                            have c100b1 : (t566 != t563) = false := bne_eq_false_iff_eq.mpr c100
                            clear c100
                            replace H := Option.bind_eq_some_iff.mp H
                            obtain ⟨t575, A1010, H⟩ := H
                            replace H : (if t575 = true then (if (wrap64 (2 * (wrap64 (t561 - (wrap64 (t565 * x6_2)))))) < x6_2 then (if (wrap64 ((-2) * (wrap64 (t561 - (wrap64 (t565 * x6_2)))))) < x6_2 then (some true) else (some ((wrap64 (t561 - (wrap64 (t565 * x6_2)))) == (wrap64 (Int.tdiv x6_2 2))))) else (some ((wrap64 (t561 - (wrap64 (t565 * x6_2)))) == (wrap64 (Int.tdiv x6_2 2))))) else (some false)) = some r := H
                            have A101 := Aside0.mk A1010
                            clear A1010
                            by_cases c102 : t575 = true
                            · subst c102
                              have H1 : (if (wrap64 (2 * (wrap64 (t561 - (wrap64 (t565 * x6_2)))))) < x6_2 then (if (wrap64 ((-2) * (wrap64 (t561 - (wrap64 (t565 * x6_2)))))) < x6_2 then (some true) else (some ((wrap64 (t561 - (wrap64 (t565 * x6_2)))) == (wrap64 (Int.tdiv x6_2 2))))) else (some ((wrap64 (t561 - (wrap64 (t565 * x6_2)))) == (wrap64 (Int.tdiv x6_2 2))))) = some r := by rw [if_pos rfl] at H; exact H
                              clear H
                              have H := H1
                              clear H1
                              by_cases c103 : (wrap64 (2 * (wrap64 (t561 - (wrap64 (t565 * x6_2)))))) < x6_2
                              · rw [if_pos c103] at H
                                have c103b0 : decide ((wrap64 (2 * (wrap64 (t561 - (wrap64 (t565 * x6_2)))))) < x6_2) = true := decide_eq_true c103
                                clear c103
                                by_cases c104 : (wrap64 ((-2) * (wrap64 (t561 - (wrap64 (t565 * x6_2)))))) < x6_2
                                · rw [if_pos c104] at H
                                  have c104b0 : decide ((wrap64 ((-2) * (wrap64 (t561 - (wrap64 (t565 * x6_2)))))) < x6_2) = true := decide_eq_true c104
                                  clear c104
                                  obtain rfl := Option.some.inj H
                                  have hnb105 := NB564_567.out
                                  have hnc105 := NB567_564.out
                                  have hcz106_0 : wr.cell? ⟨gb564, 0, none⟩ = some (.int .i64 t561) := (blk_cell BK564.out 0).trans rfl
                                  have hcz106_1 : wr.cell? ⟨gb564, 1, none⟩ = some (.int .i64 t562) := (blk_cell BK564.out 1).trans rfl
                                  have hfz106_0 := blk_frozen BK564.out 0
                                  have hfz106_1 := blk_frozen BK564.out 1
                                  have hcz107_0 : wr.cell? ⟨gb567, 0, none⟩ = some (.int .i64 t565) := (blk_cell BK567.out 0).trans rfl
                                  have hcz107_1 : wr.cell? ⟨gb567, 1, none⟩ = some (.int .i64 t566) := (blk_cell BK567.out 1).trans rfl
                                  have hfz107_0 := blk_frozen BK567.out 0
                                  have hfz107_1 := blk_frozen BK567.out 1
                                  go_wp2_with (first | (go_at_call 52; (with_reducible refine (impl_DecOk.calls k2 t565 t566 true _ A101.out).mono ?_); rintro e w108 ⟨rfl, hb⟩; have n0_ := Aside0.mk (blk_below (g := gb564) (o := .cells #[.int .i64 t561, .int .i64 t562] 24 (0, 0)) (by (with_reducible repeat (first | refine blk_drewN ?_ _ | refine blk_drew ?_ | refine blk_alloc ?_ _)); exact BK564.out) hb); have n1_ := Aside0.mk (blk_below (g := gb567) (o := .cells #[.int .i64 t565, .int .i64 t566] 24 (0, 0)) (by (with_reducible repeat (first | refine blk_drewN ?_ _ | refine blk_drew ?_ | refine blk_alloc ?_ _)); exact BK567.out) hb); have n2_ := Aside0.mk (below_step (by repeat (first | (with_reducible first | exact HB.out | apply below_alloc | apply pw_below_drewN | apply below_drew1 | refine below_set ?_ GE564.out | refine below_set ?_ GE567.out) | exact HB.out)) hb); clear BK564; clear BK567; clear HB; have BK564 := n0_; have BK567 := n1_; have HB := n2_; clear n0_ n1_ n2_; (try clear hb); (try clear hb2); (try clear hk); (try clear hi)))
                                  go_ret
                                  exact ⟨by first | rfl | (simp [errW_none, errW_some] <;> rfl) | (simp [*, errW_none, errW_some] <;> rfl), by repeat (first | (with_reducible first | exact HB.out | apply below_alloc | apply pw_below_drewN | apply below_drew1 | refine below_set ?_ GE564.out | refine below_set ?_ GE567.out) | exact HB.out)⟩
                                · rw [if_neg c104] at H
                                  have c104b0 : decide ((wrap64 ((-2) * (wrap64 (t561 - (wrap64 (t565 * x6_2)))))) < x6_2) = false := decide_eq_false c104
                                  clear c104
                                  obtain rfl := Option.some.inj H
                                  have hnb109 := NB564_567.out
                                  have hnc109 := NB567_564.out
                                  have hcz110_0 : wr.cell? ⟨gb564, 0, none⟩ = some (.int .i64 t561) := (blk_cell BK564.out 0).trans rfl
                                  have hcz110_1 : wr.cell? ⟨gb564, 1, none⟩ = some (.int .i64 t562) := (blk_cell BK564.out 1).trans rfl
                                  have hfz110_0 := blk_frozen BK564.out 0
                                  have hfz110_1 := blk_frozen BK564.out 1
                                  have hcz111_0 : wr.cell? ⟨gb567, 0, none⟩ = some (.int .i64 t565) := (blk_cell BK567.out 0).trans rfl
                                  have hcz111_1 : wr.cell? ⟨gb567, 1, none⟩ = some (.int .i64 t566) := (blk_cell BK567.out 1).trans rfl
                                  have hfz111_0 := blk_frozen BK567.out 0
                                  have hfz111_1 := blk_frozen BK567.out 1
                                  go_wp2_with (first | (go_at_call 52; (with_reducible refine (impl_DecOk.calls k2 t565 t566 true _ A101.out).mono ?_); rintro e w112 ⟨rfl, hb⟩; have n0_ := Aside0.mk (blk_below (g := gb564) (o := .cells #[.int .i64 t561, .int .i64 t562] 24 (0, 0)) (by (with_reducible repeat (first | refine blk_drewN ?_ _ | refine blk_drew ?_ | refine blk_alloc ?_ _)); exact BK564.out) hb); have n1_ := Aside0.mk (blk_below (g := gb567) (o := .cells #[.int .i64 t565, .int .i64 t566] 24 (0, 0)) (by (with_reducible repeat (first | refine blk_drewN ?_ _ | refine blk_drew ?_ | refine blk_alloc ?_ _)); exact BK567.out) hb); have n2_ := Aside0.mk (below_step (by repeat (first | (with_reducible first | exact HB.out | apply below_alloc | apply pw_below_drewN | apply below_drew1 | refine below_set ?_ GE564.out | refine below_set ?_ GE567.out) | exact HB.out)) hb); clear BK564; clear BK567; clear HB; have BK564 := n0_; have BK567 := n1_; have HB := n2_; clear n0_ n1_ n2_; (try clear hb); (try clear hb2); (try clear hk); (try clear hi)))
                                  go_ret
                                  exact ⟨by first | rfl | (simp [errW_none, errW_some] <;> rfl) | (simp [*, errW_none, errW_some] <;> rfl), by repeat (first | (with_reducible first | exact HB.out | apply below_alloc | apply pw_below_drewN | apply below_drew1 | refine below_set ?_ GE564.out | refine below_set ?_ GE567.out) | exact HB.out)⟩
                              · rw [if_neg c103] at H
                                have c103b0 : decide ((wrap64 (2 * (wrap64 (t561 - (wrap64 (t565 * x6_2)))))) < x6_2) = false := decide_eq_false c103
                                clear c103
                                obtain rfl := Option.some.inj H
                                have hnb113 := NB564_567.out
                                have hnc113 := NB567_564.out
                                have hcz114_0 : wr.cell? ⟨gb564, 0, none⟩ = some (.int .i64 t561) := (blk_cell BK564.out 0).trans rfl
                                have hcz114_1 : wr.cell? ⟨gb564, 1, none⟩ = some (.int .i64 t562) := (blk_cell BK564.out 1).trans rfl
                                have hfz114_0 := blk_frozen BK564.out 0
                                have hfz114_1 := blk_frozen BK564.out 1
                                have hcz115_0 : wr.cell? ⟨gb567, 0, none⟩ = some (.int .i64 t565) := (blk_cell BK567.out 0).trans rfl
                                have hcz115_1 : wr.cell? ⟨gb567, 1, none⟩ = some (.int .i64 t566) := (blk_cell BK567.out 1).trans rfl
                                have hfz115_0 := blk_frozen BK567.out 0
                                have hfz115_1 := blk_frozen BK567.out 1
                                go_wp2_with (first | (go_at_call 52; (with_reducible refine (impl_DecOk.calls k2 t565 t566 true _ A101.out).mono ?_); rintro e w116 ⟨rfl, hb⟩; have n0_ := Aside0.mk (blk_below (g := gb564) (o := .cells #[.int .i64 t561, .int .i64 t562] 24 (0, 0)) (by (with_reducible repeat (first | refine blk_drewN ?_ _ | refine blk_drew ?_ | refine blk_alloc ?_ _)); exact BK564.out) hb); have n1_ := Aside0.mk (blk_below (g := gb567) (o := .cells #[.int .i64 t565, .int .i64 t566] 24 (0, 0)) (by (with_reducible repeat (first | refine blk_drewN ?_ _ | refine blk_drew ?_ | refine blk_alloc ?_ _)); exact BK567.out) hb); have n2_ := Aside0.mk (below_step (by repeat (first | (with_reducible first | exact HB.out | apply below_alloc | apply pw_below_drewN | apply below_drew1 | refine below_set ?_ GE564.out | refine below_set ?_ GE567.out) | exact HB.out)) hb); clear BK564; clear BK567; clear HB; have BK564 := n0_; have BK567 := n1_; have HB := n2_; clear n0_ n1_ n2_; (try clear hb); (try clear hb2); (try clear hk); (try clear hi)))
                                go_ret
                                exact ⟨by first | rfl | (simp [errW_none, errW_some] <;> rfl) | (simp [*, errW_none, errW_some] <;> rfl), by repeat (first | (with_reducible first | exact HB.out | apply below_alloc | apply pw_below_drewN | apply below_drew1 | refine below_set ?_ GE564.out | refine below_set ?_ GE567.out) | exact HB.out)⟩
                            · replace c102 := Bool.eq_false_iff.mpr c102
                              subst c102
                              have H1 : (some false) = some r := by rw [if_neg (show ¬ (false = true) by decide)] at H; exact H
                              clear H
                              have H := H1
                              clear H1
                              obtain rfl := Option.some.inj H
                              have hnb117 := NB564_567.out
                              have hnc117 := NB567_564.out
                              have hcz118_0 : wr.cell? ⟨gb564, 0, none⟩ = some (.int .i64 t561) := (blk_cell BK564.out 0).trans rfl
                              have hcz118_1 : wr.cell? ⟨gb564, 1, none⟩ = some (.int .i64 t562) := (blk_cell BK564.out 1).trans rfl
                              have hfz118_0 := blk_frozen BK564.out 0
                              have hfz118_1 := blk_frozen BK564.out 1
                              have hcz119_0 : wr.cell? ⟨gb567, 0, none⟩ = some (.int .i64 t565) := (blk_cell BK567.out 0).trans rfl
                              have hcz119_1 : wr.cell? ⟨gb567, 1, none⟩ = some (.int .i64 t566) := (blk_cell BK567.out 1).trans rfl
                              have hfz119_0 := blk_frozen BK567.out 0
                              have hfz119_1 := blk_frozen BK567.out 1
                              go_wp2_with (first | (go_at_call 52; (with_reducible refine (impl_DecOk.calls k2 t565 t566 false _ A101.out).mono ?_); rintro e w120 ⟨rfl, hb⟩; have n0_ := Aside0.mk (blk_below (g := gb564) (o := .cells #[.int .i64 t561, .int .i64 t562] 24 (0, 0)) (by (with_reducible repeat (first | refine blk_drewN ?_ _ | refine blk_drew ?_ | refine blk_alloc ?_ _)); exact BK564.out) hb); have n1_ := Aside0.mk (blk_below (g := gb567) (o := .cells #[.int .i64 t565, .int .i64 t566] 24 (0, 0)) (by (with_reducible repeat (first | refine blk_drewN ?_ _ | refine blk_drew ?_ | refine blk_alloc ?_ _)); exact BK567.out) hb); have n2_ := Aside0.mk (below_step (by repeat (first | (with_reducible first | exact HB.out | apply below_alloc | apply pw_below_drewN | apply below_drew1 | refine below_set ?_ GE564.out | refine below_set ?_ GE567.out) | exact HB.out)) hb); clear BK564; clear BK567; clear HB; have BK564 := n0_; have BK567 := n1_; have HB := n2_; clear n0_ n1_ n2_; (try clear hb); (try clear hb2); (try clear hk); (try clear hi)))
                              go_ret
                              exact ⟨by first | rfl | (simp [errW_none, errW_some] <;> rfl) | (simp [*, errW_none, errW_some] <;> rfl), by repeat (first | (with_reducible first | exact HB.out | apply below_alloc | apply pw_below_drewN | apply below_drew1 | refine below_set ?_ GE564.out | refine below_set ?_ GE567.out) | exact HB.out)⟩
                          · rw [if_neg c100] at H
                            have c100b0 : (t566 == t563) = false := beq_eq_false_iff_ne.mpr c100
                            have c100b1 : (t566 != t563) = true := bne_iff_ne.mpr c100
                            obtain rfl := Option.some.inj H
                            have hnb121 := NB564_567.out
                            have hnc121 := NB567_564.out
                            have hcz122_0 : wr.cell? ⟨gb564, 0, none⟩ = some (.int .i64 t561) := (blk_cell BK564.out 0).trans rfl
                            have hcz122_1 : wr.cell? ⟨gb564, 1, none⟩ = some (.int .i64 t562) := (blk_cell BK564.out 1).trans rfl
                            have hfz122_0 := blk_frozen BK564.out 0
                            have hfz122_1 := blk_frozen BK564.out 1
                            have hcz123_0 : wr.cell? ⟨gb567, 0, none⟩ = some (.int .i64 t565) := (blk_cell BK567.out 0).trans rfl
                            have hcz123_1 : wr.cell? ⟨gb567, 1, none⟩ = some (.int .i64 t566) := (blk_cell BK567.out 1).trans rfl
                            have hfz123_0 := blk_frozen BK567.out 0
                            have hfz123_1 := blk_frozen BK567.out 1
                            go_wp2
                            go_ret
                            exact ⟨by first | rfl | (simp [errW_none, errW_some] <;> rfl) | (simp [*, errW_none, errW_some] <;> rfl), by repeat (first | (with_reducible first | exact HB.out | apply below_alloc | apply pw_below_drewN | apply below_drew1 | refine below_set ?_ GE564.out | refine below_set ?_ GE567.out) | exact HB.out)⟩
                        · rw [if_neg c99] at H
                          have c99b0 : decide (t561 < 0) = false := decide_eq_false c99
                          clear c99
                          by_cases c124 : t566 = t563
                          · rw [if_pos c124] at H
                            have c124b0 : (t566 == t563) = true := beq_iff_eq.mpr c124
                            have c124b1 : (t566 != t563) = false := bne_eq_false_iff_eq.mpr c124
                            clear c124
                            replace H := Option.bind_eq_some_iff.mp H
                            obtain ⟨t576, A1250, H⟩ := H
                            replace H : (if t576 = true then (if (wrap64 (2 * (wrap64 (t561 - (wrap64 (t565 * x6_2)))))) < x6_2 then (if (wrap64 ((-2) * (wrap64 (t561 - (wrap64 (t565 * x6_2)))))) < x6_2 then (some true) else (some false)) else (some false)) else (some false)) = some r := H
                            have A125 := Aside0.mk A1250
                            clear A1250
                            by_cases c126 : t576 = true
                            · subst c126
                              have H1 : (if (wrap64 (2 * (wrap64 (t561 - (wrap64 (t565 * x6_2)))))) < x6_2 then (if (wrap64 ((-2) * (wrap64 (t561 - (wrap64 (t565 * x6_2)))))) < x6_2 then (some true) else (some false)) else (some false)) = some r := by rw [if_pos rfl] at H; exact H
                              clear H
                              have H := H1
                              clear H1
                              by_cases c127 : (wrap64 (2 * (wrap64 (t561 - (wrap64 (t565 * x6_2)))))) < x6_2
                              · rw [if_pos c127] at H
                                have c127b0 : decide ((wrap64 (2 * (wrap64 (t561 - (wrap64 (t565 * x6_2)))))) < x6_2) = true := decide_eq_true c127
                                clear c127
                                by_cases c128 : (wrap64 ((-2) * (wrap64 (t561 - (wrap64 (t565 * x6_2)))))) < x6_2
                                · rw [if_pos c128] at H
                                  have c128b0 : decide ((wrap64 ((-2) * (wrap64 (t561 - (wrap64 (t565 * x6_2)))))) < x6_2) = true := decide_eq_true c128
                                  clear c128
                                  obtain rfl := Option.some.inj H
                                  have hnb129 := NB564_567.out
                                  have hnc129 := NB567_564.out
                                  have hcz130_0 : wr.cell? ⟨gb564, 0, none⟩ = some (.int .i64 t561) := (blk_cell BK564.out 0).trans rfl
                                  have hcz130_1 : wr.cell? ⟨gb564, 1, none⟩ = some (.int .i64 t562) := (blk_cell BK564.out 1).trans rfl
                                  have hfz130_0 := blk_frozen BK564.out 0
                                  have hfz130_1 := blk_frozen BK564.out 1
                                  have hcz131_0 : wr.cell? ⟨gb567, 0, none⟩ = some (.int .i64 t565) := (blk_cell BK567.out 0).trans rfl
                                  have hcz131_1 : wr.cell? ⟨gb567, 1, none⟩ = some (.int .i64 t566) := (blk_cell BK567.out 1).trans rfl
                                  have hfz131_0 := blk_frozen BK567.out 0
                                  have hfz131_1 := blk_frozen BK567.out 1
                                  go_wp2_with (first | (go_at_call 52; (with_reducible refine (impl_DecOk.calls k2 t565 t566 true _ A125.out).mono ?_); rintro e w132 ⟨rfl, hb⟩; have n0_ := Aside0.mk (blk_below (g := gb564) (o := .cells #[.int .i64 t561, .int .i64 t562] 24 (0, 0)) (by (with_reducible repeat (first | refine blk_drewN ?_ _ | refine blk_drew ?_ | refine blk_alloc ?_ _)); exact BK564.out) hb); have n1_ := Aside0.mk (blk_below (g := gb567) (o := .cells #[.int .i64 t565, .int .i64 t566] 24 (0, 0)) (by (with_reducible repeat (first | refine blk_drewN ?_ _ | refine blk_drew ?_ | refine blk_alloc ?_ _)); exact BK567.out) hb); have n2_ := Aside0.mk (below_step (by repeat (first | (with_reducible first | exact HB.out | apply below_alloc | apply pw_below_drewN | apply below_drew1 | refine below_set ?_ GE564.out | refine below_set ?_ GE567.out) | exact HB.out)) hb); clear BK564; clear BK567; clear HB; have BK564 := n0_; have BK567 := n1_; have HB := n2_; clear n0_ n1_ n2_; (try clear hb); (try clear hb2); (try clear hk); (try clear hi)))
                                  go_ret
                                  exact ⟨by first | rfl | (simp [errW_none, errW_some] <;> rfl) | (simp [*, errW_none, errW_some] <;> rfl), by repeat (first | (with_reducible first | exact HB.out | apply below_alloc | apply pw_below_drewN | apply below_drew1 | refine below_set ?_ GE564.out | refine below_set ?_ GE567.out) | exact HB.out)⟩
                                · rw [if_neg c128] at H
                                  have c128b0 : decide ((wrap64 ((-2) * (wrap64 (t561 - (wrap64 (t565 * x6_2)))))) < x6_2) = false := decide_eq_false c128
                                  clear c128
                                  obtain rfl := Option.some.inj H
                                  have hnb133 := NB564_567.out
                                  have hnc133 := NB567_564.out
                                  have hcz134_0 : wr.cell? ⟨gb564, 0, none⟩ = some (.int .i64 t561) := (blk_cell BK564.out 0).trans rfl
                                  have hcz134_1 : wr.cell? ⟨gb564, 1, none⟩ = some (.int .i64 t562) := (blk_cell BK564.out 1).trans rfl
                                  have hfz134_0 := blk_frozen BK564.out 0
                                  have hfz134_1 := blk_frozen BK564.out 1
                                  have hcz135_0 : wr.cell? ⟨gb567, 0, none⟩ = some (.int .i64 t565) := (blk_cell BK567.out 0).trans rfl
                                  have hcz135_1 : wr.cell? ⟨gb567, 1, none⟩ = some (.int .i64 t566) := (blk_cell BK567.out 1).trans rfl
                                  have hfz135_0 := blk_frozen BK567.out 0
                                  have hfz135_1 := blk_frozen BK567.out 1
                                  go_wp2_with (first | (go_at_call 52; (with_reducible refine (impl_DecOk.calls k2 t565 t566 true _ A125.out).mono ?_); rintro e w136 ⟨rfl, hb⟩; have n0_ := Aside0.mk (blk_below (g := gb564) (o := .cells #[.int .i64 t561, .int .i64 t562] 24 (0, 0)) (by (with_reducible repeat (first | refine blk_drewN ?_ _ | refine blk_drew ?_ | refine blk_alloc ?_ _)); exact BK564.out) hb); have n1_ := Aside0.mk (blk_below (g := gb567) (o := .cells #[.int .i64 t565, .int .i64 t566] 24 (0, 0)) (by (with_reducible repeat (first | refine blk_drewN ?_ _ | refine blk_drew ?_ | refine blk_alloc ?_ _)); exact BK567.out) hb); have n2_ := Aside0.mk (below_step (by repeat (first | (with_reducible first | exact HB.out | apply below_alloc | apply pw_below_drewN | apply below_drew1 | refine below_set ?_ GE564.out | refine below_set ?_ GE567.out) | exact HB.out)) hb); clear BK564; clear BK567; clear HB; have BK564 := n0_; have BK567 := n1_; have HB := n2_; clear n0_ n1_ n2_; (try clear hb); (try clear hb2); (try clear hk); (try clear hi)))
                                  go_ret
                                  exact ⟨by first | rfl | (simp [errW_none, errW_some] <;> rfl) | (simp [*, errW_none, errW_some] <;> rfl), by repeat (first | (with_reducible first | exact HB.out | apply below_alloc | apply pw_below_drewN | apply below_drew1 | refine below_set ?_ GE564.out | refine below_set ?_ GE567.out) | exact HB.out)⟩
                              · rw [if_neg c127] at H
                                have c127b0 : decide ((wrap64 (2 * (wrap64 (t561 - (wrap64 (t565 * x6_2)))))) < x6_2) = false := decide_eq_false c127
                                clear c127
                                obtain rfl := Option.some.inj H
                                have hnb137 := NB564_567.out
                                have hnc137 := NB567_564.out
                                have hcz138_0 : wr.cell? ⟨gb564, 0, none⟩ = some (.int .i64 t561) := (blk_cell BK564.out 0).trans rfl
                                have hcz138_1 : wr.cell? ⟨gb564, 1, none⟩ = some (.int .i64 t562) := (blk_cell BK564.out 1).trans rfl
                                have hfz138_0 := blk_frozen BK564.out 0
                                have hfz138_1 := blk_frozen BK564.out 1
                                have hcz139_0 : wr.cell? ⟨gb567, 0, none⟩ = some (.int .i64 t565) := (blk_cell BK567.out 0).trans rfl
                                have hcz139_1 : wr.cell? ⟨gb567, 1, none⟩ = some (.int .i64 t566) := (blk_cell BK567.out 1).trans rfl
                                have hfz139_0 := blk_frozen BK567.out 0
                                have hfz139_1 := blk_frozen BK567.out 1
                                go_wp2_with (first | (go_at_call 52; (with_reducible refine (impl_DecOk.calls k2 t565 t566 true _ A125.out).mono ?_); rintro e w140 ⟨rfl, hb⟩; have n0_ := Aside0.mk (blk_below (g := gb564) (o := .cells #[.int .i64 t561, .int .i64 t562] 24 (0, 0)) (by (with_reducible repeat (first | refine blk_drewN ?_ _ | refine blk_drew ?_ | refine blk_alloc ?_ _)); exact BK564.out) hb); have n1_ := Aside0.mk (blk_below (g := gb567) (o := .cells #[.int .i64 t565, .int .i64 t566] 24 (0, 0)) (by (with_reducible repeat (first | refine blk_drewN ?_ _ | refine blk_drew ?_ | refine blk_alloc ?_ _)); exact BK567.out) hb); have n2_ := Aside0.mk (below_step (by repeat (first | (with_reducible first | exact HB.out | apply below_alloc | apply pw_below_drewN | apply below_drew1 | refine below_set ?_ GE564.out | refine below_set ?_ GE567.out) | exact HB.out)) hb); clear BK564; clear BK567; clear HB; have BK564 := n0_; have BK567 := n1_; have HB := n2_; clear n0_ n1_ n2_; (try clear hb); (try clear hb2); (try clear hk); (try clear hi)))
                                go_ret
                                exact ⟨by first | rfl | (simp [errW_none, errW_some] <;> rfl) | (simp [*, errW_none, errW_some] <;> rfl), by repeat (first | (with_reducible first | exact HB.out | apply below_alloc | apply pw_below_drewN | apply below_drew1 | refine below_set ?_ GE564.out | refine below_set ?_ GE567.out) | exact HB.out)⟩
                            · replace c126 := Bool.eq_false_iff.mpr c126
                              subst c126
                              have H1 : (some false) = some r := by rw [if_neg (show ¬ (false = true) by decide)] at H; exact H
                              clear H
                              have H := H1
                              clear H1
                              obtain rfl := Option.some.inj H
                              have hnb141 := NB564_567.out
                              have hnc141 := NB567_564.out
                              have hcz142_0 : wr.cell? ⟨gb564, 0, none⟩ = some (.int .i64 t561) := (blk_cell BK564.out 0).trans rfl
                              have hcz142_1 : wr.cell? ⟨gb564, 1, none⟩ = some (.int .i64 t562) := (blk_cell BK564.out 1).trans rfl
                              have hfz142_0 := blk_frozen BK564.out 0
                              have hfz142_1 := blk_frozen BK564.out 1
                              have hcz143_0 : wr.cell? ⟨gb567, 0, none⟩ = some (.int .i64 t565) := (blk_cell BK567.out 0).trans rfl
                              have hcz143_1 : wr.cell? ⟨gb567, 1, none⟩ = some (.int .i64 t566) := (blk_cell BK567.out 1).trans rfl
                              have hfz143_0 := blk_frozen BK567.out 0
                              have hfz143_1 := blk_frozen BK567.out 1
                              go_wp2_with (first | (go_at_call 52; (with_reducible refine (impl_DecOk.calls k2 t565 t566 false _ A125.out).mono ?_); rintro e w144 ⟨rfl, hb⟩; have n0_ := Aside0.mk (blk_below (g := gb564) (o := .cells #[.int .i64 t561, .int .i64 t562] 24 (0, 0)) (by (with_reducible repeat (first | refine blk_drewN ?_ _ | refine blk_drew ?_ | refine blk_alloc ?_ _)); exact BK564.out) hb); have n1_ := Aside0.mk (blk_below (g := gb567) (o := .cells #[.int .i64 t565, .int .i64 t566] 24 (0, 0)) (by (with_reducible repeat (first | refine blk_drewN ?_ _ | refine blk_drew ?_ | refine blk_alloc ?_ _)); exact BK567.out) hb); have n2_ := Aside0.mk (below_step (by repeat (first | (with_reducible first | exact HB.out | apply below_alloc | apply pw_below_drewN | apply below_drew1 | refine below_set ?_ GE564.out | refine below_set ?_ GE567.out) | exact HB.out)) hb); clear BK564; clear BK567; clear HB; have BK564 := n0_; have BK567 := n1_; have HB := n2_; clear n0_ n1_ n2_; (try clear hb); (try clear hb2); (try clear hk); (try clear hi)))
                              go_ret
                              exact ⟨by first | rfl | (simp [errW_none, errW_some] <;> rfl) | (simp [*, errW_none, errW_some] <;> rfl), by repeat (first | (with_reducible first | exact HB.out | apply below_alloc | apply pw_below_drewN | apply below_drew1 | refine below_set ?_ GE564.out | refine below_set ?_ GE567.out) | exact HB.out)⟩
                          · rw [if_neg c124] at H
                            have c124b0 : (t566 == t563) = false := beq_eq_false_iff_ne.mpr c124
                            have c124b1 : (t566 != t563) = true := bne_iff_ne.mpr c124
                            obtain rfl := Option.some.inj H
                            have hnb145 := NB564_567.out
                            have hnc145 := NB567_564.out
                            have hcz146_0 : wr.cell? ⟨gb564, 0, none⟩ = some (.int .i64 t561) := (blk_cell BK564.out 0).trans rfl
                            have hcz146_1 : wr.cell? ⟨gb564, 1, none⟩ = some (.int .i64 t562) := (blk_cell BK564.out 1).trans rfl
                            have hfz146_0 := blk_frozen BK564.out 0
                            have hfz146_1 := blk_frozen BK564.out 1
                            have hcz147_0 : wr.cell? ⟨gb567, 0, none⟩ = some (.int .i64 t565) := (blk_cell BK567.out 0).trans rfl
                            have hcz147_1 : wr.cell? ⟨gb567, 1, none⟩ = some (.int .i64 t566) := (blk_cell BK567.out 1).trans rfl
                            have hfz147_0 := blk_frozen BK567.out 0
                            have hfz147_1 := blk_frozen BK567.out 1
                            go_wp2
                            go_ret
                            exact ⟨by first | rfl | (simp [errW_none, errW_some] <;> rfl) | (simp [*, errW_none, errW_some] <;> rfl), by repeat (first | (with_reducible first | exact HB.out | apply below_alloc | apply pw_below_drewN | apply below_drew1 | refine below_set ?_ GE564.out | refine below_set ?_ GE567.out) | exact HB.out)⟩
                    · rw [if_neg c73] at H
                      have c73b0 : decide (0 ≤ t561) = false := decide_eq_false c73
                      clear c73
                      by_cases c148 : t561 < 0
                      · rw [if_pos c148] at H
                        have c148b0 : decide (t561 < 0) = true := decide_eq_true c148
                        clear c148
                        by_cases c149 : t566 = t563
                        · rw [if_pos c149] at H
                          have c149b0 : (t566 == t563) = true := beq_iff_eq.mpr c149
                          have c149b1 : (t566 != t563) = false := bne_eq_false_iff_eq.mpr c149
                          clear c149
                          replace H := Option.bind_eq_some_iff.mp H
                          obtain ⟨t577, A1500, H⟩ := H
                          replace H : (if t577 = true then (if (wrap64 (2 * (wrap64 (t561 - (wrap64 (t565 * x6_2)))))) < x6_2 then (if (wrap64 ((-2) * (wrap64 (t561 - (wrap64 (t565 * x6_2)))))) < x6_2 then (some true) else (some ((wrap64 (t561 - (wrap64 (t565 * x6_2)))) == (wrap64 (Int.tdiv x6_2 2))))) else (some ((wrap64 (t561 - (wrap64 (t565 * x6_2)))) == (wrap64 (Int.tdiv x6_2 2))))) else (some false)) = some r := H
                          have A150 := Aside0.mk A1500
                          clear A1500
                          by_cases c151 : t577 = true
                          · subst c151
                            have H1 : (if (wrap64 (2 * (wrap64 (t561 - (wrap64 (t565 * x6_2)))))) < x6_2 then (if (wrap64 ((-2) * (wrap64 (t561 - (wrap64 (t565 * x6_2)))))) < x6_2 then (some true) else (some ((wrap64 (t561 - (wrap64 (t565 * x6_2)))) == (wrap64 (Int.tdiv x6_2 2))))) else (some ((wrap64 (t561 - (wrap64 (t565 * x6_2)))) == (wrap64 (Int.tdiv x6_2 2))))) = some r := by rw [if_pos rfl] at H; exact H
                            clear H
                            have H := H1
                            clear H1
                            by_cases c152 : (wrap64 (2 * (wrap64 (t561 - (wrap64 (t565 * x6_2)))))) < x6_2
                            · rw [if_pos c152] at H
                              have c152b0 : decide ((wrap64 (2 * (wrap64 (t561 - (wrap64 (t565 * x6_2)))))) < x6_2) = true := decide_eq_true c152
                              clear c152
                              by_cases c153 : (wrap64 ((-2) * (wrap64 (t561 - (wrap64 (t565 * x6_2)))))) < x6_2
                              · rw [if_pos c153] at H
                                have c153b0 : decide ((wrap64 ((-2) * (wrap64 (t561 - (wrap64 (t565 * x6_2)))))) < x6_2) = true := decide_eq_true c153
                                clear c153
                                obtain rfl := Option.some.inj H
                                have hnb154 := NB564_567.out
                                have hnc154 := NB567_564.out
                                have hcz155_0 : wr.cell? ⟨gb564, 0, none⟩ = some (.int .i64 t561) := (blk_cell BK564.out 0).trans rfl
                                have hcz155_1 : wr.cell? ⟨gb564, 1, none⟩ = some (.int .i64 t562) := (blk_cell BK564.out 1).trans rfl
                                have hfz155_0 := blk_frozen BK564.out 0
                                have hfz155_1 := blk_frozen BK564.out 1
                                have hcz156_0 : wr.cell? ⟨gb567, 0, none⟩ = some (.int .i64 t565) := (blk_cell BK567.out 0).trans rfl
                                have hcz156_1 : wr.cell? ⟨gb567, 1, none⟩ = some (.int .i64 t566) := (blk_cell BK567.out 1).trans rfl
                                have hfz156_0 := blk_frozen BK567.out 0
                                have hfz156_1 := blk_frozen BK567.out 1
                                go_wp2_with (first | (go_at_call 52; (with_reducible refine (impl_DecOk.calls k2 t565 t566 true _ A150.out).mono ?_); rintro e w157 ⟨rfl, hb⟩; have n0_ := Aside0.mk (blk_below (g := gb564) (o := .cells #[.int .i64 t561, .int .i64 t562] 24 (0, 0)) (by (with_reducible repeat (first | refine blk_drewN ?_ _ | refine blk_drew ?_ | refine blk_alloc ?_ _)); exact BK564.out) hb); have n1_ := Aside0.mk (blk_below (g := gb567) (o := .cells #[.int .i64 t565, .int .i64 t566] 24 (0, 0)) (by (with_reducible repeat (first | refine blk_drewN ?_ _ | refine blk_drew ?_ | refine blk_alloc ?_ _)); exact BK567.out) hb); have n2_ := Aside0.mk (below_step (by repeat (first | (with_reducible first | exact HB.out | apply below_alloc | apply pw_below_drewN | apply below_drew1 | refine below_set ?_ GE564.out | refine below_set ?_ GE567.out) | exact HB.out)) hb); clear BK564; clear BK567; clear HB; have BK564 := n0_; have BK567 := n1_; have HB := n2_; clear n0_ n1_ n2_; (try clear hb); (try clear hb2); (try clear hk); (try clear hi)))
                                go_ret
                                exact ⟨by first | rfl | (simp [errW_none, errW_some] <;> rfl) | (simp [*, errW_none, errW_some] <;> rfl), by repeat (first | (with_reducible first | exact HB.out | apply below_alloc | apply pw_below_drewN | apply below_drew1 | refine below_set ?_ GE564.out | refine below_set ?_ GE567.out) | exact HB.out)⟩
                              · rw [if_neg c153] at H
                                have c153b0 : decide ((wrap64 ((-2) * (wrap64 (t561 - (wrap64 (t565 * x6_2)))))) < x6_2) = false := decide_eq_false c153
                                clear c153
                                obtain rfl := Option.some.inj H
                                have hnb158 := NB564_567.out
                                have hnc158 := NB567_564.out
                                have hcz159_0 : wr.cell? ⟨gb564, 0, none⟩ = some (.int .i64 t561) := (blk_cell BK564.out 0).trans rfl
                                have hcz159_1 : wr.cell? ⟨gb564, 1, none⟩ = some (.int .i64 t562) := (blk_cell BK564.out 1).trans rfl
                                have hfz159_0 := blk_frozen BK564.out 0
                                have hfz159_1 := blk_frozen BK564.out 1
                                have hcz160_0 : wr.cell? ⟨gb567, 0, none⟩ = some (.int .i64 t565) := (blk_cell BK567.out 0).trans rfl
                                have hcz160_1 : wr.cell? ⟨gb567, 1, none⟩ = some (.int .i64 t566) := (blk_cell BK567.out 1).trans rfl
                                have hfz160_0 := blk_frozen BK567.out 0
                                have hfz160_1 := blk_frozen BK567.out 1
                                go_wp2_with (first | (go_at_call 52; (with_reducible refine (impl_DecOk.calls k2 t565 t566 true _ A150.out).mono ?_); rintro e w161 ⟨rfl, hb⟩; have n0_ := Aside0.mk (blk_below (g := gb564) (o := .cells #[.int .i64 t561, .int .i64 t562] 24 (0, 0)) (by (with_reducible repeat (first | refine blk_drewN ?_ _ | refine blk_drew ?_ | refine blk_alloc ?_ _)); exact BK564.out) hb); have n1_ := Aside0.mk (blk_below (g := gb567) (o := .cells #[.int .i64 t565, .int .i64 t566] 24 (0, 0)) (by (with_reducible repeat (first | refine blk_drewN ?_ _ | refine blk_drew ?_ | refine blk_alloc ?_ _)); exact BK567.out) hb); have n2_ := Aside0.mk (below_step (by repeat (first | (with_reducible first | exact HB.out | apply below_alloc | apply pw_below_drewN | apply below_drew1 | refine below_set ?_ GE564.out | refine below_set ?_ GE567.out) | exact HB.out)) hb); clear BK564; clear BK567; clear HB; have BK564 := n0_; have BK567 := n1_; have HB := n2_; clear n0_ n1_ n2_; (try clear hb); (try clear hb2); (try clear hk); (try clear hi)))
                                go_ret
                                exact ⟨by first | rfl | (simp [errW_none, errW_some] <;> rfl) | (simp [*, errW_none, errW_some] <;> rfl), by repeat (first | (with_reducible first | exact HB.out | apply below_alloc | apply pw_below_drewN | apply below_drew1 | refine below_set ?_ GE564.out | refine below_set ?_ GE567.out) | exact HB.out)⟩
                            · rw [if_neg c152] at H
                              have c152b0 : decide ((wrap64 (2 * (wrap64 (t561 - (wrap64 (t565 * x6_2)))))) < x6_2) = false := decide_eq_false c152
                              clear c152
                              obtain rfl := Option.some.inj H
                              have hnb162 := NB564_567.out
                              have hnc162 := NB567_564.out
                              have hcz163_0 : wr.cell? ⟨gb564, 0, none⟩ = some (.int .i64 t561) := (blk_cell BK564.out 0).trans rfl
                              have hcz163_1 : wr.cell? ⟨gb564, 1, none⟩ = some (.int .i64 t562) := (blk_cell BK564.out 1).trans rfl
                              have hfz163_0 := blk_frozen BK564.out 0
                              have hfz163_1 := blk_frozen BK564.out 1
                              have hcz164_0 : wr.cell? ⟨gb567, 0, none⟩ = some (.int .i64 t565) := (blk_cell BK567.out 0).trans rfl
                              have hcz164_1 : wr.cell? ⟨gb567, 1, none⟩ = some (.int .i64 t566) := (blk_cell BK567.out 1).trans rfl
                              have hfz164_0 := blk_frozen BK567.out 0
                              have hfz164_1 := blk_frozen BK567.out 1
                              go_wp2_with (first | (go_at_call 52; (with_reducible refine (impl_DecOk.calls k2 t565 t566 true _ A150.out).mono ?_); rintro e w165 ⟨rfl, hb⟩; have n0_ := Aside0.mk (blk_below (g := gb564) (o := .cells #[.int .i64 t561, .int .i64 t562] 24 (0, 0)) (by (with_reducible repeat (first | refine blk_drewN ?_ _ | refine blk_drew ?_ | refine blk_alloc ?_ _)); exact BK564.out) hb); have n1_ := Aside0.mk (blk_below (g := gb567) (o := .cells #[.int .i64 t565, .int .i64 t566] 24 (0, 0)) (by (with_reducible repeat (first | refine blk_drewN ?_ _ | refine blk_drew ?_ | refine blk_alloc ?_ _)); exact BK567.out) hb); have n2_ := Aside0.mk (below_step (by repeat (first | (with_reducible first | exact HB.out | apply below_alloc | apply pw_below_drewN | apply below_drew1 | refine below_set ?_ GE564.out | refine below_set ?_ GE567.out) | exact HB.out)) hb); clear BK564; clear BK567; clear HB; have BK564 := n0_; have BK567 := n1_; have HB := n2_; clear n0_ n1_ n2_; (try clear hb); (try clear hb2); (try clear hk); (try clear hi)))
                              go_ret
                              exact ⟨by first | rfl | (simp [errW_none, errW_some] <;> rfl) | (simp [*, errW_none, errW_some] <;> rfl), by repeat (first | (with_reducible first | exact HB.out | apply below_alloc | apply pw_below_drewN | apply below_drew1 | refine below_set ?_ GE564.out | refine below_set ?_ GE567.out) | exact HB.out)⟩
                          · replace c151 := Bool.eq_false_iff.mpr c151
                            subst c151
                            have H1 : (some false) = some r := by rw [if_neg (show ¬ (false = true) by decide)] at H; exact H
                            clear H
                            have H := H1
                            clear H1
                            obtain rfl := Option.some.inj H
                            have hnb166 := NB564_567.out
                            have hnc166 := NB567_564.out
                            have hcz167_0 : wr.cell? ⟨gb564, 0, none⟩ = some (.int .i64 t561) := (blk_cell BK564.out 0).trans rfl
                            have hcz167_1 : wr.cell? ⟨gb564, 1, none⟩ = some (.int .i64 t562) := (blk_cell BK564.out 1).trans rfl
                            have hfz167_0 := blk_frozen BK564.out 0
                            have hfz167_1 := blk_frozen BK564.out 1
                            have hcz168_0 : wr.cell? ⟨gb567, 0, none⟩ = some (.int .i64 t565) := (blk_cell BK567.out 0).trans rfl
                            have hcz168_1 : wr.cell? ⟨gb567, 1, none⟩ = some (.int .i64 t566) := (blk_cell BK567.out 1).trans rfl
                            have hfz168_0 := blk_frozen BK567.out 0
                            have hfz168_1 := blk_frozen BK567.out 1
                            go_wp2_with (first | (go_at_call 52; (with_reducible refine (impl_DecOk.calls k2 t565 t566 false _ A150.out).mono ?_); rintro e w169 ⟨rfl, hb⟩; have n0_ := Aside0.mk (blk_below (g := gb564) (o := .cells #[.int .i64 t561, .int .i64 t562] 24 (0, 0)) (by (with_reducible repeat (first | refine blk_drewN ?_ _ | refine blk_drew ?_ | refine blk_alloc ?_ _)); exact BK564.out) hb); have n1_ := Aside0.mk (blk_below (g := gb567) (o := .cells #[.int .i64 t565, .int .i64 t566] 24 (0, 0)) (by (with_reducible repeat (first | refine blk_drewN ?_ _ | refine blk_drew ?_ | refine blk_alloc ?_ _)); exact BK567.out) hb); have n2_ := Aside0.mk (below_step (by repeat (first | (with_reducible first | exact HB.out | apply below_alloc | apply pw_below_drewN | apply below_drew1 | refine below_set ?_ GE564.out | refine below_set ?_ GE567.out) | exact HB.out)) hb); clear BK564; clear BK567; clear HB; have BK564 := n0_; have BK567 := n1_; have HB := n2_; clear n0_ n1_ n2_; (try clear hb); (try clear hb2); (try clear hk); (try clear hi)))
                            go_ret
                            exact ⟨by first | rfl | (simp [errW_none, errW_some] <;> rfl) | (simp [*, errW_none, errW_some] <;> rfl), by repeat (first | (with_reducible first | exact HB.out | apply below_alloc | apply pw_below_drewN | apply below_drew1 | refine below_set ?_ GE564.out | refine below_set ?_ GE567.out) | exact HB.out)⟩
                        · rw [if_neg c149] at H
                          have c149b0 : (t566 == t563) = false := beq_eq_false_iff_ne.mpr c149
                          have c149b1 : (t566 != t563) = true := bne_iff_ne.mpr c149
                          obtain rfl := Option.some.inj H
                          have hnb170 := NB564_567.out
                          have hnc170 := NB567_564.out
                          have hcz171_0 : wr.cell? ⟨gb564, 0, none⟩ = some (.int .i64 t561) := (blk_cell BK564.out 0).trans rfl
                          have hcz171_1 : wr.cell? ⟨gb564, 1, none⟩ = some (.int .i64 t562) := (blk_cell BK564.out 1).trans rfl
                          have hfz171_0 := blk_frozen BK564.out 0
                          have hfz171_1 := blk_frozen BK564.out 1
                          have hcz172_0 : wr.cell? ⟨gb567, 0, none⟩ = some (.int .i64 t565) := (blk_cell BK567.out 0).trans rfl
                          have hcz172_1 : wr.cell? ⟨gb567, 1, none⟩ = some (.int .i64 t566) := (blk_cell BK567.out 1).trans rfl
                          have hfz172_0 := blk_frozen BK567.out 0
                          have hfz172_1 := blk_frozen BK567.out 1
                          go_wp2
                          go_ret
                          exact ⟨by first | rfl | (simp [errW_none, errW_some] <;> rfl) | (simp [*, errW_none, errW_some] <;> rfl), by repeat (first | (with_reducible first | exact HB.out | apply below_alloc | apply pw_below_drewN | apply below_drew1 | refine below_set ?_ GE564.out | refine below_set ?_ GE567.out) | exact HB.out)⟩
                      · rw [if_neg c148] at H
                        have c148b0 : decide (t561 < 0) = false := decide_eq_false c148
                        clear c148
                        by_cases c173 : t566 = t563
                        · rw [if_pos c173] at H
                          have c173b0 : (t566 == t563) = true := beq_iff_eq.mpr c173
                          have c173b1 : (t566 != t563) = false := bne_eq_false_iff_eq.mpr c173
                          clear c173
                          replace H := Option.bind_eq_some_iff.mp H
                          obtain ⟨t578, A1740, H⟩ := H
                          replace H : (if t578 = true then (if (wrap64 (2 * (wrap64 (t561 - (wrap64 (t565 * x6_2)))))) < x6_2 then (if (wrap64 ((-2) * (wrap64 (t561 - (wrap64 (t565 * x6_2)))))) < x6_2 then (some true) else (some false)) else (some false)) else (some false)) = some r := H
                          have A174 := Aside0.mk A1740
                          clear A1740
                          by_cases c175 : t578 = true
                          · subst c175
                            have H1 : (if (wrap64 (2 * (wrap64 (t561 - (wrap64 (t565 * x6_2)))))) < x6_2 then (if (wrap64 ((-2) * (wrap64 (t561 - (wrap64 (t565 * x6_2)))))) < x6_2 then (some true) else (some false)) else (some false)) = some r := by rw [if_pos rfl] at H; exact H
                            clear H
                            have H := H1
                            clear H1
                            by_cases c176 : (wrap64 (2 * (wrap64 (t561 - (wrap64 (t565 * x6_2)))))) < x6_2
                            · rw [if_pos c176] at H
                              have c176b0 : decide ((wrap64 (2 * (wrap64 (t561 - (wrap64 (t565 * x6_2)))))) < x6_2) = true := decide_eq_true c176
                              clear c176
                              by_cases c177 : (wrap64 ((-2) * (wrap64 (t561 - (wrap64 (t565 * x6_2)))))) < x6_2
                              · rw [if_pos c177] at H
                                have c177b0 : decide ((wrap64 ((-2) * (wrap64 (t561 - (wrap64 (t565 * x6_2)))))) < x6_2) = true := decide_eq_true c177
                                clear c177
                                obtain rfl := Option.some.inj H
                                have hnb178 := NB564_567.out
                                have hnc178 := NB567_564.out
                                have hcz179_0 : wr.cell? ⟨gb564, 0, none⟩ = some (.int .i64 t561) := (blk_cell BK564.out 0).trans rfl
                                have hcz179_1 : wr.cell? ⟨gb564, 1, none⟩ = some (.int .i64 t562) := (blk_cell BK564.out 1).trans rfl
                                have hfz179_0 := blk_frozen BK564.out 0
                                have hfz179_1 := blk_frozen BK564.out 1
                                have hcz180_0 : wr.cell? ⟨gb567, 0, none⟩ = some (.int .i64 t565) := (blk_cell BK567.out 0).trans rfl
                                have hcz180_1 : wr.cell? ⟨gb567, 1, none⟩ = some (.int .i64 t566) := (blk_cell BK567.out 1).trans rfl
                                have hfz180_0 := blk_frozen BK567.out 0
                                have hfz180_1 := blk_frozen BK567.out 1
                                go_wp2_with (first | (go_at_call 52; (with_reducible refine (impl_DecOk.calls k2 t565 t566 true _ A174.out).mono ?_); rintro e w181 ⟨rfl, hb⟩; have n0_ := Aside0.mk (blk_below (g := gb564) (o := .cells #[.int .i64 t561, .int .i64 t562] 24 (0, 0)) (by (with_reducible repeat (first | refine blk_drewN ?_ _ | refine blk_drew ?_ | refine blk_alloc ?_ _)); exact BK564.out) hb); have n1_ := Aside0.mk (blk_below (g := gb567) (o := .cells #[.int .i64 t565, .int .i64 t566] 24 (0, 0)) (by (with_reducible repeat (first | refine blk_drewN ?_ _ | refine blk_drew ?_ | refine blk_alloc ?_ _)); exact BK567.out) hb); have n2_ := Aside0.mk (below_step (by repeat (first | (with_reducible first | exact HB.out | apply below_alloc | apply pw_below_drewN | apply below_drew1 | refine below_set ?_ GE564.out | refine below_set ?_ GE567.out) | exact HB.out)) hb); clear BK564; clear BK567; clear HB; have BK564 := n0_; have BK567 := n1_; have HB := n2_; clear n0_ n1_ n2_; (try clear hb); (try clear hb2); (try clear hk); (try clear hi)))
                                go_ret
                                exact ⟨by first | rfl | (simp [errW_none, errW_some] <;> rfl) | (simp [*, errW_none, errW_some] <;> rfl), by repeat (first | (with_reducible first | exact HB.out | apply below_alloc | apply pw_below_drewN | apply below_drew1 | refine below_set ?_ GE564.out | refine below_set ?_ GE567.out) | exact HB.out)⟩
                              · rw [if_neg c177] at H
                                have c177b0 : decide ((wrap64 ((-2) * (wrap64 (t561 - (wrap64 (t565 * x6_2)))))) < x6_2) = false := decide_eq_false c177
                                clear c177
                                obtain rfl := Option.some.inj H
                                have hnb182 := NB564_567.out
                                have hnc182 := NB567_564.out
                                have hcz183_0 : wr.cell? ⟨gb564, 0, none⟩ = some (.int .i64 t561) := (blk_cell BK564.out 0).trans rfl
                                have hcz183_1 : wr.cell? ⟨gb564, 1, none⟩ = some (.int .i64 t562) := (blk_cell BK564.out 1).trans rfl
                                have hfz183_0 := blk_frozen BK564.out 0
                                have hfz183_1 := blk_frozen BK564.out 1
                                have hcz184_0 : wr.cell? ⟨gb567, 0, none⟩ = some (.int .i64 t565) := (blk_cell BK567.out 0).trans rfl
                                have hcz184_1 : wr.cell? ⟨gb567, 1, none⟩ = some (.int .i64 t566) := (blk_cell BK567.out 1).trans rfl
                                have hfz184_0 := blk_frozen BK567.out 0
                                have hfz184_1 := blk_frozen BK567.out 1
                                go_wp2_with (first | (go_at_call 52; (with_reducible refine (impl_DecOk.calls k2 t565 t566 true _ A174.out).mono ?_); rintro e w185 ⟨rfl, hb⟩; have n0_ := Aside0.mk (blk_below (g := gb564) (o := .cells #[.int .i64 t561, .int .i64 t562] 24 (0, 0)) (by (with_reducible repeat (first | refine blk_drewN ?_ _ | refine blk_drew ?_ | refine blk_alloc ?_ _)); exact BK564.out) hb); have n1_ := Aside0.mk (blk_below (g := gb567) (o := .cells #[.int .i64 t565, .int .i64 t566] 24 (0, 0)) (by (with_reducible repeat (first | refine blk_drewN ?_ _ | refine blk_drew ?_ | refine blk_alloc ?_ _)); exact BK567.out) hb); have n2_ := Aside0.mk (below_step (by repeat (first | (with_reducible first | exact HB.out | apply below_alloc | apply pw_below_drewN | apply below_drew1 | refine below_set ?_ GE564.out | refine below_set ?_ GE567.out) | exact HB.out)) hb); clear BK564; clear BK567; clear HB; have BK564 := n0_; have BK567 := n1_; have HB := n2_; clear n0_ n1_ n2_; (try clear hb); (try clear hb2); (try clear hk); (try clear hi)))
                                go_ret
                                exact ⟨by first | rfl | (simp [errW_none, errW_some] <;> rfl) | (simp [*, errW_none, errW_some] <;> rfl), by repeat (first | (with_reducible first | exact HB.out | apply below_alloc | apply pw_below_drewN | apply below_drew1 | refine below_set ?_ GE564.out | refine below_set ?_ GE567.out) | exact HB.out)⟩
                            · rw [if_neg c176] at H
                              have c176b0 : decide ((wrap64 (2 * (wrap64 (t561 - (wrap64 (t565 * x6_2)))))) < x6_2) = false := decide_eq_false c176
                              clear c176
                              obtain rfl := Option.some.inj H
                              have hnb186 := NB564_567.out
                              have hnc186 := NB567_564.out
                              have hcz187_0 : wr.cell? ⟨gb564, 0, none⟩ = some (.int .i64 t561) := (blk_cell BK564.out 0).trans rfl
                              have hcz187_1 : wr.cell? ⟨gb564, 1, none⟩ = some (.int .i64 t562) := (blk_cell BK564.out 1).trans rfl
                              have hfz187_0 := blk_frozen BK564.out 0
                              have hfz187_1 := blk_frozen BK564.out 1
                              have hcz188_0 : wr.cell? ⟨gb567, 0, none⟩ = some (.int .i64 t565) := (blk_cell BK567.out 0).trans rfl
                              have hcz188_1 : wr.cell? ⟨gb567, 1, none⟩ = some (.int .i64 t566) := (blk_cell BK567.out 1).trans rfl
                              have hfz188_0 := blk_frozen BK567.out 0
                              have hfz188_1 := blk_frozen BK567.out 1
                              go_wp2_with (first | (go_at_call 52; (with_reducible refine (impl_DecOk.calls k2 t565 t566 true _ A174.out).mono ?_); rintro e w189 ⟨rfl, hb⟩; have n0_ := Aside0.mk (blk_below (g := gb564) (o := .cells #[.int .i64 t561, .int .i64 t562] 24 (0, 0)) (by (with_reducible repeat (first | refine blk_drewN ?_ _ | refine blk_drew ?_ | refine blk_alloc ?_ _)); exact BK564.out) hb); have n1_ := Aside0.mk (blk_below (g := gb567) (o := .cells #[.int .i64 t565, .int .i64 t566] 24 (0, 0)) (by (with_reducible repeat (first | refine blk_drewN ?_ _ | refine blk_drew ?_ | refine blk_alloc ?_ _)); exact BK567.out) hb); have n2_ := Aside0.mk (below_step (by repeat (first | (with_reducible first | exact HB.out | apply below_alloc | apply pw_below_drewN | apply below_drew1 | refine below_set ?_ GE564.out | refine below_set ?_ GE567.out) | exact HB.out)) hb); clear BK564; clear BK567; clear HB; have BK564 := n0_; have BK567 := n1_; have HB := n2_; clear n0_ n1_ n2_; (try clear hb); (try clear hb2); (try clear hk); (try clear hi)))
                              go_ret
                              exact ⟨by first | rfl | (simp [errW_none, errW_some] <;> rfl) | (simp [*, errW_none, errW_some] <;> rfl), by repeat (first | (with_reducible first | exact HB.out | apply below_alloc | apply pw_below_drewN | apply below_drew1 | refine below_set ?_ GE564.out | refine below_set ?_ GE567.out) | exact HB.out)⟩
                          · replace c175 := Bool.eq_false_iff.mpr c175
                            subst c175
                            have H1 : (some false) = some r := by rw [if_neg (show ¬ (false = true) by decide)] at H; exact H
                            clear H
                            have H := H1
                            clear H1
                            obtain rfl := Option.some.inj H
                            have hnb190 := NB564_567.out
                            have hnc190 := NB567_564.out
                            have hcz191_0 : wr.cell? ⟨gb564, 0, none⟩ = some (.int .i64 t561) := (blk_cell BK564.out 0).trans rfl
                            have hcz191_1 : wr.cell? ⟨gb564, 1, none⟩ = some (.int .i64 t562) := (blk_cell BK564.out 1).trans rfl
                            have hfz191_0 := blk_frozen BK564.out 0
                            have hfz191_1 := blk_frozen BK564.out 1
                            have hcz192_0 : wr.cell? ⟨gb567, 0, none⟩ = some (.int .i64 t565) := (blk_cell BK567.out 0).trans rfl
                            have hcz192_1 : wr.cell? ⟨gb567, 1, none⟩ = some (.int .i64 t566) := (blk_cell BK567.out 1).trans rfl
                            have hfz192_0 := blk_frozen BK567.out 0
                            have hfz192_1 := blk_frozen BK567.out 1
                            go_wp2_with (first | (go_at_call 52; (with_reducible refine (impl_DecOk.calls k2 t565 t566 false _ A174.out).mono ?_); rintro e w193 ⟨rfl, hb⟩; have n0_ := Aside0.mk (blk_below (g := gb564) (o := .cells #[.int .i64 t561, .int .i64 t562] 24 (0, 0)) (by (with_reducible repeat (first | refine blk_drewN ?_ _ | refine blk_drew ?_ | refine blk_alloc ?_ _)); exact BK564.out) hb); have n1_ := Aside0.mk (blk_below (g := gb567) (o := .cells #[.int .i64 t565, .int .i64 t566] 24 (0, 0)) (by (with_reducible repeat (first | refine blk_drewN ?_ _ | refine blk_drew ?_ | refine blk_alloc ?_ _)); exact BK567.out) hb); have n2_ := Aside0.mk (below_step (by repeat (first | (with_reducible first | exact HB.out | apply below_alloc | apply pw_below_drewN | apply below_drew1 | refine below_set ?_ GE564.out | refine below_set ?_ GE567.out) | exact HB.out)) hb); clear BK564; clear BK567; clear HB; have BK564 := n0_; have BK567 := n1_; have HB := n2_; clear n0_ n1_ n2_; (try clear hb); (try clear hb2); (try clear hk); (try clear hi)))
                            go_ret
                            exact ⟨by first | rfl | (simp [errW_none, errW_some] <;> rfl) | (simp [*, errW_none, errW_some] <;> rfl), by repeat (first | (with_reducible first | exact HB.out | apply below_alloc | apply pw_below_drewN | apply below_drew1 | refine below_set ?_ GE564.out | refine below_set ?_ GE567.out) | exact HB.out)⟩
                        · rw [if_neg c173] at H
                          have c173b0 : (t566 == t563) = false := beq_eq_false_iff_ne.mpr c173
                          have c173b1 : (t566 != t563) = true := bne_iff_ne.mpr c173
                          obtain rfl := Option.some.inj H
                          have hnb194 := NB564_567.out
                          have hnc194 := NB567_564.out
                          have hcz195_0 : wr.cell? ⟨gb564, 0, none⟩ = some (.int .i64 t561) := (blk_cell BK564.out 0).trans rfl
                          have hcz195_1 : wr.cell? ⟨gb564, 1, none⟩ = some (.int .i64 t562) := (blk_cell BK564.out 1).trans rfl
                          have hfz195_0 := blk_frozen BK564.out 0
                          have hfz195_1 := blk_frozen BK564.out 1
                          have hcz196_0 : wr.cell? ⟨gb567, 0, none⟩ = some (.int .i64 t565) := (blk_cell BK567.out 0).trans rfl
                          have hcz196_1 : wr.cell? ⟨gb567, 1, none⟩ = some (.int .i64 t566) := (blk_cell BK567.out 1).trans rfl
                          have hfz196_0 := blk_frozen BK567.out 0
                          have hfz196_1 := blk_frozen BK567.out 1
                          go_wp2
                          go_ret
                          exact ⟨by first | rfl | (simp [errW_none, errW_some] <;> rfl) | (simp [*, errW_none, errW_some] <;> rfl), by repeat (first | (with_reducible first | exact HB.out | apply below_alloc | apply pw_below_drewN | apply below_drew1 | refine below_set ?_ GE564.out | refine below_set ?_ GE567.out) | exact HB.out)⟩

/-- THE ONE PURE STATEMENT of laws_FnDecAt: yours. -/
def laws_FnDecAt.Pure : Prop := ∀ (l0 : List Int), l0.length ≤ maxLen → l0.length * 1 ≤ 140737488351232 → (∀ x ∈ l0, (Lit.int .u8 x).wf = true) → ∃ k, laws_FnDecAt.f k l0 = some true
theorem laws_FnDecAt.walk (P : laws_FnDecAt.Pure) (a0 : Option Addr) (len0 cap0 : Nat) (z0 : List Int) (w : World) (w0 : (a0 = none ∧ len0 = 0 ∧ cap0 = 0 ∧ z0 = []) ∨ ∃ x, a0 = some x ∧ len0 ≤ cap0 ∧ cap0 ≤ maxLen ∧ z0.length = cap0 ∧ (∀ i, i < z0.length → w.cell? (x.add i) = some (.int .u8 (z0.getD i 0))) ∧ ∀ n ∈ z0, (Lit.int .u8 n).wf = true) (y0 : len0 * 1 ≤ 140737488351232) :
    Calls Try.prog 11 #[.slice a0 len0 cap0] w fun e w' => e = .returned (.bool true) ∧ Below w.heap.size w w' := by
  obtain ⟨l0, rfl, hr0, hm0, hw0, hc0⟩ := ReadsInt.ofRowC w0
  obtain ⟨k, h⟩ := P l0 hm0 y0 hw0
  refine (laws_FnDecAt.calls k _ _ l0 true w (Kd.C_of_reads (d := (0 : Int)) (h1 := fun _ => rfl) hr0) hc0 h).mono ?_
  rintro e w' ⟨rfl, hd⟩
  exact ⟨rfl, hd⟩

end Go.Proofs.Ytdcdcokofcfkoaa.All
