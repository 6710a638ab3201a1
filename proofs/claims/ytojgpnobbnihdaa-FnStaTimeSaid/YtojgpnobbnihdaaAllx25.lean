-- Written by the session's own program wip/allprint.py, which drives the kit's print; Lean checks it.
import Derived.Test.YtojgpnobbnihdaaAllx0
import Derived.Test.YtojgpnobbnihdaaAllx7
import Derived.Test.YtojgpnobbnihdaaAllx8
import Derived.Test.YtojgpnobbnihdaaAllx13
import Derived.Test.YtojgpnobbnihdaaAllx15
namespace Go.Proofs.Ytojgpnobbnihdaa.All
open Go.RowKit Go.Proofs.YtojgpnobbnihdaaW.PrintWords Go.Proofs.YtojgpnobbnihdaaW.PrintLast Go.Proofs.YtojgpnobbnihdaaW.PrintMore
attribute [local go_sem] max2_int min2_int max_two min_two max_three min_three max_four min_four   -- for this text's walks alone
set_option linter.unusedVariables false
set_option linter.unusedSimpArgs false

-- GROUP FnStaTime
/-! ### laws_FnStaTime: function 8 -/
mutual
def laws_FnStaTime.j0 : Nat → Int → Int → Int → Int → Bool → Int → Int → Int → List Int → Int → Option (Bool)
  | 0, _, _, _, _, _, _, _, _, _, _ => none
  | k + 1, x4, x5, x6, x7, x36, x545000, x545001, x545002, x545003, x545004 => if x36 = true then ((laws_cuOk.f).bind fun t547 => (some t547)) else ((impl_StaState.f k x545000 x545001 x545002 x545003 x545004 x4 (wrap64 (x5 + 1)) x6).bind fun t548 => (if x7 = 3 then (laws_FnStaTime.j1 k x7 t548 true) else (if x7 = 4 then (laws_FnStaTime.j1 k x7 t548 (x6 != (wrap64 (x5 + 1)))) else (laws_FnStaTime.j1 k x7 t548 false))))
def laws_FnStaTime.j1 : Nat → Int → Int → Bool → Option (Bool)
  | 0, _, _, _ => none
  | k + 1, x7, x8, x55 => if x55 = true then (some (x8 == x7)) else (if x8 > 0 then (if x7 = 2 then (some (x8 != 1)) else (some true)) else (some false))
end
def laws_FnStaTime.f (k : Nat) (l0 : List Int) : Option (Bool) := if (l0.length : Int) > 1048576 then (some true) else ((spec_DrawStaState.f k l0).bind fun bt534 => ((impl_StaState.f k bt534.1 bt534.2.1 bt534.2.2.1 bt534.2.2.2.1 bt534.2.2.2.2.1 bt534.2.2.2.2.2.1 bt534.2.2.2.2.2.2.1 bt534.2.2.2.2.2.2.2).bind fun t545 => ((spec_StaState.f k bt534.1 bt534.2.1 bt534.2.2.1 bt534.2.2.2.1 bt534.2.2.2.2.1 bt534.2.2.2.2.2.1 bt534.2.2.2.2.2.2.1 bt534.2.2.2.2.2.2.2).bind fun t546 => (if t545 = t546 then (if t545 = 0 then (laws_FnStaTime.j0 k bt534.2.2.2.2.2.1 bt534.2.2.2.2.2.2.1 bt534.2.2.2.2.2.2.2 t545 true bt534.1 bt534.2.1 bt534.2.2.1 bt534.2.2.2.1 bt534.2.2.2.2.1) else (laws_FnStaTime.j0 k bt534.2.2.2.2.2.1 bt534.2.2.2.2.2.2.1 bt534.2.2.2.2.2.2.2 t545 (bt534.2.2.2.2.2.2.1 == 109572) bt534.1 bt534.2.1 bt534.2.2.1 bt534.2.2.2.1 bt534.2.2.2.2.1)) else (some false)))))
theorem laws_FnStaTime.mono_l : ∀ k, (∀ y0 y1 y2 y3 y4 y5 y6 y7 y8 y9, LeO (laws_FnStaTime.j0 k y0 y1 y2 y3 y4 y5 y6 y7 y8 y9) (laws_FnStaTime.j0 (k + 1) y0 y1 y2 y3 y4 y5 y6 y7 y8 y9)) ∧ (∀ y0 y1 y2, LeO (laws_FnStaTime.j1 k y0 y1 y2) (laws_FnStaTime.j1 (k + 1) y0 y1 y2))
  | 0 => ⟨fun _ _ _ _ _ _ _ _ _ _ r h => by simp [laws_FnStaTime.j0] at h, fun _ _ _ r h => by simp [laws_FnStaTime.j1] at h⟩
  | k + 1 => by
    obtain ⟨ih0, ih1⟩ := laws_FnStaTime.mono_l k
    refine ⟨?_, ?_⟩
    · intro y0 y1 y2 y3 y4 y5 y6 y7 y8 y9
      unfold laws_FnStaTime.j0
      repeat' first
      | (with_reducible exact ih0 _ _ _ _ _ _ _ _ _ _)
      | (with_reducible exact ih1 _ _ _)
      | (with_reducible exact impl_StaState.mono _ _ _ _ _ _ _ _ _)
      | (with_reducible exact spec_DrawStaState.mono _ _)
      | (with_reducible exact spec_StaState.mono _ _ _ _ _ _ _ _ _)
      | (with_reducible exact LeO.refl _)
      | (with_reducible exact LeO.none _)
      | (with_reducible refine LeO.ite ?_ ?_)
      | (with_reducible refine LeO.bind ?_ (fun _ => ?_))
      | exact ih0 _ _ _ _ _ _ _ _ _ _
      | exact ih1 _ _ _
      | exact impl_StaState.mono _ _ _ _ _ _ _ _ _
      | exact spec_DrawStaState.mono _ _
      | exact spec_StaState.mono _ _ _ _ _ _ _ _ _
      | exact LeO.none _
      | refine LeO.ite ?_ ?_
      | refine LeO.bind ?_ (fun _ => ?_)
    · intro y0 y1 y2
      unfold laws_FnStaTime.j1
      repeat' first
      | (with_reducible exact ih0 _ _ _ _ _ _ _ _ _ _)
      | (with_reducible exact ih1 _ _ _)
      | (with_reducible exact impl_StaState.mono _ _ _ _ _ _ _ _ _)
      | (with_reducible exact spec_DrawStaState.mono _ _)
      | (with_reducible exact spec_StaState.mono _ _ _ _ _ _ _ _ _)
      | (with_reducible exact LeO.refl _)
      | (with_reducible exact LeO.none _)
      | (with_reducible refine LeO.ite ?_ ?_)
      | (with_reducible refine LeO.bind ?_ (fun _ => ?_))
      | exact ih0 _ _ _ _ _ _ _ _ _ _
      | exact ih1 _ _ _
      | exact impl_StaState.mono _ _ _ _ _ _ _ _ _
      | exact spec_DrawStaState.mono _ _
      | exact spec_StaState.mono _ _ _ _ _ _ _ _ _
      | exact LeO.none _
      | refine LeO.ite ?_ ?_
      | refine LeO.bind ?_ (fun _ => ?_)
theorem laws_FnStaTime.mono : ∀ a0 k, LeO (laws_FnStaTime.f k a0) (laws_FnStaTime.f (k + 1) a0) := by
  intro a0 k
  obtain ⟨ih0, ih1⟩ := laws_FnStaTime.mono_l k
  unfold laws_FnStaTime.f
  repeat' first
      | (with_reducible exact ih0 _ _ _ _ _ _ _ _ _ _)
      | (with_reducible exact ih1 _ _ _)
      | (with_reducible exact impl_StaState.mono _ _ _ _ _ _ _ _ _)
      | (with_reducible exact spec_DrawStaState.mono _ _)
      | (with_reducible exact spec_StaState.mono _ _ _ _ _ _ _ _ _)
      | (with_reducible exact LeO.refl _)
      | (with_reducible exact LeO.none _)
      | (with_reducible refine LeO.ite ?_ ?_)
      | (with_reducible refine LeO.bind ?_ (fun _ => ?_))
      | exact ih0 _ _ _ _ _ _ _ _ _ _
      | exact ih1 _ _ _
      | exact impl_StaState.mono _ _ _ _ _ _ _ _ _
      | exact spec_DrawStaState.mono _ _
      | exact spec_StaState.mono _ _ _ _ _ _ _ _ _
      | exact LeO.none _
      | refine LeO.ite ?_ ?_
      | refine LeO.bind ?_ (fun _ => ?_)
set_option maxHeartbeats 8000000 in
set_option maxRecDepth 100000 in
theorem laws_FnStaTime.calls (k : Nat) (A0 : Option Addr) (c0 : Nat) (l0 : List Int) (r : Bool) (w : World) (hr0 : Kd.C (Kd.int .u8) w A0 l0.length l0) (hc0 : l0.length ≤ c0) (h : laws_FnStaTime.f k l0 = some r) :
    Calls Try.prog 8 #[.slice A0 l0.length c0] w fun e w' => e = .returned (.bool r) ∧ Below w.heap.size w w' := by
  have hu31 := Try.underlying31
  have HR0 := Aside0.mk hr0
  have HC0 := Aside0.mk hc0
  clear hr0 hc0
  have HB := Aside0.mk (Below.refl w.heap.size w)
  have H : (if (l0.length : Int) > 1048576 then (some true) else ((spec_DrawStaState.f k l0).bind fun bt534 => ((impl_StaState.f k bt534.1 bt534.2.1 bt534.2.2.1 bt534.2.2.2.1 bt534.2.2.2.2.1 bt534.2.2.2.2.2.1 bt534.2.2.2.2.2.2.1 bt534.2.2.2.2.2.2.2).bind fun t545 => ((spec_StaState.f k bt534.1 bt534.2.1 bt534.2.2.1 bt534.2.2.2.1 bt534.2.2.2.2.1 bt534.2.2.2.2.2.1 bt534.2.2.2.2.2.2.1 bt534.2.2.2.2.2.2.2).bind fun t546 => (if t545 = t546 then (if t545 = 0 then (laws_FnStaTime.j0 k bt534.2.2.2.2.2.1 bt534.2.2.2.2.2.2.1 bt534.2.2.2.2.2.2.2 t545 true bt534.1 bt534.2.1 bt534.2.2.1 bt534.2.2.2.1 bt534.2.2.2.2.1) else (laws_FnStaTime.j0 k bt534.2.2.2.2.2.1 bt534.2.2.2.2.2.2.1 bt534.2.2.2.2.2.2.2 t545 (bt534.2.2.2.2.2.2.1 == 109572) bt534.1 bt534.2.1 bt534.2.2.1 bt534.2.2.2.1 bt534.2.2.2.2.1)) else (some false)))))) = some r := h
  clear h
  by_cases c2 : (l0.length : Int) > 1048576
  · rw [if_pos c2] at H
    have c2b0 : decide (1048576 < (l0.length : Int)) = true := decide_eq_true c2
    have c2b1 : decide (1048576 < l0.length) = true := decide_eq_true (by omega)
    clear c2
    obtain rfl := Option.some.inj H
    go_enter Try.func8, Try.ntmps8
    go_wp2
    go_ret
    exact ⟨by first | rfl | (simp [errW_none, errW_some] <;> rfl) | (simp [*, errW_none, errW_some] <;> rfl), by repeat (first | (with_reducible first | exact HB.out | apply below_alloc | apply pw_below_drewN | apply below_drew1) | exact HB.out)⟩
  · rw [if_neg c2] at H
    have c2b0 : decide (1048576 < (l0.length : Int)) = false := decide_eq_false c2
    have c2b1 : decide (1048576 < l0.length) = false := decide_eq_false (by omega)
    clear c2
    replace H := Option.bind_eq_some_iff.mp H
    obtain ⟨⟨t534, t535, t536, t537, t540, t541, t542, t543⟩, A30, H⟩ := H
    replace H : ((impl_StaState.f k t534 t535 t536 t537 t540 t541 t542 t543).bind fun t545 => ((spec_StaState.f k t534 t535 t536 t537 t540 t541 t542 t543).bind fun t546 => (if t545 = t546 then (if t545 = 0 then (laws_FnStaTime.j0 k t541 t542 t543 t545 true t534 t535 t536 t537 t540) else (laws_FnStaTime.j0 k t541 t542 t543 t545 (t542 == 109572) t534 t535 t536 t537 t540)) else (some false)))) = some r := H
    have A3 := Aside0.mk A30
    clear A30
    replace H := Option.bind_eq_some_iff.mp H
    obtain ⟨t545, A40, H⟩ := H
    replace H : ((spec_StaState.f k t534 t535 t536 t537 t540 t541 t542 t543).bind fun t546 => (if t545 = t546 then (if t545 = 0 then (laws_FnStaTime.j0 k t541 t542 t543 t545 true t534 t535 t536 t537 t540) else (laws_FnStaTime.j0 k t541 t542 t543 t545 (t542 == 109572) t534 t535 t536 t537 t540)) else (some false))) = some r := H
    have A4 := Aside0.mk A40
    clear A40
    replace H := Option.bind_eq_some_iff.mp H
    obtain ⟨t546, A50, H⟩ := H
    replace H : (if t545 = t546 then (if t545 = 0 then (laws_FnStaTime.j0 k t541 t542 t543 t545 true t534 t535 t536 t537 t540) else (laws_FnStaTime.j0 k t541 t542 t543 t545 (t542 == 109572) t534 t535 t536 t537 t540)) else (some false)) = some r := H
    have A5 := Aside0.mk A50
    clear A50
    by_cases c6 : t545 = t546
    · rw [if_pos c6] at H
      have c6b0 : (t545 == t546) = true := beq_iff_eq.mpr c6
      have c6b1 : (t545 != t546) = false := bne_eq_false_iff_eq.mpr c6
      clear c6
      have HC7 := Aside0.mk H
      clear H
      go_enter Try.func8, Try.ntmps8
      go_upto_region 7 with (first | ((with_reducible refine gate_callee (f := 29) rfl ?_); refine goesL_ (some 14) rfl rfl Try.func29 (by kernel_rfl) rfl #[.slice A0 l0.length c0] rfl (by (try simp only [List.map_toArray, List.map_cons, List.map_nil]); first | done | rfl | (simp only [List.length_drop, List.length_take]; rfl)) ?_; (with_reducible refine (spec_DrawStaState.calls k _ _ l0 t534 t535 t536 t537 t540 t541 t542 t543 _ ?side1 ?side2 A3.out).mono ?_); (case side1 => repeat (first | exact HR0.out | (with_reducible refine Kd.C_alloc ?_ _) | (with_reducible refine Kd.C_drewN ?_ _) | (with_reducible refine Kd.C_drew ?_))); (case side2 => exact HC0.out); rintro e w8 ⟨v538, rfl, ho0, hb⟩; refine ⟨_, rfl, ?_⟩; have n0_ := Aside0.mk (Kd.R_lower ho0 (below_size (by repeat (first | (with_reducible first | exact HB.out | apply below_alloc | apply pw_below_drewN | apply below_drew1) | exact HB.out)))); have n1_ := Aside0.mk (below_step (by repeat (first | (with_reducible first | exact HB.out | apply below_alloc | apply pw_below_drewN | apply below_drew1) | exact HB.out)) hb); clear HB; have HO539 := n0_; have HB := n1_; clear n0_ n1_; (try clear hb); (try clear hb2); (try clear hk); (try clear hi); (try clear ho0)) | ((with_reducible refine gate_dst (N := 3) rfl ?_); refine box_event ?hg (N := 3) ?hd (cs := #[.int .i64 0, .int .i64 0, .int .i64 0, .slice none 0 0, .int .i64 0]) (t := 31) ?hr ?_; (case hd => rfl); (case hg => rfl); (case hr => first | (go_simp; done) | (go_simp; rfl)); intro gb544 hg w9 hbox hb; have n0_ := Aside0.mk (Kd.R_below (by (with_reducible repeat (first | apply Kd.R_alloc | apply Kd.R_drewN | apply Kd.R_drew)); exact HO539.out) hb); have n1_ := Aside0.mk (below_step (by repeat (first | (with_reducible first | exact HB.out | apply below_alloc | apply pw_below_drewN | apply below_drew1) | exact HB.out)) hb); have n2_ := Aside0.mk (hbox); have n3_ := Aside0.mk ((by rw [hg]; exact (below_size (by repeat (first | (with_reducible first | exact HB.out | apply below_alloc | apply pw_below_drewN | apply below_drew1) | exact HB.out))) : w.heap.size ≤ gb544)); have n4_ := Aside0.mk ((by rw [hg]; exact (below_size (by repeat (first | (with_reducible first | exact HB.out | apply below_alloc | apply pw_below_drewN | apply below_drew1) | exact HB.out))) : w.heap.size ≤ gb544)); clear HO539; clear HB; have HO539 := n0_; have HB := n1_; have BK544 := n2_; have GW544 := n3_; have GE544 := n4_; clear n0_ n1_ n2_ n3_ n4_; clear hb hbox hg; have hcz10_0 : w9.cell? ⟨gb544, 0, none⟩ = some (.int .i64 0) := (blk_cell BK544.out 0).trans rfl; have hcz10_1 : w9.cell? ⟨gb544, 1, none⟩ = some (.int .i64 0) := (blk_cell BK544.out 1).trans rfl; have hcz10_2 : w9.cell? ⟨gb544, 2, none⟩ = some (.int .i64 0) := (blk_cell BK544.out 2).trans rfl; have hcz10_3 : w9.cell? ⟨gb544, 3, none⟩ = some (.slice none 0 0) := (blk_cell BK544.out 3).trans rfl; have hcz10_4 : w9.cell? ⟨gb544, 4, none⟩ = some (.int .i64 0) := (blk_cell BK544.out 4).trans rfl; have hfz10_0 := blk_frozen BK544.out 0; have hfz10_1 := blk_frozen BK544.out 1; have hfz10_2 := blk_frozen BK544.out 2; have hfz10_3 := blk_frozen BK544.out 3; have hfz10_4 := blk_frozen BK544.out 4; obtain ⟨Ao11, co11, eo11⟩ := Kd.R_slice HO539.out; subst eo11) | ((with_reducible refine gate_callee (f := 24) rfl ?_); refine goesL_ (some 23) rfl rfl Try.func24 (by kernel_rfl) rfl #[.agg #[.int .i64 t534, .int .i64 t535, .int .i64 t536, .slice Ao11 t537.length co11, .int .i64 t540], .int .i64 t541, .int .i64 t542, .int .i64 t543] rfl (by (try simp only [List.map_toArray, List.map_cons, List.map_nil]); first | done | rfl | (simp only [List.length_drop, List.length_take]; rfl)) ?_; (with_reducible refine (impl_StaState.calls k t534 t535 t536 _ _ t537 t540 t541 t542 t543 t545 _ ?side1 ?side2 A4.out).mono ?_); (case side1 => refine (Kd.R_reads' (e := 3) (base := w.heap.size) (ok := fun k_ => True) (n := t537.length) (c := co11) ?_).2.2; exact (by (with_reducible repeat (first | apply Kd.R_alloc | apply Kd.R_drewN | apply Kd.R_drew)); exact (Kd.R_mono (Kd.R_far (p := ⟨gb544, 4, none⟩) (Kd.R_far (p := ⟨gb544, 3, none⟩) (Kd.R_far (p := ⟨gb544, 2, none⟩) (Kd.R_far (p := ⟨gb544, 1, none⟩) (Kd.R_far (p := ⟨gb544, 0, none⟩) (Kd.R_types HO539.out BK544.out (by decide)) (fun _ hk => hk.2) (.int .i64 t534)) (fun _ hk => hk.2) (.int .i64 t535)) (fun _ hk => hk.2) (.int .i64 t536)) (fun _ hk => hk.2) (.slice Ao11 t537.length co11)) (fun _ hk => hk.2) (.int .i64 t540)) (fun _ h_ => h_.1)))); (case side2 => exact (Kd.R_reads' HO539.out).2.1); rintro e w12 ⟨rfl, hb⟩; refine ⟨_, rfl, ?_⟩; have n0_ := Aside0.mk (Kd.R_below (by (with_reducible repeat (first | apply Kd.R_alloc | apply Kd.R_drewN | apply Kd.R_drew)); exact (Kd.R_mono (Kd.R_far (p := ⟨gb544, 4, none⟩) (Kd.R_far (p := ⟨gb544, 3, none⟩) (Kd.R_far (p := ⟨gb544, 2, none⟩) (Kd.R_far (p := ⟨gb544, 1, none⟩) (Kd.R_far (p := ⟨gb544, 0, none⟩) (Kd.R_types HO539.out BK544.out (by decide)) (fun _ hk => hk.2) (.int .i64 t534)) (fun _ hk => hk.2) (.int .i64 t535)) (fun _ hk => hk.2) (.int .i64 t536)) (fun _ hk => hk.2) (.slice Ao11 t537.length co11)) (fun _ hk => hk.2) (.int .i64 t540)) (fun _ h_ => h_.1))) hb); have n1_ := Aside0.mk (blk_below (g := gb544) (o := .cells #[.int .i64 t534, .int .i64 t535, .int .i64 t536, .slice Ao11 t537.length co11, .int .i64 t540] 31 (0, 0)) (by (with_reducible repeat (first | refine blk_drewN ?_ _ | refine blk_drew ?_ | refine blk_alloc ?_ _)); refine blk_put (cs := #[.int .i64 t534, .int .i64 t535, .int .i64 t536, .slice Ao11 t537.length co11, .int .i64 0]) ?_ 4 _ rfl; (with_reducible repeat (first | refine blk_drewN ?_ _ | refine blk_drew ?_ | refine blk_alloc ?_ _)); refine blk_put (cs := #[.int .i64 t534, .int .i64 t535, .int .i64 t536, .slice none 0 0, .int .i64 0]) ?_ 3 _ rfl; (with_reducible repeat (first | refine blk_drewN ?_ _ | refine blk_drew ?_ | refine blk_alloc ?_ _)); refine blk_put (cs := #[.int .i64 t534, .int .i64 t535, .int .i64 0, .slice none 0 0, .int .i64 0]) ?_ 2 _ rfl; (with_reducible repeat (first | refine blk_drewN ?_ _ | refine blk_drew ?_ | refine blk_alloc ?_ _)); refine blk_put (cs := #[.int .i64 t534, .int .i64 0, .int .i64 0, .slice none 0 0, .int .i64 0]) ?_ 1 _ rfl; (with_reducible repeat (first | refine blk_drewN ?_ _ | refine blk_drew ?_ | refine blk_alloc ?_ _)); refine blk_put (cs := #[.int .i64 0, .int .i64 0, .int .i64 0, .slice none 0 0, .int .i64 0]) ?_ 0 _ rfl; (with_reducible repeat (first | refine blk_drewN ?_ _ | refine blk_drew ?_ | refine blk_alloc ?_ _)); exact BK544.out) hb); have n2_ := Aside0.mk (below_step (by repeat (first | (with_reducible first | exact HB.out | apply below_alloc | apply pw_below_drewN | apply below_drew1 | refine below_set ?_ GE544.out) | exact HB.out)) hb); clear HO539; clear BK544; clear HB; have HO539 := n0_; have BK544 := n1_; have HB := n2_; clear n0_ n1_ n2_; (try clear hb); (try clear hb2); (try clear hk); (try clear hi); have hcz13_0 : w12.cell? ⟨gb544, 0, none⟩ = some (.int .i64 t534) := (blk_cell BK544.out 0).trans rfl; have hcz13_1 : w12.cell? ⟨gb544, 1, none⟩ = some (.int .i64 t535) := (blk_cell BK544.out 1).trans rfl; have hcz13_2 : w12.cell? ⟨gb544, 2, none⟩ = some (.int .i64 t536) := (blk_cell BK544.out 2).trans rfl; have hcz13_3 : w12.cell? ⟨gb544, 3, none⟩ = some (.slice Ao11 t537.length co11) := (blk_cell BK544.out 3).trans rfl; have hcz13_4 : w12.cell? ⟨gb544, 4, none⟩ = some (.int .i64 t540) := (blk_cell BK544.out 4).trans rfl; have hfz13_0 := blk_frozen BK544.out 0; have hfz13_1 := blk_frozen BK544.out 1; have hfz13_2 := blk_frozen BK544.out 2; have hfz13_3 := blk_frozen BK544.out 3; have hfz13_4 := blk_frozen BK544.out 4) | ((with_reducible refine gate_callee (f := 23) rfl ?_); refine goesL_ (some 29) rfl rfl Try.func23 (by kernel_rfl) rfl #[.agg #[.int .i64 t534, .int .i64 t535, .int .i64 t536, .slice Ao11 t537.length co11, .int .i64 t540], .int .i64 t541, .int .i64 t542, .int .i64 t543] rfl (by (try simp only [List.map_toArray, List.map_cons, List.map_nil]); first | done | rfl | (simp only [List.length_drop, List.length_take]; rfl)) ?_; (with_reducible refine (spec_StaState.calls k t534 t535 t536 _ _ t537 t540 t541 t542 t543 t546 _ ?side1 ?side2 A5.out).mono ?_); (case side1 => repeat (first | exact (Kd.R_reads' HO539.out).2.2 | (with_reducible refine Kd.C_alloc ?_ _) | (with_reducible refine Kd.C_drewN ?_ _) | (with_reducible refine Kd.C_drew ?_))); (case side2 => exact (Kd.R_reads' HO539.out).2.1); rintro e w14 ⟨rfl, hb⟩; refine ⟨_, rfl, ?_⟩; have n0_ := Aside0.mk (Kd.R_below (by (with_reducible repeat (first | apply Kd.R_alloc | apply Kd.R_drewN | apply Kd.R_drew)); exact HO539.out) hb); have n1_ := Aside0.mk (blk_below (g := gb544) (o := .cells #[.int .i64 t534, .int .i64 t535, .int .i64 t536, .slice Ao11 t537.length co11, .int .i64 t540] 31 (0, 0)) (by (with_reducible repeat (first | refine blk_drewN ?_ _ | refine blk_drew ?_ | refine blk_alloc ?_ _)); exact BK544.out) hb); have n2_ := Aside0.mk (below_step (by repeat (first | (with_reducible first | exact HB.out | apply below_alloc | apply pw_below_drewN | apply below_drew1 | refine below_set ?_ GE544.out) | exact HB.out)) hb); clear HO539; clear BK544; clear HB; have HO539 := n0_; have BK544 := n1_; have HB := n2_; clear n0_ n1_ n2_; (try clear hb); (try clear hb2); (try clear hk); (try clear hi)))
      (try simp only [Act.put, List.setIfInBounds_toArray, List.set_cons_zero, List.set_cons_succ])
      go_cut [36] (fun v36 wc => ∃ (kq : Nat) (x36_6 : Bool), v36 = .bool x36_6 ∧ Aside0 (laws_FnStaTime.j0 kq t541 t542 t543 t545 x36_6 t534 t535 t536 t537 t540 = some r) ∧ Aside0 (kq ≤ k) ∧ Aside0 (Kd.R (Kd.int .i64) 3 wc w.heap.size (fun _ => True) (.slice Ao11 t537.length co11) t537) ∧ Aside0 (wc.heap[gb544]? = some (.cells #[.int .i64 t534, .int .i64 t535, .int .i64 t536, (.slice Ao11 t537.length co11), .int .i64 t540] 31 (0, 0))) ∧ Aside0 (Below w.heap.size w wc))
      case first =>
        have H := HC7.out
        clear HC7
        by_cases c15 : t545 = 0
        · rw [if_pos c15] at H
          have c15b0 : (t545 == 0) = true := beq_iff_eq.mpr c15
          have c15b1 : (t545 != 0) = false := bne_eq_false_iff_eq.mpr c15
          clear c15
          (first | rw [c15b0] | (simp only [i64_w, i32_w]; rw [c15b0]) | skip)
          have H' := Aside0.mk H
          clear H
          go_wp2
          go_meet
          case rel => exact ⟨_, (true), (by first | rfl | (simp; done) | (simp [*]; done)), H', ⟨by first | omega | exact Nat.le_refl _⟩, ⟨by (with_reducible repeat (first | apply Kd.R_alloc | apply Kd.R_drewN | apply Kd.R_drew)); exact HO539.out⟩, ⟨by (with_reducible repeat (first | refine blk_drewN ?_ _ | refine blk_drew ?_ | refine blk_alloc ?_ _)); exact BK544.out⟩, ⟨by repeat (first | (with_reducible first | exact HB.out | apply below_alloc | apply pw_below_drewN | apply below_drew1 | refine below_set ?_ GE544.out) | exact HB.out)⟩⟩
        · rw [if_neg c15] at H
          have c15b0 : (t545 == 0) = false := beq_eq_false_iff_ne.mpr c15
          have c15b1 : (t545 != 0) = true := bne_iff_ne.mpr c15
          (first | rw [c15b0] | (simp only [i64_w, i32_w]; rw [c15b0]) | skip)
          have H' := Aside0.mk H
          clear H
          go_wp2
          go_meet
          case rel => exact ⟨_, ((t542 == 109572)), (by first | rfl | (simp; done) | (simp [*]; done)), H', ⟨by first | omega | exact Nat.le_refl _⟩, ⟨by (with_reducible repeat (first | apply Kd.R_alloc | apply Kd.R_drewN | apply Kd.R_drew)); exact HO539.out⟩, ⟨by (with_reducible repeat (first | refine blk_drewN ?_ _ | refine blk_drew ?_ | refine blk_alloc ?_ _)); exact BK544.out⟩, ⟨by repeat (first | (with_reducible first | exact HB.out | apply below_alloc | apply pw_below_drewN | apply below_drew1 | refine below_set ?_ GE544.out) | exact HB.out)⟩⟩
      case rest =>
        clear HC7
        try clear c1
        try clear c2
        try clear c2b0
        try clear c2b1
        try clear p2
        try clear c6
        try clear c6b0
        try clear c6b1
        try clear c8
        try clear c15
        try clear c15b0
        try clear c15b1
        try clear hcz10_0
        try clear hcz10_1
        try clear hcz10_2
        try clear hcz10_3
        try clear hcz10_4
        try clear hcz13_0
        try clear hcz13_1
        try clear hcz13_2
        try clear hcz13_3
        try clear hcz13_4
        try clear hfz10_0
        try clear hfz10_1
        try clear hfz10_2
        try clear hfz10_3
        try clear hfz10_4
        try clear hfz13_0
        try clear hfz13_1
        try clear hfz13_2
        try clear hfz13_3
        try clear hfz13_4
        obtain ⟨kq, x36_6, rfl, HA, HJ6, HO_545003, BK544, HB⟩ := hcut
        cases kq with
        | zero => exact absurd HA.out (by simp [laws_FnStaTime.j0])
        | succ kj6 =>
          have H := HA.out
          clear HA
          simp only [laws_FnStaTime.j0] at H
          by_cases c16 : x36_6 = true
          · subst c16
            have H1 : ((laws_cuOk.f).bind fun t547 => (some t547)) = some r := by rw [if_pos rfl] at H; exact H
            clear H
            have H := H1
            clear H1
            replace H := Option.bind_eq_some_iff.mp H
            obtain ⟨t547, A170, H⟩ := H
            replace H : (some t547) = some r := H
            have A17 := Aside0.mk A170
            clear A170
            obtain rfl := Option.some.inj H
            go_wp2_with (first | ((with_reducible refine gate_callee (f := 19) rfl ?_); refine goesL_ (some 37) rfl rfl Try.func19 (by kernel_rfl) rfl #[] rfl (by (try simp only [List.map_toArray, List.map_cons, List.map_nil]); first | done | rfl | (simp only [List.length_drop, List.length_take]; rfl)) ?_; (with_reducible refine (laws_cuOk.calls  t547 _ A17.out).mono ?_); rintro e w18 ⟨rfl, hb⟩; refine ⟨_, rfl, ?_⟩; have n0_ := Aside0.mk (Kd.R_below (by (with_reducible repeat (first | apply Kd.R_alloc | apply Kd.R_drewN | apply Kd.R_drew)); exact HO_545003.out) hb); have n1_ := Aside0.mk (blk_below (g := gb544) (o := .cells #[.int .i64 t534, .int .i64 t535, .int .i64 t536, .slice Ao11 t537.length co11, .int .i64 t540] 31 (0, 0)) (by (with_reducible repeat (first | refine blk_drewN ?_ _ | refine blk_drew ?_ | refine blk_alloc ?_ _)); exact BK544.out) hb); have n2_ := Aside0.mk (below_step (by repeat (first | (with_reducible first | exact HB.out | apply below_alloc | apply pw_below_drewN | apply below_drew1 | refine below_set ?_ GE544.out) | exact HB.out)) hb); clear HO_545003; clear BK544; clear HB; have HO_545003 := n0_; have BK544 := n1_; have HB := n2_; clear n0_ n1_ n2_; (try clear hb); (try clear hb2); (try clear hk); (try clear hi)))
            go_ret
            exact ⟨by first | rfl | (simp [errW_none, errW_some] <;> rfl) | (simp [*, errW_none, errW_some] <;> rfl), by repeat (first | (with_reducible first | exact HB.out | apply below_alloc | apply pw_below_drewN | apply below_drew1 | refine below_set ?_ GE544.out) | exact HB.out)⟩
          · replace c16 := Bool.eq_false_iff.mpr c16
            subst c16
            have H1 : ((impl_StaState.f kj6 t534 t535 t536 t537 t540 t541 (wrap64 (t542 + 1)) t543).bind fun t548 => (if t545 = 3 then (laws_FnStaTime.j1 kj6 t545 t548 true) else (if t545 = 4 then (laws_FnStaTime.j1 kj6 t545 t548 (t543 != (wrap64 (t542 + 1)))) else (laws_FnStaTime.j1 kj6 t545 t548 false)))) = some r := by rw [if_neg (show ¬ (false = true) by decide)] at H; exact H
            clear H
            have H := H1
            clear H1
            replace H := Option.bind_eq_some_iff.mp H
            obtain ⟨t548, A190, H⟩ := H
            replace H : (if t545 = 3 then (laws_FnStaTime.j1 kj6 t545 t548 true) else (if t545 = 4 then (laws_FnStaTime.j1 kj6 t545 t548 (t543 != (wrap64 (t542 + 1)))) else (laws_FnStaTime.j1 kj6 t545 t548 false))) = some r := H
            have A19 := Aside0.mk A190
            clear A190
            have HC20 := Aside0.mk H
            clear H
            have hcz21_0 : wc.cell? ⟨gb544, 0, none⟩ = some (.int .i64 t534) := (blk_cell BK544.out 0).trans rfl
            have hcz21_1 : wc.cell? ⟨gb544, 1, none⟩ = some (.int .i64 t535) := (blk_cell BK544.out 1).trans rfl
            have hcz21_2 : wc.cell? ⟨gb544, 2, none⟩ = some (.int .i64 t536) := (blk_cell BK544.out 2).trans rfl
            have hcz21_3 : wc.cell? ⟨gb544, 3, none⟩ = some (.slice Ao11 t537.length co11) := (blk_cell BK544.out 3).trans rfl
            have hcz21_4 : wc.cell? ⟨gb544, 4, none⟩ = some (.int .i64 t540) := (blk_cell BK544.out 4).trans rfl
            have hfz21_0 := blk_frozen BK544.out 0
            have hfz21_1 := blk_frozen BK544.out 1
            have hfz21_2 := blk_frozen BK544.out 2
            have hfz21_3 := blk_frozen BK544.out 3
            have hfz21_4 := blk_frozen BK544.out 4
            go_upto_region 10 with (first | ((with_reducible refine gate_callee (f := 24) rfl ?_); refine goesL_ (some 43) rfl rfl Try.func24 (by kernel_rfl) rfl #[.agg #[.int .i64 t534, .int .i64 t535, .int .i64 t536, .slice Ao11 t537.length co11, .int .i64 t540], .int .i64 t541, .int .i64 (wrap64 (t542 + 1)), .int .i64 t543] rfl (by (try simp only [List.map_toArray, List.map_cons, List.map_nil]); first | done | rfl | (simp only [List.length_drop, List.length_take]; rfl)) ?_; (with_reducible refine (impl_StaState.calls kj6 t534 t535 t536 _ _ t537 t540 t541 (wrap64 (t542 + 1)) t543 t548 _ ?side1 ?side2 A19.out).mono ?_); (case side1 => repeat (first | exact (Kd.R_reads' HO_545003.out).2.2 | (with_reducible refine Kd.C_alloc ?_ _) | (with_reducible refine Kd.C_drewN ?_ _) | (with_reducible refine Kd.C_drew ?_))); (case side2 => exact (Kd.R_reads' HO_545003.out).2.1); rintro e w22 ⟨rfl, hb⟩; refine ⟨_, rfl, ?_⟩; have n0_ := Aside0.mk (Kd.R_below (by (with_reducible repeat (first | apply Kd.R_alloc | apply Kd.R_drewN | apply Kd.R_drew)); exact HO_545003.out) hb); have n1_ := Aside0.mk (blk_below (g := gb544) (o := .cells #[.int .i64 t534, .int .i64 t535, .int .i64 t536, .slice Ao11 t537.length co11, .int .i64 t540] 31 (0, 0)) (by (with_reducible repeat (first | refine blk_drewN ?_ _ | refine blk_drew ?_ | refine blk_alloc ?_ _)); exact BK544.out) hb); have n2_ := Aside0.mk (below_step (by repeat (first | (with_reducible first | exact HB.out | apply below_alloc | apply pw_below_drewN | apply below_drew1 | refine below_set ?_ GE544.out) | exact HB.out)) hb); clear HO_545003; clear BK544; clear HB; have HO_545003 := n0_; have BK544 := n1_; have HB := n2_; clear n0_ n1_ n2_; (try clear hb); (try clear hb2); (try clear hk); (try clear hi)))
            (try simp only [Act.put, List.setIfInBounds_toArray, List.set_cons_zero, List.set_cons_succ])
            go_cut [55] (fun v55 wc => ∃ (kq : Nat) (x55_19 : Bool), v55 = .bool x55_19 ∧ Aside0 (laws_FnStaTime.j1 kq t545 t548 x55_19 = some r) ∧ Aside0 (kq ≤ kj6) ∧ Aside0 (Kd.R (Kd.int .i64) 3 wc w.heap.size (fun _ => True) (.slice Ao11 t537.length co11) t537) ∧ Aside0 (wc.heap[gb544]? = some (.cells #[.int .i64 t534, .int .i64 t535, .int .i64 t536, (.slice Ao11 t537.length co11), .int .i64 t540] 31 (0, 0))) ∧ Aside0 (Below w.heap.size w wc))
            case first =>
              have H := HC20.out
              clear HC20
              by_cases c23 : t545 = 3
              · rw [if_pos c23] at H
                have c23b0 : (t545 == 3) = true := beq_iff_eq.mpr c23
                have c23b1 : (t545 != 3) = false := bne_eq_false_iff_eq.mpr c23
                clear c23
                (first | rw [c23b0] | (simp only [i64_w, i32_w]; rw [c23b0]) | skip)
                have H' := Aside0.mk H
                clear H
                go_wp2
                go_meet
                case rel => exact ⟨_, (true), (by first | rfl | (simp; done) | (simp [*]; done)), H', ⟨by have := HJ6.out; first | omega | exact Nat.le_refl _⟩, ⟨by (with_reducible repeat (first | apply Kd.R_alloc | apply Kd.R_drewN | apply Kd.R_drew)); exact HO_545003.out⟩, ⟨by (with_reducible repeat (first | refine blk_drewN ?_ _ | refine blk_drew ?_ | refine blk_alloc ?_ _)); exact BK544.out⟩, ⟨by repeat (first | (with_reducible first | exact HB.out | apply below_alloc | apply pw_below_drewN | apply below_drew1 | refine below_set ?_ GE544.out) | exact HB.out)⟩⟩
              · rw [if_neg c23] at H
                have c23b0 : (t545 == 3) = false := beq_eq_false_iff_ne.mpr c23
                have c23b1 : (t545 != 3) = true := bne_iff_ne.mpr c23
                (first | rw [c23b0] | (simp only [i64_w, i32_w]; rw [c23b0]) | skip)
                by_cases c24 : t545 = 4
                · rw [if_pos c24] at H
                  have c24b0 : (t545 == 4) = true := beq_iff_eq.mpr c24
                  have c24b1 : (t545 != 4) = false := bne_eq_false_iff_eq.mpr c24
                  clear c24
                  have H' := Aside0.mk H
                  clear H
                  go_wp2
                  go_meet
                  case rel => exact ⟨_, ((t543 != (wrap64 (t542 + 1)))), (by first | rfl | (simp; done) | (simp [*]; done)), H', ⟨by have := HJ6.out; first | omega | exact Nat.le_refl _⟩, ⟨by (with_reducible repeat (first | apply Kd.R_alloc | apply Kd.R_drewN | apply Kd.R_drew)); exact HO_545003.out⟩, ⟨by (with_reducible repeat (first | refine blk_drewN ?_ _ | refine blk_drew ?_ | refine blk_alloc ?_ _)); exact BK544.out⟩, ⟨by repeat (first | (with_reducible first | exact HB.out | apply below_alloc | apply pw_below_drewN | apply below_drew1 | refine below_set ?_ GE544.out) | exact HB.out)⟩⟩
                · rw [if_neg c24] at H
                  have c24b0 : (t545 == 4) = false := beq_eq_false_iff_ne.mpr c24
                  have c24b1 : (t545 != 4) = true := bne_iff_ne.mpr c24
                  have H' := Aside0.mk H
                  clear H
                  go_wp2
                  go_meet
                  case rel => exact ⟨_, (false), (by first | rfl | (simp; done) | (simp [*]; done)), H', ⟨by have := HJ6.out; first | omega | exact Nat.le_refl _⟩, ⟨by (with_reducible repeat (first | apply Kd.R_alloc | apply Kd.R_drewN | apply Kd.R_drew)); exact HO_545003.out⟩, ⟨by (with_reducible repeat (first | refine blk_drewN ?_ _ | refine blk_drew ?_ | refine blk_alloc ?_ _)); exact BK544.out⟩, ⟨by repeat (first | (with_reducible first | exact HB.out | apply below_alloc | apply pw_below_drewN | apply below_drew1 | refine below_set ?_ GE544.out) | exact HB.out)⟩⟩
            case rest =>
              clear HC20
              try clear c1
              try clear c2
              try clear c2b0
              try clear c2b1
              try clear p2
              try clear c6
              try clear c6b0
              try clear c6b1
              try clear p6
              try clear c8
              try clear c15
              try clear c15b0
              try clear c15b1
              try clear c16
              try clear c19
              try clear c23
              try clear c23b0
              try clear c23b1
              try clear c24
              try clear c24b0
              try clear c24b1
              try clear hcz10_0
              try clear hcz10_1
              try clear hcz10_2
              try clear hcz10_3
              try clear hcz10_4
              try clear hcz13_0
              try clear hcz13_1
              try clear hcz13_2
              try clear hcz13_3
              try clear hcz13_4
              try clear hcz21_0
              try clear hcz21_1
              try clear hcz21_2
              try clear hcz21_3
              try clear hcz21_4
              try clear hfz10_0
              try clear hfz10_1
              try clear hfz10_2
              try clear hfz10_3
              try clear hfz10_4
              try clear hfz13_0
              try clear hfz13_1
              try clear hfz13_2
              try clear hfz13_3
              try clear hfz13_4
              try clear hfz21_0
              try clear hfz21_1
              try clear hfz21_2
              try clear hfz21_3
              try clear hfz21_4
              try clear p2
              obtain ⟨kq, x55_19, rfl, HA, HJ19, HO_545003, BK544, HB⟩ := hcut
              cases kq with
              | zero => exact absurd HA.out (by simp [laws_FnStaTime.j1])
              | succ kj19 =>
                have H := HA.out
                clear HA
                simp only [laws_FnStaTime.j1] at H
                by_cases c25 : x55_19 = true
                · subst c25
                  have H1 : (some (t548 == t545)) = some r := by rw [if_pos rfl] at H; exact H
                  clear H
                  have H := H1
                  clear H1
                  obtain rfl := Option.some.inj H
                  go_wp2
                  go_ret
                  exact ⟨by first | rfl | (simp [errW_none, errW_some] <;> rfl) | (simp [*, errW_none, errW_some] <;> rfl), by repeat (first | (with_reducible first | exact HB.out | apply below_alloc | apply pw_below_drewN | apply below_drew1 | refine below_set ?_ GE544.out) | exact HB.out)⟩
                · replace c25 := Bool.eq_false_iff.mpr c25
                  subst c25
                  have H1 : (if t548 > 0 then (if t545 = 2 then (some (t548 != 1)) else (some true)) else (some false)) = some r := by rw [if_neg (show ¬ (false = true) by decide)] at H; exact H
                  clear H
                  have H := H1
                  clear H1
                  by_cases c26 : t548 > 0
                  · rw [if_pos c26] at H
                    have c26b0 : decide (0 < t548) = true := decide_eq_true c26
                    clear c26
                    by_cases c27 : t545 = 2
                    · rw [if_pos c27] at H
                      have c27b0 : (t545 == 2) = true := beq_iff_eq.mpr c27
                      have c27b1 : (t545 != 2) = false := bne_eq_false_iff_eq.mpr c27
                      clear c27
                      obtain rfl := Option.some.inj H
                      go_wp2
                      go_ret
                      exact ⟨by first | rfl | (simp [errW_none, errW_some] <;> rfl) | (simp [*, errW_none, errW_some] <;> rfl), by repeat (first | (with_reducible first | exact HB.out | apply below_alloc | apply pw_below_drewN | apply below_drew1 | refine below_set ?_ GE544.out) | exact HB.out)⟩
                    · rw [if_neg c27] at H
                      have c27b0 : (t545 == 2) = false := beq_eq_false_iff_ne.mpr c27
                      have c27b1 : (t545 != 2) = true := bne_iff_ne.mpr c27
                      obtain rfl := Option.some.inj H
                      go_wp2
                      go_ret
                      exact ⟨by first | rfl | (simp [errW_none, errW_some] <;> rfl) | (simp [*, errW_none, errW_some] <;> rfl), by repeat (first | (with_reducible first | exact HB.out | apply below_alloc | apply pw_below_drewN | apply below_drew1 | refine below_set ?_ GE544.out) | exact HB.out)⟩
                  · rw [if_neg c26] at H
                    have c26b0 : decide (0 < t548) = false := decide_eq_false c26
                    clear c26
                    obtain rfl := Option.some.inj H
                    go_wp2
                    go_ret
                    exact ⟨by first | rfl | (simp [errW_none, errW_some] <;> rfl) | (simp [*, errW_none, errW_some] <;> rfl), by repeat (first | (with_reducible first | exact HB.out | apply below_alloc | apply pw_below_drewN | apply below_drew1 | refine below_set ?_ GE544.out) | exact HB.out)⟩
    · rw [if_neg c6] at H
      have c6b0 : (t545 == t546) = false := beq_eq_false_iff_ne.mpr c6
      have c6b1 : (t545 != t546) = true := bne_iff_ne.mpr c6
      obtain rfl := Option.some.inj H
      go_enter Try.func8, Try.ntmps8
      go_wp2_with (first | ((with_reducible refine gate_callee (f := 29) rfl ?_); refine goesL_ (some 14) rfl rfl Try.func29 (by kernel_rfl) rfl #[.slice A0 l0.length c0] rfl (by (try simp only [List.map_toArray, List.map_cons, List.map_nil]); first | done | rfl | (simp only [List.length_drop, List.length_take]; rfl)) ?_; (with_reducible refine (spec_DrawStaState.calls k _ _ l0 t534 t535 t536 t537 t540 t541 t542 t543 _ ?side1 ?side2 A3.out).mono ?_); (case side1 => repeat (first | exact HR0.out | (with_reducible refine Kd.C_alloc ?_ _) | (with_reducible refine Kd.C_drewN ?_ _) | (with_reducible refine Kd.C_drew ?_))); (case side2 => exact HC0.out); rintro e w28 ⟨v538, rfl, ho0, hb⟩; refine ⟨_, rfl, ?_⟩; have n0_ := Aside0.mk (Kd.R_lower ho0 (below_size (by repeat (first | (with_reducible first | exact HB.out | apply below_alloc | apply pw_below_drewN | apply below_drew1) | exact HB.out)))); have n1_ := Aside0.mk (below_step (by repeat (first | (with_reducible first | exact HB.out | apply below_alloc | apply pw_below_drewN | apply below_drew1) | exact HB.out)) hb); clear HB; have HO539 := n0_; have HB := n1_; clear n0_ n1_; (try clear hb); (try clear hb2); (try clear hk); (try clear hi); (try clear ho0)) | ((with_reducible refine gate_dst (N := 3) rfl ?_); refine box_event ?hg (N := 3) ?hd (cs := #[.int .i64 0, .int .i64 0, .int .i64 0, .slice none 0 0, .int .i64 0]) (t := 31) ?hr ?_; (case hd => rfl); (case hg => rfl); (case hr => first | (go_simp; done) | (go_simp; rfl)); intro gb544 hg w29 hbox hb; have n0_ := Aside0.mk (Kd.R_below (by (with_reducible repeat (first | apply Kd.R_alloc | apply Kd.R_drewN | apply Kd.R_drew)); exact HO539.out) hb); have n1_ := Aside0.mk (below_step (by repeat (first | (with_reducible first | exact HB.out | apply below_alloc | apply pw_below_drewN | apply below_drew1) | exact HB.out)) hb); have n2_ := Aside0.mk (hbox); have n3_ := Aside0.mk ((by rw [hg]; exact (below_size (by repeat (first | (with_reducible first | exact HB.out | apply below_alloc | apply pw_below_drewN | apply below_drew1) | exact HB.out))) : w.heap.size ≤ gb544)); have n4_ := Aside0.mk ((by rw [hg]; exact (below_size (by repeat (first | (with_reducible first | exact HB.out | apply below_alloc | apply pw_below_drewN | apply below_drew1) | exact HB.out))) : w.heap.size ≤ gb544)); clear HO539; clear HB; have HO539 := n0_; have HB := n1_; have BK544 := n2_; have GW544 := n3_; have GE544 := n4_; clear n0_ n1_ n2_ n3_ n4_; clear hb hbox hg; have hcz30_0 : w29.cell? ⟨gb544, 0, none⟩ = some (.int .i64 0) := (blk_cell BK544.out 0).trans rfl; have hcz30_1 : w29.cell? ⟨gb544, 1, none⟩ = some (.int .i64 0) := (blk_cell BK544.out 1).trans rfl; have hcz30_2 : w29.cell? ⟨gb544, 2, none⟩ = some (.int .i64 0) := (blk_cell BK544.out 2).trans rfl; have hcz30_3 : w29.cell? ⟨gb544, 3, none⟩ = some (.slice none 0 0) := (blk_cell BK544.out 3).trans rfl; have hcz30_4 : w29.cell? ⟨gb544, 4, none⟩ = some (.int .i64 0) := (blk_cell BK544.out 4).trans rfl; have hfz30_0 := blk_frozen BK544.out 0; have hfz30_1 := blk_frozen BK544.out 1; have hfz30_2 := blk_frozen BK544.out 2; have hfz30_3 := blk_frozen BK544.out 3; have hfz30_4 := blk_frozen BK544.out 4; obtain ⟨Ao31, co31, eo31⟩ := Kd.R_slice HO539.out; subst eo31) | ((with_reducible refine gate_callee (f := 24) rfl ?_); refine goesL_ (some 23) rfl rfl Try.func24 (by kernel_rfl) rfl #[.agg #[.int .i64 t534, .int .i64 t535, .int .i64 t536, .slice Ao31 t537.length co31, .int .i64 t540], .int .i64 t541, .int .i64 t542, .int .i64 t543] rfl (by (try simp only [List.map_toArray, List.map_cons, List.map_nil]); first | done | rfl | (simp only [List.length_drop, List.length_take]; rfl)) ?_; (with_reducible refine (impl_StaState.calls k t534 t535 t536 _ _ t537 t540 t541 t542 t543 t545 _ ?side1 ?side2 A4.out).mono ?_); (case side1 => refine (Kd.R_reads' (e := 3) (base := w.heap.size) (ok := fun k_ => True) (n := t537.length) (c := co31) ?_).2.2; exact (by (with_reducible repeat (first | apply Kd.R_alloc | apply Kd.R_drewN | apply Kd.R_drew)); exact (Kd.R_mono (Kd.R_far (p := ⟨gb544, 4, none⟩) (Kd.R_far (p := ⟨gb544, 3, none⟩) (Kd.R_far (p := ⟨gb544, 2, none⟩) (Kd.R_far (p := ⟨gb544, 1, none⟩) (Kd.R_far (p := ⟨gb544, 0, none⟩) (Kd.R_types HO539.out BK544.out (by decide)) (fun _ hk => hk.2) (.int .i64 t534)) (fun _ hk => hk.2) (.int .i64 t535)) (fun _ hk => hk.2) (.int .i64 t536)) (fun _ hk => hk.2) (.slice Ao31 t537.length co31)) (fun _ hk => hk.2) (.int .i64 t540)) (fun _ h_ => h_.1)))); (case side2 => exact (Kd.R_reads' HO539.out).2.1); rintro e w32 ⟨rfl, hb⟩; refine ⟨_, rfl, ?_⟩; have n0_ := Aside0.mk (Kd.R_below (by (with_reducible repeat (first | apply Kd.R_alloc | apply Kd.R_drewN | apply Kd.R_drew)); exact (Kd.R_mono (Kd.R_far (p := ⟨gb544, 4, none⟩) (Kd.R_far (p := ⟨gb544, 3, none⟩) (Kd.R_far (p := ⟨gb544, 2, none⟩) (Kd.R_far (p := ⟨gb544, 1, none⟩) (Kd.R_far (p := ⟨gb544, 0, none⟩) (Kd.R_types HO539.out BK544.out (by decide)) (fun _ hk => hk.2) (.int .i64 t534)) (fun _ hk => hk.2) (.int .i64 t535)) (fun _ hk => hk.2) (.int .i64 t536)) (fun _ hk => hk.2) (.slice Ao31 t537.length co31)) (fun _ hk => hk.2) (.int .i64 t540)) (fun _ h_ => h_.1))) hb); have n1_ := Aside0.mk (blk_below (g := gb544) (o := .cells #[.int .i64 t534, .int .i64 t535, .int .i64 t536, .slice Ao31 t537.length co31, .int .i64 t540] 31 (0, 0)) (by (with_reducible repeat (first | refine blk_drewN ?_ _ | refine blk_drew ?_ | refine blk_alloc ?_ _)); refine blk_put (cs := #[.int .i64 t534, .int .i64 t535, .int .i64 t536, .slice Ao31 t537.length co31, .int .i64 0]) ?_ 4 _ rfl; (with_reducible repeat (first | refine blk_drewN ?_ _ | refine blk_drew ?_ | refine blk_alloc ?_ _)); refine blk_put (cs := #[.int .i64 t534, .int .i64 t535, .int .i64 t536, .slice none 0 0, .int .i64 0]) ?_ 3 _ rfl; (with_reducible repeat (first | refine blk_drewN ?_ _ | refine blk_drew ?_ | refine blk_alloc ?_ _)); refine blk_put (cs := #[.int .i64 t534, .int .i64 t535, .int .i64 0, .slice none 0 0, .int .i64 0]) ?_ 2 _ rfl; (with_reducible repeat (first | refine blk_drewN ?_ _ | refine blk_drew ?_ | refine blk_alloc ?_ _)); refine blk_put (cs := #[.int .i64 t534, .int .i64 0, .int .i64 0, .slice none 0 0, .int .i64 0]) ?_ 1 _ rfl; (with_reducible repeat (first | refine blk_drewN ?_ _ | refine blk_drew ?_ | refine blk_alloc ?_ _)); refine blk_put (cs := #[.int .i64 0, .int .i64 0, .int .i64 0, .slice none 0 0, .int .i64 0]) ?_ 0 _ rfl; (with_reducible repeat (first | refine blk_drewN ?_ _ | refine blk_drew ?_ | refine blk_alloc ?_ _)); exact BK544.out) hb); have n2_ := Aside0.mk (below_step (by repeat (first | (with_reducible first | exact HB.out | apply below_alloc | apply pw_below_drewN | apply below_drew1 | refine below_set ?_ GE544.out) | exact HB.out)) hb); clear HO539; clear BK544; clear HB; have HO539 := n0_; have BK544 := n1_; have HB := n2_; clear n0_ n1_ n2_; (try clear hb); (try clear hb2); (try clear hk); (try clear hi); have hcz33_0 : w32.cell? ⟨gb544, 0, none⟩ = some (.int .i64 t534) := (blk_cell BK544.out 0).trans rfl; have hcz33_1 : w32.cell? ⟨gb544, 1, none⟩ = some (.int .i64 t535) := (blk_cell BK544.out 1).trans rfl; have hcz33_2 : w32.cell? ⟨gb544, 2, none⟩ = some (.int .i64 t536) := (blk_cell BK544.out 2).trans rfl; have hcz33_3 : w32.cell? ⟨gb544, 3, none⟩ = some (.slice Ao31 t537.length co31) := (blk_cell BK544.out 3).trans rfl; have hcz33_4 : w32.cell? ⟨gb544, 4, none⟩ = some (.int .i64 t540) := (blk_cell BK544.out 4).trans rfl; have hfz33_0 := blk_frozen BK544.out 0; have hfz33_1 := blk_frozen BK544.out 1; have hfz33_2 := blk_frozen BK544.out 2; have hfz33_3 := blk_frozen BK544.out 3; have hfz33_4 := blk_frozen BK544.out 4) | ((with_reducible refine gate_callee (f := 23) rfl ?_); refine goesL_ (some 29) rfl rfl Try.func23 (by kernel_rfl) rfl #[.agg #[.int .i64 t534, .int .i64 t535, .int .i64 t536, .slice Ao31 t537.length co31, .int .i64 t540], .int .i64 t541, .int .i64 t542, .int .i64 t543] rfl (by (try simp only [List.map_toArray, List.map_cons, List.map_nil]); first | done | rfl | (simp only [List.length_drop, List.length_take]; rfl)) ?_; (with_reducible refine (spec_StaState.calls k t534 t535 t536 _ _ t537 t540 t541 t542 t543 t546 _ ?side1 ?side2 A5.out).mono ?_); (case side1 => repeat (first | exact (Kd.R_reads' HO539.out).2.2 | (with_reducible refine Kd.C_alloc ?_ _) | (with_reducible refine Kd.C_drewN ?_ _) | (with_reducible refine Kd.C_drew ?_))); (case side2 => exact (Kd.R_reads' HO539.out).2.1); rintro e w34 ⟨rfl, hb⟩; refine ⟨_, rfl, ?_⟩; have n0_ := Aside0.mk (Kd.R_below (by (with_reducible repeat (first | apply Kd.R_alloc | apply Kd.R_drewN | apply Kd.R_drew)); exact HO539.out) hb); have n1_ := Aside0.mk (blk_below (g := gb544) (o := .cells #[.int .i64 t534, .int .i64 t535, .int .i64 t536, .slice Ao31 t537.length co31, .int .i64 t540] 31 (0, 0)) (by (with_reducible repeat (first | refine blk_drewN ?_ _ | refine blk_drew ?_ | refine blk_alloc ?_ _)); exact BK544.out) hb); have n2_ := Aside0.mk (below_step (by repeat (first | (with_reducible first | exact HB.out | apply below_alloc | apply pw_below_drewN | apply below_drew1 | refine below_set ?_ GE544.out) | exact HB.out)) hb); clear HO539; clear BK544; clear HB; have HO539 := n0_; have BK544 := n1_; have HB := n2_; clear n0_ n1_ n2_; (try clear hb); (try clear hb2); (try clear hk); (try clear hi)))
      go_ret
      exact ⟨by first | rfl | (simp [errW_none, errW_some] <;> rfl) | (simp [*, errW_none, errW_some] <;> rfl), by repeat (first | (with_reducible first | exact HB.out | apply below_alloc | apply pw_below_drewN | apply below_drew1 | refine below_set ?_ GE544.out) | exact HB.out)⟩

/-- THE ONE PURE STATEMENT of laws_FnStaTime: yours. -/
def laws_FnStaTime.Pure : Prop := ∀ (l0 : List Int), l0.length ≤ maxLen → l0.length * 1 ≤ 140737488351232 → (∀ x ∈ l0, (Lit.int .u8 x).wf = true) → ∃ k, laws_FnStaTime.f k l0 = some true
theorem laws_FnStaTime.walk (P : laws_FnStaTime.Pure) (a0 : Option Addr) (len0 cap0 : Nat) (z0 : List Int) (w : World) (w0 : (a0 = none ∧ len0 = 0 ∧ cap0 = 0 ∧ z0 = []) ∨ ∃ x, a0 = some x ∧ len0 ≤ cap0 ∧ cap0 ≤ maxLen ∧ z0.length = cap0 ∧ (∀ i, i < z0.length → w.cell? (x.add i) = some (.int .u8 (z0.getD i 0))) ∧ ∀ n ∈ z0, (Lit.int .u8 n).wf = true) (y0 : len0 * 1 ≤ 140737488351232) :
    Calls Try.prog 8 #[.slice a0 len0 cap0] w fun e w' => e = .returned (.bool true) ∧ Below w.heap.size w w' := by
  obtain ⟨l0, rfl, hr0, hm0, hw0, hc0⟩ := ReadsInt.ofRowC w0
  obtain ⟨k, h⟩ := P l0 hm0 y0 hw0
  refine (laws_FnStaTime.calls k _ _ l0 true w (Kd.C_of_reads (d := (0 : Int)) (h1 := fun _ => rfl) hr0) hc0 h).mono ?_
  rintro e w' ⟨rfl, hd⟩
  exact ⟨rfl, hd⟩

end Go.Proofs.Ytojgpnobbnihdaa.All
