-- Written by the session's own program wip/allprint.py, which drives the kit's print; Lean checks it.
import Derived.Test.YtojgpnobbnihdaaAllx0
import Derived.Test.YtojgpnobbnihdaaAllx2
import Derived.Test.YtojgpnobbnihdaaAllx4
import Derived.Test.YtojgpnobbnihdaaAllx6
import Derived.Test.YtojgpnobbnihdaaAllx7
import Derived.Test.YtojgpnobbnihdaaAllx8
import Derived.Test.YtojgpnobbnihdaaAllx13
import Derived.Test.YtojgpnobbnihdaaAllx15
namespace Go.Proofs.Ytojgpnobbnihdaa.All
open Go.RowKit Go.Proofs.YtojgpnobbnihdaaW.PrintWords Go.Proofs.YtojgpnobbnihdaaW.PrintLast Go.Proofs.YtojgpnobbnihdaaW.PrintMore
attribute [local go_sem] max2_int min2_int max_two min_two max_three min_three max_four min_four   -- for this text's walks alone
set_option linter.unusedVariables false
set_option linter.unusedSimpArgs false

-- GROUP FnStaState
/-! ### laws_FnStaState: function 7 -/
mutual
def laws_FnStaState.j0 : Nat → Int → Int → Int → Int → Bool → Int → Int → Int → List Int → Int → Option (Bool)
  | 0, _, _, _, _, _, _, _, _, _, _ => none
  | k + 1, x4, x5, x6, x7, x53, x525000, x525001, x525002, x525003, x525004 => if x53 = true then (if x7 = 0 then ((laws_cuOk.f).bind fun t528 => (some t528)) else (some false)) else (if 0 ≤ x4 then (if x4 < (x525003.length : Int) then ((impl_DayPlus.f k x525000 x525001 x525002 (rd x525003 x4)).bind fun bt530 => ((impl_DayNum.f k bt530.1 bt530.2.1 bt530.2.2).bind fun t533 => (if x6 ≥ (wrap64 (t533 - x525004)) then (if x6 ≤ (wrap64 (t533 + x525004)) then (laws_FnStaState.j1 k x5 x7 t533 (decide (x6 ≤ x5)) x525000 x525001 x525002 x525003 x525004) else (laws_FnStaState.j1 k x5 x7 t533 false x525000 x525001 x525002 x525003 x525004)) else (laws_FnStaState.j1 k x5 x7 t533 false x525000 x525001 x525002 x525003 x525004)))) else (none)) else (none))
def laws_FnStaState.j1 : Nat → Int → Int → Int → Bool → Int → Int → Int → List Int → Int → Option (Bool)
  | 0, _, _, _, _, _, _, _, _, _ => none
  | k + 1, x5, x7, x8, x9, x525000, x525001, x525002, x525003, x525004 => if x9 = true then (some (x7 == 3)) else (if x5 < (wrap64 (x8 - x525004)) then (some (x7 == 1)) else (if x5 ≤ (wrap64 (x8 + x525004)) then (some (x7 == 2)) else (some (x7 == 4))))
end
def laws_FnStaState.f (k : Nat) (l0 : List Int) : Option (Bool) := if (l0.length : Int) > 1048576 then (some true) else ((spec_DrawStaState.f k l0).bind fun bt514 => ((impl_StaState.f k bt514.1 bt514.2.1 bt514.2.2.1 bt514.2.2.2.1 bt514.2.2.2.2.1 bt514.2.2.2.2.2.1 bt514.2.2.2.2.2.2.1 bt514.2.2.2.2.2.2.2).bind fun t525 => ((spec_StaState.f k bt514.1 bt514.2.1 bt514.2.2.1 bt514.2.2.2.1 bt514.2.2.2.2.1 bt514.2.2.2.2.2.1 bt514.2.2.2.2.2.2.1 bt514.2.2.2.2.2.2.2).bind fun t526 => (if t525 = t526 then ((spec_StaOk.f k bt514.1 bt514.2.1 bt514.2.2.1 bt514.2.2.2.1 bt514.2.2.2.2.1).bind fun t527 => (if t527 = true then (if bt514.2.2.2.2.2.1 < 0 then (laws_FnStaState.j0 k bt514.2.2.2.2.2.1 bt514.2.2.2.2.2.2.1 bt514.2.2.2.2.2.2.2 t525 true bt514.1 bt514.2.1 bt514.2.2.1 bt514.2.2.2.1 bt514.2.2.2.2.1) else (if bt514.2.2.2.2.2.1 ≥ (bt514.2.2.2.1.length : Int) then (laws_FnStaState.j0 k bt514.2.2.2.2.2.1 bt514.2.2.2.2.2.2.1 bt514.2.2.2.2.2.2.2 t525 true bt514.1 bt514.2.1 bt514.2.2.1 bt514.2.2.2.1 bt514.2.2.2.2.1) else (if bt514.2.2.2.2.2.2.1 < 0 then (laws_FnStaState.j0 k bt514.2.2.2.2.2.1 bt514.2.2.2.2.2.2.1 bt514.2.2.2.2.2.2.2 t525 true bt514.1 bt514.2.1 bt514.2.2.1 bt514.2.2.2.1 bt514.2.2.2.2.1) else (laws_FnStaState.j0 k bt514.2.2.2.2.2.1 bt514.2.2.2.2.2.2.1 bt514.2.2.2.2.2.2.2 t525 (decide (bt514.2.2.2.2.2.2.1 ≥ 109573)) bt514.1 bt514.2.1 bt514.2.2.1 bt514.2.2.2.1 bt514.2.2.2.2.1)))) else (laws_FnStaState.j0 k bt514.2.2.2.2.2.1 bt514.2.2.2.2.2.2.1 bt514.2.2.2.2.2.2.2 t525 true bt514.1 bt514.2.1 bt514.2.2.1 bt514.2.2.2.1 bt514.2.2.2.2.1))) else (some false)))))
theorem laws_FnStaState.mono_l : ∀ k, (∀ y0 y1 y2 y3 y4 y5 y6 y7 y8 y9, LeO (laws_FnStaState.j0 k y0 y1 y2 y3 y4 y5 y6 y7 y8 y9) (laws_FnStaState.j0 (k + 1) y0 y1 y2 y3 y4 y5 y6 y7 y8 y9)) ∧ (∀ y0 y1 y2 y3 y4 y5 y6 y7 y8, LeO (laws_FnStaState.j1 k y0 y1 y2 y3 y4 y5 y6 y7 y8) (laws_FnStaState.j1 (k + 1) y0 y1 y2 y3 y4 y5 y6 y7 y8))
  | 0 => ⟨fun _ _ _ _ _ _ _ _ _ _ r h => by simp [laws_FnStaState.j0] at h, fun _ _ _ _ _ _ _ _ _ r h => by simp [laws_FnStaState.j1] at h⟩
  | k + 1 => by
    obtain ⟨ih0, ih1⟩ := laws_FnStaState.mono_l k
    refine ⟨?_, ?_⟩
    · intro y0 y1 y2 y3 y4 y5 y6 y7 y8 y9
      unfold laws_FnStaState.j0
      repeat' first
      | (with_reducible exact ih0 _ _ _ _ _ _ _ _ _ _)
      | (with_reducible exact ih1 _ _ _ _ _ _ _ _ _)
      | (with_reducible exact impl_DayNum.mono _ _ _ _)
      | (with_reducible exact impl_DayPlus.mono _ _ _ _ _)
      | (with_reducible exact impl_StaState.mono _ _ _ _ _ _ _ _ _)
      | (with_reducible exact spec_DrawStaState.mono _ _)
      | (with_reducible exact spec_StaOk.mono _ _ _ _ _ _)
      | (with_reducible exact spec_StaState.mono _ _ _ _ _ _ _ _ _)
      | (with_reducible exact LeO.refl _)
      | (with_reducible exact LeO.none _)
      | (with_reducible refine LeO.ite ?_ ?_)
      | (with_reducible refine LeO.bind ?_ (fun _ => ?_))
      | exact ih0 _ _ _ _ _ _ _ _ _ _
      | exact ih1 _ _ _ _ _ _ _ _ _
      | exact impl_DayNum.mono _ _ _ _
      | exact impl_DayPlus.mono _ _ _ _ _
      | exact impl_StaState.mono _ _ _ _ _ _ _ _ _
      | exact spec_DrawStaState.mono _ _
      | exact spec_StaOk.mono _ _ _ _ _ _
      | exact spec_StaState.mono _ _ _ _ _ _ _ _ _
      | exact LeO.none _
      | refine LeO.ite ?_ ?_
      | refine LeO.bind ?_ (fun _ => ?_)
    · intro y0 y1 y2 y3 y4 y5 y6 y7 y8
      unfold laws_FnStaState.j1
      repeat' first
      | (with_reducible exact ih0 _ _ _ _ _ _ _ _ _ _)
      | (with_reducible exact ih1 _ _ _ _ _ _ _ _ _)
      | (with_reducible exact impl_DayNum.mono _ _ _ _)
      | (with_reducible exact impl_DayPlus.mono _ _ _ _ _)
      | (with_reducible exact impl_StaState.mono _ _ _ _ _ _ _ _ _)
      | (with_reducible exact spec_DrawStaState.mono _ _)
      | (with_reducible exact spec_StaOk.mono _ _ _ _ _ _)
      | (with_reducible exact spec_StaState.mono _ _ _ _ _ _ _ _ _)
      | (with_reducible exact LeO.refl _)
      | (with_reducible exact LeO.none _)
      | (with_reducible refine LeO.ite ?_ ?_)
      | (with_reducible refine LeO.bind ?_ (fun _ => ?_))
      | exact ih0 _ _ _ _ _ _ _ _ _ _
      | exact ih1 _ _ _ _ _ _ _ _ _
      | exact impl_DayNum.mono _ _ _ _
      | exact impl_DayPlus.mono _ _ _ _ _
      | exact impl_StaState.mono _ _ _ _ _ _ _ _ _
      | exact spec_DrawStaState.mono _ _
      | exact spec_StaOk.mono _ _ _ _ _ _
      | exact spec_StaState.mono _ _ _ _ _ _ _ _ _
      | exact LeO.none _
      | refine LeO.ite ?_ ?_
      | refine LeO.bind ?_ (fun _ => ?_)
theorem laws_FnStaState.mono : ∀ a0 k, LeO (laws_FnStaState.f k a0) (laws_FnStaState.f (k + 1) a0) := by
  intro a0 k
  obtain ⟨ih0, ih1⟩ := laws_FnStaState.mono_l k
  unfold laws_FnStaState.f
  repeat' first
      | (with_reducible exact ih0 _ _ _ _ _ _ _ _ _ _)
      | (with_reducible exact ih1 _ _ _ _ _ _ _ _ _)
      | (with_reducible exact impl_DayNum.mono _ _ _ _)
      | (with_reducible exact impl_DayPlus.mono _ _ _ _ _)
      | (with_reducible exact impl_StaState.mono _ _ _ _ _ _ _ _ _)
      | (with_reducible exact spec_DrawStaState.mono _ _)
      | (with_reducible exact spec_StaOk.mono _ _ _ _ _ _)
      | (with_reducible exact spec_StaState.mono _ _ _ _ _ _ _ _ _)
      | (with_reducible exact LeO.refl _)
      | (with_reducible exact LeO.none _)
      | (with_reducible refine LeO.ite ?_ ?_)
      | (with_reducible refine LeO.bind ?_ (fun _ => ?_))
      | exact ih0 _ _ _ _ _ _ _ _ _ _
      | exact ih1 _ _ _ _ _ _ _ _ _
      | exact impl_DayNum.mono _ _ _ _
      | exact impl_DayPlus.mono _ _ _ _ _
      | exact impl_StaState.mono _ _ _ _ _ _ _ _ _
      | exact spec_DrawStaState.mono _ _
      | exact spec_StaOk.mono _ _ _ _ _ _
      | exact spec_StaState.mono _ _ _ _ _ _ _ _ _
      | exact LeO.none _
      | refine LeO.ite ?_ ?_
      | refine LeO.bind ?_ (fun _ => ?_)
def laws_FnStaState.T9 : Bool × List (List Nat × List Nat) := (true, [([], []), ([0], [0]), ([], []), ([2], [2]), ([], []), ([3, 4], [3, 4]), ([5], [5]), ([1, 6], [1, 6]), ([7, 7], [7]), ([8, 8, 0, 1, 2, 3, 4, 5, 6, 7, 8], [8])])
def laws_FnStaState.B9 : List Nat := [0, 1, 0, 4, 0, 28, 60, 127, 255, 511]
theorem laws_FnStaState.tab9 : rtab .any (opsOf Try.f7 9) = laws_FnStaState.T9 := by kernel_rfl
theorem laws_FnStaState.bits9 : waitsOk laws_FnStaState.T9.2 laws_FnStaState.B9 = true := by kernel_rfl
set_option maxHeartbeats 8000000 in
set_option maxRecDepth 100000 in
theorem laws_FnStaState.calls (k : Nat) (A0 : Option Addr) (c0 : Nat) (l0 : List Int) (r : Bool) (w : World) (hr0 : Kd.C (Kd.int .u8) w A0 l0.length l0) (hc0 : l0.length ≤ c0) (h : laws_FnStaState.f k l0 = some r) :
    Calls Try.prog 7 #[.slice A0 l0.length c0] w fun e w' => e = .returned (.bool r) ∧ Below w.heap.size w w' := by
  have hu31 := Try.underlying31
  have hu29 := Try.underlying29
  have HR0 := Aside0.mk hr0
  have HC0 := Aside0.mk hc0
  clear hr0 hc0
  have HB := Aside0.mk (Below.refl w.heap.size w)
  have H : (if (l0.length : Int) > 1048576 then (some true) else ((spec_DrawStaState.f k l0).bind fun bt514 => ((impl_StaState.f k bt514.1 bt514.2.1 bt514.2.2.1 bt514.2.2.2.1 bt514.2.2.2.2.1 bt514.2.2.2.2.2.1 bt514.2.2.2.2.2.2.1 bt514.2.2.2.2.2.2.2).bind fun t525 => ((spec_StaState.f k bt514.1 bt514.2.1 bt514.2.2.1 bt514.2.2.2.1 bt514.2.2.2.2.1 bt514.2.2.2.2.2.1 bt514.2.2.2.2.2.2.1 bt514.2.2.2.2.2.2.2).bind fun t526 => (if t525 = t526 then ((spec_StaOk.f k bt514.1 bt514.2.1 bt514.2.2.1 bt514.2.2.2.1 bt514.2.2.2.2.1).bind fun t527 => (if t527 = true then (if bt514.2.2.2.2.2.1 < 0 then (laws_FnStaState.j0 k bt514.2.2.2.2.2.1 bt514.2.2.2.2.2.2.1 bt514.2.2.2.2.2.2.2 t525 true bt514.1 bt514.2.1 bt514.2.2.1 bt514.2.2.2.1 bt514.2.2.2.2.1) else (if bt514.2.2.2.2.2.1 ≥ (bt514.2.2.2.1.length : Int) then (laws_FnStaState.j0 k bt514.2.2.2.2.2.1 bt514.2.2.2.2.2.2.1 bt514.2.2.2.2.2.2.2 t525 true bt514.1 bt514.2.1 bt514.2.2.1 bt514.2.2.2.1 bt514.2.2.2.2.1) else (if bt514.2.2.2.2.2.2.1 < 0 then (laws_FnStaState.j0 k bt514.2.2.2.2.2.1 bt514.2.2.2.2.2.2.1 bt514.2.2.2.2.2.2.2 t525 true bt514.1 bt514.2.1 bt514.2.2.1 bt514.2.2.2.1 bt514.2.2.2.2.1) else (laws_FnStaState.j0 k bt514.2.2.2.2.2.1 bt514.2.2.2.2.2.2.1 bt514.2.2.2.2.2.2.2 t525 (decide (bt514.2.2.2.2.2.2.1 ≥ 109573)) bt514.1 bt514.2.1 bt514.2.2.1 bt514.2.2.2.1 bt514.2.2.2.2.1)))) else (laws_FnStaState.j0 k bt514.2.2.2.2.2.1 bt514.2.2.2.2.2.2.1 bt514.2.2.2.2.2.2.2 t525 true bt514.1 bt514.2.1 bt514.2.2.1 bt514.2.2.2.1 bt514.2.2.2.2.1))) else (some false)))))) = some r := h
  clear h
  by_cases c2 : (l0.length : Int) > 1048576
  · rw [if_pos c2] at H
    have c2b0 : decide (1048576 < (l0.length : Int)) = true := decide_eq_true c2
    have c2b1 : decide (1048576 < l0.length) = true := decide_eq_true (by omega)
    clear c2
    obtain rfl := Option.some.inj H
    go_enter Try.func7, Try.ntmps7
    go_wp2
    go_ret
    exact ⟨by first | rfl | (simp [errW_none, errW_some] <;> rfl) | (simp [*, errW_none, errW_some] <;> rfl), by repeat (first | (with_reducible first | exact HB.out | apply below_alloc | apply pw_below_drewN | apply below_drew1) | exact HB.out)⟩
  · rw [if_neg c2] at H
    have c2b0 : decide (1048576 < (l0.length : Int)) = false := decide_eq_false c2
    have c2b1 : decide (1048576 < l0.length) = false := decide_eq_false (by omega)
    clear c2
    replace H := Option.bind_eq_some_iff.mp H
    obtain ⟨⟨t514, t515, t516, t517, t520, t521, t522, t523⟩, A30, H⟩ := H
    replace H : ((impl_StaState.f k t514 t515 t516 t517 t520 t521 t522 t523).bind fun t525 => ((spec_StaState.f k t514 t515 t516 t517 t520 t521 t522 t523).bind fun t526 => (if t525 = t526 then ((spec_StaOk.f k t514 t515 t516 t517 t520).bind fun t527 => (if t527 = true then (if t521 < 0 then (laws_FnStaState.j0 k t521 t522 t523 t525 true t514 t515 t516 t517 t520) else (if t521 ≥ (t517.length : Int) then (laws_FnStaState.j0 k t521 t522 t523 t525 true t514 t515 t516 t517 t520) else (if t522 < 0 then (laws_FnStaState.j0 k t521 t522 t523 t525 true t514 t515 t516 t517 t520) else (laws_FnStaState.j0 k t521 t522 t523 t525 (decide (t522 ≥ 109573)) t514 t515 t516 t517 t520)))) else (laws_FnStaState.j0 k t521 t522 t523 t525 true t514 t515 t516 t517 t520))) else (some false)))) = some r := H
    have A3 := Aside0.mk A30
    clear A30
    replace H := Option.bind_eq_some_iff.mp H
    obtain ⟨t525, A40, H⟩ := H
    replace H : ((spec_StaState.f k t514 t515 t516 t517 t520 t521 t522 t523).bind fun t526 => (if t525 = t526 then ((spec_StaOk.f k t514 t515 t516 t517 t520).bind fun t527 => (if t527 = true then (if t521 < 0 then (laws_FnStaState.j0 k t521 t522 t523 t525 true t514 t515 t516 t517 t520) else (if t521 ≥ (t517.length : Int) then (laws_FnStaState.j0 k t521 t522 t523 t525 true t514 t515 t516 t517 t520) else (if t522 < 0 then (laws_FnStaState.j0 k t521 t522 t523 t525 true t514 t515 t516 t517 t520) else (laws_FnStaState.j0 k t521 t522 t523 t525 (decide (t522 ≥ 109573)) t514 t515 t516 t517 t520)))) else (laws_FnStaState.j0 k t521 t522 t523 t525 true t514 t515 t516 t517 t520))) else (some false))) = some r := H
    have A4 := Aside0.mk A40
    clear A40
    replace H := Option.bind_eq_some_iff.mp H
    obtain ⟨t526, A50, H⟩ := H
    replace H : (if t525 = t526 then ((spec_StaOk.f k t514 t515 t516 t517 t520).bind fun t527 => (if t527 = true then (if t521 < 0 then (laws_FnStaState.j0 k t521 t522 t523 t525 true t514 t515 t516 t517 t520) else (if t521 ≥ (t517.length : Int) then (laws_FnStaState.j0 k t521 t522 t523 t525 true t514 t515 t516 t517 t520) else (if t522 < 0 then (laws_FnStaState.j0 k t521 t522 t523 t525 true t514 t515 t516 t517 t520) else (laws_FnStaState.j0 k t521 t522 t523 t525 (decide (t522 ≥ 109573)) t514 t515 t516 t517 t520)))) else (laws_FnStaState.j0 k t521 t522 t523 t525 true t514 t515 t516 t517 t520))) else (some false)) = some r := H
    have A5 := Aside0.mk A50
    clear A50
    by_cases c6 : t525 = t526
    · rw [if_pos c6] at H
      have c6b0 : (t525 == t526) = true := beq_iff_eq.mpr c6
      have c6b1 : (t525 != t526) = false := bne_eq_false_iff_eq.mpr c6
      clear c6
      have HC7 := Aside0.mk H
      clear H
      go_enter Try.func7, Try.ntmps7
      go_upto_region 7 with (first | ((with_reducible refine gate_callee (f := 29) rfl ?_); refine goesL_ (some 15) rfl rfl Try.func29 (by kernel_rfl) rfl #[.slice A0 l0.length c0] rfl (by (try simp only [List.map_toArray, List.map_cons, List.map_nil]); first | done | rfl | (simp only [List.length_drop, List.length_take]; rfl)) ?_; (with_reducible refine (spec_DrawStaState.calls k _ _ l0 t514 t515 t516 t517 t520 t521 t522 t523 _ ?side1 ?side2 A3.out).mono ?_); (case side1 => repeat (first | exact HR0.out | (with_reducible refine Kd.C_alloc ?_ _) | (with_reducible refine Kd.C_drewN ?_ _) | (with_reducible refine Kd.C_drew ?_))); (case side2 => exact HC0.out); rintro e w8 ⟨v518, rfl, ho0, hb⟩; refine ⟨_, rfl, ?_⟩; have n0_ := Aside0.mk (Kd.R_lower ho0 (below_size (by repeat (first | (with_reducible first | exact HB.out | apply below_alloc | apply pw_below_drewN | apply below_drew1) | exact HB.out)))); have n1_ := Aside0.mk (below_step (by repeat (first | (with_reducible first | exact HB.out | apply below_alloc | apply pw_below_drewN | apply below_drew1) | exact HB.out)) hb); clear HB; have HO519 := n0_; have HB := n1_; clear n0_ n1_; (try clear hb); (try clear hb2); (try clear hk); (try clear hi); (try clear ho0)) | ((with_reducible refine gate_dst (N := 3) rfl ?_); (try (refine gate_guard (by rfl) ?_; dsimp only)); refine box_event ?hg (N := 3) ?hd (cs := #[.int .i64 0, .int .i64 0, .int .i64 0, .slice none 0 0, .int .i64 0]) (t := 31) ?hr ?_; (case hd => rfl); (case hg => rfl); (case hr => first | (go_simp; done) | (go_simp; rfl)); intro gb524 hg w9 hbox hb; have n0_ := Aside0.mk (Kd.R_below (by (with_reducible repeat (first | apply Kd.R_alloc | apply Kd.R_drewN | apply Kd.R_drew)); exact HO519.out) hb); have n1_ := Aside0.mk (below_step (by repeat (first | (with_reducible first | exact HB.out | apply below_alloc | apply pw_below_drewN | apply below_drew1) | exact HB.out)) hb); have n2_ := Aside0.mk (hbox); have n3_ := Aside0.mk ((by rw [hg]; exact (below_size (by repeat (first | (with_reducible first | exact HB.out | apply below_alloc | apply pw_below_drewN | apply below_drew1) | exact HB.out))) : w.heap.size ≤ gb524)); have n4_ := Aside0.mk ((by rw [hg]; exact (below_size (by repeat (first | (with_reducible first | exact HB.out | apply below_alloc | apply pw_below_drewN | apply below_drew1) | exact HB.out))) : w.heap.size ≤ gb524)); clear HO519; clear HB; have HO519 := n0_; have HB := n1_; have BK524 := n2_; have GW524 := n3_; have GE524 := n4_; clear n0_ n1_ n2_ n3_ n4_; clear hb hbox hg; have hcz10_0 : w9.cell? ⟨gb524, 0, none⟩ = some (.int .i64 0) := (blk_cell BK524.out 0).trans rfl; have hcz10_1 : w9.cell? ⟨gb524, 1, none⟩ = some (.int .i64 0) := (blk_cell BK524.out 1).trans rfl; have hcz10_2 : w9.cell? ⟨gb524, 2, none⟩ = some (.int .i64 0) := (blk_cell BK524.out 2).trans rfl; have hcz10_3 : w9.cell? ⟨gb524, 3, none⟩ = some (.slice none 0 0) := (blk_cell BK524.out 3).trans rfl; have hcz10_4 : w9.cell? ⟨gb524, 4, none⟩ = some (.int .i64 0) := (blk_cell BK524.out 4).trans rfl; have hfz10_0 := blk_frozen BK524.out 0; have hfz10_1 := blk_frozen BK524.out 1; have hfz10_2 := blk_frozen BK524.out 2; have hfz10_3 := blk_frozen BK524.out 3; have hfz10_4 := blk_frozen BK524.out 4; obtain ⟨Ao11, co11, eo11⟩ := Kd.R_slice HO519.out; subst eo11) | ((with_reducible refine gate_callee (f := 24) rfl ?_); refine goesL_ (some 24) rfl rfl Try.func24 (by kernel_rfl) rfl #[.agg #[.int .i64 t514, .int .i64 t515, .int .i64 t516, .slice Ao11 t517.length co11, .int .i64 t520], .int .i64 t521, .int .i64 t522, .int .i64 t523] rfl (by (try simp only [List.map_toArray, List.map_cons, List.map_nil]); first | done | rfl | (simp only [List.length_drop, List.length_take]; rfl)) ?_; (with_reducible refine (impl_StaState.calls k t514 t515 t516 _ _ t517 t520 t521 t522 t523 t525 _ ?side1 ?side2 A4.out).mono ?_); (case side1 => refine (Kd.R_reads' (e := 3) (base := w.heap.size) (ok := fun k_ => True) (n := t517.length) (c := co11) ?_).2.2; exact (by (with_reducible repeat (first | apply Kd.R_alloc | apply Kd.R_drewN | apply Kd.R_drew)); exact (Kd.R_mono (Kd.R_far (p := ⟨gb524, 4, none⟩) (Kd.R_far (p := ⟨gb524, 3, none⟩) (Kd.R_far (p := ⟨gb524, 2, none⟩) (Kd.R_far (p := ⟨gb524, 1, none⟩) (Kd.R_far (p := ⟨gb524, 0, none⟩) (Kd.R_types HO519.out BK524.out (by decide)) (fun _ hk => hk.2) (.int .i64 t514)) (fun _ hk => hk.2) (.int .i64 t515)) (fun _ hk => hk.2) (.int .i64 t516)) (fun _ hk => hk.2) (.slice Ao11 t517.length co11)) (fun _ hk => hk.2) (.int .i64 t520)) (fun _ h_ => h_.1)))); (case side2 => exact (Kd.R_reads' HO519.out).2.1); rintro e w12 ⟨rfl, hb⟩; refine ⟨_, rfl, ?_⟩; have n0_ := Aside0.mk (Kd.R_below (by (with_reducible repeat (first | apply Kd.R_alloc | apply Kd.R_drewN | apply Kd.R_drew)); exact (Kd.R_mono (Kd.R_far (p := ⟨gb524, 4, none⟩) (Kd.R_far (p := ⟨gb524, 3, none⟩) (Kd.R_far (p := ⟨gb524, 2, none⟩) (Kd.R_far (p := ⟨gb524, 1, none⟩) (Kd.R_far (p := ⟨gb524, 0, none⟩) (Kd.R_types HO519.out BK524.out (by decide)) (fun _ hk => hk.2) (.int .i64 t514)) (fun _ hk => hk.2) (.int .i64 t515)) (fun _ hk => hk.2) (.int .i64 t516)) (fun _ hk => hk.2) (.slice Ao11 t517.length co11)) (fun _ hk => hk.2) (.int .i64 t520)) (fun _ h_ => h_.1))) hb); have n1_ := Aside0.mk (blk_below (g := gb524) (o := .cells #[.int .i64 t514, .int .i64 t515, .int .i64 t516, .slice Ao11 t517.length co11, .int .i64 t520] 31 (0, 0)) (by (with_reducible repeat (first | refine blk_drewN ?_ _ | refine blk_drew ?_ | refine blk_alloc ?_ _)); refine blk_put (cs := #[.int .i64 t514, .int .i64 t515, .int .i64 t516, .slice Ao11 t517.length co11, .int .i64 0]) ?_ 4 _ rfl; (with_reducible repeat (first | refine blk_drewN ?_ _ | refine blk_drew ?_ | refine blk_alloc ?_ _)); refine blk_put (cs := #[.int .i64 t514, .int .i64 t515, .int .i64 t516, .slice none 0 0, .int .i64 0]) ?_ 3 _ rfl; (with_reducible repeat (first | refine blk_drewN ?_ _ | refine blk_drew ?_ | refine blk_alloc ?_ _)); refine blk_put (cs := #[.int .i64 t514, .int .i64 t515, .int .i64 0, .slice none 0 0, .int .i64 0]) ?_ 2 _ rfl; (with_reducible repeat (first | refine blk_drewN ?_ _ | refine blk_drew ?_ | refine blk_alloc ?_ _)); refine blk_put (cs := #[.int .i64 t514, .int .i64 0, .int .i64 0, .slice none 0 0, .int .i64 0]) ?_ 1 _ rfl; (with_reducible repeat (first | refine blk_drewN ?_ _ | refine blk_drew ?_ | refine blk_alloc ?_ _)); refine blk_put (cs := #[.int .i64 0, .int .i64 0, .int .i64 0, .slice none 0 0, .int .i64 0]) ?_ 0 _ rfl; (with_reducible repeat (first | refine blk_drewN ?_ _ | refine blk_drew ?_ | refine blk_alloc ?_ _)); exact BK524.out) hb); have n2_ := Aside0.mk (below_step (by repeat (first | (with_reducible first | exact HB.out | apply below_alloc | apply pw_below_drewN | apply below_drew1 | refine below_set ?_ GE524.out) | exact HB.out)) hb); clear HO519; clear BK524; clear HB; have HO519 := n0_; have BK524 := n1_; have HB := n2_; clear n0_ n1_ n2_; (try clear hb); (try clear hb2); (try clear hk); (try clear hi); have hcz13_0 : w12.cell? ⟨gb524, 0, none⟩ = some (.int .i64 t514) := (blk_cell BK524.out 0).trans rfl; have hcz13_1 : w12.cell? ⟨gb524, 1, none⟩ = some (.int .i64 t515) := (blk_cell BK524.out 1).trans rfl; have hcz13_2 : w12.cell? ⟨gb524, 2, none⟩ = some (.int .i64 t516) := (blk_cell BK524.out 2).trans rfl; have hcz13_3 : w12.cell? ⟨gb524, 3, none⟩ = some (.slice Ao11 t517.length co11) := (blk_cell BK524.out 3).trans rfl; have hcz13_4 : w12.cell? ⟨gb524, 4, none⟩ = some (.int .i64 t520) := (blk_cell BK524.out 4).trans rfl; have hfz13_0 := blk_frozen BK524.out 0; have hfz13_1 := blk_frozen BK524.out 1; have hfz13_2 := blk_frozen BK524.out 2; have hfz13_3 := blk_frozen BK524.out 3; have hfz13_4 := blk_frozen BK524.out 4) | ((with_reducible refine gate_callee (f := 23) rfl ?_); refine goesL_ (some 30) rfl rfl Try.func23 (by kernel_rfl) rfl #[.agg #[.int .i64 t514, .int .i64 t515, .int .i64 t516, .slice Ao11 t517.length co11, .int .i64 t520], .int .i64 t521, .int .i64 t522, .int .i64 t523] rfl (by (try simp only [List.map_toArray, List.map_cons, List.map_nil]); first | done | rfl | (simp only [List.length_drop, List.length_take]; rfl)) ?_; (with_reducible refine (spec_StaState.calls k t514 t515 t516 _ _ t517 t520 t521 t522 t523 t526 _ ?side1 ?side2 A5.out).mono ?_); (case side1 => repeat (first | exact (Kd.R_reads' HO519.out).2.2 | (with_reducible refine Kd.C_alloc ?_ _) | (with_reducible refine Kd.C_drewN ?_ _) | (with_reducible refine Kd.C_drew ?_))); (case side2 => exact (Kd.R_reads' HO519.out).2.1); rintro e w14 ⟨rfl, hb⟩; refine ⟨_, rfl, ?_⟩; have n0_ := Aside0.mk (Kd.R_below (by (with_reducible repeat (first | apply Kd.R_alloc | apply Kd.R_drewN | apply Kd.R_drew)); exact HO519.out) hb); have n1_ := Aside0.mk (blk_below (g := gb524) (o := .cells #[.int .i64 t514, .int .i64 t515, .int .i64 t516, .slice Ao11 t517.length co11, .int .i64 t520] 31 (0, 0)) (by (with_reducible repeat (first | refine blk_drewN ?_ _ | refine blk_drew ?_ | refine blk_alloc ?_ _)); exact BK524.out) hb); have n2_ := Aside0.mk (below_step (by repeat (first | (with_reducible first | exact HB.out | apply below_alloc | apply pw_below_drewN | apply below_drew1 | refine below_set ?_ GE524.out) | exact HB.out)) hb); clear HO519; clear BK524; clear HB; have HO519 := n0_; have BK524 := n1_; have HB := n2_; clear n0_ n1_ n2_; (try clear hb); (try clear hb2); (try clear hk); (try clear hi)))
      (try simp only [Act.put, List.setIfInBounds_toArray, List.set_cons_zero, List.set_cons_succ])
      go_cut [53] (fun v53 wc => ∃ (kq : Nat) (x53_6 : Bool), v53 = .bool x53_6 ∧ Aside0 (laws_FnStaState.j0 kq t521 t522 t523 t525 x53_6 t514 t515 t516 t517 t520 = some r) ∧ Aside0 (kq ≤ k) ∧ Aside0 (Kd.R (Kd.int .i64) 3 wc w.heap.size (fun _ => True) (.slice Ao11 t517.length co11) t517) ∧ Aside0 (wc.heap[gb524]? = some (.cells #[.int .i64 t514, .int .i64 t515, .int .i64 t516, (.slice Ao11 t517.length co11), .int .i64 t520] 31 (0, 0))) ∧ Aside0 (Below w.heap.size w wc))
      case first =>
        have H := HC7.out
        clear HC7
        replace H := Option.bind_eq_some_iff.mp H
        obtain ⟨t527, A150, H⟩ := H
        replace H : (if t527 = true then (if t521 < 0 then (laws_FnStaState.j0 k t521 t522 t523 t525 true t514 t515 t516 t517 t520) else (if t521 ≥ (t517.length : Int) then (laws_FnStaState.j0 k t521 t522 t523 t525 true t514 t515 t516 t517 t520) else (if t522 < 0 then (laws_FnStaState.j0 k t521 t522 t523 t525 true t514 t515 t516 t517 t520) else (laws_FnStaState.j0 k t521 t522 t523 t525 (decide (t522 ≥ 109573)) t514 t515 t516 t517 t520)))) else (laws_FnStaState.j0 k t521 t522 t523 t525 true t514 t515 t516 t517 t520)) = some r := H
        have A15 := Aside0.mk A150
        clear A150
        by_cases c16 : t527 = true
        · subst c16
          have H1 : (if t521 < 0 then (laws_FnStaState.j0 k t521 t522 t523 t525 true t514 t515 t516 t517 t520) else (if t521 ≥ (t517.length : Int) then (laws_FnStaState.j0 k t521 t522 t523 t525 true t514 t515 t516 t517 t520) else (if t522 < 0 then (laws_FnStaState.j0 k t521 t522 t523 t525 true t514 t515 t516 t517 t520) else (laws_FnStaState.j0 k t521 t522 t523 t525 (decide (t522 ≥ 109573)) t514 t515 t516 t517 t520)))) = some r := by rw [if_pos rfl] at H; exact H
          clear H
          have H := H1
          clear H1
          by_cases c17 : t521 < 0
          · rw [if_pos c17] at H
            have c17b0 : decide (t521 < 0) = true := decide_eq_true c17
            clear c17
            (first | rw [c17b0] | (simp only [i64_w, i32_w]; rw [c17b0]) | skip)
            have H' := Aside0.mk H
            clear H
            have hcz18_0 : w14.cell? ⟨gb524, 0, none⟩ = some (.int .i64 t514) := (blk_cell BK524.out 0).trans rfl
            have hcz18_1 : w14.cell? ⟨gb524, 1, none⟩ = some (.int .i64 t515) := (blk_cell BK524.out 1).trans rfl
            have hcz18_2 : w14.cell? ⟨gb524, 2, none⟩ = some (.int .i64 t516) := (blk_cell BK524.out 2).trans rfl
            have hcz18_3 : w14.cell? ⟨gb524, 3, none⟩ = some (.slice Ao11 t517.length co11) := (blk_cell BK524.out 3).trans rfl
            have hcz18_4 : w14.cell? ⟨gb524, 4, none⟩ = some (.int .i64 t520) := (blk_cell BK524.out 4).trans rfl
            have hfz18_0 := blk_frozen BK524.out 0
            have hfz18_1 := blk_frozen BK524.out 1
            have hfz18_2 := blk_frozen BK524.out 2
            have hfz18_3 := blk_frozen BK524.out 3
            have hfz18_4 := blk_frozen BK524.out 4
            go_wp2_with (first | ((with_reducible refine gate_callee (f := 12) rfl ?_); refine goesL_ (some 33) rfl rfl Try.func12 (by kernel_rfl) rfl #[.agg #[.int .i64 t514, .int .i64 t515, .int .i64 t516, .slice Ao11 t517.length co11, .int .i64 t520]] rfl (by (try simp only [List.map_toArray, List.map_cons, List.map_nil]); first | done | rfl | (simp only [List.length_drop, List.length_take]; rfl)) ?_; (with_reducible refine (spec_StaOk.calls k t514 t515 t516 _ _ t517 t520 true _ ?side1 ?side2 A15.out).mono ?_); (case side1 => repeat (first | exact (Kd.R_reads' HO519.out).2.2 | (with_reducible refine Kd.C_alloc ?_ _) | (with_reducible refine Kd.C_drewN ?_ _) | (with_reducible refine Kd.C_drew ?_))); (case side2 => exact (Kd.R_reads' HO519.out).2.1); rintro e w19 ⟨rfl, hb⟩; refine ⟨_, rfl, ?_⟩; have n0_ := Aside0.mk (Kd.R_below (by (with_reducible repeat (first | apply Kd.R_alloc | apply Kd.R_drewN | apply Kd.R_drew)); exact HO519.out) hb); have n1_ := Aside0.mk (blk_below (g := gb524) (o := .cells #[.int .i64 t514, .int .i64 t515, .int .i64 t516, .slice Ao11 t517.length co11, .int .i64 t520] 31 (0, 0)) (by (with_reducible repeat (first | refine blk_drewN ?_ _ | refine blk_drew ?_ | refine blk_alloc ?_ _)); exact BK524.out) hb); have n2_ := Aside0.mk (below_step (by repeat (first | (with_reducible first | exact HB.out | apply below_alloc | apply pw_below_drewN | apply below_drew1 | refine below_set ?_ GE524.out) | exact HB.out)) hb); clear HO519; clear BK524; clear HB; have HO519 := n0_; have BK524 := n1_; have HB := n2_; clear n0_ n1_ n2_; (try clear hb); (try clear hb2); (try clear hk); (try clear hi)))
            go_meet
            case rel => exact ⟨_, (true), (by first | rfl | (simp; done) | (simp [*]; done)), H', ⟨by first | omega | exact Nat.le_refl _⟩, ⟨by (with_reducible repeat (first | apply Kd.R_alloc | apply Kd.R_drewN | apply Kd.R_drew)); exact HO519.out⟩, ⟨by (with_reducible repeat (first | refine blk_drewN ?_ _ | refine blk_drew ?_ | refine blk_alloc ?_ _)); exact BK524.out⟩, ⟨by repeat (first | (with_reducible first | exact HB.out | apply below_alloc | apply pw_below_drewN | apply below_drew1 | refine below_set ?_ GE524.out) | exact HB.out)⟩⟩
          · rw [if_neg c17] at H
            have c17b0 : decide (t521 < 0) = false := decide_eq_false c17
            clear c17
            (first | rw [c17b0] | (simp only [i64_w, i32_w]; rw [c17b0]) | skip)
            by_cases c20 : t521 ≥ (t517.length : Int)
            · rw [if_pos c20] at H
              have c20b0 : decide ((t517.length : Int) ≤ t521) = true := decide_eq_true c20
              clear c20
              have H' := Aside0.mk H
              clear H
              have hcz21_0 : w14.cell? ⟨gb524, 0, none⟩ = some (.int .i64 t514) := (blk_cell BK524.out 0).trans rfl
              have hcz21_1 : w14.cell? ⟨gb524, 1, none⟩ = some (.int .i64 t515) := (blk_cell BK524.out 1).trans rfl
              have hcz21_2 : w14.cell? ⟨gb524, 2, none⟩ = some (.int .i64 t516) := (blk_cell BK524.out 2).trans rfl
              have hcz21_3 : w14.cell? ⟨gb524, 3, none⟩ = some (.slice Ao11 t517.length co11) := (blk_cell BK524.out 3).trans rfl
              have hcz21_4 : w14.cell? ⟨gb524, 4, none⟩ = some (.int .i64 t520) := (blk_cell BK524.out 4).trans rfl
              have hfz21_0 := blk_frozen BK524.out 0
              have hfz21_1 := blk_frozen BK524.out 1
              have hfz21_2 := blk_frozen BK524.out 2
              have hfz21_3 := blk_frozen BK524.out 3
              have hfz21_4 := blk_frozen BK524.out 4
              go_wp2_with (first | ((with_reducible refine gate_callee (f := 12) rfl ?_); refine goesL_ (some 33) rfl rfl Try.func12 (by kernel_rfl) rfl #[.agg #[.int .i64 t514, .int .i64 t515, .int .i64 t516, .slice Ao11 t517.length co11, .int .i64 t520]] rfl (by (try simp only [List.map_toArray, List.map_cons, List.map_nil]); first | done | rfl | (simp only [List.length_drop, List.length_take]; rfl)) ?_; (with_reducible refine (spec_StaOk.calls k t514 t515 t516 _ _ t517 t520 true _ ?side1 ?side2 A15.out).mono ?_); (case side1 => repeat (first | exact (Kd.R_reads' HO519.out).2.2 | (with_reducible refine Kd.C_alloc ?_ _) | (with_reducible refine Kd.C_drewN ?_ _) | (with_reducible refine Kd.C_drew ?_))); (case side2 => exact (Kd.R_reads' HO519.out).2.1); rintro e w22 ⟨rfl, hb⟩; refine ⟨_, rfl, ?_⟩; have n0_ := Aside0.mk (Kd.R_below (by (with_reducible repeat (first | apply Kd.R_alloc | apply Kd.R_drewN | apply Kd.R_drew)); exact HO519.out) hb); have n1_ := Aside0.mk (blk_below (g := gb524) (o := .cells #[.int .i64 t514, .int .i64 t515, .int .i64 t516, .slice Ao11 t517.length co11, .int .i64 t520] 31 (0, 0)) (by (with_reducible repeat (first | refine blk_drewN ?_ _ | refine blk_drew ?_ | refine blk_alloc ?_ _)); exact BK524.out) hb); have n2_ := Aside0.mk (below_step (by repeat (first | (with_reducible first | exact HB.out | apply below_alloc | apply pw_below_drewN | apply below_drew1 | refine below_set ?_ GE524.out) | exact HB.out)) hb); clear HO519; clear BK524; clear HB; have HO519 := n0_; have BK524 := n1_; have HB := n2_; clear n0_ n1_ n2_; (try clear hb); (try clear hb2); (try clear hk); (try clear hi); have hcz23_0 : w22.cell? ⟨gb524, 0, none⟩ = some (.int .i64 t514) := (blk_cell BK524.out 0).trans rfl; have hcz23_1 : w22.cell? ⟨gb524, 1, none⟩ = some (.int .i64 t515) := (blk_cell BK524.out 1).trans rfl; have hcz23_2 : w22.cell? ⟨gb524, 2, none⟩ = some (.int .i64 t516) := (blk_cell BK524.out 2).trans rfl; have hcz23_3 : w22.cell? ⟨gb524, 3, none⟩ = some (.slice Ao11 t517.length co11) := (blk_cell BK524.out 3).trans rfl; have hcz23_4 : w22.cell? ⟨gb524, 4, none⟩ = some (.int .i64 t520) := (blk_cell BK524.out 4).trans rfl; have hfz23_0 := blk_frozen BK524.out 0; have hfz23_1 := blk_frozen BK524.out 1; have hfz23_2 := blk_frozen BK524.out 2; have hfz23_3 := blk_frozen BK524.out 3; have hfz23_4 := blk_frozen BK524.out 4))
              go_meet
              case rel => exact ⟨_, (true), (by first | rfl | (simp; done) | (simp [*]; done)), H', ⟨by first | omega | exact Nat.le_refl _⟩, ⟨by (with_reducible repeat (first | apply Kd.R_alloc | apply Kd.R_drewN | apply Kd.R_drew)); exact HO519.out⟩, ⟨by (with_reducible repeat (first | refine blk_drewN ?_ _ | refine blk_drew ?_ | refine blk_alloc ?_ _)); exact BK524.out⟩, ⟨by repeat (first | (with_reducible first | exact HB.out | apply below_alloc | apply pw_below_drewN | apply below_drew1 | refine below_set ?_ GE524.out) | exact HB.out)⟩⟩
            · rw [if_neg c20] at H
              have c20b0 : decide ((t517.length : Int) ≤ t521) = false := decide_eq_false c20
              clear c20
              by_cases c24 : t522 < 0
              · rw [if_pos c24] at H
                have c24b0 : decide (t522 < 0) = true := decide_eq_true c24
                clear c24
                have H' := Aside0.mk H
                clear H
                have hcz25_0 : w14.cell? ⟨gb524, 0, none⟩ = some (.int .i64 t514) := (blk_cell BK524.out 0).trans rfl
                have hcz25_1 : w14.cell? ⟨gb524, 1, none⟩ = some (.int .i64 t515) := (blk_cell BK524.out 1).trans rfl
                have hcz25_2 : w14.cell? ⟨gb524, 2, none⟩ = some (.int .i64 t516) := (blk_cell BK524.out 2).trans rfl
                have hcz25_3 : w14.cell? ⟨gb524, 3, none⟩ = some (.slice Ao11 t517.length co11) := (blk_cell BK524.out 3).trans rfl
                have hcz25_4 : w14.cell? ⟨gb524, 4, none⟩ = some (.int .i64 t520) := (blk_cell BK524.out 4).trans rfl
                have hfz25_0 := blk_frozen BK524.out 0
                have hfz25_1 := blk_frozen BK524.out 1
                have hfz25_2 := blk_frozen BK524.out 2
                have hfz25_3 := blk_frozen BK524.out 3
                have hfz25_4 := blk_frozen BK524.out 4
                go_wp2_with (first | ((with_reducible refine gate_callee (f := 12) rfl ?_); refine goesL_ (some 33) rfl rfl Try.func12 (by kernel_rfl) rfl #[.agg #[.int .i64 t514, .int .i64 t515, .int .i64 t516, .slice Ao11 t517.length co11, .int .i64 t520]] rfl (by (try simp only [List.map_toArray, List.map_cons, List.map_nil]); first | done | rfl | (simp only [List.length_drop, List.length_take]; rfl)) ?_; (with_reducible refine (spec_StaOk.calls k t514 t515 t516 _ _ t517 t520 true _ ?side1 ?side2 A15.out).mono ?_); (case side1 => repeat (first | exact (Kd.R_reads' HO519.out).2.2 | (with_reducible refine Kd.C_alloc ?_ _) | (with_reducible refine Kd.C_drewN ?_ _) | (with_reducible refine Kd.C_drew ?_))); (case side2 => exact (Kd.R_reads' HO519.out).2.1); rintro e w26 ⟨rfl, hb⟩; refine ⟨_, rfl, ?_⟩; have n0_ := Aside0.mk (Kd.R_below (by (with_reducible repeat (first | apply Kd.R_alloc | apply Kd.R_drewN | apply Kd.R_drew)); exact HO519.out) hb); have n1_ := Aside0.mk (blk_below (g := gb524) (o := .cells #[.int .i64 t514, .int .i64 t515, .int .i64 t516, .slice Ao11 t517.length co11, .int .i64 t520] 31 (0, 0)) (by (with_reducible repeat (first | refine blk_drewN ?_ _ | refine blk_drew ?_ | refine blk_alloc ?_ _)); exact BK524.out) hb); have n2_ := Aside0.mk (below_step (by repeat (first | (with_reducible first | exact HB.out | apply below_alloc | apply pw_below_drewN | apply below_drew1 | refine below_set ?_ GE524.out) | exact HB.out)) hb); clear HO519; clear BK524; clear HB; have HO519 := n0_; have BK524 := n1_; have HB := n2_; clear n0_ n1_ n2_; (try clear hb); (try clear hb2); (try clear hk); (try clear hi); have hcz27_0 : w26.cell? ⟨gb524, 0, none⟩ = some (.int .i64 t514) := (blk_cell BK524.out 0).trans rfl; have hcz27_1 : w26.cell? ⟨gb524, 1, none⟩ = some (.int .i64 t515) := (blk_cell BK524.out 1).trans rfl; have hcz27_2 : w26.cell? ⟨gb524, 2, none⟩ = some (.int .i64 t516) := (blk_cell BK524.out 2).trans rfl; have hcz27_3 : w26.cell? ⟨gb524, 3, none⟩ = some (.slice Ao11 t517.length co11) := (blk_cell BK524.out 3).trans rfl; have hcz27_4 : w26.cell? ⟨gb524, 4, none⟩ = some (.int .i64 t520) := (blk_cell BK524.out 4).trans rfl; have hfz27_0 := blk_frozen BK524.out 0; have hfz27_1 := blk_frozen BK524.out 1; have hfz27_2 := blk_frozen BK524.out 2; have hfz27_3 := blk_frozen BK524.out 3; have hfz27_4 := blk_frozen BK524.out 4))
                go_meet
                case rel => exact ⟨_, (true), (by first | rfl | (simp; done) | (simp [*]; done)), H', ⟨by first | omega | exact Nat.le_refl _⟩, ⟨by (with_reducible repeat (first | apply Kd.R_alloc | apply Kd.R_drewN | apply Kd.R_drew)); exact HO519.out⟩, ⟨by (with_reducible repeat (first | refine blk_drewN ?_ _ | refine blk_drew ?_ | refine blk_alloc ?_ _)); exact BK524.out⟩, ⟨by repeat (first | (with_reducible first | exact HB.out | apply below_alloc | apply pw_below_drewN | apply below_drew1 | refine below_set ?_ GE524.out) | exact HB.out)⟩⟩
              · rw [if_neg c24] at H
                have c24b0 : decide (t522 < 0) = false := decide_eq_false c24
                clear c24
                have H' := Aside0.mk H
                clear H
                have hcz28_0 : w14.cell? ⟨gb524, 0, none⟩ = some (.int .i64 t514) := (blk_cell BK524.out 0).trans rfl
                have hcz28_1 : w14.cell? ⟨gb524, 1, none⟩ = some (.int .i64 t515) := (blk_cell BK524.out 1).trans rfl
                have hcz28_2 : w14.cell? ⟨gb524, 2, none⟩ = some (.int .i64 t516) := (blk_cell BK524.out 2).trans rfl
                have hcz28_3 : w14.cell? ⟨gb524, 3, none⟩ = some (.slice Ao11 t517.length co11) := (blk_cell BK524.out 3).trans rfl
                have hcz28_4 : w14.cell? ⟨gb524, 4, none⟩ = some (.int .i64 t520) := (blk_cell BK524.out 4).trans rfl
                have hfz28_0 := blk_frozen BK524.out 0
                have hfz28_1 := blk_frozen BK524.out 1
                have hfz28_2 := blk_frozen BK524.out 2
                have hfz28_3 := blk_frozen BK524.out 3
                have hfz28_4 := blk_frozen BK524.out 4
                go_wp2_with (first | ((with_reducible refine gate_callee (f := 12) rfl ?_); refine goesL_ (some 33) rfl rfl Try.func12 (by kernel_rfl) rfl #[.agg #[.int .i64 t514, .int .i64 t515, .int .i64 t516, .slice Ao11 t517.length co11, .int .i64 t520]] rfl (by (try simp only [List.map_toArray, List.map_cons, List.map_nil]); first | done | rfl | (simp only [List.length_drop, List.length_take]; rfl)) ?_; (with_reducible refine (spec_StaOk.calls k t514 t515 t516 _ _ t517 t520 true _ ?side1 ?side2 A15.out).mono ?_); (case side1 => repeat (first | exact (Kd.R_reads' HO519.out).2.2 | (with_reducible refine Kd.C_alloc ?_ _) | (with_reducible refine Kd.C_drewN ?_ _) | (with_reducible refine Kd.C_drew ?_))); (case side2 => exact (Kd.R_reads' HO519.out).2.1); rintro e w29 ⟨rfl, hb⟩; refine ⟨_, rfl, ?_⟩; have n0_ := Aside0.mk (Kd.R_below (by (with_reducible repeat (first | apply Kd.R_alloc | apply Kd.R_drewN | apply Kd.R_drew)); exact HO519.out) hb); have n1_ := Aside0.mk (blk_below (g := gb524) (o := .cells #[.int .i64 t514, .int .i64 t515, .int .i64 t516, .slice Ao11 t517.length co11, .int .i64 t520] 31 (0, 0)) (by (with_reducible repeat (first | refine blk_drewN ?_ _ | refine blk_drew ?_ | refine blk_alloc ?_ _)); exact BK524.out) hb); have n2_ := Aside0.mk (below_step (by repeat (first | (with_reducible first | exact HB.out | apply below_alloc | apply pw_below_drewN | apply below_drew1 | refine below_set ?_ GE524.out) | exact HB.out)) hb); clear HO519; clear BK524; clear HB; have HO519 := n0_; have BK524 := n1_; have HB := n2_; clear n0_ n1_ n2_; (try clear hb); (try clear hb2); (try clear hk); (try clear hi); have hcz30_0 : w29.cell? ⟨gb524, 0, none⟩ = some (.int .i64 t514) := (blk_cell BK524.out 0).trans rfl; have hcz30_1 : w29.cell? ⟨gb524, 1, none⟩ = some (.int .i64 t515) := (blk_cell BK524.out 1).trans rfl; have hcz30_2 : w29.cell? ⟨gb524, 2, none⟩ = some (.int .i64 t516) := (blk_cell BK524.out 2).trans rfl; have hcz30_3 : w29.cell? ⟨gb524, 3, none⟩ = some (.slice Ao11 t517.length co11) := (blk_cell BK524.out 3).trans rfl; have hcz30_4 : w29.cell? ⟨gb524, 4, none⟩ = some (.int .i64 t520) := (blk_cell BK524.out 4).trans rfl; have hfz30_0 := blk_frozen BK524.out 0; have hfz30_1 := blk_frozen BK524.out 1; have hfz30_2 := blk_frozen BK524.out 2; have hfz30_3 := blk_frozen BK524.out 3; have hfz30_4 := blk_frozen BK524.out 4))
                go_meet
                case rel => exact ⟨_, (decide (t522 ≥ 109573)), (by first | rfl | (simp; done) | (simp [*]; done)), H', ⟨by first | omega | exact Nat.le_refl _⟩, ⟨by (with_reducible repeat (first | apply Kd.R_alloc | apply Kd.R_drewN | apply Kd.R_drew)); exact HO519.out⟩, ⟨by (with_reducible repeat (first | refine blk_drewN ?_ _ | refine blk_drew ?_ | refine blk_alloc ?_ _)); exact BK524.out⟩, ⟨by repeat (first | (with_reducible first | exact HB.out | apply below_alloc | apply pw_below_drewN | apply below_drew1 | refine below_set ?_ GE524.out) | exact HB.out)⟩⟩
        · replace c16 := Bool.eq_false_iff.mpr c16
          subst c16
          have H1 : (laws_FnStaState.j0 k t521 t522 t523 t525 true t514 t515 t516 t517 t520) = some r := by rw [if_neg (show ¬ (false = true) by decide)] at H; exact H
          clear H
          have H := H1
          clear H1
          have H' := Aside0.mk H
          clear H
          have hcz31_0 : w14.cell? ⟨gb524, 0, none⟩ = some (.int .i64 t514) := (blk_cell BK524.out 0).trans rfl
          have hcz31_1 : w14.cell? ⟨gb524, 1, none⟩ = some (.int .i64 t515) := (blk_cell BK524.out 1).trans rfl
          have hcz31_2 : w14.cell? ⟨gb524, 2, none⟩ = some (.int .i64 t516) := (blk_cell BK524.out 2).trans rfl
          have hcz31_3 : w14.cell? ⟨gb524, 3, none⟩ = some (.slice Ao11 t517.length co11) := (blk_cell BK524.out 3).trans rfl
          have hcz31_4 : w14.cell? ⟨gb524, 4, none⟩ = some (.int .i64 t520) := (blk_cell BK524.out 4).trans rfl
          have hfz31_0 := blk_frozen BK524.out 0
          have hfz31_1 := blk_frozen BK524.out 1
          have hfz31_2 := blk_frozen BK524.out 2
          have hfz31_3 := blk_frozen BK524.out 3
          have hfz31_4 := blk_frozen BK524.out 4
          go_wp2_with (first | ((with_reducible refine gate_callee (f := 12) rfl ?_); refine goesL_ (some 33) rfl rfl Try.func12 (by kernel_rfl) rfl #[.agg #[.int .i64 t514, .int .i64 t515, .int .i64 t516, .slice Ao11 t517.length co11, .int .i64 t520]] rfl (by (try simp only [List.map_toArray, List.map_cons, List.map_nil]); first | done | rfl | (simp only [List.length_drop, List.length_take]; rfl)) ?_; (with_reducible refine (spec_StaOk.calls k t514 t515 t516 _ _ t517 t520 false _ ?side1 ?side2 A15.out).mono ?_); (case side1 => repeat (first | exact (Kd.R_reads' HO519.out).2.2 | (with_reducible refine Kd.C_alloc ?_ _) | (with_reducible refine Kd.C_drewN ?_ _) | (with_reducible refine Kd.C_drew ?_))); (case side2 => exact (Kd.R_reads' HO519.out).2.1); rintro e w32 ⟨rfl, hb⟩; refine ⟨_, rfl, ?_⟩; have n0_ := Aside0.mk (Kd.R_below (by (with_reducible repeat (first | apply Kd.R_alloc | apply Kd.R_drewN | apply Kd.R_drew)); exact HO519.out) hb); have n1_ := Aside0.mk (blk_below (g := gb524) (o := .cells #[.int .i64 t514, .int .i64 t515, .int .i64 t516, .slice Ao11 t517.length co11, .int .i64 t520] 31 (0, 0)) (by (with_reducible repeat (first | refine blk_drewN ?_ _ | refine blk_drew ?_ | refine blk_alloc ?_ _)); exact BK524.out) hb); have n2_ := Aside0.mk (below_step (by repeat (first | (with_reducible first | exact HB.out | apply below_alloc | apply pw_below_drewN | apply below_drew1 | refine below_set ?_ GE524.out) | exact HB.out)) hb); clear HO519; clear BK524; clear HB; have HO519 := n0_; have BK524 := n1_; have HB := n2_; clear n0_ n1_ n2_; (try clear hb); (try clear hb2); (try clear hk); (try clear hi)))
          go_meet
          case rel => exact ⟨_, (true), (by first | rfl | (simp; done) | (simp [*]; done)), H', ⟨by first | omega | exact Nat.le_refl _⟩, ⟨by (with_reducible repeat (first | apply Kd.R_alloc | apply Kd.R_drewN | apply Kd.R_drew)); exact HO519.out⟩, ⟨by (with_reducible repeat (first | refine blk_drewN ?_ _ | refine blk_drew ?_ | refine blk_alloc ?_ _)); exact BK524.out⟩, ⟨by repeat (first | (with_reducible first | exact HB.out | apply below_alloc | apply pw_below_drewN | apply below_drew1 | refine below_set ?_ GE524.out) | exact HB.out)⟩⟩
      case rest =>
        clear HC7
        try clear c1
        try clear c2
        try clear c2b0
        try clear c2b1
        try clear p2
        try clear c6
        try clear c6b0
        try clear c6b1
        try clear c7
        try clear c12
        try clear c16
        try clear c17
        try clear c17b0
        try clear c20
        try clear c20b0
        try clear c23
        try clear c24
        try clear c24b0
        try clear c29
        try clear hcz10_0
        try clear hcz10_1
        try clear hcz10_2
        try clear hcz10_3
        try clear hcz10_4
        try clear hcz13_0
        try clear hcz13_1
        try clear hcz13_2
        try clear hcz13_3
        try clear hcz13_4
        try clear hcz18_0
        try clear hcz18_1
        try clear hcz18_2
        try clear hcz18_3
        try clear hcz18_4
        try clear hcz21_0
        try clear hcz21_1
        try clear hcz21_2
        try clear hcz21_3
        try clear hcz21_4
        try clear hcz23_0
        try clear hcz23_1
        try clear hcz23_2
        try clear hcz23_3
        try clear hcz23_4
        try clear hcz25_0
        try clear hcz25_1
        try clear hcz25_2
        try clear hcz25_3
        try clear hcz25_4
        try clear hcz27_0
        try clear hcz27_1
        try clear hcz27_2
        try clear hcz27_3
        try clear hcz27_4
        try clear hcz28_0
        try clear hcz28_1
        try clear hcz28_2
        try clear hcz28_3
        try clear hcz28_4
        try clear hcz30_0
        try clear hcz30_1
        try clear hcz30_2
        try clear hcz30_3
        try clear hcz30_4
        try clear hcz31_0
        try clear hcz31_1
        try clear hcz31_2
        try clear hcz31_3
        try clear hcz31_4
        try clear hfz10_0
        try clear hfz10_1
        try clear hfz10_2
        try clear hfz10_3
        try clear hfz10_4
        try clear hfz13_0
        try clear hfz13_1
        try clear hfz13_2
        try clear hfz13_3
        try clear hfz13_4
        try clear hfz18_0
        try clear hfz18_1
        try clear hfz18_2
        try clear hfz18_3
        try clear hfz18_4
        try clear hfz21_0
        try clear hfz21_1
        try clear hfz21_2
        try clear hfz21_3
        try clear hfz21_4
        try clear hfz23_0
        try clear hfz23_1
        try clear hfz23_2
        try clear hfz23_3
        try clear hfz23_4
        try clear hfz25_0
        try clear hfz25_1
        try clear hfz25_2
        try clear hfz25_3
        try clear hfz25_4
        try clear hfz27_0
        try clear hfz27_1
        try clear hfz27_2
        try clear hfz27_3
        try clear hfz27_4
        try clear hfz28_0
        try clear hfz28_1
        try clear hfz28_2
        try clear hfz28_3
        try clear hfz28_4
        try clear hfz30_0
        try clear hfz30_1
        try clear hfz30_2
        try clear hfz30_3
        try clear hfz30_4
        try clear hfz31_0
        try clear hfz31_1
        try clear hfz31_2
        try clear hfz31_3
        try clear hfz31_4
        obtain ⟨kq, x53_6, rfl, HA, HJ6, HO_525003, BK524, HB⟩ := hcut
        cases kq with
        | zero => exact absurd HA.out (by simp [laws_FnStaState.j0])
        | succ kj6 =>
          have H := HA.out
          clear HA
          simp only [laws_FnStaState.j0] at H
          by_cases c33 : x53_6 = true
          · subst c33
            have H1 : (if t525 = 0 then ((laws_cuOk.f).bind fun t528 => (some t528)) else (some false)) = some r := by rw [if_pos rfl] at H; exact H
            clear H
            have H := H1
            clear H1
            by_cases c34 : t525 = 0
            · rw [if_pos c34] at H
              have c34b0 : (t525 == 0) = true := beq_iff_eq.mpr c34
              have c34b1 : (t525 != 0) = false := bne_eq_false_iff_eq.mpr c34
              clear c34
              replace H := Option.bind_eq_some_iff.mp H
              obtain ⟨t528, A350, H⟩ := H
              replace H : (some t528) = some r := H
              have A35 := Aside0.mk A350
              clear A350
              obtain rfl := Option.some.inj H
              go_wp2_with (first | (go_at_call 19; (with_reducible refine (laws_cuOk.calls  t528 _ A35.out).mono ?_); rintro e w36 ⟨rfl, hb⟩; have n0_ := Aside0.mk (Kd.R_below (by (with_reducible repeat (first | apply Kd.R_alloc | apply Kd.R_drewN | apply Kd.R_drew)); exact HO_525003.out) hb); have n1_ := Aside0.mk (blk_below (g := gb524) (o := .cells #[.int .i64 t514, .int .i64 t515, .int .i64 t516, .slice Ao11 t517.length co11, .int .i64 t520] 31 (0, 0)) (by (with_reducible repeat (first | refine blk_drewN ?_ _ | refine blk_drew ?_ | refine blk_alloc ?_ _)); exact BK524.out) hb); have n2_ := Aside0.mk (below_step (by repeat (first | (with_reducible first | exact HB.out | apply below_alloc | apply pw_below_drewN | apply below_drew1 | refine below_set ?_ GE524.out) | exact HB.out)) hb); clear HO_525003; clear BK524; clear HB; have HO_525003 := n0_; have BK524 := n1_; have HB := n2_; clear n0_ n1_ n2_; (try clear hb); (try clear hb2); (try clear hk); (try clear hi)))
              go_ret
              exact ⟨by first | rfl | (simp [errW_none, errW_some] <;> rfl) | (simp [*, errW_none, errW_some] <;> rfl), by repeat (first | (with_reducible first | exact HB.out | apply below_alloc | apply pw_below_drewN | apply below_drew1 | refine below_set ?_ GE524.out) | exact HB.out)⟩
            · rw [if_neg c34] at H
              have c34b0 : (t525 == 0) = false := beq_eq_false_iff_ne.mpr c34
              have c34b1 : (t525 != 0) = true := bne_iff_ne.mpr c34
              obtain rfl := Option.some.inj H
              go_wp2
              go_ret
              exact ⟨by first | rfl | (simp [errW_none, errW_some] <;> rfl) | (simp [*, errW_none, errW_some] <;> rfl), by repeat (first | (with_reducible first | exact HB.out | apply below_alloc | apply pw_below_drewN | apply below_drew1 | refine below_set ?_ GE524.out) | exact HB.out)⟩
          · replace c33 := Bool.eq_false_iff.mpr c33
            subst c33
            have H1 : (if 0 ≤ t521 then (if t521 < (t517.length : Int) then ((impl_DayPlus.f kj6 t514 t515 t516 (rd t517 t521)).bind fun bt530 => ((impl_DayNum.f kj6 bt530.1 bt530.2.1 bt530.2.2).bind fun t533 => (if t523 ≥ (wrap64 (t533 - t520)) then (if t523 ≤ (wrap64 (t533 + t520)) then (laws_FnStaState.j1 kj6 t522 t525 t533 (decide (t523 ≤ t522)) t514 t515 t516 t517 t520) else (laws_FnStaState.j1 kj6 t522 t525 t533 false t514 t515 t516 t517 t520)) else (laws_FnStaState.j1 kj6 t522 t525 t533 false t514 t515 t516 t517 t520)))) else (none)) else (none)) = some r := by rw [if_neg (show ¬ (false = true) by decide)] at H; exact H
            clear H
            have H := H1
            clear H1
            by_cases c37 : 0 ≤ t521
            · rw [if_pos c37] at H
              have c37b0 : decide (0 ≤ t521) = true := decide_eq_true c37
              clear c37
              by_cases c38 : t521 < (t517.length : Int)
              · rw [if_pos c38] at H
                have c38b0 : decide (t521 < (t517.length : Int)) = true := decide_eq_true c38
                clear c38
                replace H := Option.bind_eq_some_iff.mp H
                obtain ⟨⟨t530, t531, t532⟩, A390, H⟩ := H
                replace H : ((impl_DayNum.f kj6 t530 t531 t532).bind fun t533 => (if t523 ≥ (wrap64 (t533 - t520)) then (if t523 ≤ (wrap64 (t533 + t520)) then (laws_FnStaState.j1 kj6 t522 t525 t533 (decide (t523 ≤ t522)) t514 t515 t516 t517 t520) else (laws_FnStaState.j1 kj6 t522 t525 t533 false t514 t515 t516 t517 t520)) else (laws_FnStaState.j1 kj6 t522 t525 t533 false t514 t515 t516 t517 t520))) = some r := H
                have A39 := Aside0.mk A390
                clear A390
                replace H := Option.bind_eq_some_iff.mp H
                obtain ⟨t533, A400, H⟩ := H
                replace H : (if t523 ≥ (wrap64 (t533 - t520)) then (if t523 ≤ (wrap64 (t533 + t520)) then (laws_FnStaState.j1 kj6 t522 t525 t533 (decide (t523 ≤ t522)) t514 t515 t516 t517 t520) else (laws_FnStaState.j1 kj6 t522 t525 t533 false t514 t515 t516 t517 t520)) else (laws_FnStaState.j1 kj6 t522 t525 t533 false t514 t515 t516 t517 t520)) = some r := H
                have A40 := Aside0.mk A400
                clear A400
                have HC41 := Aside0.mk H
                clear H
                try go_wp2
                have n0_ := Aside0.mk (Kd.R_drew HO_525003.out)
                have n1_ := Aside0.mk (blk_drew BK524.out)
                have n2_ := Aside0.mk (below_drew1 HB.out)
                clear HO_525003
                clear BK524
                clear HB
                have HO_525003 := n0_
                have BK524 := n1_
                have HB := n2_
                clear n0_ n1_ n2_
                have p529 : 0 ≤ (t521 : Int) := of_decide_eq_true (by first | (with_reducible assumption) | assumption)
                have q529 : t521 < (t517.length : Int) := of_decide_eq_true (by first | (with_reducible assumption) | assumption)
                obtain ⟨ad529, e529, hx529_0⟩ := Kd.at_int (Kd.R_reads' HO_525003.out).2.2 t521 p529 q529
                cases e529
                replace p529 := eq_true p529
                replace q529 := eq_true q529
                refine start_ (n := 10) (S := fun w' => w'.cell? ⟨gb524, 0, none⟩ = some (.int .i64 t514) ∧ w'.cell? ⟨gb524, 1, none⟩ = some (.int .i64 t515) ∧ w'.cell? ⟨gb524, 2, none⟩ = some (.int .i64 t516) ∧ w'.cell? ⟨gb524, 3, none⟩ = some (.slice (some ad529) t517.length co11) ∧ w'.cell? ⟨gb524, 4, none⟩ = some (.int .i64 t520) ∧ w'.cell? (ad529.add (t521).toNat) = some (.int .i64 (rd t517 t521))) (ds := []) #[false, false, false, false, false, false, false, false, false, false] (by kernel_rfl) rfl rfl ⟨(blk_cell BK524.out 0).trans rfl, (blk_cell BK524.out 1).trans rfl, (blk_cell BK524.out 2).trans rfl, (blk_cell BK524.out 3).trans rfl, (blk_cell BK524.out 4).trans rfl, hx529_0⟩ (fun hHeld => ?_); refine with_tabW laws_FnStaState.tab9 laws_FnStaState.bits9 (fun HT_ HW_ => ?_)
                generalize wc.drew = w42 at HO_525003 BK524 HB hx529_0 hHeld ⊢
                refine pure_ (i := 0) (N := some 59) (v := ?_) (a' := ?_) #[true, false, false, false, false, false, false, false, false, false] rfl rfl (any_of HT_.out (by kernel_rfl)) (fun _ _ _ h => h) (Or.inl ⟨by rfl, ?_⟩) ?_ ?_
                rotate_left
                · intro w'
                  go_simp
                  with_reducible rfl
                rotate_left
                · simp only [Act.put, List.setIfInBounds_toArray, List.set_cons_zero, List.set_cons_succ, i64_w, i32_w]
                  rfl
                refine pure_ (i := 2) (N := some 61) (v := ?_) (a' := ?_) #[true, false, true, false, false, false, false, false, false, false] rfl rfl (any_of HT_.out (by kernel_rfl)) (fun _ _ _ h => h) (Or.inl ⟨by rfl, ?_⟩) ?_ ?_
                rotate_left
                · intro w'
                  go_simp
                  with_reducible rfl
                rotate_left
                · simp only [Act.put, List.setIfInBounds_toArray, List.set_cons_zero, List.set_cons_succ, i64_w, i32_w]
                  rfl
                refine pure_ (i := 4) (N := some 63) (v := ?_) (a' := ?_) #[true, false, true, false, true, false, false, false, false, false] rfl rfl (any_of HT_.out (by kernel_rfl)) (fun _ _ _ h => h) (Or.inl ⟨by rfl, ?_⟩) ?_ ?_
                rotate_left
                · intro w'
                  go_simp
                  with_reducible rfl
                rotate_left
                · simp only [Act.put, List.setIfInBounds_toArray, List.set_cons_zero, List.set_cons_succ, i64_w, i32_w]
                  rfl
                refine take_ (i := 1) (N := some 60) (v := ?_) (a' := ?_) #[true, true, true, false, true, false, false, false, false, false] rfl rfl (take_ofW HT_.out HW_.out (by kernel_rfl)) (fun _ _ _ h => h) (Or.inl ⟨by rfl, ?_⟩) hHeld ?_ ?_
                rotate_left
                · rintro w' ⟨s0, s1, s2, s3, s4, s5⟩
                  go_simp
                  with_reducible rfl
                rotate_left
                · simp only [Act.put, List.setIfInBounds_toArray, List.set_cons_zero, List.set_cons_succ, i64_w, i32_w]
                  rfl
                refine take_ (i := 3) (N := some 62) (v := ?_) (a' := ?_) #[true, true, true, true, true, false, false, false, false, false] rfl rfl (take_ofW HT_.out HW_.out (by kernel_rfl)) (fun _ _ _ h => h) (Or.inl ⟨by rfl, ?_⟩) hHeld ?_ ?_
                rotate_left
                · rintro w' ⟨s0, s1, s2, s3, s4, s5⟩
                  go_simp
                  with_reducible rfl
                rotate_left
                · simp only [Act.put, List.setIfInBounds_toArray, List.set_cons_zero, List.set_cons_succ, i64_w, i32_w]
                  rfl
                refine pure_ (i := 5) (N := some 64) (v := ?_) (a' := ?_) #[true, true, true, true, true, true, false, false, false, false] rfl rfl (any_of HT_.out (by kernel_rfl)) (fun _ _ _ h => h) (Or.inl ⟨by rfl, ?_⟩) ?_ ?_
                rotate_left
                · intro w'
                  go_simp
                  with_reducible rfl
                rotate_left
                · simp only [Act.put, List.setIfInBounds_toArray, List.set_cons_zero, List.set_cons_succ, i64_w, i32_w]
                  rfl
                refine take_ (i := 6) (N := some 65) (v := ?_) (a' := ?_) #[true, true, true, true, true, true, true, false, false, false] rfl rfl (take_ofW HT_.out HW_.out (by kernel_rfl)) (fun _ _ _ h => h) (Or.inl ⟨by rfl, ?_⟩) hHeld ?_ ?_
                rotate_left
                · rintro w' ⟨s0, s1, s2, s3, s4, s5⟩
                  go_simp
                  with_reducible rfl
                rotate_left
                · simp only [Act.put, List.setIfInBounds_toArray, List.set_cons_zero, List.set_cons_succ, i64_w, i32_w]
                  rfl
                refine one_ (i := 7) (N := some 66) #[true, true, true, true, true, true, true, true, false, false] rfl rfl (one_of HT_.out (by kernel_rfl)) (by decide) (fun K hK => ?_)
                refine goes_ Try.func20 (by kernel_rfl) rfl #[.agg #[.int .i64 t514, .int .i64 t515, .int .i64 t516], .int .i64 (rd t517 t521)] (by rfl) rfl rfl (by (try simp only [List.map_toArray, List.map_cons, List.map_nil]); first | done | rfl | (simp only [List.length_drop, List.length_take]; rfl)) ?_
                with_reducible refine (impl_DayPlus.calls kj6 t514 t515 t516 (rd t517 t521) t530 t531 t532 _ A39.out).mono ?_
                rintro e w43 ⟨rfl, hb⟩
                have HS5_ := (hb.cell (World.block_lt_of_cell? _ _ (hHeld.2.2.2.2.2))).trans (hHeld.2.2.2.2.2)
                refine ⟨_, rfl, ?_⟩
                have n0_ := Aside0.mk (Kd.R_below (by (with_reducible repeat (first | apply Kd.R_alloc | apply Kd.R_drewN | apply Kd.R_drew)); exact HO_525003.out) hb)
                have n1_ := Aside0.mk (blk_below (g := gb524) (o := .cells #[.int .i64 t514, .int .i64 t515, .int .i64 t516, .slice (some ad529) t517.length co11, .int .i64 t520] 31 (0, 0)) (by (with_reducible repeat (first | refine blk_drewN ?_ _ | refine blk_drew ?_ | refine blk_alloc ?_ _)); exact BK524.out) hb)
                have n2_ := Aside0.mk (below_step (by repeat (first | (with_reducible first | exact HB.out | apply below_alloc | apply pw_below_drewN | apply below_drew1 | refine below_set ?_ GE524.out) | exact HB.out)) hb)
                clear HO_525003
                clear BK524
                clear HB
                have HO_525003 := n0_
                have BK524 := n1_
                have HB := n2_
                clear n0_ n1_ n2_
                (try clear hb)
                (try clear hb2)
                (try clear hk)
                (try clear hi)
                refine hK.out _ _ ⟨(blk_cell BK524.out 0).trans rfl, (blk_cell BK524.out 1).trans rfl, (blk_cell BK524.out 2).trans rfl, (blk_cell BK524.out 3).trans rfl, (blk_cell BK524.out 4).trans rfl, HS5_⟩ (fun hHeld => ?_)
                clear hK K
                refine norm_ (a' := ?_) ?_ ?_
                rotate_left
                · show Act.put _ (some 66) _ = _
                  simp only [Act.put, List.setIfInBounds_toArray, List.set_cons_zero, List.set_cons_succ, i64_w, i32_w]
                  rfl
                refine one_ (i := 8) (N := some 67) #[true, true, true, true, true, true, true, true, true, false] rfl rfl (one_of HT_.out (by kernel_rfl)) (by decide) (fun K hK => ?_)
                refine goes_ Try.func22 (by kernel_rfl) rfl #[.agg #[.int .i64 t530, .int .i64 t531, .int .i64 t532]] (by rfl) rfl rfl (by (try simp only [List.map_toArray, List.map_cons, List.map_nil]); first | done | rfl | (simp only [List.length_drop, List.length_take]; rfl)) ?_
                with_reducible refine (impl_DayNum.calls kj6 t530 t531 t532 t533 _ A40.out).mono ?_
                rintro e w44 ⟨rfl, hb⟩
                have HS5_ := (hb.cell (World.block_lt_of_cell? _ _ (hHeld.2.2.2.2.2))).trans (hHeld.2.2.2.2.2)
                refine ⟨_, rfl, ?_⟩
                have n0_ := Aside0.mk (Kd.R_below (by (with_reducible repeat (first | apply Kd.R_alloc | apply Kd.R_drewN | apply Kd.R_drew)); exact HO_525003.out) hb)
                have n1_ := Aside0.mk (blk_below (g := gb524) (o := .cells #[.int .i64 t514, .int .i64 t515, .int .i64 t516, .slice (some ad529) t517.length co11, .int .i64 t520] 31 (0, 0)) (by (with_reducible repeat (first | refine blk_drewN ?_ _ | refine blk_drew ?_ | refine blk_alloc ?_ _)); exact BK524.out) hb)
                have n2_ := Aside0.mk (below_step (by repeat (first | (with_reducible first | exact HB.out | apply below_alloc | apply pw_below_drewN | apply below_drew1 | refine below_set ?_ GE524.out) | exact HB.out)) hb)
                clear HO_525003
                clear BK524
                clear HB
                have HO_525003 := n0_
                have BK524 := n1_
                have HB := n2_
                clear n0_ n1_ n2_
                (try clear hb)
                (try clear hb2)
                (try clear hk)
                (try clear hi)
                refine hK.out _ _ ⟨(blk_cell BK524.out 0).trans rfl, (blk_cell BK524.out 1).trans rfl, (blk_cell BK524.out 2).trans rfl, (blk_cell BK524.out 3).trans rfl, (blk_cell BK524.out 4).trans rfl, HS5_⟩ (fun hHeld => ?_)
                clear hK K
                refine norm_ (a' := ?_) ?_ ?_
                rotate_left
                · show Act.put _ (some 67) _ = _
                  simp only [Act.put, List.setIfInBounds_toArray, List.set_cons_zero, List.set_cons_succ, i64_w, i32_w]
                  rfl
                refine pure_ (i := 9) (N := some 8) (v := ?_) (a' := ?_) #[true, true, true, true, true, true, true, true, true, true] rfl rfl (any_of HT_.out (by kernel_rfl)) (fun _ _ _ h => h) (Or.inl ⟨by rfl, ?_⟩) ?_ ?_
                rotate_left
                · intro w'
                  go_simp
                  with_reducible rfl
                rotate_left
                · simp only [Act.put, List.setIfInBounds_toArray, List.set_cons_zero, List.set_cons_succ, i64_w, i32_w]
                  rfl
                refine done_ (done_of HT_.out (by kernel_rfl)) ?_
                go_upto_region 10 with (fail)
                go_cut [9] (fun v9 wc => ∃ (kq : Nat) (x9_40 : Bool), v9 = .bool x9_40 ∧ Aside0 (laws_FnStaState.j1 kq t522 t525 t533 x9_40 t514 t515 t516 t517 t520 = some r) ∧ Aside0 (kq ≤ kj6) ∧ Aside0 (Kd.R (Kd.int .i64) 3 wc w.heap.size (fun _ => True) (.slice (some ad529) t517.length co11) t517) ∧ Aside0 (wc.heap[gb524]? = some (.cells #[.int .i64 t514, .int .i64 t515, .int .i64 t516, (.slice (some ad529) t517.length co11), .int .i64 t520] 31 (0, 0))) ∧ Aside0 (Below w.heap.size w wc))
                case first =>
                  have H := HC41.out
                  clear HC41
                  by_cases c45 : t523 ≥ (wrap64 (t533 - t520))
                  · rw [if_pos c45] at H
                    have c45b0 : decide ((wrap64 (t533 - t520)) ≤ t523) = true := decide_eq_true c45
                    clear c45
                    (first | rw [c45b0] | (simp only [i64_w, i32_w]; rw [c45b0]) | skip)
                    by_cases c46 : t523 ≤ (wrap64 (t533 + t520))
                    · rw [if_pos c46] at H
                      have c46b0 : decide (t523 ≤ (wrap64 (t533 + t520))) = true := decide_eq_true c46
                      clear c46
                      have H' := Aside0.mk H
                      clear H
                      have hcz47_0 : w44.cell? ⟨gb524, 0, none⟩ = some (.int .i64 t514) := (blk_cell BK524.out 0).trans rfl
                      have hcz47_1 : w44.cell? ⟨gb524, 1, none⟩ = some (.int .i64 t515) := (blk_cell BK524.out 1).trans rfl
                      have hcz47_2 : w44.cell? ⟨gb524, 2, none⟩ = some (.int .i64 t516) := (blk_cell BK524.out 2).trans rfl
                      have hcz47_3 : w44.cell? ⟨gb524, 3, none⟩ = some (.slice (some ad529) t517.length co11) := (blk_cell BK524.out 3).trans rfl
                      have hcz47_4 : w44.cell? ⟨gb524, 4, none⟩ = some (.int .i64 t520) := (blk_cell BK524.out 4).trans rfl
                      have hfz47_0 := blk_frozen BK524.out 0
                      have hfz47_1 := blk_frozen BK524.out 1
                      have hfz47_2 := blk_frozen BK524.out 2
                      have hfz47_3 := blk_frozen BK524.out 3
                      have hfz47_4 := blk_frozen BK524.out 4
                      go_wp2
                      go_meet
                      case rel => exact ⟨_, (decide (t523 ≤ t522)), (by first | rfl | (simp; done) | (simp [*]; done)), H', ⟨by have := HJ6.out; first | omega | exact Nat.le_refl _⟩, ⟨by (with_reducible repeat (first | apply Kd.R_alloc | apply Kd.R_drewN | apply Kd.R_drew)); exact HO_525003.out⟩, ⟨by (with_reducible repeat (first | refine blk_drewN ?_ _ | refine blk_drew ?_ | refine blk_alloc ?_ _)); exact BK524.out⟩, ⟨by repeat (first | (with_reducible first | exact HB.out | apply below_alloc | apply pw_below_drewN | apply below_drew1 | refine below_set ?_ GE524.out) | exact HB.out)⟩⟩
                    · rw [if_neg c46] at H
                      have c46b0 : decide (t523 ≤ (wrap64 (t533 + t520))) = false := decide_eq_false c46
                      clear c46
                      have H' := Aside0.mk H
                      clear H
                      have hcz48_0 : w44.cell? ⟨gb524, 0, none⟩ = some (.int .i64 t514) := (blk_cell BK524.out 0).trans rfl
                      have hcz48_1 : w44.cell? ⟨gb524, 1, none⟩ = some (.int .i64 t515) := (blk_cell BK524.out 1).trans rfl
                      have hcz48_2 : w44.cell? ⟨gb524, 2, none⟩ = some (.int .i64 t516) := (blk_cell BK524.out 2).trans rfl
                      have hcz48_3 : w44.cell? ⟨gb524, 3, none⟩ = some (.slice (some ad529) t517.length co11) := (blk_cell BK524.out 3).trans rfl
                      have hcz48_4 : w44.cell? ⟨gb524, 4, none⟩ = some (.int .i64 t520) := (blk_cell BK524.out 4).trans rfl
                      have hfz48_0 := blk_frozen BK524.out 0
                      have hfz48_1 := blk_frozen BK524.out 1
                      have hfz48_2 := blk_frozen BK524.out 2
                      have hfz48_3 := blk_frozen BK524.out 3
                      have hfz48_4 := blk_frozen BK524.out 4
                      go_wp2
                      go_meet
                      case rel => exact ⟨_, (false), (by first | rfl | (simp; done) | (simp [*]; done)), H', ⟨by have := HJ6.out; first | omega | exact Nat.le_refl _⟩, ⟨by (with_reducible repeat (first | apply Kd.R_alloc | apply Kd.R_drewN | apply Kd.R_drew)); exact HO_525003.out⟩, ⟨by (with_reducible repeat (first | refine blk_drewN ?_ _ | refine blk_drew ?_ | refine blk_alloc ?_ _)); exact BK524.out⟩, ⟨by repeat (first | (with_reducible first | exact HB.out | apply below_alloc | apply pw_below_drewN | apply below_drew1 | refine below_set ?_ GE524.out) | exact HB.out)⟩⟩
                  · rw [if_neg c45] at H
                    have c45b0 : decide ((wrap64 (t533 - t520)) ≤ t523) = false := decide_eq_false c45
                    clear c45
                    (first | rw [c45b0] | (simp only [i64_w, i32_w]; rw [c45b0]) | skip)
                    have H' := Aside0.mk H
                    clear H
                    have hcz49_0 : w44.cell? ⟨gb524, 0, none⟩ = some (.int .i64 t514) := (blk_cell BK524.out 0).trans rfl
                    have hcz49_1 : w44.cell? ⟨gb524, 1, none⟩ = some (.int .i64 t515) := (blk_cell BK524.out 1).trans rfl
                    have hcz49_2 : w44.cell? ⟨gb524, 2, none⟩ = some (.int .i64 t516) := (blk_cell BK524.out 2).trans rfl
                    have hcz49_3 : w44.cell? ⟨gb524, 3, none⟩ = some (.slice (some ad529) t517.length co11) := (blk_cell BK524.out 3).trans rfl
                    have hcz49_4 : w44.cell? ⟨gb524, 4, none⟩ = some (.int .i64 t520) := (blk_cell BK524.out 4).trans rfl
                    have hfz49_0 := blk_frozen BK524.out 0
                    have hfz49_1 := blk_frozen BK524.out 1
                    have hfz49_2 := blk_frozen BK524.out 2
                    have hfz49_3 := blk_frozen BK524.out 3
                    have hfz49_4 := blk_frozen BK524.out 4
                    go_wp2
                    go_meet
                    case rel => exact ⟨_, (false), (by first | rfl | (simp; done) | (simp [*]; done)), H', ⟨by have := HJ6.out; first | omega | exact Nat.le_refl _⟩, ⟨by (with_reducible repeat (first | apply Kd.R_alloc | apply Kd.R_drewN | apply Kd.R_drew)); exact HO_525003.out⟩, ⟨by (with_reducible repeat (first | refine blk_drewN ?_ _ | refine blk_drew ?_ | refine blk_alloc ?_ _)); exact BK524.out⟩, ⟨by repeat (first | (with_reducible first | exact HB.out | apply below_alloc | apply pw_below_drewN | apply below_drew1 | refine below_set ?_ GE524.out) | exact HB.out)⟩⟩
                case rest =>
                  clear HC41
                  try clear c1
                  try clear c2
                  try clear c2b0
                  try clear c2b1
                  try clear p2
                  try clear c3
                  try clear c4
                  try clear p5
                  try clear q5
                  try clear hx5
                  try clear c6
                  try clear c6b0
                  try clear c6b1
                  try clear p6
                  try clear c7
                  try clear c12
                  try clear c16
                  try clear c17
                  try clear c17b0
                  try clear c20
                  try clear c20b0
                  try clear c22
                  try clear c23
                  try clear c24
                  try clear c24b0
                  try clear c29
                  try clear c33
                  try clear c34
                  try clear c34b0
                  try clear c34b1
                  try clear c37
                  try clear c37b0
                  try clear c38
                  try clear c38b0
                  try clear c45
                  try clear c45b0
                  try clear c46
                  try clear c46b0
                  try clear hcz10_0
                  try clear hcz10_1
                  try clear hcz10_2
                  try clear hcz10_3
                  try clear hcz10_4
                  try clear hcz13_0
                  try clear hcz13_1
                  try clear hcz13_2
                  try clear hcz13_3
                  try clear hcz13_4
                  try clear hcz18_0
                  try clear hcz18_1
                  try clear hcz18_2
                  try clear hcz18_3
                  try clear hcz18_4
                  try clear hcz21_0
                  try clear hcz21_1
                  try clear hcz21_2
                  try clear hcz21_3
                  try clear hcz21_4
                  try clear hcz23_0
                  try clear hcz23_1
                  try clear hcz23_2
                  try clear hcz23_3
                  try clear hcz23_4
                  try clear hcz25_0
                  try clear hcz25_1
                  try clear hcz25_2
                  try clear hcz25_3
                  try clear hcz25_4
                  try clear hcz27_0
                  try clear hcz27_1
                  try clear hcz27_2
                  try clear hcz27_3
                  try clear hcz27_4
                  try clear hcz28_0
                  try clear hcz28_1
                  try clear hcz28_2
                  try clear hcz28_3
                  try clear hcz28_4
                  try clear hcz30_0
                  try clear hcz30_1
                  try clear hcz30_2
                  try clear hcz30_3
                  try clear hcz30_4
                  try clear hcz31_0
                  try clear hcz31_1
                  try clear hcz31_2
                  try clear hcz31_3
                  try clear hcz31_4
                  try clear hcz47_0
                  try clear hcz47_1
                  try clear hcz47_2
                  try clear hcz47_3
                  try clear hcz47_4
                  try clear hcz48_0
                  try clear hcz48_1
                  try clear hcz48_2
                  try clear hcz48_3
                  try clear hcz48_4
                  try clear hcz49_0
                  try clear hcz49_1
                  try clear hcz49_2
                  try clear hcz49_3
                  try clear hcz49_4
                  try clear hfz10_0
                  try clear hfz10_1
                  try clear hfz10_2
                  try clear hfz10_3
                  try clear hfz10_4
                  try clear hfz13_0
                  try clear hfz13_1
                  try clear hfz13_2
                  try clear hfz13_3
                  try clear hfz13_4
                  try clear hfz18_0
                  try clear hfz18_1
                  try clear hfz18_2
                  try clear hfz18_3
                  try clear hfz18_4
                  try clear hfz21_0
                  try clear hfz21_1
                  try clear hfz21_2
                  try clear hfz21_3
                  try clear hfz21_4
                  try clear hfz23_0
                  try clear hfz23_1
                  try clear hfz23_2
                  try clear hfz23_3
                  try clear hfz23_4
                  try clear hfz25_0
                  try clear hfz25_1
                  try clear hfz25_2
                  try clear hfz25_3
                  try clear hfz25_4
                  try clear hfz27_0
                  try clear hfz27_1
                  try clear hfz27_2
                  try clear hfz27_3
                  try clear hfz27_4
                  try clear hfz28_0
                  try clear hfz28_1
                  try clear hfz28_2
                  try clear hfz28_3
                  try clear hfz28_4
                  try clear hfz30_0
                  try clear hfz30_1
                  try clear hfz30_2
                  try clear hfz30_3
                  try clear hfz30_4
                  try clear hfz31_0
                  try clear hfz31_1
                  try clear hfz31_2
                  try clear hfz31_3
                  try clear hfz31_4
                  try clear hfz47_0
                  try clear hfz47_1
                  try clear hfz47_2
                  try clear hfz47_3
                  try clear hfz47_4
                  try clear hfz48_0
                  try clear hfz48_1
                  try clear hfz48_2
                  try clear hfz48_3
                  try clear hfz48_4
                  try clear hfz49_0
                  try clear hfz49_1
                  try clear hfz49_2
                  try clear hfz49_3
                  try clear hfz49_4
                  try clear hx529_0
                  try clear p2
                  try clear p529
                  try clear q529
                  obtain ⟨kq, x9_40, rfl, HA, HJ40, HO_525003, BK524, HB⟩ := hcut
                  cases kq with
                  | zero => exact absurd HA.out (by simp [laws_FnStaState.j1])
                  | succ kj40 =>
                    have H := HA.out
                    clear HA
                    simp only [laws_FnStaState.j1] at H
                    by_cases c50 : x9_40 = true
                    · subst c50
                      have H1 : (some (t525 == 3)) = some r := by rw [if_pos rfl] at H; exact H
                      clear H
                      have H := H1
                      clear H1
                      obtain rfl := Option.some.inj H
                      go_wp2
                      go_ret
                      exact ⟨by first | rfl | (simp [errW_none, errW_some] <;> rfl) | (simp [*, errW_none, errW_some] <;> rfl), by repeat (first | (with_reducible first | exact HB.out | apply below_alloc | apply pw_below_drewN | apply below_drew1 | refine below_set ?_ GE524.out) | exact HB.out)⟩
                    · replace c50 := Bool.eq_false_iff.mpr c50
                      subst c50
                      have H1 : (if t522 < (wrap64 (t533 - t520)) then (some (t525 == 1)) else (if t522 ≤ (wrap64 (t533 + t520)) then (some (t525 == 2)) else (some (t525 == 4)))) = some r := by rw [if_neg (show ¬ (false = true) by decide)] at H; exact H
                      clear H
                      have H := H1
                      clear H1
                      by_cases c51 : t522 < (wrap64 (t533 - t520))
                      · rw [if_pos c51] at H
                        have c51b0 : decide (t522 < (wrap64 (t533 - t520))) = true := decide_eq_true c51
                        clear c51
                        obtain rfl := Option.some.inj H
                        have hcz52_0 : wc.cell? ⟨gb524, 0, none⟩ = some (.int .i64 t514) := (blk_cell BK524.out 0).trans rfl
                        have hcz52_1 : wc.cell? ⟨gb524, 1, none⟩ = some (.int .i64 t515) := (blk_cell BK524.out 1).trans rfl
                        have hcz52_2 : wc.cell? ⟨gb524, 2, none⟩ = some (.int .i64 t516) := (blk_cell BK524.out 2).trans rfl
                        have hcz52_3 : wc.cell? ⟨gb524, 3, none⟩ = some (.slice (some ad529) t517.length co11) := (blk_cell BK524.out 3).trans rfl
                        have hcz52_4 : wc.cell? ⟨gb524, 4, none⟩ = some (.int .i64 t520) := (blk_cell BK524.out 4).trans rfl
                        have hfz52_0 := blk_frozen BK524.out 0
                        have hfz52_1 := blk_frozen BK524.out 1
                        have hfz52_2 := blk_frozen BK524.out 2
                        have hfz52_3 := blk_frozen BK524.out 3
                        have hfz52_4 := blk_frozen BK524.out 4
                        go_wp2
                        go_ret
                        exact ⟨by first | rfl | (simp [errW_none, errW_some] <;> rfl) | (simp [*, errW_none, errW_some] <;> rfl), by repeat (first | (with_reducible first | exact HB.out | apply below_alloc | apply pw_below_drewN | apply below_drew1 | refine below_set ?_ GE524.out) | exact HB.out)⟩
                      · rw [if_neg c51] at H
                        have c51b0 : decide (t522 < (wrap64 (t533 - t520))) = false := decide_eq_false c51
                        clear c51
                        by_cases c53 : t522 ≤ (wrap64 (t533 + t520))
                        · rw [if_pos c53] at H
                          have c53b0 : decide (t522 ≤ (wrap64 (t533 + t520))) = true := decide_eq_true c53
                          clear c53
                          obtain rfl := Option.some.inj H
                          have hcz54_0 : wc.cell? ⟨gb524, 0, none⟩ = some (.int .i64 t514) := (blk_cell BK524.out 0).trans rfl
                          have hcz54_1 : wc.cell? ⟨gb524, 1, none⟩ = some (.int .i64 t515) := (blk_cell BK524.out 1).trans rfl
                          have hcz54_2 : wc.cell? ⟨gb524, 2, none⟩ = some (.int .i64 t516) := (blk_cell BK524.out 2).trans rfl
                          have hcz54_3 : wc.cell? ⟨gb524, 3, none⟩ = some (.slice (some ad529) t517.length co11) := (blk_cell BK524.out 3).trans rfl
                          have hcz54_4 : wc.cell? ⟨gb524, 4, none⟩ = some (.int .i64 t520) := (blk_cell BK524.out 4).trans rfl
                          have hfz54_0 := blk_frozen BK524.out 0
                          have hfz54_1 := blk_frozen BK524.out 1
                          have hfz54_2 := blk_frozen BK524.out 2
                          have hfz54_3 := blk_frozen BK524.out 3
                          have hfz54_4 := blk_frozen BK524.out 4
                          go_wp2
                          go_ret
                          exact ⟨by first | rfl | (simp [errW_none, errW_some] <;> rfl) | (simp [*, errW_none, errW_some] <;> rfl), by repeat (first | (with_reducible first | exact HB.out | apply below_alloc | apply pw_below_drewN | apply below_drew1 | refine below_set ?_ GE524.out) | exact HB.out)⟩
                        · rw [if_neg c53] at H
                          have c53b0 : decide (t522 ≤ (wrap64 (t533 + t520))) = false := decide_eq_false c53
                          clear c53
                          obtain rfl := Option.some.inj H
                          have hcz55_0 : wc.cell? ⟨gb524, 0, none⟩ = some (.int .i64 t514) := (blk_cell BK524.out 0).trans rfl
                          have hcz55_1 : wc.cell? ⟨gb524, 1, none⟩ = some (.int .i64 t515) := (blk_cell BK524.out 1).trans rfl
                          have hcz55_2 : wc.cell? ⟨gb524, 2, none⟩ = some (.int .i64 t516) := (blk_cell BK524.out 2).trans rfl
                          have hcz55_3 : wc.cell? ⟨gb524, 3, none⟩ = some (.slice (some ad529) t517.length co11) := (blk_cell BK524.out 3).trans rfl
                          have hcz55_4 : wc.cell? ⟨gb524, 4, none⟩ = some (.int .i64 t520) := (blk_cell BK524.out 4).trans rfl
                          have hfz55_0 := blk_frozen BK524.out 0
                          have hfz55_1 := blk_frozen BK524.out 1
                          have hfz55_2 := blk_frozen BK524.out 2
                          have hfz55_3 := blk_frozen BK524.out 3
                          have hfz55_4 := blk_frozen BK524.out 4
                          go_wp2
                          go_ret
                          exact ⟨by first | rfl | (simp [errW_none, errW_some] <;> rfl) | (simp [*, errW_none, errW_some] <;> rfl), by repeat (first | (with_reducible first | exact HB.out | apply below_alloc | apply pw_below_drewN | apply below_drew1 | refine below_set ?_ GE524.out) | exact HB.out)⟩
              · rw [if_neg c38] at H
                exact absurd H (by simp)
            · rw [if_neg c37] at H
              exact absurd H (by simp)
    · rw [if_neg c6] at H
      have c6b0 : (t525 == t526) = false := beq_eq_false_iff_ne.mpr c6
      have c6b1 : (t525 != t526) = true := bne_iff_ne.mpr c6
      obtain rfl := Option.some.inj H
      go_enter Try.func7, Try.ntmps7
      go_wp2_with (first | ((with_reducible refine gate_callee (f := 29) rfl ?_); refine goesL_ (some 15) rfl rfl Try.func29 (by kernel_rfl) rfl #[.slice A0 l0.length c0] rfl (by (try simp only [List.map_toArray, List.map_cons, List.map_nil]); first | done | rfl | (simp only [List.length_drop, List.length_take]; rfl)) ?_; (with_reducible refine (spec_DrawStaState.calls k _ _ l0 t514 t515 t516 t517 t520 t521 t522 t523 _ ?side1 ?side2 A3.out).mono ?_); (case side1 => repeat (first | exact HR0.out | (with_reducible refine Kd.C_alloc ?_ _) | (with_reducible refine Kd.C_drewN ?_ _) | (with_reducible refine Kd.C_drew ?_))); (case side2 => exact HC0.out); rintro e w56 ⟨v518, rfl, ho0, hb⟩; refine ⟨_, rfl, ?_⟩; have n0_ := Aside0.mk (Kd.R_lower ho0 (below_size (by repeat (first | (with_reducible first | exact HB.out | apply below_alloc | apply pw_below_drewN | apply below_drew1) | exact HB.out)))); have n1_ := Aside0.mk (below_step (by repeat (first | (with_reducible first | exact HB.out | apply below_alloc | apply pw_below_drewN | apply below_drew1) | exact HB.out)) hb); clear HB; have HO519 := n0_; have HB := n1_; clear n0_ n1_; (try clear hb); (try clear hb2); (try clear hk); (try clear hi); (try clear ho0)) | ((with_reducible refine gate_dst (N := 3) rfl ?_); (try (refine gate_guard (by rfl) ?_; dsimp only)); refine box_event ?hg (N := 3) ?hd (cs := #[.int .i64 0, .int .i64 0, .int .i64 0, .slice none 0 0, .int .i64 0]) (t := 31) ?hr ?_; (case hd => rfl); (case hg => rfl); (case hr => first | (go_simp; done) | (go_simp; rfl)); intro gb524 hg w57 hbox hb; have n0_ := Aside0.mk (Kd.R_below (by (with_reducible repeat (first | apply Kd.R_alloc | apply Kd.R_drewN | apply Kd.R_drew)); exact HO519.out) hb); have n1_ := Aside0.mk (below_step (by repeat (first | (with_reducible first | exact HB.out | apply below_alloc | apply pw_below_drewN | apply below_drew1) | exact HB.out)) hb); have n2_ := Aside0.mk (hbox); have n3_ := Aside0.mk ((by rw [hg]; exact (below_size (by repeat (first | (with_reducible first | exact HB.out | apply below_alloc | apply pw_below_drewN | apply below_drew1) | exact HB.out))) : w.heap.size ≤ gb524)); have n4_ := Aside0.mk ((by rw [hg]; exact (below_size (by repeat (first | (with_reducible first | exact HB.out | apply below_alloc | apply pw_below_drewN | apply below_drew1) | exact HB.out))) : w.heap.size ≤ gb524)); clear HO519; clear HB; have HO519 := n0_; have HB := n1_; have BK524 := n2_; have GW524 := n3_; have GE524 := n4_; clear n0_ n1_ n2_ n3_ n4_; clear hb hbox hg; have hcz58_0 : w57.cell? ⟨gb524, 0, none⟩ = some (.int .i64 0) := (blk_cell BK524.out 0).trans rfl; have hcz58_1 : w57.cell? ⟨gb524, 1, none⟩ = some (.int .i64 0) := (blk_cell BK524.out 1).trans rfl; have hcz58_2 : w57.cell? ⟨gb524, 2, none⟩ = some (.int .i64 0) := (blk_cell BK524.out 2).trans rfl; have hcz58_3 : w57.cell? ⟨gb524, 3, none⟩ = some (.slice none 0 0) := (blk_cell BK524.out 3).trans rfl; have hcz58_4 : w57.cell? ⟨gb524, 4, none⟩ = some (.int .i64 0) := (blk_cell BK524.out 4).trans rfl; have hfz58_0 := blk_frozen BK524.out 0; have hfz58_1 := blk_frozen BK524.out 1; have hfz58_2 := blk_frozen BK524.out 2; have hfz58_3 := blk_frozen BK524.out 3; have hfz58_4 := blk_frozen BK524.out 4; obtain ⟨Ao59, co59, eo59⟩ := Kd.R_slice HO519.out; subst eo59) | ((with_reducible refine gate_callee (f := 24) rfl ?_); refine goesL_ (some 24) rfl rfl Try.func24 (by kernel_rfl) rfl #[.agg #[.int .i64 t514, .int .i64 t515, .int .i64 t516, .slice Ao59 t517.length co59, .int .i64 t520], .int .i64 t521, .int .i64 t522, .int .i64 t523] rfl (by (try simp only [List.map_toArray, List.map_cons, List.map_nil]); first | done | rfl | (simp only [List.length_drop, List.length_take]; rfl)) ?_; (with_reducible refine (impl_StaState.calls k t514 t515 t516 _ _ t517 t520 t521 t522 t523 t525 _ ?side1 ?side2 A4.out).mono ?_); (case side1 => refine (Kd.R_reads' (e := 3) (base := w.heap.size) (ok := fun k_ => True) (n := t517.length) (c := co59) ?_).2.2; exact (by (with_reducible repeat (first | apply Kd.R_alloc | apply Kd.R_drewN | apply Kd.R_drew)); exact (Kd.R_mono (Kd.R_far (p := ⟨gb524, 4, none⟩) (Kd.R_far (p := ⟨gb524, 3, none⟩) (Kd.R_far (p := ⟨gb524, 2, none⟩) (Kd.R_far (p := ⟨gb524, 1, none⟩) (Kd.R_far (p := ⟨gb524, 0, none⟩) (Kd.R_types HO519.out BK524.out (by decide)) (fun _ hk => hk.2) (.int .i64 t514)) (fun _ hk => hk.2) (.int .i64 t515)) (fun _ hk => hk.2) (.int .i64 t516)) (fun _ hk => hk.2) (.slice Ao59 t517.length co59)) (fun _ hk => hk.2) (.int .i64 t520)) (fun _ h_ => h_.1)))); (case side2 => exact (Kd.R_reads' HO519.out).2.1); rintro e w60 ⟨rfl, hb⟩; refine ⟨_, rfl, ?_⟩; have n0_ := Aside0.mk (Kd.R_below (by (with_reducible repeat (first | apply Kd.R_alloc | apply Kd.R_drewN | apply Kd.R_drew)); exact (Kd.R_mono (Kd.R_far (p := ⟨gb524, 4, none⟩) (Kd.R_far (p := ⟨gb524, 3, none⟩) (Kd.R_far (p := ⟨gb524, 2, none⟩) (Kd.R_far (p := ⟨gb524, 1, none⟩) (Kd.R_far (p := ⟨gb524, 0, none⟩) (Kd.R_types HO519.out BK524.out (by decide)) (fun _ hk => hk.2) (.int .i64 t514)) (fun _ hk => hk.2) (.int .i64 t515)) (fun _ hk => hk.2) (.int .i64 t516)) (fun _ hk => hk.2) (.slice Ao59 t517.length co59)) (fun _ hk => hk.2) (.int .i64 t520)) (fun _ h_ => h_.1))) hb); have n1_ := Aside0.mk (blk_below (g := gb524) (o := .cells #[.int .i64 t514, .int .i64 t515, .int .i64 t516, .slice Ao59 t517.length co59, .int .i64 t520] 31 (0, 0)) (by (with_reducible repeat (first | refine blk_drewN ?_ _ | refine blk_drew ?_ | refine blk_alloc ?_ _)); refine blk_put (cs := #[.int .i64 t514, .int .i64 t515, .int .i64 t516, .slice Ao59 t517.length co59, .int .i64 0]) ?_ 4 _ rfl; (with_reducible repeat (first | refine blk_drewN ?_ _ | refine blk_drew ?_ | refine blk_alloc ?_ _)); refine blk_put (cs := #[.int .i64 t514, .int .i64 t515, .int .i64 t516, .slice none 0 0, .int .i64 0]) ?_ 3 _ rfl; (with_reducible repeat (first | refine blk_drewN ?_ _ | refine blk_drew ?_ | refine blk_alloc ?_ _)); refine blk_put (cs := #[.int .i64 t514, .int .i64 t515, .int .i64 0, .slice none 0 0, .int .i64 0]) ?_ 2 _ rfl; (with_reducible repeat (first | refine blk_drewN ?_ _ | refine blk_drew ?_ | refine blk_alloc ?_ _)); refine blk_put (cs := #[.int .i64 t514, .int .i64 0, .int .i64 0, .slice none 0 0, .int .i64 0]) ?_ 1 _ rfl; (with_reducible repeat (first | refine blk_drewN ?_ _ | refine blk_drew ?_ | refine blk_alloc ?_ _)); refine blk_put (cs := #[.int .i64 0, .int .i64 0, .int .i64 0, .slice none 0 0, .int .i64 0]) ?_ 0 _ rfl; (with_reducible repeat (first | refine blk_drewN ?_ _ | refine blk_drew ?_ | refine blk_alloc ?_ _)); exact BK524.out) hb); have n2_ := Aside0.mk (below_step (by repeat (first | (with_reducible first | exact HB.out | apply below_alloc | apply pw_below_drewN | apply below_drew1 | refine below_set ?_ GE524.out) | exact HB.out)) hb); clear HO519; clear BK524; clear HB; have HO519 := n0_; have BK524 := n1_; have HB := n2_; clear n0_ n1_ n2_; (try clear hb); (try clear hb2); (try clear hk); (try clear hi); have hcz61_0 : w60.cell? ⟨gb524, 0, none⟩ = some (.int .i64 t514) := (blk_cell BK524.out 0).trans rfl; have hcz61_1 : w60.cell? ⟨gb524, 1, none⟩ = some (.int .i64 t515) := (blk_cell BK524.out 1).trans rfl; have hcz61_2 : w60.cell? ⟨gb524, 2, none⟩ = some (.int .i64 t516) := (blk_cell BK524.out 2).trans rfl; have hcz61_3 : w60.cell? ⟨gb524, 3, none⟩ = some (.slice Ao59 t517.length co59) := (blk_cell BK524.out 3).trans rfl; have hcz61_4 : w60.cell? ⟨gb524, 4, none⟩ = some (.int .i64 t520) := (blk_cell BK524.out 4).trans rfl; have hfz61_0 := blk_frozen BK524.out 0; have hfz61_1 := blk_frozen BK524.out 1; have hfz61_2 := blk_frozen BK524.out 2; have hfz61_3 := blk_frozen BK524.out 3; have hfz61_4 := blk_frozen BK524.out 4) | ((with_reducible refine gate_callee (f := 23) rfl ?_); refine goesL_ (some 30) rfl rfl Try.func23 (by kernel_rfl) rfl #[.agg #[.int .i64 t514, .int .i64 t515, .int .i64 t516, .slice Ao59 t517.length co59, .int .i64 t520], .int .i64 t521, .int .i64 t522, .int .i64 t523] rfl (by (try simp only [List.map_toArray, List.map_cons, List.map_nil]); first | done | rfl | (simp only [List.length_drop, List.length_take]; rfl)) ?_; (with_reducible refine (spec_StaState.calls k t514 t515 t516 _ _ t517 t520 t521 t522 t523 t526 _ ?side1 ?side2 A5.out).mono ?_); (case side1 => repeat (first | exact (Kd.R_reads' HO519.out).2.2 | (with_reducible refine Kd.C_alloc ?_ _) | (with_reducible refine Kd.C_drewN ?_ _) | (with_reducible refine Kd.C_drew ?_))); (case side2 => exact (Kd.R_reads' HO519.out).2.1); rintro e w62 ⟨rfl, hb⟩; refine ⟨_, rfl, ?_⟩; have n0_ := Aside0.mk (Kd.R_below (by (with_reducible repeat (first | apply Kd.R_alloc | apply Kd.R_drewN | apply Kd.R_drew)); exact HO519.out) hb); have n1_ := Aside0.mk (blk_below (g := gb524) (o := .cells #[.int .i64 t514, .int .i64 t515, .int .i64 t516, .slice Ao59 t517.length co59, .int .i64 t520] 31 (0, 0)) (by (with_reducible repeat (first | refine blk_drewN ?_ _ | refine blk_drew ?_ | refine blk_alloc ?_ _)); exact BK524.out) hb); have n2_ := Aside0.mk (below_step (by repeat (first | (with_reducible first | exact HB.out | apply below_alloc | apply pw_below_drewN | apply below_drew1 | refine below_set ?_ GE524.out) | exact HB.out)) hb); clear HO519; clear BK524; clear HB; have HO519 := n0_; have BK524 := n1_; have HB := n2_; clear n0_ n1_ n2_; (try clear hb); (try clear hb2); (try clear hk); (try clear hi)))
      go_ret
      exact ⟨by first | rfl | (simp [errW_none, errW_some] <;> rfl) | (simp [*, errW_none, errW_some] <;> rfl), by repeat (first | (with_reducible first | exact HB.out | apply below_alloc | apply pw_below_drewN | apply below_drew1 | refine below_set ?_ GE524.out) | exact HB.out)⟩

/-- THE ONE PURE STATEMENT of laws_FnStaState: yours. -/
def laws_FnStaState.Pure : Prop := ∀ (l0 : List Int), l0.length ≤ maxLen → l0.length * 1 ≤ 140737488351232 → (∀ x ∈ l0, (Lit.int .u8 x).wf = true) → ∃ k, laws_FnStaState.f k l0 = some true
theorem laws_FnStaState.walk (P : laws_FnStaState.Pure) (a0 : Option Addr) (len0 cap0 : Nat) (z0 : List Int) (w : World) (w0 : (a0 = none ∧ len0 = 0 ∧ cap0 = 0 ∧ z0 = []) ∨ ∃ x, a0 = some x ∧ len0 ≤ cap0 ∧ cap0 ≤ maxLen ∧ z0.length = cap0 ∧ (∀ i, i < z0.length → w.cell? (x.add i) = some (.int .u8 (z0.getD i 0))) ∧ ∀ n ∈ z0, (Lit.int .u8 n).wf = true) (y0 : len0 * 1 ≤ 140737488351232) :
    Calls Try.prog 7 #[.slice a0 len0 cap0] w fun e w' => e = .returned (.bool true) ∧ Below w.heap.size w w' := by
  obtain ⟨l0, rfl, hr0, hm0, hw0, hc0⟩ := ReadsInt.ofRowC w0
  obtain ⟨k, h⟩ := P l0 hm0 y0 hw0
  refine (laws_FnStaState.calls k _ _ l0 true w (Kd.C_of_reads (d := (0 : Int)) (h1 := fun _ => rfl) hr0) hc0 h).mono ?_
  rintro e w' ⟨rfl, hd⟩
  exact ⟨rfl, hd⟩

end Go.Proofs.Ytojgpnobbnihdaa.All
