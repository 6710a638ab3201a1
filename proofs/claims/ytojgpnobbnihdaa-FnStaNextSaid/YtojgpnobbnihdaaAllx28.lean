-- Written by the session's own program wip/allprint.py, which drives the kit's print; Lean checks it.
import Derived.Test.YtojgpnobbnihdaaAllx0
import Derived.Test.YtojgpnobbnihdaaAllx2
import Derived.Test.YtojgpnobbnihdaaAllx8
import Derived.Test.YtojgpnobbnihdaaAllx13
import Derived.Test.YtojgpnobbnihdaaAllx16
import Derived.Test.YtojgpnobbnihdaaAllx17
import Derived.Test.YtojgpnobbnihdaaAllx27
namespace Go.Proofs.Ytojgpnobbnihdaa.All
open Go.RowKit Go.Proofs.YtojgpnobbnihdaaW.PrintWords Go.Proofs.YtojgpnobbnihdaaW.PrintLast Go.Proofs.YtojgpnobbnihdaaW.PrintMore
attribute [local go_sem] max2_int min2_int max_two min_two max_three min_three max_four min_four   -- for this text's walks alone
set_option linter.unusedVariables false
set_option linter.unusedSimpArgs false

/-! ### laws_FnStaNext: function 10 -/
mutual
def laws_FnStaNext.j0 : Nat → Int → List Int → Int → Bool → Int → Int → Int → List Int → Int → Option (Bool)
  | 0, _, _, _, _, _, _, _, _, _ => none
  | k + 1, x4, x5, x6, x47, x642000, x642001, x642002, x642003, x642004 => if x47 = true then (if x6 = (-1) then ((laws_cuOk.f).bind fun t645 => (some t645)) else (some false)) else (laws_FnStaNext.l0 k x4 x5 x6 0 x642000 x642001 x642002 x642003 x642004)
def laws_FnStaNext.l0 : Nat → Int → List Int → Int → Int → Int → Int → Int → List Int → Int → Option (Bool)
  | 0, _, _, _, _, _, _, _, _, _ => none
  | k + 1, x4, x5, x6, x7, x642000, x642001, x642002, x642003, x642004 => if x7 < (x5.length : Int) then (if 0 ≤ x7 then ((impl_StaState.f k x642000 x642001 x642002 x642003 x642004 x7 x4 (rd x5 x7)).bind fun t647 => (if t647 = 1 then (laws_FnStaNext.j2 k x4 x5 x6 x7 true x642000 x642001 x642002 x642003 x642004) else (laws_FnStaNext.j2 k x4 x5 x6 x7 (t647 == 2) x642000 x642001 x642002 x642003 x642004))) else (none)) else (some (decide (x6 < (x5.length : Int))))
def laws_FnStaNext.j2 : Nat → Int → List Int → Int → Int → Bool → Int → Int → Int → List Int → Int → Option (Bool)
  | 0, _, _, _, _, _, _, _, _, _, _ => none
  | k + 1, x4, x5, x6, x7, x9, x642000, x642001, x642002, x642003, x642004 => if x9 = true then (if x6 < 0 then (laws_FnStaNext.j3 k x4 x5 x6 x7 true x642000 x642001 x642002 x642003 x642004) else (if x6 > x7 then (laws_FnStaNext.j3 k x4 x5 x6 x7 true x642000 x642001 x642002 x642003 x642004) else (if x6 = x7 then (laws_FnStaNext.j3 k x4 x5 x6 x7 (!x9) x642000 x642001 x642002 x642003 x642004) else (laws_FnStaNext.j3 k x4 x5 x6 x7 false x642000 x642001 x642002 x642003 x642004)))) else (if x6 = x7 then (laws_FnStaNext.j3 k x4 x5 x6 x7 (!x9) x642000 x642001 x642002 x642003 x642004) else (laws_FnStaNext.j3 k x4 x5 x6 x7 false x642000 x642001 x642002 x642003 x642004))
def laws_FnStaNext.j3 : Nat → Int → List Int → Int → Int → Bool → Int → Int → Int → List Int → Int → Option (Bool)
  | 0, _, _, _, _, _, _, _, _, _, _ => none
  | k + 1, x4, x5, x6, x7, x91, x642000, x642001, x642002, x642003, x642004 => if x91 = true then (some false) else (laws_FnStaNext.l0 k x4 x5 x6 (wrap64 (x7 + 1)) x642000 x642001 x642002 x642003 x642004)
end
def laws_FnStaNext.f (k : Nat) (l0 : List Int) : Option (Bool) := if (l0.length : Int) > 1048576 then (some true) else ((spec_DrawStaNext.f k l0).bind fun bt630 => ((impl_StaNext.f k bt630.1 bt630.2.1 bt630.2.2.1 bt630.2.2.2.1 bt630.2.2.2.2.1 bt630.2.2.2.2.2.1 bt630.2.2.2.2.2.2).bind fun t642 => ((spec_StaNext.f k bt630.1 bt630.2.1 bt630.2.2.1 bt630.2.2.2.1 bt630.2.2.2.2.1 bt630.2.2.2.2.2.1 bt630.2.2.2.2.2.2).bind fun t643 => (if t642 = t643 then ((spec_StaOk.f k bt630.1 bt630.2.1 bt630.2.2.1 bt630.2.2.2.1 bt630.2.2.2.2.1).bind fun t644 => (if t644 = true then (if (bt630.2.2.2.2.2.2.length : Int) = (bt630.2.2.2.1.length : Int) then (if bt630.2.2.2.2.2.1 < 0 then (laws_FnStaNext.j0 k bt630.2.2.2.2.2.1 bt630.2.2.2.2.2.2 t642 true bt630.1 bt630.2.1 bt630.2.2.1 bt630.2.2.2.1 bt630.2.2.2.2.1) else (laws_FnStaNext.j0 k bt630.2.2.2.2.2.1 bt630.2.2.2.2.2.2 t642 (decide (bt630.2.2.2.2.2.1 ≥ 109573)) bt630.1 bt630.2.1 bt630.2.2.1 bt630.2.2.2.1 bt630.2.2.2.2.1)) else (laws_FnStaNext.j0 k bt630.2.2.2.2.2.1 bt630.2.2.2.2.2.2 t642 true bt630.1 bt630.2.1 bt630.2.2.1 bt630.2.2.2.1 bt630.2.2.2.2.1)) else (laws_FnStaNext.j0 k bt630.2.2.2.2.2.1 bt630.2.2.2.2.2.2 t642 true bt630.1 bt630.2.1 bt630.2.2.1 bt630.2.2.2.1 bt630.2.2.2.2.1))) else (some false)))))
theorem laws_FnStaNext.mono_l : ∀ k, (∀ y0 y1 y2 y3 y4 y5 y6 y7 y8, LeO (laws_FnStaNext.j0 k y0 y1 y2 y3 y4 y5 y6 y7 y8) (laws_FnStaNext.j0 (k + 1) y0 y1 y2 y3 y4 y5 y6 y7 y8)) ∧ (∀ y0 y1 y2 y3 y4 y5 y6 y7 y8, LeO (laws_FnStaNext.l0 k y0 y1 y2 y3 y4 y5 y6 y7 y8) (laws_FnStaNext.l0 (k + 1) y0 y1 y2 y3 y4 y5 y6 y7 y8)) ∧ (∀ y0 y1 y2 y3 y4 y5 y6 y7 y8 y9, LeO (laws_FnStaNext.j2 k y0 y1 y2 y3 y4 y5 y6 y7 y8 y9) (laws_FnStaNext.j2 (k + 1) y0 y1 y2 y3 y4 y5 y6 y7 y8 y9)) ∧ (∀ y0 y1 y2 y3 y4 y5 y6 y7 y8 y9, LeO (laws_FnStaNext.j3 k y0 y1 y2 y3 y4 y5 y6 y7 y8 y9) (laws_FnStaNext.j3 (k + 1) y0 y1 y2 y3 y4 y5 y6 y7 y8 y9))
  | 0 => ⟨fun _ _ _ _ _ _ _ _ _ r h => by simp [laws_FnStaNext.j0] at h, fun _ _ _ _ _ _ _ _ _ r h => by simp [laws_FnStaNext.l0] at h, fun _ _ _ _ _ _ _ _ _ _ r h => by simp [laws_FnStaNext.j2] at h, fun _ _ _ _ _ _ _ _ _ _ r h => by simp [laws_FnStaNext.j3] at h⟩
  | k + 1 => by
    obtain ⟨ih0, ih1, ih2, ih3⟩ := laws_FnStaNext.mono_l k
    refine ⟨?_, ?_, ?_, ?_⟩
    · intro y0 y1 y2 y3 y4 y5 y6 y7 y8
      unfold laws_FnStaNext.j0
      repeat' first
      | (with_reducible exact ih0 _ _ _ _ _ _ _ _ _)
      | (with_reducible exact ih1 _ _ _ _ _ _ _ _ _)
      | (with_reducible exact ih2 _ _ _ _ _ _ _ _ _ _)
      | (with_reducible exact ih3 _ _ _ _ _ _ _ _ _ _)
      | (with_reducible exact impl_StaNext.mono _ _ _ _ _ _ _ _)
      | (with_reducible exact impl_StaState.mono _ _ _ _ _ _ _ _ _)
      | (with_reducible exact spec_DrawStaNext.mono _ _)
      | (with_reducible exact spec_StaNext.mono _ _ _ _ _ _ _ _)
      | (with_reducible exact spec_StaOk.mono _ _ _ _ _ _)
      | (with_reducible exact LeO.refl _)
      | (with_reducible exact LeO.none _)
      | (with_reducible refine LeO.ite ?_ ?_)
      | (with_reducible refine LeO.bind ?_ (fun _ => ?_))
      | exact ih0 _ _ _ _ _ _ _ _ _
      | exact ih1 _ _ _ _ _ _ _ _ _
      | exact ih2 _ _ _ _ _ _ _ _ _ _
      | exact ih3 _ _ _ _ _ _ _ _ _ _
      | exact impl_StaNext.mono _ _ _ _ _ _ _ _
      | exact impl_StaState.mono _ _ _ _ _ _ _ _ _
      | exact spec_DrawStaNext.mono _ _
      | exact spec_StaNext.mono _ _ _ _ _ _ _ _
      | exact spec_StaOk.mono _ _ _ _ _ _
      | exact LeO.none _
      | refine LeO.ite ?_ ?_
      | refine LeO.bind ?_ (fun _ => ?_)
    · intro y0 y1 y2 y3 y4 y5 y6 y7 y8
      unfold laws_FnStaNext.l0
      repeat' first
      | (with_reducible exact ih0 _ _ _ _ _ _ _ _ _)
      | (with_reducible exact ih1 _ _ _ _ _ _ _ _ _)
      | (with_reducible exact ih2 _ _ _ _ _ _ _ _ _ _)
      | (with_reducible exact ih3 _ _ _ _ _ _ _ _ _ _)
      | (with_reducible exact impl_StaNext.mono _ _ _ _ _ _ _ _)
      | (with_reducible exact impl_StaState.mono _ _ _ _ _ _ _ _ _)
      | (with_reducible exact spec_DrawStaNext.mono _ _)
      | (with_reducible exact spec_StaNext.mono _ _ _ _ _ _ _ _)
      | (with_reducible exact spec_StaOk.mono _ _ _ _ _ _)
      | (with_reducible exact LeO.refl _)
      | (with_reducible exact LeO.none _)
      | (with_reducible refine LeO.ite ?_ ?_)
      | (with_reducible refine LeO.bind ?_ (fun _ => ?_))
      | exact ih0 _ _ _ _ _ _ _ _ _
      | exact ih1 _ _ _ _ _ _ _ _ _
      | exact ih2 _ _ _ _ _ _ _ _ _ _
      | exact ih3 _ _ _ _ _ _ _ _ _ _
      | exact impl_StaNext.mono _ _ _ _ _ _ _ _
      | exact impl_StaState.mono _ _ _ _ _ _ _ _ _
      | exact spec_DrawStaNext.mono _ _
      | exact spec_StaNext.mono _ _ _ _ _ _ _ _
      | exact spec_StaOk.mono _ _ _ _ _ _
      | exact LeO.none _
      | refine LeO.ite ?_ ?_
      | refine LeO.bind ?_ (fun _ => ?_)
    · intro y0 y1 y2 y3 y4 y5 y6 y7 y8 y9
      unfold laws_FnStaNext.j2
      repeat' first
      | (with_reducible exact ih0 _ _ _ _ _ _ _ _ _)
      | (with_reducible exact ih1 _ _ _ _ _ _ _ _ _)
      | (with_reducible exact ih2 _ _ _ _ _ _ _ _ _ _)
      | (with_reducible exact ih3 _ _ _ _ _ _ _ _ _ _)
      | (with_reducible exact impl_StaNext.mono _ _ _ _ _ _ _ _)
      | (with_reducible exact impl_StaState.mono _ _ _ _ _ _ _ _ _)
      | (with_reducible exact spec_DrawStaNext.mono _ _)
      | (with_reducible exact spec_StaNext.mono _ _ _ _ _ _ _ _)
      | (with_reducible exact spec_StaOk.mono _ _ _ _ _ _)
      | (with_reducible exact LeO.refl _)
      | (with_reducible exact LeO.none _)
      | (with_reducible refine LeO.ite ?_ ?_)
      | (with_reducible refine LeO.bind ?_ (fun _ => ?_))
      | exact ih0 _ _ _ _ _ _ _ _ _
      | exact ih1 _ _ _ _ _ _ _ _ _
      | exact ih2 _ _ _ _ _ _ _ _ _ _
      | exact ih3 _ _ _ _ _ _ _ _ _ _
      | exact impl_StaNext.mono _ _ _ _ _ _ _ _
      | exact impl_StaState.mono _ _ _ _ _ _ _ _ _
      | exact spec_DrawStaNext.mono _ _
      | exact spec_StaNext.mono _ _ _ _ _ _ _ _
      | exact spec_StaOk.mono _ _ _ _ _ _
      | exact LeO.none _
      | refine LeO.ite ?_ ?_
      | refine LeO.bind ?_ (fun _ => ?_)
    · intro y0 y1 y2 y3 y4 y5 y6 y7 y8 y9
      unfold laws_FnStaNext.j3
      repeat' first
      | (with_reducible exact ih0 _ _ _ _ _ _ _ _ _)
      | (with_reducible exact ih1 _ _ _ _ _ _ _ _ _)
      | (with_reducible exact ih2 _ _ _ _ _ _ _ _ _ _)
      | (with_reducible exact ih3 _ _ _ _ _ _ _ _ _ _)
      | (with_reducible exact impl_StaNext.mono _ _ _ _ _ _ _ _)
      | (with_reducible exact impl_StaState.mono _ _ _ _ _ _ _ _ _)
      | (with_reducible exact spec_DrawStaNext.mono _ _)
      | (with_reducible exact spec_StaNext.mono _ _ _ _ _ _ _ _)
      | (with_reducible exact spec_StaOk.mono _ _ _ _ _ _)
      | (with_reducible exact LeO.refl _)
      | (with_reducible exact LeO.none _)
      | (with_reducible refine LeO.ite ?_ ?_)
      | (with_reducible refine LeO.bind ?_ (fun _ => ?_))
      | exact ih0 _ _ _ _ _ _ _ _ _
      | exact ih1 _ _ _ _ _ _ _ _ _
      | exact ih2 _ _ _ _ _ _ _ _ _ _
      | exact ih3 _ _ _ _ _ _ _ _ _ _
      | exact impl_StaNext.mono _ _ _ _ _ _ _ _
      | exact impl_StaState.mono _ _ _ _ _ _ _ _ _
      | exact spec_DrawStaNext.mono _ _
      | exact spec_StaNext.mono _ _ _ _ _ _ _ _
      | exact spec_StaOk.mono _ _ _ _ _ _
      | exact LeO.none _
      | refine LeO.ite ?_ ?_
      | refine LeO.bind ?_ (fun _ => ?_)
theorem laws_FnStaNext.mono : ∀ a0 k, LeO (laws_FnStaNext.f k a0) (laws_FnStaNext.f (k + 1) a0) := by
  intro a0 k
  obtain ⟨ih0, ih1, ih2, ih3⟩ := laws_FnStaNext.mono_l k
  unfold laws_FnStaNext.f
  repeat' first
      | (with_reducible exact ih0 _ _ _ _ _ _ _ _ _)
      | (with_reducible exact ih1 _ _ _ _ _ _ _ _ _)
      | (with_reducible exact ih2 _ _ _ _ _ _ _ _ _ _)
      | (with_reducible exact ih3 _ _ _ _ _ _ _ _ _ _)
      | (with_reducible exact impl_StaNext.mono _ _ _ _ _ _ _ _)
      | (with_reducible exact impl_StaState.mono _ _ _ _ _ _ _ _ _)
      | (with_reducible exact spec_DrawStaNext.mono _ _)
      | (with_reducible exact spec_StaNext.mono _ _ _ _ _ _ _ _)
      | (with_reducible exact spec_StaOk.mono _ _ _ _ _ _)
      | (with_reducible exact LeO.refl _)
      | (with_reducible exact LeO.none _)
      | (with_reducible refine LeO.ite ?_ ?_)
      | (with_reducible refine LeO.bind ?_ (fun _ => ?_))
      | exact ih0 _ _ _ _ _ _ _ _ _
      | exact ih1 _ _ _ _ _ _ _ _ _
      | exact ih2 _ _ _ _ _ _ _ _ _ _
      | exact ih3 _ _ _ _ _ _ _ _ _ _
      | exact impl_StaNext.mono _ _ _ _ _ _ _ _
      | exact impl_StaState.mono _ _ _ _ _ _ _ _ _
      | exact spec_DrawStaNext.mono _ _
      | exact spec_StaNext.mono _ _ _ _ _ _ _ _
      | exact spec_StaOk.mono _ _ _ _ _ _
      | exact LeO.none _
      | refine LeO.ite ?_ ?_
      | refine LeO.bind ?_ (fun _ => ?_)
def laws_FnStaNext.T12 : Bool × List (List Nat × List Nat) := (true, [([], []), ([], []), ([], []), ([], []), ([], []), ([3, 4], [3, 4]), ([5], [5]), ([0, 1, 2, 6], [0, 1, 2, 6]), ([7, 7, 0, 1, 2, 3, 4, 5, 6, 7], [7])])
def laws_FnStaNext.B12 : List Nat := [0, 0, 0, 0, 0, 24, 56, 127, 255]
theorem laws_FnStaNext.tab12 : rtab .any (opsOf Try.f10 12) = laws_FnStaNext.T12 := by kernel_rfl
theorem laws_FnStaNext.bits12 : waitsOk laws_FnStaNext.T12.2 laws_FnStaNext.B12 = true := by kernel_rfl
set_option maxHeartbeats 8000000 in
set_option maxRecDepth 100000 in
theorem laws_FnStaNext.calls (k : Nat) (A0 : Option Addr) (c0 : Nat) (l0 : List Int) (r : Bool) (w : World) (hr0 : Kd.C (Kd.int .u8) w A0 l0.length l0) (hc0 : l0.length ≤ c0) (h : laws_FnStaNext.f k l0 = some r) :
    Calls Try.prog 10 #[.slice A0 l0.length c0] w fun e w' => e = .returned (.bool r) ∧ Below w.heap.size w w' := by
  have hu31 := Try.underlying31
  have HR0 := Aside0.mk hr0
  have HC0 := Aside0.mk hc0
  clear hr0 hc0
  have HB := Aside0.mk (Below.refl w.heap.size w)
  have H : (if (l0.length : Int) > 1048576 then (some true) else ((spec_DrawStaNext.f k l0).bind fun bt630 => ((impl_StaNext.f k bt630.1 bt630.2.1 bt630.2.2.1 bt630.2.2.2.1 bt630.2.2.2.2.1 bt630.2.2.2.2.2.1 bt630.2.2.2.2.2.2).bind fun t642 => ((spec_StaNext.f k bt630.1 bt630.2.1 bt630.2.2.1 bt630.2.2.2.1 bt630.2.2.2.2.1 bt630.2.2.2.2.2.1 bt630.2.2.2.2.2.2).bind fun t643 => (if t642 = t643 then ((spec_StaOk.f k bt630.1 bt630.2.1 bt630.2.2.1 bt630.2.2.2.1 bt630.2.2.2.2.1).bind fun t644 => (if t644 = true then (if (bt630.2.2.2.2.2.2.length : Int) = (bt630.2.2.2.1.length : Int) then (if bt630.2.2.2.2.2.1 < 0 then (laws_FnStaNext.j0 k bt630.2.2.2.2.2.1 bt630.2.2.2.2.2.2 t642 true bt630.1 bt630.2.1 bt630.2.2.1 bt630.2.2.2.1 bt630.2.2.2.2.1) else (laws_FnStaNext.j0 k bt630.2.2.2.2.2.1 bt630.2.2.2.2.2.2 t642 (decide (bt630.2.2.2.2.2.1 ≥ 109573)) bt630.1 bt630.2.1 bt630.2.2.1 bt630.2.2.2.1 bt630.2.2.2.2.1)) else (laws_FnStaNext.j0 k bt630.2.2.2.2.2.1 bt630.2.2.2.2.2.2 t642 true bt630.1 bt630.2.1 bt630.2.2.1 bt630.2.2.2.1 bt630.2.2.2.2.1)) else (laws_FnStaNext.j0 k bt630.2.2.2.2.2.1 bt630.2.2.2.2.2.2 t642 true bt630.1 bt630.2.1 bt630.2.2.1 bt630.2.2.2.1 bt630.2.2.2.2.1))) else (some false)))))) = some r := h
  clear h
  by_cases c2 : (l0.length : Int) > 1048576
  · rw [if_pos c2] at H
    have c2b0 : decide (1048576 < (l0.length : Int)) = true := decide_eq_true c2
    have c2b1 : decide (1048576 < l0.length) = true := decide_eq_true (by omega)
    clear c2
    obtain rfl := Option.some.inj H
    go_enter Try.func10, Try.ntmps10
    go_wp2
    go_ret
    exact ⟨by first | rfl | (simp [errW_none, errW_some] <;> rfl) | (simp [*, errW_none, errW_some] <;> rfl), by repeat (first | (with_reducible first | exact HB.out | apply below_alloc | apply pw_below_drewN | apply below_drew1) | exact HB.out)⟩
  · rw [if_neg c2] at H
    have c2b0 : decide (1048576 < (l0.length : Int)) = false := decide_eq_false c2
    have c2b1 : decide (1048576 < l0.length) = false := decide_eq_false (by omega)
    clear c2
    replace H := Option.bind_eq_some_iff.mp H
    obtain ⟨⟨t630, t631, t632, t633, t636, t637, t638⟩, A30, H⟩ := H
    replace H : ((impl_StaNext.f k t630 t631 t632 t633 t636 t637 t638).bind fun t642 => ((spec_StaNext.f k t630 t631 t632 t633 t636 t637 t638).bind fun t643 => (if t642 = t643 then ((spec_StaOk.f k t630 t631 t632 t633 t636).bind fun t644 => (if t644 = true then (if (t638.length : Int) = (t633.length : Int) then (if t637 < 0 then (laws_FnStaNext.j0 k t637 t638 t642 true t630 t631 t632 t633 t636) else (laws_FnStaNext.j0 k t637 t638 t642 (decide (t637 ≥ 109573)) t630 t631 t632 t633 t636)) else (laws_FnStaNext.j0 k t637 t638 t642 true t630 t631 t632 t633 t636)) else (laws_FnStaNext.j0 k t637 t638 t642 true t630 t631 t632 t633 t636))) else (some false)))) = some r := H
    have A3 := Aside0.mk A30
    clear A30
    replace H := Option.bind_eq_some_iff.mp H
    obtain ⟨t642, A40, H⟩ := H
    replace H : ((spec_StaNext.f k t630 t631 t632 t633 t636 t637 t638).bind fun t643 => (if t642 = t643 then ((spec_StaOk.f k t630 t631 t632 t633 t636).bind fun t644 => (if t644 = true then (if (t638.length : Int) = (t633.length : Int) then (if t637 < 0 then (laws_FnStaNext.j0 k t637 t638 t642 true t630 t631 t632 t633 t636) else (laws_FnStaNext.j0 k t637 t638 t642 (decide (t637 ≥ 109573)) t630 t631 t632 t633 t636)) else (laws_FnStaNext.j0 k t637 t638 t642 true t630 t631 t632 t633 t636)) else (laws_FnStaNext.j0 k t637 t638 t642 true t630 t631 t632 t633 t636))) else (some false))) = some r := H
    have A4 := Aside0.mk A40
    clear A40
    replace H := Option.bind_eq_some_iff.mp H
    obtain ⟨t643, A50, H⟩ := H
    replace H : (if t642 = t643 then ((spec_StaOk.f k t630 t631 t632 t633 t636).bind fun t644 => (if t644 = true then (if (t638.length : Int) = (t633.length : Int) then (if t637 < 0 then (laws_FnStaNext.j0 k t637 t638 t642 true t630 t631 t632 t633 t636) else (laws_FnStaNext.j0 k t637 t638 t642 (decide (t637 ≥ 109573)) t630 t631 t632 t633 t636)) else (laws_FnStaNext.j0 k t637 t638 t642 true t630 t631 t632 t633 t636)) else (laws_FnStaNext.j0 k t637 t638 t642 true t630 t631 t632 t633 t636))) else (some false)) = some r := H
    have A5 := Aside0.mk A50
    clear A50
    by_cases c6 : t642 = t643
    · rw [if_pos c6] at H
      have c6b0 : (t642 == t643) = true := beq_iff_eq.mpr c6
      have c6b1 : (t642 != t643) = false := bne_eq_false_iff_eq.mpr c6
      clear c6
      have HC7 := Aside0.mk H
      clear H
      go_enter Try.func10, Try.ntmps10
      go_upto_region 7 with (first | ((with_reducible refine gate_callee (f := 34) rfl ?_); refine goesL_ (some 15) rfl rfl Try.func34 (by kernel_rfl) rfl #[.slice A0 l0.length c0] rfl (by (try simp only [List.map_toArray, List.map_cons, List.map_nil]); first | done | rfl | (simp only [List.length_drop, List.length_take]; rfl)) ?_; (with_reducible refine (spec_DrawStaNext.calls k _ _ l0 t630 t631 t632 t633 t636 t637 t638 _ ?side1 ?side2 A3.out).mono ?_); (case side1 => repeat (first | exact HR0.out | (with_reducible refine Kd.C_alloc ?_ _) | (with_reducible refine Kd.C_drewN ?_ _) | (with_reducible refine Kd.C_drew ?_))); (case side2 => exact HC0.out); rintro e w8 ⟨v634, v639, rfl, ho0, ho1, hb⟩; refine ⟨_, rfl, ?_⟩; have n0_ := Aside0.mk (Kd.R_lower ho0 (below_size (by repeat (first | (with_reducible first | exact HB.out | apply below_alloc | apply pw_below_drewN | apply below_drew1) | exact HB.out)))); have n1_ := Aside0.mk (Kd.R_lower ho1 (below_size (by repeat (first | (with_reducible first | exact HB.out | apply below_alloc | apply pw_below_drewN | apply below_drew1) | exact HB.out)))); have n2_ := Aside0.mk (below_step (by repeat (first | (with_reducible first | exact HB.out | apply below_alloc | apply pw_below_drewN | apply below_drew1) | exact HB.out)) hb); clear HB; have HO635 := n0_; have HO640 := n1_; have HB := n2_; clear n0_ n1_ n2_; (try clear hb); (try clear hb2); (try clear hk); (try clear hi); (try clear ho0); (try clear ho1)) | ((with_reducible refine gate_dst (N := 3) rfl ?_); (try (refine gate_guard (by rfl) ?_; dsimp only)); refine box_event ?hg (N := 3) ?hd (cs := #[.int .i64 0, .int .i64 0, .int .i64 0, .slice none 0 0, .int .i64 0]) (t := 31) ?hr ?_; (case hd => rfl); (case hg => rfl); (case hr => first | (go_simp; done) | (go_simp; rfl)); intro gb641 hg w9 hbox hb; have n0_ := Aside0.mk (Kd.R_below (by (with_reducible repeat (first | apply Kd.R_alloc | apply Kd.R_drewN | apply Kd.R_drew)); exact HO635.out) hb); have n1_ := Aside0.mk (Kd.R_below (by (with_reducible repeat (first | apply Kd.R_alloc | apply Kd.R_drewN | apply Kd.R_drew)); exact HO640.out) hb); have n2_ := Aside0.mk (below_step (by repeat (first | (with_reducible first | exact HB.out | apply below_alloc | apply pw_below_drewN | apply below_drew1) | exact HB.out)) hb); have n3_ := Aside0.mk (hbox); have n4_ := Aside0.mk ((by rw [hg]; exact (below_size (by repeat (first | (with_reducible first | exact HB.out | apply below_alloc | apply pw_below_drewN | apply below_drew1) | exact HB.out))) : w.heap.size ≤ gb641)); have n5_ := Aside0.mk ((by rw [hg]; exact (below_size (by repeat (first | (with_reducible first | exact HB.out | apply below_alloc | apply pw_below_drewN | apply below_drew1) | exact HB.out))) : w.heap.size ≤ gb641)); clear HO635; clear HO640; clear HB; have HO635 := n0_; have HO640 := n1_; have HB := n2_; have BK641 := n3_; have GW641 := n4_; have GE641 := n5_; clear n0_ n1_ n2_ n3_ n4_ n5_; clear hb hbox hg; have hcz10_0 : w9.cell? ⟨gb641, 0, none⟩ = some (.int .i64 0) := (blk_cell BK641.out 0).trans rfl; have hcz10_1 : w9.cell? ⟨gb641, 1, none⟩ = some (.int .i64 0) := (blk_cell BK641.out 1).trans rfl; have hcz10_2 : w9.cell? ⟨gb641, 2, none⟩ = some (.int .i64 0) := (blk_cell BK641.out 2).trans rfl; have hcz10_3 : w9.cell? ⟨gb641, 3, none⟩ = some (.slice none 0 0) := (blk_cell BK641.out 3).trans rfl; have hcz10_4 : w9.cell? ⟨gb641, 4, none⟩ = some (.int .i64 0) := (blk_cell BK641.out 4).trans rfl; have hfz10_0 := blk_frozen BK641.out 0; have hfz10_1 := blk_frozen BK641.out 1; have hfz10_2 := blk_frozen BK641.out 2; have hfz10_3 := blk_frozen BK641.out 3; have hfz10_4 := blk_frozen BK641.out 4; obtain ⟨Ao11, co11, eo11⟩ := Kd.R_slice HO635.out; subst eo11; obtain ⟨Ao12, co12, eo12⟩ := Kd.R_slice HO640.out; subst eo12) | ((with_reducible refine gate_callee (f := 32) rfl ?_); refine goesL_ (some 22) rfl rfl Try.func32 (by kernel_rfl) rfl #[.agg #[.int .i64 t630, .int .i64 t631, .int .i64 t632, .slice Ao11 t633.length co11, .int .i64 t636], .int .i64 t637, .slice Ao12 t638.length co12] rfl (by (try simp only [List.map_toArray, List.map_cons, List.map_nil]); first | done | rfl | (simp only [List.length_drop, List.length_take]; rfl)) ?_; (with_reducible refine (impl_StaNext.calls k t630 t631 t632 _ _ t633 t636 t637 _ _ t638 t642 _ ?side1 ?side2 ?side3 ?side4 A4.out).mono ?_); (case side1 => refine (Kd.R_reads' (e := 3) (base := w.heap.size) (ok := fun k_ => some k_ ≠ (.slice Ao12 t638.length co12 : Value).ownBlock) (n := t633.length) (c := co11) ?_).2.2; exact (by (with_reducible repeat (first | apply Kd.R_alloc | apply Kd.R_drewN | apply Kd.R_drew)); exact (Kd.R_mono (Kd.R_far (p := ⟨gb641, 4, none⟩) (Kd.R_far (p := ⟨gb641, 3, none⟩) (Kd.R_far (p := ⟨gb641, 2, none⟩) (Kd.R_far (p := ⟨gb641, 1, none⟩) (Kd.R_far (p := ⟨gb641, 0, none⟩) (Kd.R_types HO635.out BK641.out (by decide)) (fun _ hk => hk.2) (.int .i64 t630)) (fun _ hk => hk.2) (.int .i64 t631)) (fun _ hk => hk.2) (.int .i64 t632)) (fun _ hk => hk.2) (.slice Ao11 t633.length co11)) (fun _ hk => hk.2) (.int .i64 t636)) (fun _ h_ => h_.1)))); (case side2 => exact (Kd.R_reads' HO635.out).2.1); (case side3 => refine (Kd.R_reads' (e := 3) (base := w.heap.size) (ok := fun k_ => some k_ ≠ (.slice Ao11 t633.length co11 : Value).ownBlock) (n := t638.length) (c := co12) ?_).2.2; exact (by (with_reducible repeat (first | apply Kd.R_alloc | apply Kd.R_drewN | apply Kd.R_drew)); exact (Kd.R_mono (Kd.R_far (p := ⟨gb641, 4, none⟩) (Kd.R_far (p := ⟨gb641, 3, none⟩) (Kd.R_far (p := ⟨gb641, 2, none⟩) (Kd.R_far (p := ⟨gb641, 1, none⟩) (Kd.R_far (p := ⟨gb641, 0, none⟩) (Kd.R_types HO640.out BK641.out (by decide)) (fun _ hk => hk.2) (.int .i64 t630)) (fun _ hk => hk.2) (.int .i64 t631)) (fun _ hk => hk.2) (.int .i64 t632)) (fun _ hk => hk.2) (.slice Ao11 t633.length co11)) (fun _ hk => hk.2) (.int .i64 t636)) (fun _ h_ => h_.1)))); (case side4 => exact (Kd.R_reads' HO640.out).2.1); rintro e w13 ⟨rfl, hb⟩; refine ⟨_, rfl, ?_⟩; have n0_ := Aside0.mk (Kd.R_below (by (with_reducible repeat (first | apply Kd.R_alloc | apply Kd.R_drewN | apply Kd.R_drew)); exact (Kd.R_mono (Kd.R_far (p := ⟨gb641, 4, none⟩) (Kd.R_far (p := ⟨gb641, 3, none⟩) (Kd.R_far (p := ⟨gb641, 2, none⟩) (Kd.R_far (p := ⟨gb641, 1, none⟩) (Kd.R_far (p := ⟨gb641, 0, none⟩) (Kd.R_types HO635.out BK641.out (by decide)) (fun _ hk => hk.2) (.int .i64 t630)) (fun _ hk => hk.2) (.int .i64 t631)) (fun _ hk => hk.2) (.int .i64 t632)) (fun _ hk => hk.2) (.slice Ao11 t633.length co11)) (fun _ hk => hk.2) (.int .i64 t636)) (fun _ h_ => h_.1))) hb); have n1_ := Aside0.mk (Kd.R_below (by (with_reducible repeat (first | apply Kd.R_alloc | apply Kd.R_drewN | apply Kd.R_drew)); exact (Kd.R_mono (Kd.R_far (p := ⟨gb641, 4, none⟩) (Kd.R_far (p := ⟨gb641, 3, none⟩) (Kd.R_far (p := ⟨gb641, 2, none⟩) (Kd.R_far (p := ⟨gb641, 1, none⟩) (Kd.R_far (p := ⟨gb641, 0, none⟩) (Kd.R_types HO640.out BK641.out (by decide)) (fun _ hk => hk.2) (.int .i64 t630)) (fun _ hk => hk.2) (.int .i64 t631)) (fun _ hk => hk.2) (.int .i64 t632)) (fun _ hk => hk.2) (.slice Ao11 t633.length co11)) (fun _ hk => hk.2) (.int .i64 t636)) (fun _ h_ => h_.1))) hb); have n2_ := Aside0.mk (blk_below (g := gb641) (o := .cells #[.int .i64 t630, .int .i64 t631, .int .i64 t632, .slice Ao11 t633.length co11, .int .i64 t636] 31 (0, 0)) (by (with_reducible repeat (first | refine blk_drewN ?_ _ | refine blk_drew ?_ | refine blk_alloc ?_ _)); refine blk_put (cs := #[.int .i64 t630, .int .i64 t631, .int .i64 t632, .slice Ao11 t633.length co11, .int .i64 0]) ?_ 4 _ rfl; (with_reducible repeat (first | refine blk_drewN ?_ _ | refine blk_drew ?_ | refine blk_alloc ?_ _)); refine blk_put (cs := #[.int .i64 t630, .int .i64 t631, .int .i64 t632, .slice none 0 0, .int .i64 0]) ?_ 3 _ rfl; (with_reducible repeat (first | refine blk_drewN ?_ _ | refine blk_drew ?_ | refine blk_alloc ?_ _)); refine blk_put (cs := #[.int .i64 t630, .int .i64 t631, .int .i64 0, .slice none 0 0, .int .i64 0]) ?_ 2 _ rfl; (with_reducible repeat (first | refine blk_drewN ?_ _ | refine blk_drew ?_ | refine blk_alloc ?_ _)); refine blk_put (cs := #[.int .i64 t630, .int .i64 0, .int .i64 0, .slice none 0 0, .int .i64 0]) ?_ 1 _ rfl; (with_reducible repeat (first | refine blk_drewN ?_ _ | refine blk_drew ?_ | refine blk_alloc ?_ _)); refine blk_put (cs := #[.int .i64 0, .int .i64 0, .int .i64 0, .slice none 0 0, .int .i64 0]) ?_ 0 _ rfl; (with_reducible repeat (first | refine blk_drewN ?_ _ | refine blk_drew ?_ | refine blk_alloc ?_ _)); exact BK641.out) hb); have n3_ := Aside0.mk (below_step (by repeat (first | (with_reducible first | exact HB.out | apply below_alloc | apply pw_below_drewN | apply below_drew1 | refine below_set ?_ GE641.out) | exact HB.out)) hb); clear HO635; clear HO640; clear BK641; clear HB; have HO635 := n0_; have HO640 := n1_; have BK641 := n2_; have HB := n3_; clear n0_ n1_ n2_ n3_; (try clear hb); (try clear hb2); (try clear hk); (try clear hi); have hcz14_0 : w13.cell? ⟨gb641, 0, none⟩ = some (.int .i64 t630) := (blk_cell BK641.out 0).trans rfl; have hcz14_1 : w13.cell? ⟨gb641, 1, none⟩ = some (.int .i64 t631) := (blk_cell BK641.out 1).trans rfl; have hcz14_2 : w13.cell? ⟨gb641, 2, none⟩ = some (.int .i64 t632) := (blk_cell BK641.out 2).trans rfl; have hcz14_3 : w13.cell? ⟨gb641, 3, none⟩ = some (.slice Ao11 t633.length co11) := (blk_cell BK641.out 3).trans rfl; have hcz14_4 : w13.cell? ⟨gb641, 4, none⟩ = some (.int .i64 t636) := (blk_cell BK641.out 4).trans rfl; have hfz14_0 := blk_frozen BK641.out 0; have hfz14_1 := blk_frozen BK641.out 1; have hfz14_2 := blk_frozen BK641.out 2; have hfz14_3 := blk_frozen BK641.out 3; have hfz14_4 := blk_frozen BK641.out 4) | ((with_reducible refine gate_callee (f := 30) rfl ?_); refine goesL_ (some 27) rfl rfl Try.func30 (by kernel_rfl) rfl #[.agg #[.int .i64 t630, .int .i64 t631, .int .i64 t632, .slice Ao11 t633.length co11, .int .i64 t636], .int .i64 t637, .slice Ao12 t638.length co12] rfl (by (try simp only [List.map_toArray, List.map_cons, List.map_nil]); first | done | rfl | (simp only [List.length_drop, List.length_take]; rfl)) ?_; (with_reducible refine (spec_StaNext.calls k t630 t631 t632 _ _ t633 t636 t637 _ _ t638 t643 _ ?side1 ?side2 ?side3 ?side4 A5.out).mono ?_); (case side1 => repeat (first | exact (Kd.R_reads' HO635.out).2.2 | (with_reducible refine Kd.C_alloc ?_ _) | (with_reducible refine Kd.C_drewN ?_ _) | (with_reducible refine Kd.C_drew ?_))); (case side2 => exact (Kd.R_reads' HO635.out).2.1); (case side3 => repeat (first | exact (Kd.R_reads' HO640.out).2.2 | (with_reducible refine Kd.C_alloc ?_ _) | (with_reducible refine Kd.C_drewN ?_ _) | (with_reducible refine Kd.C_drew ?_))); (case side4 => exact (Kd.R_reads' HO640.out).2.1); rintro e w15 ⟨rfl, hb⟩; refine ⟨_, rfl, ?_⟩; have n0_ := Aside0.mk (Kd.R_below (by (with_reducible repeat (first | apply Kd.R_alloc | apply Kd.R_drewN | apply Kd.R_drew)); exact HO635.out) hb); have n1_ := Aside0.mk (Kd.R_below (by (with_reducible repeat (first | apply Kd.R_alloc | apply Kd.R_drewN | apply Kd.R_drew)); exact HO640.out) hb); have n2_ := Aside0.mk (blk_below (g := gb641) (o := .cells #[.int .i64 t630, .int .i64 t631, .int .i64 t632, .slice Ao11 t633.length co11, .int .i64 t636] 31 (0, 0)) (by (with_reducible repeat (first | refine blk_drewN ?_ _ | refine blk_drew ?_ | refine blk_alloc ?_ _)); exact BK641.out) hb); have n3_ := Aside0.mk (below_step (by repeat (first | (with_reducible first | exact HB.out | apply below_alloc | apply pw_below_drewN | apply below_drew1 | refine below_set ?_ GE641.out) | exact HB.out)) hb); clear HO635; clear HO640; clear BK641; clear HB; have HO635 := n0_; have HO640 := n1_; have BK641 := n2_; have HB := n3_; clear n0_ n1_ n2_ n3_; (try clear hb); (try clear hb2); (try clear hk); (try clear hi)))
      (try simp only [Act.put, List.setIfInBounds_toArray, List.set_cons_zero, List.set_cons_succ])
      go_cut [47] (fun v47 wc => ∃ (kq : Nat) (x47_6 : Bool), v47 = .bool x47_6 ∧ Aside0 (laws_FnStaNext.j0 kq t637 t638 t642 x47_6 t630 t631 t632 t633 t636 = some r) ∧ Aside0 (kq ≤ k) ∧ Aside0 (Kd.R (Kd.int .i64) 3 wc w.heap.size (fun k_ => some k_ ≠ ((.slice Ao11 t633.length co11) : Value).ownBlock) (.slice Ao12 t638.length co12) t638) ∧ Aside0 (Kd.R (Kd.int .i64) 3 wc w.heap.size (fun k_ => some k_ ≠ ((.slice Ao12 t638.length co12) : Value).ownBlock) (.slice Ao11 t633.length co11) t633) ∧ Aside0 (wc.heap[gb641]? = some (.cells #[.int .i64 t630, .int .i64 t631, .int .i64 t632, (.slice Ao11 t633.length co11), .int .i64 t636] 31 (0, 0))) ∧ Aside0 (Below w.heap.size w wc))
      case first =>
        have H := HC7.out
        clear HC7
        replace H := Option.bind_eq_some_iff.mp H
        obtain ⟨t644, A160, H⟩ := H
        replace H : (if t644 = true then (if (t638.length : Int) = (t633.length : Int) then (if t637 < 0 then (laws_FnStaNext.j0 k t637 t638 t642 true t630 t631 t632 t633 t636) else (laws_FnStaNext.j0 k t637 t638 t642 (decide (t637 ≥ 109573)) t630 t631 t632 t633 t636)) else (laws_FnStaNext.j0 k t637 t638 t642 true t630 t631 t632 t633 t636)) else (laws_FnStaNext.j0 k t637 t638 t642 true t630 t631 t632 t633 t636)) = some r := H
        have A16 := Aside0.mk A160
        clear A160
        by_cases c17 : t644 = true
        · subst c17
          have H1 : (if (t638.length : Int) = (t633.length : Int) then (if t637 < 0 then (laws_FnStaNext.j0 k t637 t638 t642 true t630 t631 t632 t633 t636) else (laws_FnStaNext.j0 k t637 t638 t642 (decide (t637 ≥ 109573)) t630 t631 t632 t633 t636)) else (laws_FnStaNext.j0 k t637 t638 t642 true t630 t631 t632 t633 t636)) = some r := by rw [if_pos rfl] at H; exact H
          clear H
          have H := H1
          clear H1
          by_cases c18 : (t638.length : Int) = (t633.length : Int)
          · rw [if_pos c18] at H
            have c18b0 : ((t638.length : Int) == (t633.length : Int)) = true := beq_iff_eq.mpr c18
            have c18b1 : ((t638.length : Int) != (t633.length : Int)) = false := bne_eq_false_iff_eq.mpr c18
            have c18b2 : (t638.length == t633.length) = true := by first | simpa using c18 | (simp at c18 ⊢; omega)
            clear c18
            (first | rw [c18b0] | (simp only [i64_w, i32_w]; rw [c18b0]) | skip)
            by_cases c19 : t637 < 0
            · rw [if_pos c19] at H
              have c19b0 : decide (t637 < 0) = true := decide_eq_true c19
              clear c19
              have H' := Aside0.mk H
              clear H
              have hcz20_0 : w15.cell? ⟨gb641, 0, none⟩ = some (.int .i64 t630) := (blk_cell BK641.out 0).trans rfl
              have hcz20_1 : w15.cell? ⟨gb641, 1, none⟩ = some (.int .i64 t631) := (blk_cell BK641.out 1).trans rfl
              have hcz20_2 : w15.cell? ⟨gb641, 2, none⟩ = some (.int .i64 t632) := (blk_cell BK641.out 2).trans rfl
              have hcz20_3 : w15.cell? ⟨gb641, 3, none⟩ = some (.slice Ao11 t633.length co11) := (blk_cell BK641.out 3).trans rfl
              have hcz20_4 : w15.cell? ⟨gb641, 4, none⟩ = some (.int .i64 t636) := (blk_cell BK641.out 4).trans rfl
              have hfz20_0 := blk_frozen BK641.out 0
              have hfz20_1 := blk_frozen BK641.out 1
              have hfz20_2 := blk_frozen BK641.out 2
              have hfz20_3 := blk_frozen BK641.out 3
              have hfz20_4 := blk_frozen BK641.out 4
              go_wp2_with (first | ((with_reducible refine gate_callee (f := 12) rfl ?_); refine goesL_ (some 30) rfl rfl Try.func12 (by kernel_rfl) rfl #[.agg #[.int .i64 t630, .int .i64 t631, .int .i64 t632, .slice Ao11 t633.length co11, .int .i64 t636]] rfl (by (try simp only [List.map_toArray, List.map_cons, List.map_nil]); first | done | rfl | (simp only [List.length_drop, List.length_take]; rfl)) ?_; (with_reducible refine (spec_StaOk.calls k t630 t631 t632 _ _ t633 t636 true _ ?side1 ?side2 A16.out).mono ?_); (case side1 => repeat (first | exact (Kd.R_reads' HO635.out).2.2 | (with_reducible refine Kd.C_alloc ?_ _) | (with_reducible refine Kd.C_drewN ?_ _) | (with_reducible refine Kd.C_drew ?_))); (case side2 => exact (Kd.R_reads' HO635.out).2.1); rintro e w21 ⟨rfl, hb⟩; refine ⟨_, rfl, ?_⟩; have n0_ := Aside0.mk (Kd.R_below (by (with_reducible repeat (first | apply Kd.R_alloc | apply Kd.R_drewN | apply Kd.R_drew)); exact HO635.out) hb); have n1_ := Aside0.mk (Kd.R_below (by (with_reducible repeat (first | apply Kd.R_alloc | apply Kd.R_drewN | apply Kd.R_drew)); exact HO640.out) hb); have n2_ := Aside0.mk (blk_below (g := gb641) (o := .cells #[.int .i64 t630, .int .i64 t631, .int .i64 t632, .slice Ao11 t633.length co11, .int .i64 t636] 31 (0, 0)) (by (with_reducible repeat (first | refine blk_drewN ?_ _ | refine blk_drew ?_ | refine blk_alloc ?_ _)); exact BK641.out) hb); have n3_ := Aside0.mk (below_step (by repeat (first | (with_reducible first | exact HB.out | apply below_alloc | apply pw_below_drewN | apply below_drew1 | refine below_set ?_ GE641.out) | exact HB.out)) hb); clear HO635; clear HO640; clear BK641; clear HB; have HO635 := n0_; have HO640 := n1_; have BK641 := n2_; have HB := n3_; clear n0_ n1_ n2_ n3_; (try clear hb); (try clear hb2); (try clear hk); (try clear hi); have hcz22_0 : w21.cell? ⟨gb641, 0, none⟩ = some (.int .i64 t630) := (blk_cell BK641.out 0).trans rfl; have hcz22_1 : w21.cell? ⟨gb641, 1, none⟩ = some (.int .i64 t631) := (blk_cell BK641.out 1).trans rfl; have hcz22_2 : w21.cell? ⟨gb641, 2, none⟩ = some (.int .i64 t632) := (blk_cell BK641.out 2).trans rfl; have hcz22_3 : w21.cell? ⟨gb641, 3, none⟩ = some (.slice Ao11 t633.length co11) := (blk_cell BK641.out 3).trans rfl; have hcz22_4 : w21.cell? ⟨gb641, 4, none⟩ = some (.int .i64 t636) := (blk_cell BK641.out 4).trans rfl; have hfz22_0 := blk_frozen BK641.out 0; have hfz22_1 := blk_frozen BK641.out 1; have hfz22_2 := blk_frozen BK641.out 2; have hfz22_3 := blk_frozen BK641.out 3; have hfz22_4 := blk_frozen BK641.out 4))
              go_meet
              case rel => exact ⟨_, (true), (by first | rfl | (simp; done) | (simp [*]; done)), H', ⟨by first | omega | exact Nat.le_refl _⟩, ⟨by (with_reducible repeat (first | apply Kd.R_alloc | apply Kd.R_drewN | apply Kd.R_drew)); exact HO640.out⟩, ⟨by (with_reducible repeat (first | apply Kd.R_alloc | apply Kd.R_drewN | apply Kd.R_drew)); exact HO635.out⟩, ⟨by (with_reducible repeat (first | refine blk_drewN ?_ _ | refine blk_drew ?_ | refine blk_alloc ?_ _)); exact BK641.out⟩, ⟨by repeat (first | (with_reducible first | exact HB.out | apply below_alloc | apply pw_below_drewN | apply below_drew1 | refine below_set ?_ GE641.out) | exact HB.out)⟩⟩
            · rw [if_neg c19] at H
              have c19b0 : decide (t637 < 0) = false := decide_eq_false c19
              clear c19
              have H' := Aside0.mk H
              clear H
              have hcz23_0 : w15.cell? ⟨gb641, 0, none⟩ = some (.int .i64 t630) := (blk_cell BK641.out 0).trans rfl
              have hcz23_1 : w15.cell? ⟨gb641, 1, none⟩ = some (.int .i64 t631) := (blk_cell BK641.out 1).trans rfl
              have hcz23_2 : w15.cell? ⟨gb641, 2, none⟩ = some (.int .i64 t632) := (blk_cell BK641.out 2).trans rfl
              have hcz23_3 : w15.cell? ⟨gb641, 3, none⟩ = some (.slice Ao11 t633.length co11) := (blk_cell BK641.out 3).trans rfl
              have hcz23_4 : w15.cell? ⟨gb641, 4, none⟩ = some (.int .i64 t636) := (blk_cell BK641.out 4).trans rfl
              have hfz23_0 := blk_frozen BK641.out 0
              have hfz23_1 := blk_frozen BK641.out 1
              have hfz23_2 := blk_frozen BK641.out 2
              have hfz23_3 := blk_frozen BK641.out 3
              have hfz23_4 := blk_frozen BK641.out 4
              go_wp2_with (first | ((with_reducible refine gate_callee (f := 12) rfl ?_); refine goesL_ (some 30) rfl rfl Try.func12 (by kernel_rfl) rfl #[.agg #[.int .i64 t630, .int .i64 t631, .int .i64 t632, .slice Ao11 t633.length co11, .int .i64 t636]] rfl (by (try simp only [List.map_toArray, List.map_cons, List.map_nil]); first | done | rfl | (simp only [List.length_drop, List.length_take]; rfl)) ?_; (with_reducible refine (spec_StaOk.calls k t630 t631 t632 _ _ t633 t636 true _ ?side1 ?side2 A16.out).mono ?_); (case side1 => repeat (first | exact (Kd.R_reads' HO635.out).2.2 | (with_reducible refine Kd.C_alloc ?_ _) | (with_reducible refine Kd.C_drewN ?_ _) | (with_reducible refine Kd.C_drew ?_))); (case side2 => exact (Kd.R_reads' HO635.out).2.1); rintro e w24 ⟨rfl, hb⟩; refine ⟨_, rfl, ?_⟩; have n0_ := Aside0.mk (Kd.R_below (by (with_reducible repeat (first | apply Kd.R_alloc | apply Kd.R_drewN | apply Kd.R_drew)); exact HO635.out) hb); have n1_ := Aside0.mk (Kd.R_below (by (with_reducible repeat (first | apply Kd.R_alloc | apply Kd.R_drewN | apply Kd.R_drew)); exact HO640.out) hb); have n2_ := Aside0.mk (blk_below (g := gb641) (o := .cells #[.int .i64 t630, .int .i64 t631, .int .i64 t632, .slice Ao11 t633.length co11, .int .i64 t636] 31 (0, 0)) (by (with_reducible repeat (first | refine blk_drewN ?_ _ | refine blk_drew ?_ | refine blk_alloc ?_ _)); exact BK641.out) hb); have n3_ := Aside0.mk (below_step (by repeat (first | (with_reducible first | exact HB.out | apply below_alloc | apply pw_below_drewN | apply below_drew1 | refine below_set ?_ GE641.out) | exact HB.out)) hb); clear HO635; clear HO640; clear BK641; clear HB; have HO635 := n0_; have HO640 := n1_; have BK641 := n2_; have HB := n3_; clear n0_ n1_ n2_ n3_; (try clear hb); (try clear hb2); (try clear hk); (try clear hi); have hcz25_0 : w24.cell? ⟨gb641, 0, none⟩ = some (.int .i64 t630) := (blk_cell BK641.out 0).trans rfl; have hcz25_1 : w24.cell? ⟨gb641, 1, none⟩ = some (.int .i64 t631) := (blk_cell BK641.out 1).trans rfl; have hcz25_2 : w24.cell? ⟨gb641, 2, none⟩ = some (.int .i64 t632) := (blk_cell BK641.out 2).trans rfl; have hcz25_3 : w24.cell? ⟨gb641, 3, none⟩ = some (.slice Ao11 t633.length co11) := (blk_cell BK641.out 3).trans rfl; have hcz25_4 : w24.cell? ⟨gb641, 4, none⟩ = some (.int .i64 t636) := (blk_cell BK641.out 4).trans rfl; have hfz25_0 := blk_frozen BK641.out 0; have hfz25_1 := blk_frozen BK641.out 1; have hfz25_2 := blk_frozen BK641.out 2; have hfz25_3 := blk_frozen BK641.out 3; have hfz25_4 := blk_frozen BK641.out 4))
              go_meet
              case rel => exact ⟨_, (decide (t637 ≥ 109573)), (by first | rfl | (simp; done) | (simp [*]; done)), H', ⟨by first | omega | exact Nat.le_refl _⟩, ⟨by (with_reducible repeat (first | apply Kd.R_alloc | apply Kd.R_drewN | apply Kd.R_drew)); exact HO640.out⟩, ⟨by (with_reducible repeat (first | apply Kd.R_alloc | apply Kd.R_drewN | apply Kd.R_drew)); exact HO635.out⟩, ⟨by (with_reducible repeat (first | refine blk_drewN ?_ _ | refine blk_drew ?_ | refine blk_alloc ?_ _)); exact BK641.out⟩, ⟨by repeat (first | (with_reducible first | exact HB.out | apply below_alloc | apply pw_below_drewN | apply below_drew1 | refine below_set ?_ GE641.out) | exact HB.out)⟩⟩
          · rw [if_neg c18] at H
            have c18b0 : ((t638.length : Int) == (t633.length : Int)) = false := beq_eq_false_iff_ne.mpr c18
            have c18b1 : ((t638.length : Int) != (t633.length : Int)) = true := bne_iff_ne.mpr c18
            have c18b2 : (t638.length == t633.length) = false := by first | simpa using c18 | (simp at c18 ⊢; omega)
            (first | rw [c18b0] | (simp only [i64_w, i32_w]; rw [c18b0]) | skip)
            have H' := Aside0.mk H
            clear H
            have hcz26_0 : w15.cell? ⟨gb641, 0, none⟩ = some (.int .i64 t630) := (blk_cell BK641.out 0).trans rfl
            have hcz26_1 : w15.cell? ⟨gb641, 1, none⟩ = some (.int .i64 t631) := (blk_cell BK641.out 1).trans rfl
            have hcz26_2 : w15.cell? ⟨gb641, 2, none⟩ = some (.int .i64 t632) := (blk_cell BK641.out 2).trans rfl
            have hcz26_3 : w15.cell? ⟨gb641, 3, none⟩ = some (.slice Ao11 t633.length co11) := (blk_cell BK641.out 3).trans rfl
            have hcz26_4 : w15.cell? ⟨gb641, 4, none⟩ = some (.int .i64 t636) := (blk_cell BK641.out 4).trans rfl
            have hfz26_0 := blk_frozen BK641.out 0
            have hfz26_1 := blk_frozen BK641.out 1
            have hfz26_2 := blk_frozen BK641.out 2
            have hfz26_3 := blk_frozen BK641.out 3
            have hfz26_4 := blk_frozen BK641.out 4
            go_wp2_with (first | ((with_reducible refine gate_callee (f := 12) rfl ?_); refine goesL_ (some 30) rfl rfl Try.func12 (by kernel_rfl) rfl #[.agg #[.int .i64 t630, .int .i64 t631, .int .i64 t632, .slice Ao11 t633.length co11, .int .i64 t636]] rfl (by (try simp only [List.map_toArray, List.map_cons, List.map_nil]); first | done | rfl | (simp only [List.length_drop, List.length_take]; rfl)) ?_; (with_reducible refine (spec_StaOk.calls k t630 t631 t632 _ _ t633 t636 true _ ?side1 ?side2 A16.out).mono ?_); (case side1 => repeat (first | exact (Kd.R_reads' HO635.out).2.2 | (with_reducible refine Kd.C_alloc ?_ _) | (with_reducible refine Kd.C_drewN ?_ _) | (with_reducible refine Kd.C_drew ?_))); (case side2 => exact (Kd.R_reads' HO635.out).2.1); rintro e w27 ⟨rfl, hb⟩; refine ⟨_, rfl, ?_⟩; have n0_ := Aside0.mk (Kd.R_below (by (with_reducible repeat (first | apply Kd.R_alloc | apply Kd.R_drewN | apply Kd.R_drew)); exact HO635.out) hb); have n1_ := Aside0.mk (Kd.R_below (by (with_reducible repeat (first | apply Kd.R_alloc | apply Kd.R_drewN | apply Kd.R_drew)); exact HO640.out) hb); have n2_ := Aside0.mk (blk_below (g := gb641) (o := .cells #[.int .i64 t630, .int .i64 t631, .int .i64 t632, .slice Ao11 t633.length co11, .int .i64 t636] 31 (0, 0)) (by (with_reducible repeat (first | refine blk_drewN ?_ _ | refine blk_drew ?_ | refine blk_alloc ?_ _)); exact BK641.out) hb); have n3_ := Aside0.mk (below_step (by repeat (first | (with_reducible first | exact HB.out | apply below_alloc | apply pw_below_drewN | apply below_drew1 | refine below_set ?_ GE641.out) | exact HB.out)) hb); clear HO635; clear HO640; clear BK641; clear HB; have HO635 := n0_; have HO640 := n1_; have BK641 := n2_; have HB := n3_; clear n0_ n1_ n2_ n3_; (try clear hb); (try clear hb2); (try clear hk); (try clear hi); have hcz28_0 : w27.cell? ⟨gb641, 0, none⟩ = some (.int .i64 t630) := (blk_cell BK641.out 0).trans rfl; have hcz28_1 : w27.cell? ⟨gb641, 1, none⟩ = some (.int .i64 t631) := (blk_cell BK641.out 1).trans rfl; have hcz28_2 : w27.cell? ⟨gb641, 2, none⟩ = some (.int .i64 t632) := (blk_cell BK641.out 2).trans rfl; have hcz28_3 : w27.cell? ⟨gb641, 3, none⟩ = some (.slice Ao11 t633.length co11) := (blk_cell BK641.out 3).trans rfl; have hcz28_4 : w27.cell? ⟨gb641, 4, none⟩ = some (.int .i64 t636) := (blk_cell BK641.out 4).trans rfl; have hfz28_0 := blk_frozen BK641.out 0; have hfz28_1 := blk_frozen BK641.out 1; have hfz28_2 := blk_frozen BK641.out 2; have hfz28_3 := blk_frozen BK641.out 3; have hfz28_4 := blk_frozen BK641.out 4))
            go_meet
            case rel => exact ⟨_, (true), (by first | rfl | (simp; done) | (simp [*]; done)), H', ⟨by first | omega | exact Nat.le_refl _⟩, ⟨by (with_reducible repeat (first | apply Kd.R_alloc | apply Kd.R_drewN | apply Kd.R_drew)); exact HO640.out⟩, ⟨by (with_reducible repeat (first | apply Kd.R_alloc | apply Kd.R_drewN | apply Kd.R_drew)); exact HO635.out⟩, ⟨by (with_reducible repeat (first | refine blk_drewN ?_ _ | refine blk_drew ?_ | refine blk_alloc ?_ _)); exact BK641.out⟩, ⟨by repeat (first | (with_reducible first | exact HB.out | apply below_alloc | apply pw_below_drewN | apply below_drew1 | refine below_set ?_ GE641.out) | exact HB.out)⟩⟩
        · replace c17 := Bool.eq_false_iff.mpr c17
          subst c17
          have H1 : (laws_FnStaNext.j0 k t637 t638 t642 true t630 t631 t632 t633 t636) = some r := by rw [if_neg (show ¬ (false = true) by decide)] at H; exact H
          clear H
          have H := H1
          clear H1
          have H' := Aside0.mk H
          clear H
          have hcz29_0 : w15.cell? ⟨gb641, 0, none⟩ = some (.int .i64 t630) := (blk_cell BK641.out 0).trans rfl
          have hcz29_1 : w15.cell? ⟨gb641, 1, none⟩ = some (.int .i64 t631) := (blk_cell BK641.out 1).trans rfl
          have hcz29_2 : w15.cell? ⟨gb641, 2, none⟩ = some (.int .i64 t632) := (blk_cell BK641.out 2).trans rfl
          have hcz29_3 : w15.cell? ⟨gb641, 3, none⟩ = some (.slice Ao11 t633.length co11) := (blk_cell BK641.out 3).trans rfl
          have hcz29_4 : w15.cell? ⟨gb641, 4, none⟩ = some (.int .i64 t636) := (blk_cell BK641.out 4).trans rfl
          have hfz29_0 := blk_frozen BK641.out 0
          have hfz29_1 := blk_frozen BK641.out 1
          have hfz29_2 := blk_frozen BK641.out 2
          have hfz29_3 := blk_frozen BK641.out 3
          have hfz29_4 := blk_frozen BK641.out 4
          go_wp2_with (first | ((with_reducible refine gate_callee (f := 12) rfl ?_); refine goesL_ (some 30) rfl rfl Try.func12 (by kernel_rfl) rfl #[.agg #[.int .i64 t630, .int .i64 t631, .int .i64 t632, .slice Ao11 t633.length co11, .int .i64 t636]] rfl (by (try simp only [List.map_toArray, List.map_cons, List.map_nil]); first | done | rfl | (simp only [List.length_drop, List.length_take]; rfl)) ?_; (with_reducible refine (spec_StaOk.calls k t630 t631 t632 _ _ t633 t636 false _ ?side1 ?side2 A16.out).mono ?_); (case side1 => repeat (first | exact (Kd.R_reads' HO635.out).2.2 | (with_reducible refine Kd.C_alloc ?_ _) | (with_reducible refine Kd.C_drewN ?_ _) | (with_reducible refine Kd.C_drew ?_))); (case side2 => exact (Kd.R_reads' HO635.out).2.1); rintro e w30 ⟨rfl, hb⟩; refine ⟨_, rfl, ?_⟩; have n0_ := Aside0.mk (Kd.R_below (by (with_reducible repeat (first | apply Kd.R_alloc | apply Kd.R_drewN | apply Kd.R_drew)); exact HO635.out) hb); have n1_ := Aside0.mk (Kd.R_below (by (with_reducible repeat (first | apply Kd.R_alloc | apply Kd.R_drewN | apply Kd.R_drew)); exact HO640.out) hb); have n2_ := Aside0.mk (blk_below (g := gb641) (o := .cells #[.int .i64 t630, .int .i64 t631, .int .i64 t632, .slice Ao11 t633.length co11, .int .i64 t636] 31 (0, 0)) (by (with_reducible repeat (first | refine blk_drewN ?_ _ | refine blk_drew ?_ | refine blk_alloc ?_ _)); exact BK641.out) hb); have n3_ := Aside0.mk (below_step (by repeat (first | (with_reducible first | exact HB.out | apply below_alloc | apply pw_below_drewN | apply below_drew1 | refine below_set ?_ GE641.out) | exact HB.out)) hb); clear HO635; clear HO640; clear BK641; clear HB; have HO635 := n0_; have HO640 := n1_; have BK641 := n2_; have HB := n3_; clear n0_ n1_ n2_ n3_; (try clear hb); (try clear hb2); (try clear hk); (try clear hi)))
          go_meet
          case rel => exact ⟨_, (true), (by first | rfl | (simp; done) | (simp [*]; done)), H', ⟨by first | omega | exact Nat.le_refl _⟩, ⟨by (with_reducible repeat (first | apply Kd.R_alloc | apply Kd.R_drewN | apply Kd.R_drew)); exact HO640.out⟩, ⟨by (with_reducible repeat (first | apply Kd.R_alloc | apply Kd.R_drewN | apply Kd.R_drew)); exact HO635.out⟩, ⟨by (with_reducible repeat (first | refine blk_drewN ?_ _ | refine blk_drew ?_ | refine blk_alloc ?_ _)); exact BK641.out⟩, ⟨by repeat (first | (with_reducible first | exact HB.out | apply below_alloc | apply pw_below_drewN | apply below_drew1 | refine below_set ?_ GE641.out) | exact HB.out)⟩⟩
      case rest =>
        clear HC7
        try clear c1
        try clear c2
        try clear c2b0
        try clear c2b1
        try clear p2
        try clear c3
        try clear c6
        try clear c6b0
        try clear c6b1
        try clear c10
        try clear c12
        try clear c17
        try clear c18
        try clear c18b0
        try clear c18b1
        try clear c18b2
        try clear c19
        try clear c19b0
        try clear c30
        try clear hcz10_0
        try clear hcz10_1
        try clear hcz10_2
        try clear hcz10_3
        try clear hcz10_4
        try clear hcz14_0
        try clear hcz14_1
        try clear hcz14_2
        try clear hcz14_3
        try clear hcz14_4
        try clear hcz20_0
        try clear hcz20_1
        try clear hcz20_2
        try clear hcz20_3
        try clear hcz20_4
        try clear hcz22_0
        try clear hcz22_1
        try clear hcz22_2
        try clear hcz22_3
        try clear hcz22_4
        try clear hcz23_0
        try clear hcz23_1
        try clear hcz23_2
        try clear hcz23_3
        try clear hcz23_4
        try clear hcz25_0
        try clear hcz25_1
        try clear hcz25_2
        try clear hcz25_3
        try clear hcz25_4
        try clear hcz26_0
        try clear hcz26_1
        try clear hcz26_2
        try clear hcz26_3
        try clear hcz26_4
        try clear hcz28_0
        try clear hcz28_1
        try clear hcz28_2
        try clear hcz28_3
        try clear hcz28_4
        try clear hcz29_0
        try clear hcz29_1
        try clear hcz29_2
        try clear hcz29_3
        try clear hcz29_4
        try clear hfz10_0
        try clear hfz10_1
        try clear hfz10_2
        try clear hfz10_3
        try clear hfz10_4
        try clear hfz14_0
        try clear hfz14_1
        try clear hfz14_2
        try clear hfz14_3
        try clear hfz14_4
        try clear hfz20_0
        try clear hfz20_1
        try clear hfz20_2
        try clear hfz20_3
        try clear hfz20_4
        try clear hfz22_0
        try clear hfz22_1
        try clear hfz22_2
        try clear hfz22_3
        try clear hfz22_4
        try clear hfz23_0
        try clear hfz23_1
        try clear hfz23_2
        try clear hfz23_3
        try clear hfz23_4
        try clear hfz25_0
        try clear hfz25_1
        try clear hfz25_2
        try clear hfz25_3
        try clear hfz25_4
        try clear hfz26_0
        try clear hfz26_1
        try clear hfz26_2
        try clear hfz26_3
        try clear hfz26_4
        try clear hfz28_0
        try clear hfz28_1
        try clear hfz28_2
        try clear hfz28_3
        try clear hfz28_4
        try clear hfz29_0
        try clear hfz29_1
        try clear hfz29_2
        try clear hfz29_3
        try clear hfz29_4
        obtain ⟨kq, x47_6, rfl, HA, HJ6, HO_5, HO_642003, BK641, HB⟩ := hcut
        cases kq with
        | zero => exact absurd HA.out (by simp [laws_FnStaNext.j0])
        | succ kj6 =>
          have H := HA.out
          clear HA
          simp only [laws_FnStaNext.j0] at H
          by_cases c31 : x47_6 = true
          · subst c31
            have H1 : (if t642 = (-1) then ((laws_cuOk.f).bind fun t645 => (some t645)) else (some false)) = some r := by rw [if_pos rfl] at H; exact H
            clear H
            have H := H1
            clear H1
            by_cases c32 : t642 = (-1)
            · rw [if_pos c32] at H
              have c32b0 : (t642 == (-1)) = true := beq_iff_eq.mpr c32
              have c32b1 : (t642 != (-1)) = false := bne_eq_false_iff_eq.mpr c32
              clear c32
              replace H := Option.bind_eq_some_iff.mp H
              obtain ⟨t645, A330, H⟩ := H
              replace H : (some t645) = some r := H
              have A33 := Aside0.mk A330
              clear A330
              obtain rfl := Option.some.inj H
              go_wp2_with (first | (go_at_call 19; (with_reducible refine (laws_cuOk.calls  t645 _ A33.out).mono ?_); rintro e w34 ⟨rfl, hb⟩; have n0_ := Aside0.mk (Kd.R_below (by (with_reducible repeat (first | apply Kd.R_alloc | apply Kd.R_drewN | apply Kd.R_drew)); exact HO_5.out) hb); have n1_ := Aside0.mk (Kd.R_below (by (with_reducible repeat (first | apply Kd.R_alloc | apply Kd.R_drewN | apply Kd.R_drew)); exact HO_642003.out) hb); have n2_ := Aside0.mk (blk_below (g := gb641) (o := .cells #[.int .i64 t630, .int .i64 t631, .int .i64 t632, .slice Ao11 t633.length co11, .int .i64 t636] 31 (0, 0)) (by (with_reducible repeat (first | refine blk_drewN ?_ _ | refine blk_drew ?_ | refine blk_alloc ?_ _)); exact BK641.out) hb); have n3_ := Aside0.mk (below_step (by repeat (first | (with_reducible first | exact HB.out | apply below_alloc | apply pw_below_drewN | apply below_drew1 | refine below_set ?_ GE641.out) | exact HB.out)) hb); clear HO_5; clear HO_642003; clear BK641; clear HB; have HO_5 := n0_; have HO_642003 := n1_; have BK641 := n2_; have HB := n3_; clear n0_ n1_ n2_ n3_; (try clear hb); (try clear hb2); (try clear hk); (try clear hi)))
              go_ret
              exact ⟨by first | rfl | (simp [errW_none, errW_some] <;> rfl) | (simp [*, errW_none, errW_some] <;> rfl), by repeat (first | (with_reducible first | exact HB.out | apply below_alloc | apply pw_below_drewN | apply below_drew1 | refine below_set ?_ GE641.out) | exact HB.out)⟩
            · rw [if_neg c32] at H
              have c32b0 : (t642 == (-1)) = false := beq_eq_false_iff_ne.mpr c32
              have c32b1 : (t642 != (-1)) = true := bne_iff_ne.mpr c32
              obtain rfl := Option.some.inj H
              go_wp2
              go_ret
              exact ⟨by first | rfl | (simp [errW_none, errW_some] <;> rfl) | (simp [*, errW_none, errW_some] <;> rfl), by repeat (first | (with_reducible first | exact HB.out | apply below_alloc | apply pw_below_drewN | apply below_drew1 | refine below_set ?_ GE641.out) | exact HB.out)⟩
          · replace c31 := Bool.eq_false_iff.mpr c31
            subst c31
            have H1 : (laws_FnStaNext.l0 kj6 t637 t638 t642 0 t630 t631 t632 t633 t636) = some r := by rw [if_neg (show ¬ (false = true) by decide)] at H; exact H
            clear H
            have H := H1
            clear H1
            have H' := Aside0.mk H
            clear H
            go_wp2
            go_loopg [7] kj6 (fun kq v7 w' => ∃ (x7_2 : Int), v7 = .int .i64 x7_2 ∧ Aside0 (laws_FnStaNext.l0 kq t637 t638 t642 x7_2 t630 t631 t632 t633 t636 = some r) ∧ Aside0 (kq ≤ kj6) ∧ Aside0 (Kd.R (Kd.int .i64) 3 w' w.heap.size (fun k_ => some k_ ≠ ((.slice Ao11 t633.length co11) : Value).ownBlock) (.slice Ao12 t638.length co12) t638) ∧ Aside0 (Kd.R (Kd.int .i64) 3 w' w.heap.size (fun k_ => some k_ ≠ ((.slice Ao12 t638.length co12) : Value).ownBlock) (.slice Ao11 t633.length co11) t633) ∧ Aside0 (w'.heap[gb641]? = some (.cells #[.int .i64 t630, .int .i64 t631, .int .i64 t632, (.slice Ao11 t633.length co11), .int .i64 t636] 31 (0, 0))) ∧ Aside0 (Below w.heap.size w w'))
            case atStart => exact ⟨(0), (by first | rfl | (simp; done) | (simp [*]; done)), H', ⟨Nat.le_refl _⟩, ⟨by (with_reducible repeat (first | apply Kd.R_alloc | apply Kd.R_drewN | apply Kd.R_drew)); exact HO_5.out⟩, ⟨by (with_reducible repeat (first | apply Kd.R_alloc | apply Kd.R_drewN | apply Kd.R_drew)); exact HO_642003.out⟩, ⟨by (with_reducible repeat (first | refine blk_drewN ?_ _ | refine blk_drew ?_ | refine blk_alloc ?_ _)); exact BK641.out⟩, ⟨by repeat (first | (with_reducible first | exact HB.out | apply below_alloc | apply pw_below_drewN | apply below_drew1 | refine below_set ?_ GE641.out) | exact HB.out)⟩⟩
            case round =>
              clear H'
              try clear c1
              try clear c2
              try clear c2b0
              try clear c2b1
              try clear p2
              try clear c3
              try clear c6
              try clear c6b0
              try clear c6b1
              try clear c10
              try clear c12
              try clear c17
              try clear c18
              try clear c18b0
              try clear c18b1
              try clear c18b2
              try clear c19
              try clear c19b0
              try clear c30
              try clear c31
              try clear c32
              try clear c32b0
              try clear c32b1
              try clear c34
              try clear hcz10_0
              try clear hcz10_1
              try clear hcz10_2
              try clear hcz10_3
              try clear hcz10_4
              try clear hcz14_0
              try clear hcz14_1
              try clear hcz14_2
              try clear hcz14_3
              try clear hcz14_4
              try clear hcz20_0
              try clear hcz20_1
              try clear hcz20_2
              try clear hcz20_3
              try clear hcz20_4
              try clear hcz22_0
              try clear hcz22_1
              try clear hcz22_2
              try clear hcz22_3
              try clear hcz22_4
              try clear hcz23_0
              try clear hcz23_1
              try clear hcz23_2
              try clear hcz23_3
              try clear hcz23_4
              try clear hcz25_0
              try clear hcz25_1
              try clear hcz25_2
              try clear hcz25_3
              try clear hcz25_4
              try clear hcz26_0
              try clear hcz26_1
              try clear hcz26_2
              try clear hcz26_3
              try clear hcz26_4
              try clear hcz28_0
              try clear hcz28_1
              try clear hcz28_2
              try clear hcz28_3
              try clear hcz28_4
              try clear hcz29_0
              try clear hcz29_1
              try clear hcz29_2
              try clear hcz29_3
              try clear hcz29_4
              try clear hfz10_0
              try clear hfz10_1
              try clear hfz10_2
              try clear hfz10_3
              try clear hfz10_4
              try clear hfz14_0
              try clear hfz14_1
              try clear hfz14_2
              try clear hfz14_3
              try clear hfz14_4
              try clear hfz20_0
              try clear hfz20_1
              try clear hfz20_2
              try clear hfz20_3
              try clear hfz20_4
              try clear hfz22_0
              try clear hfz22_1
              try clear hfz22_2
              try clear hfz22_3
              try clear hfz22_4
              try clear hfz23_0
              try clear hfz23_1
              try clear hfz23_2
              try clear hfz23_3
              try clear hfz23_4
              try clear hfz25_0
              try clear hfz25_1
              try clear hfz25_2
              try clear hfz25_3
              try clear hfz25_4
              try clear hfz26_0
              try clear hfz26_1
              try clear hfz26_2
              try clear hfz26_3
              try clear hfz26_4
              try clear hfz28_0
              try clear hfz28_1
              try clear hfz28_2
              try clear hfz28_3
              try clear hfz28_4
              try clear hfz29_0
              try clear hfz29_1
              try clear hfz29_2
              try clear hfz29_3
              try clear hfz29_4
              try clear p2
              obtain ⟨x7_2, rfl, HA, HK2, HO_5, HO_642003, BK641, HB⟩ := hrel
              cases gk with
              | zero => exact absurd HA.out (by simp [laws_FnStaNext.l0])
              | succ k2 =>
                have H := HA.out
                clear HA
                simp only [laws_FnStaNext.l0] at H
                by_cases c35 : x7_2 < (t638.length : Int)
                · rw [if_pos c35] at H
                  have c35b0 : decide (x7_2 < (t638.length : Int)) = true := decide_eq_true c35
                  clear c35
                  by_cases c36 : 0 ≤ x7_2
                  · rw [if_pos c36] at H
                    have c36b0 : decide (0 ≤ x7_2) = true := decide_eq_true c36
                    clear c36
                    replace H := Option.bind_eq_some_iff.mp H
                    obtain ⟨t647, A370, H⟩ := H
                    replace H : (if t647 = 1 then (laws_FnStaNext.j2 k2 t637 t638 t642 x7_2 true t630 t631 t632 t633 t636) else (laws_FnStaNext.j2 k2 t637 t638 t642 x7_2 (t647 == 2) t630 t631 t632 t633 t636)) = some r := H
                    have A37 := Aside0.mk A370
                    clear A370
                    have HC38 := Aside0.mk H
                    clear H
                    try go_wp2
                    have n0_ := Aside0.mk (Kd.R_drew HO_5.out)
                    have n1_ := Aside0.mk (Kd.R_drew HO_642003.out)
                    have n2_ := Aside0.mk (blk_drew BK641.out)
                    have n3_ := Aside0.mk (below_drew1 HB.out)
                    clear HO_5
                    clear HO_642003
                    clear BK641
                    clear HB
                    have HO_5 := n0_
                    have HO_642003 := n1_
                    have BK641 := n2_
                    have HB := n3_
                    clear n0_ n1_ n2_ n3_
                    have p646 : 0 ≤ (x7_2 : Int) := of_decide_eq_true (by first | (with_reducible assumption) | assumption)
                    have q646 : x7_2 < (t638.length : Int) := of_decide_eq_true (by first | (with_reducible assumption) | assumption)
                    obtain ⟨ad646, e646, hx646_0⟩ := Kd.at_int (Kd.R_reads' HO_5.out).2.2 x7_2 p646 q646
                    cases e646
                    replace p646 := eq_true p646
                    replace q646 := eq_true q646
                    refine start_ (n := 9) (S := fun w' => w'.cell? ⟨gb641, 0, none⟩ = some (.int .i64 t630) ∧ w'.cell? ⟨gb641, 1, none⟩ = some (.int .i64 t631) ∧ w'.cell? ⟨gb641, 2, none⟩ = some (.int .i64 t632) ∧ w'.cell? ⟨gb641, 3, none⟩ = some (.slice Ao11 t633.length co11) ∧ w'.cell? ⟨gb641, 4, none⟩ = some (.int .i64 t636) ∧ w'.cell? (ad646.add (x7_2).toNat) = some (.int .i64 (rd t638 x7_2))) (ds := []) #[false, false, false, false, false, false, false, false, false] (by kernel_rfl) rfl rfl ⟨(blk_cell BK641.out 0).trans rfl, (blk_cell BK641.out 1).trans rfl, (blk_cell BK641.out 2).trans rfl, (blk_cell BK641.out 3).trans rfl, (blk_cell BK641.out 4).trans rfl, hx646_0⟩ (fun hHeld => ?_); refine with_tabW laws_FnStaNext.tab12 laws_FnStaNext.bits12 (fun HT_ HW_ => ?_)
                    generalize wr.drew = w39 at HO_5 HO_642003 BK641 HB hx646_0 hHeld ⊢
                    refine pure_ (i := 1) (N := some 60) (v := ?_) (a' := ?_) #[false, true, false, false, false, false, false, false, false] rfl rfl (any_of HT_.out (by kernel_rfl)) (fun _ _ _ h => h) (Or.inl ⟨by rfl, ?_⟩) ?_ ?_
                    rotate_left
                    · intro w'
                      go_simp
                      with_reducible rfl
                    rotate_left
                    · simp only [Act.put, List.setIfInBounds_toArray, List.set_cons_zero, List.set_cons_succ, i64_w, i32_w]
                      rfl
                    refine pure_ (i := 2) (N := some 61) (v := ?_) (a' := ?_) #[false, true, true, false, false, false, false, false, false] rfl rfl (any_of HT_.out (by kernel_rfl)) (fun _ _ _ h => h) (Or.inl ⟨by rfl, ?_⟩) ?_ ?_
                    rotate_left
                    · intro w'
                      go_simp
                      with_reducible rfl
                    rotate_left
                    · simp only [Act.put, List.setIfInBounds_toArray, List.set_cons_zero, List.set_cons_succ, i64_w, i32_w]
                      rfl
                    refine pure_ (i := 3) (N := some 62) (v := ?_) (a' := ?_) #[false, true, true, true, false, false, false, false, false] rfl rfl (any_of HT_.out (by kernel_rfl)) (fun _ _ _ h => h) (Or.inl ⟨by rfl, ?_⟩) ?_ ?_
                    rotate_left
                    · intro w'
                      go_simp
                      with_reducible rfl
                    rotate_left
                    · simp only [Act.put, List.setIfInBounds_toArray, List.set_cons_zero, List.set_cons_succ, i64_w, i32_w]
                      rfl
                    refine pure_ (i := 4) (N := some 63) (v := ?_) (a' := ?_) #[false, true, true, true, true, false, false, false, false] rfl rfl (any_of HT_.out (by kernel_rfl)) (fun _ _ _ h => h) (Or.inl ⟨by rfl, ?_⟩) ?_ ?_
                    rotate_left
                    · intro w'
                      go_simp
                      with_reducible rfl
                    rotate_left
                    · simp only [Act.put, List.setIfInBounds_toArray, List.set_cons_zero, List.set_cons_succ, i64_w, i32_w]
                      rfl
                    refine pure_ (i := 5) (N := some 64) (v := ?_) (a' := ?_) #[false, true, true, true, true, true, false, false, false] rfl rfl (any_of HT_.out (by kernel_rfl)) (fun _ _ _ h => h) (Or.inl ⟨by rfl, ?_⟩) ?_ ?_
                    rotate_left
                    · intro w'
                      go_simp
                      with_reducible rfl
                    rotate_left
                    · simp only [Act.put, List.setIfInBounds_toArray, List.set_cons_zero, List.set_cons_succ, i64_w, i32_w]
                      rfl
                    refine take_ (i := 0) (N := some 59) (v := ?_) (a' := ?_) #[true, true, true, true, true, true, false, false, false] rfl rfl (take_ofW HT_.out HW_.out (by kernel_rfl)) (fun _ _ _ h => h) (Or.inl ⟨by rfl, ?_⟩) hHeld ?_ ?_
                    rotate_left
                    · rintro w' ⟨s0, s1, s2, s3, s4, s5⟩
                      go_simp
                      with_reducible rfl
                    rotate_left
                    · simp only [Act.put, List.setIfInBounds_toArray, List.set_cons_zero, List.set_cons_succ, i64_w, i32_w]
                      rfl
                    refine take_ (i := 6) (N := some 65) (v := ?_) (a' := ?_) #[true, true, true, true, true, true, true, false, false] rfl rfl (take_ofW HT_.out HW_.out (by kernel_rfl)) (fun _ _ _ h => h) (Or.inl ⟨by rfl, ?_⟩) hHeld ?_ ?_
                    rotate_left
                    · rintro w' ⟨s0, s1, s2, s3, s4, s5⟩
                      go_simp
                      with_reducible rfl
                    rotate_left
                    · simp only [Act.put, List.setIfInBounds_toArray, List.set_cons_zero, List.set_cons_succ, i64_w, i32_w]
                      rfl
                    refine one_ (i := 7) (N := some 66) #[true, true, true, true, true, true, true, true, false] rfl rfl (one_of HT_.out (by kernel_rfl)) (by decide) (fun K hK => ?_)
                    refine goes_ Try.func24 (by kernel_rfl) rfl #[.agg #[.int .i64 t630, .int .i64 t631, .int .i64 t632, .slice Ao11 t633.length co11, .int .i64 t636], .int .i64 x7_2, .int .i64 t637, .int .i64 (rd t638 x7_2)] (by rfl) rfl rfl (by (try simp only [List.map_toArray, List.map_cons, List.map_nil]); first | done | rfl | (simp only [List.length_drop, List.length_take]; rfl)) ?_
                    with_reducible refine (impl_StaState.calls k2 t630 t631 t632 _ _ t633 t636 x7_2 t637 (rd t638 x7_2) t647 _ ?side1 ?side2 A37.out).mono ?_
                    (case side1 => repeat (first | exact (Kd.R_reads' HO_642003.out).2.2 | (with_reducible refine Kd.C_alloc ?_ _) | (with_reducible refine Kd.C_drewN ?_ _) | (with_reducible refine Kd.C_drew ?_)))
                    (case side2 => exact (Kd.R_reads' HO_642003.out).2.1)
                    rintro e w40 ⟨rfl, hb⟩
                    have HS5_ := (hb.cell (World.block_lt_of_cell? _ _ (hHeld.2.2.2.2.2))).trans (hHeld.2.2.2.2.2)
                    refine ⟨_, rfl, ?_⟩
                    have n0_ := Aside0.mk (Kd.R_below (by (with_reducible repeat (first | apply Kd.R_alloc | apply Kd.R_drewN | apply Kd.R_drew)); exact HO_5.out) hb)
                    have n1_ := Aside0.mk (Kd.R_below (by (with_reducible repeat (first | apply Kd.R_alloc | apply Kd.R_drewN | apply Kd.R_drew)); exact HO_642003.out) hb)
                    have n2_ := Aside0.mk (blk_below (g := gb641) (o := .cells #[.int .i64 t630, .int .i64 t631, .int .i64 t632, .slice Ao11 t633.length co11, .int .i64 t636] 31 (0, 0)) (by (with_reducible repeat (first | refine blk_drewN ?_ _ | refine blk_drew ?_ | refine blk_alloc ?_ _)); exact BK641.out) hb)
                    have n3_ := Aside0.mk (below_step (by repeat (first | (with_reducible first | exact HB.out | apply below_alloc | apply pw_below_drewN | apply below_drew1 | refine below_set ?_ GE641.out) | exact HB.out)) hb)
                    clear HO_5
                    clear HO_642003
                    clear BK641
                    clear HB
                    have HO_5 := n0_
                    have HO_642003 := n1_
                    have BK641 := n2_
                    have HB := n3_
                    clear n0_ n1_ n2_ n3_
                    (try clear hb)
                    (try clear hb2)
                    (try clear hk)
                    (try clear hi)
                    refine hK.out _ _ ⟨(blk_cell BK641.out 0).trans rfl, (blk_cell BK641.out 1).trans rfl, (blk_cell BK641.out 2).trans rfl, (blk_cell BK641.out 3).trans rfl, (blk_cell BK641.out 4).trans rfl, HS5_⟩ (fun hHeld => ?_)
                    clear hK K
                    refine norm_ (a' := ?_) ?_ ?_
                    rotate_left
                    · show Act.put _ (some 66) _ = _
                      simp only [Act.put, List.setIfInBounds_toArray, List.set_cons_zero, List.set_cons_succ, i64_w, i32_w]
                      rfl
                    refine pure_ (i := 8) (N := some 8) (v := ?_) (a' := ?_) #[true, true, true, true, true, true, true, true, true] rfl rfl (any_of HT_.out (by kernel_rfl)) (fun _ _ _ h => h) (Or.inl ⟨by rfl, ?_⟩) ?_ ?_
                    rotate_left
                    · intro w'
                      go_simp
                      with_reducible rfl
                    rotate_left
                    · simp only [Act.put, List.setIfInBounds_toArray, List.set_cons_zero, List.set_cons_succ, i64_w, i32_w]
                      rfl
                    refine done_ (done_of HT_.out (by kernel_rfl)) ?_
                    go_upto_region 13 with (fail)
                    go_cut [9] (fun v9 wc => ∃ (kq : Nat) (x9_37 : Bool), v9 = .bool x9_37 ∧ Aside0 (laws_FnStaNext.j2 kq t637 t638 t642 x7_2 x9_37 t630 t631 t632 t633 t636 = some r) ∧ Aside0 (kq ≤ k2) ∧ Aside0 (Kd.R (Kd.int .i64) 3 wc w.heap.size (fun k_ => some k_ ≠ ((.slice Ao11 t633.length co11) : Value).ownBlock) (.slice (some ad646) t638.length co12) t638) ∧ Aside0 (Kd.R (Kd.int .i64) 3 wc w.heap.size (fun k_ => some k_ ≠ ((.slice (some ad646) t638.length co12) : Value).ownBlock) (.slice Ao11 t633.length co11) t633) ∧ Aside0 (wc.heap[gb641]? = some (.cells #[.int .i64 t630, .int .i64 t631, .int .i64 t632, (.slice Ao11 t633.length co11), .int .i64 t636] 31 (0, 0))) ∧ Aside0 (Below w.heap.size w wc))
                    case first =>
                      have H := HC38.out
                      clear HC38
                      by_cases c41 : t647 = 1
                      · rw [if_pos c41] at H
                        have c41b0 : (t647 == 1) = true := beq_iff_eq.mpr c41
                        have c41b1 : (t647 != 1) = false := bne_eq_false_iff_eq.mpr c41
                        clear c41
                        (first | rw [c41b0] | (simp only [i64_w, i32_w]; rw [c41b0]) | skip)
                        have H' := Aside0.mk H
                        clear H
                        go_wp2
                        go_meet
                        case rel => exact ⟨_, (true), (by first | rfl | (simp; done) | (simp [*]; done)), H', ⟨by have := HJ6.out; have := HK2.out; first | omega | exact Nat.le_refl _⟩, ⟨by (with_reducible repeat (first | apply Kd.R_alloc | apply Kd.R_drewN | apply Kd.R_drew)); exact HO_5.out⟩, ⟨by (with_reducible repeat (first | apply Kd.R_alloc | apply Kd.R_drewN | apply Kd.R_drew)); exact HO_642003.out⟩, ⟨by (with_reducible repeat (first | refine blk_drewN ?_ _ | refine blk_drew ?_ | refine blk_alloc ?_ _)); exact BK641.out⟩, ⟨by repeat (first | (with_reducible first | exact HB.out | apply below_alloc | apply pw_below_drewN | apply below_drew1 | refine below_set ?_ GE641.out) | exact HB.out)⟩⟩
                      · rw [if_neg c41] at H
                        have c41b0 : (t647 == 1) = false := beq_eq_false_iff_ne.mpr c41
                        have c41b1 : (t647 != 1) = true := bne_iff_ne.mpr c41
                        (first | rw [c41b0] | (simp only [i64_w, i32_w]; rw [c41b0]) | skip)
                        have H' := Aside0.mk H
                        clear H
                        go_wp2
                        go_meet
                        case rel => exact ⟨_, ((t647 == 2)), (by first | rfl | (simp; done) | (simp [*]; done)), H', ⟨by have := HJ6.out; have := HK2.out; first | omega | exact Nat.le_refl _⟩, ⟨by (with_reducible repeat (first | apply Kd.R_alloc | apply Kd.R_drewN | apply Kd.R_drew)); exact HO_5.out⟩, ⟨by (with_reducible repeat (first | apply Kd.R_alloc | apply Kd.R_drewN | apply Kd.R_drew)); exact HO_642003.out⟩, ⟨by (with_reducible repeat (first | refine blk_drewN ?_ _ | refine blk_drew ?_ | refine blk_alloc ?_ _)); exact BK641.out⟩, ⟨by repeat (first | (with_reducible first | exact HB.out | apply below_alloc | apply pw_below_drewN | apply below_drew1 | refine below_set ?_ GE641.out) | exact HB.out)⟩⟩
                    case rest =>
                      clear HC38
                      try clear c1
                      try clear c2
                      try clear c2b0
                      try clear c2b1
                      try clear p2
                      try clear c3
                      try clear c4
                      try clear c6
                      try clear c6b0
                      try clear c6b1
                      try clear p6
                      try clear q6
                      try clear hx6
                      try clear c10
                      try clear c12
                      try clear c17
                      try clear c18
                      try clear c18b0
                      try clear c18b1
                      try clear c18b2
                      try clear c19
                      try clear c19b0
                      try clear c24
                      try clear c30
                      try clear c31
                      try clear c32
                      try clear c32b0
                      try clear c32b1
                      try clear c34
                      try clear c35
                      try clear c35b0
                      try clear c36
                      try clear c36b0
                      try clear c41
                      try clear c41b0
                      try clear c41b1
                      try clear hcz10_0
                      try clear hcz10_1
                      try clear hcz10_2
                      try clear hcz10_3
                      try clear hcz10_4
                      try clear hcz14_0
                      try clear hcz14_1
                      try clear hcz14_2
                      try clear hcz14_3
                      try clear hcz14_4
                      try clear hcz20_0
                      try clear hcz20_1
                      try clear hcz20_2
                      try clear hcz20_3
                      try clear hcz20_4
                      try clear hcz22_0
                      try clear hcz22_1
                      try clear hcz22_2
                      try clear hcz22_3
                      try clear hcz22_4
                      try clear hcz23_0
                      try clear hcz23_1
                      try clear hcz23_2
                      try clear hcz23_3
                      try clear hcz23_4
                      try clear hcz25_0
                      try clear hcz25_1
                      try clear hcz25_2
                      try clear hcz25_3
                      try clear hcz25_4
                      try clear hcz26_0
                      try clear hcz26_1
                      try clear hcz26_2
                      try clear hcz26_3
                      try clear hcz26_4
                      try clear hcz28_0
                      try clear hcz28_1
                      try clear hcz28_2
                      try clear hcz28_3
                      try clear hcz28_4
                      try clear hcz29_0
                      try clear hcz29_1
                      try clear hcz29_2
                      try clear hcz29_3
                      try clear hcz29_4
                      try clear hfz10_0
                      try clear hfz10_1
                      try clear hfz10_2
                      try clear hfz10_3
                      try clear hfz10_4
                      try clear hfz14_0
                      try clear hfz14_1
                      try clear hfz14_2
                      try clear hfz14_3
                      try clear hfz14_4
                      try clear hfz20_0
                      try clear hfz20_1
                      try clear hfz20_2
                      try clear hfz20_3
                      try clear hfz20_4
                      try clear hfz22_0
                      try clear hfz22_1
                      try clear hfz22_2
                      try clear hfz22_3
                      try clear hfz22_4
                      try clear hfz23_0
                      try clear hfz23_1
                      try clear hfz23_2
                      try clear hfz23_3
                      try clear hfz23_4
                      try clear hfz25_0
                      try clear hfz25_1
                      try clear hfz25_2
                      try clear hfz25_3
                      try clear hfz25_4
                      try clear hfz26_0
                      try clear hfz26_1
                      try clear hfz26_2
                      try clear hfz26_3
                      try clear hfz26_4
                      try clear hfz28_0
                      try clear hfz28_1
                      try clear hfz28_2
                      try clear hfz28_3
                      try clear hfz28_4
                      try clear hfz29_0
                      try clear hfz29_1
                      try clear hfz29_2
                      try clear hfz29_3
                      try clear hfz29_4
                      try clear hx646_0
                      try clear p2
                      try clear p646
                      try clear q646
                      obtain ⟨kq, x9_37, rfl, HA, HJ37, HO_5, HO_642003, BK641, HB⟩ := hcut
                      cases kq with
                      | zero => exact absurd HA.out (by simp [laws_FnStaNext.j2])
                      | succ kj37 =>
                        have H := HA.out
                        clear HA
                        simp only [laws_FnStaNext.j2] at H
                        have HC42 := Aside0.mk H
                        clear H
                        go_upto_region 14 with (fail)
                        go_cut [91] (fun v91 wc => ∃ (kq : Nat) (x91_41 : Bool), v91 = .bool x91_41 ∧ Aside0 (laws_FnStaNext.j3 kq t637 t638 t642 x7_2 x91_41 t630 t631 t632 t633 t636 = some r) ∧ Aside0 (kq ≤ kj37) ∧ Aside0 (Kd.R (Kd.int .i64) 3 wc w.heap.size (fun k_ => some k_ ≠ ((.slice Ao11 t633.length co11) : Value).ownBlock) (.slice (some ad646) t638.length co12) t638) ∧ Aside0 (Kd.R (Kd.int .i64) 3 wc w.heap.size (fun k_ => some k_ ≠ ((.slice (some ad646) t638.length co12) : Value).ownBlock) (.slice Ao11 t633.length co11) t633) ∧ Aside0 (wc.heap[gb641]? = some (.cells #[.int .i64 t630, .int .i64 t631, .int .i64 t632, (.slice Ao11 t633.length co11), .int .i64 t636] 31 (0, 0))) ∧ Aside0 (Below w.heap.size w wc))
                        case first =>
                          have H := HC42.out
                          clear HC42
                          by_cases c43 : x9_37 = true
                          · subst c43
                            have H1 : (if t642 < 0 then (laws_FnStaNext.j3 kj37 t637 t638 t642 x7_2 true t630 t631 t632 t633 t636) else (if t642 > x7_2 then (laws_FnStaNext.j3 kj37 t637 t638 t642 x7_2 true t630 t631 t632 t633 t636) else (if t642 = x7_2 then (laws_FnStaNext.j3 kj37 t637 t638 t642 x7_2 (!true) t630 t631 t632 t633 t636) else (laws_FnStaNext.j3 kj37 t637 t638 t642 x7_2 false t630 t631 t632 t633 t636)))) = some r := by rw [if_pos rfl] at H; exact H
                            clear H
                            have H := H1
                            clear H1
                            by_cases c44 : t642 < 0
                            · rw [if_pos c44] at H
                              have c44b0 : decide (t642 < 0) = true := decide_eq_true c44
                              clear c44
                              (first | rw [c44b0] | (simp only [i64_w, i32_w]; rw [c44b0]) | skip)
                              have H' := Aside0.mk H
                              clear H
                              go_wp2
                              go_meet
                              case rel => exact ⟨_, (true), (by first | rfl | (simp; done) | (simp [*]; done)), H', ⟨by have := HJ6.out; have := HK2.out; have := HJ37.out; first | omega | exact Nat.le_refl _⟩, ⟨by (with_reducible repeat (first | apply Kd.R_alloc | apply Kd.R_drewN | apply Kd.R_drew)); exact HO_5.out⟩, ⟨by (with_reducible repeat (first | apply Kd.R_alloc | apply Kd.R_drewN | apply Kd.R_drew)); exact HO_642003.out⟩, ⟨by (with_reducible repeat (first | refine blk_drewN ?_ _ | refine blk_drew ?_ | refine blk_alloc ?_ _)); exact BK641.out⟩, ⟨by repeat (first | (with_reducible first | exact HB.out | apply below_alloc | apply pw_below_drewN | apply below_drew1 | refine below_set ?_ GE641.out) | exact HB.out)⟩⟩
                            · rw [if_neg c44] at H
                              have c44b0 : decide (t642 < 0) = false := decide_eq_false c44
                              clear c44
                              (first | rw [c44b0] | (simp only [i64_w, i32_w]; rw [c44b0]) | skip)
                              by_cases c45 : t642 > x7_2
                              · rw [if_pos c45] at H
                                have c45b0 : decide (x7_2 < t642) = true := decide_eq_true c45
                                clear c45
                                have H' := Aside0.mk H
                                clear H
                                go_wp2
                                go_meet
                                case rel => exact ⟨_, (true), (by first | rfl | (simp; done) | (simp [*]; done)), H', ⟨by have := HJ6.out; have := HK2.out; have := HJ37.out; first | omega | exact Nat.le_refl _⟩, ⟨by (with_reducible repeat (first | apply Kd.R_alloc | apply Kd.R_drewN | apply Kd.R_drew)); exact HO_5.out⟩, ⟨by (with_reducible repeat (first | apply Kd.R_alloc | apply Kd.R_drewN | apply Kd.R_drew)); exact HO_642003.out⟩, ⟨by (with_reducible repeat (first | refine blk_drewN ?_ _ | refine blk_drew ?_ | refine blk_alloc ?_ _)); exact BK641.out⟩, ⟨by repeat (first | (with_reducible first | exact HB.out | apply below_alloc | apply pw_below_drewN | apply below_drew1 | refine below_set ?_ GE641.out) | exact HB.out)⟩⟩
                              · rw [if_neg c45] at H
                                have c45b0 : decide (x7_2 < t642) = false := decide_eq_false c45
                                clear c45
                                by_cases c46 : t642 = x7_2
                                · rw [if_pos c46] at H
                                  have c46b0 : (t642 == x7_2) = true := beq_iff_eq.mpr c46
                                  have c46b1 : (t642 != x7_2) = false := bne_eq_false_iff_eq.mpr c46
                                  clear c46
                                  have H' := Aside0.mk H
                                  clear H
                                  go_wp2
                                  go_meet
                                  case rel => exact ⟨_, (!true), (by first | rfl | (simp; done) | (simp [*]; done)), H', ⟨by have := HJ6.out; have := HK2.out; have := HJ37.out; first | omega | exact Nat.le_refl _⟩, ⟨by (with_reducible repeat (first | apply Kd.R_alloc | apply Kd.R_drewN | apply Kd.R_drew)); exact HO_5.out⟩, ⟨by (with_reducible repeat (first | apply Kd.R_alloc | apply Kd.R_drewN | apply Kd.R_drew)); exact HO_642003.out⟩, ⟨by (with_reducible repeat (first | refine blk_drewN ?_ _ | refine blk_drew ?_ | refine blk_alloc ?_ _)); exact BK641.out⟩, ⟨by repeat (first | (with_reducible first | exact HB.out | apply below_alloc | apply pw_below_drewN | apply below_drew1 | refine below_set ?_ GE641.out) | exact HB.out)⟩⟩
                                · rw [if_neg c46] at H
                                  have c46b0 : (t642 == x7_2) = false := beq_eq_false_iff_ne.mpr c46
                                  have c46b1 : (t642 != x7_2) = true := bne_iff_ne.mpr c46
                                  have H' := Aside0.mk H
                                  clear H
                                  go_wp2
                                  go_meet
                                  case rel => exact ⟨_, (false), (by first | rfl | (simp; done) | (simp [*]; done)), H', ⟨by have := HJ6.out; have := HK2.out; have := HJ37.out; first | omega | exact Nat.le_refl _⟩, ⟨by (with_reducible repeat (first | apply Kd.R_alloc | apply Kd.R_drewN | apply Kd.R_drew)); exact HO_5.out⟩, ⟨by (with_reducible repeat (first | apply Kd.R_alloc | apply Kd.R_drewN | apply Kd.R_drew)); exact HO_642003.out⟩, ⟨by (with_reducible repeat (first | refine blk_drewN ?_ _ | refine blk_drew ?_ | refine blk_alloc ?_ _)); exact BK641.out⟩, ⟨by repeat (first | (with_reducible first | exact HB.out | apply below_alloc | apply pw_below_drewN | apply below_drew1 | refine below_set ?_ GE641.out) | exact HB.out)⟩⟩
                          · replace c43 := Bool.eq_false_iff.mpr c43
                            subst c43
                            have H1 : (if t642 = x7_2 then (laws_FnStaNext.j3 kj37 t637 t638 t642 x7_2 (!false) t630 t631 t632 t633 t636) else (laws_FnStaNext.j3 kj37 t637 t638 t642 x7_2 false t630 t631 t632 t633 t636)) = some r := by rw [if_neg (show ¬ (false = true) by decide)] at H; exact H
                            clear H
                            have H := H1
                            clear H1
                            by_cases c47 : t642 = x7_2
                            · rw [if_pos c47] at H
                              have c47b0 : (t642 == x7_2) = true := beq_iff_eq.mpr c47
                              have c47b1 : (t642 != x7_2) = false := bne_eq_false_iff_eq.mpr c47
                              clear c47
                              have H' := Aside0.mk H
                              clear H
                              go_wp2
                              go_meet
                              case rel => exact ⟨_, (!false), (by first | rfl | (simp; done) | (simp [*]; done)), H', ⟨by have := HJ6.out; have := HK2.out; have := HJ37.out; first | omega | exact Nat.le_refl _⟩, ⟨by (with_reducible repeat (first | apply Kd.R_alloc | apply Kd.R_drewN | apply Kd.R_drew)); exact HO_5.out⟩, ⟨by (with_reducible repeat (first | apply Kd.R_alloc | apply Kd.R_drewN | apply Kd.R_drew)); exact HO_642003.out⟩, ⟨by (with_reducible repeat (first | refine blk_drewN ?_ _ | refine blk_drew ?_ | refine blk_alloc ?_ _)); exact BK641.out⟩, ⟨by repeat (first | (with_reducible first | exact HB.out | apply below_alloc | apply pw_below_drewN | apply below_drew1 | refine below_set ?_ GE641.out) | exact HB.out)⟩⟩
                            · rw [if_neg c47] at H
                              have c47b0 : (t642 == x7_2) = false := beq_eq_false_iff_ne.mpr c47
                              have c47b1 : (t642 != x7_2) = true := bne_iff_ne.mpr c47
                              have H' := Aside0.mk H
                              clear H
                              go_wp2
                              go_meet
                              case rel => exact ⟨_, (false), (by first | rfl | (simp; done) | (simp [*]; done)), H', ⟨by have := HJ6.out; have := HK2.out; have := HJ37.out; first | omega | exact Nat.le_refl _⟩, ⟨by (with_reducible repeat (first | apply Kd.R_alloc | apply Kd.R_drewN | apply Kd.R_drew)); exact HO_5.out⟩, ⟨by (with_reducible repeat (first | apply Kd.R_alloc | apply Kd.R_drewN | apply Kd.R_drew)); exact HO_642003.out⟩, ⟨by (with_reducible repeat (first | refine blk_drewN ?_ _ | refine blk_drew ?_ | refine blk_alloc ?_ _)); exact BK641.out⟩, ⟨by repeat (first | (with_reducible first | exact HB.out | apply below_alloc | apply pw_below_drewN | apply below_drew1 | refine below_set ?_ GE641.out) | exact HB.out)⟩⟩
                        case rest =>
                          clear HC42
                          try clear c1
                          try clear c2
                          try clear c2b0
                          try clear c2b1
                          try clear p2
                          try clear c3
                          try clear c4
                          try clear c6
                          try clear c6b0
                          try clear c6b1
                          try clear p6
                          try clear q6
                          try clear hx6
                          try clear c10
                          try clear c12
                          try clear c17
                          try clear c18
                          try clear c18b0
                          try clear c18b1
                          try clear c18b2
                          try clear c19
                          try clear c19b0
                          try clear c24
                          try clear c30
                          try clear c31
                          try clear c32
                          try clear c32b0
                          try clear c32b1
                          try clear c34
                          try clear c35
                          try clear c35b0
                          try clear c36
                          try clear c36b0
                          try clear c41
                          try clear c41b0
                          try clear c41b1
                          try clear c43
                          try clear c44
                          try clear c44b0
                          try clear c45
                          try clear c45b0
                          try clear c46
                          try clear c46b0
                          try clear c46b1
                          try clear c47
                          try clear c47b0
                          try clear c47b1
                          try clear hcz10_0
                          try clear hcz10_1
                          try clear hcz10_2
                          try clear hcz10_3
                          try clear hcz10_4
                          try clear hcz14_0
                          try clear hcz14_1
                          try clear hcz14_2
                          try clear hcz14_3
                          try clear hcz14_4
                          try clear hcz20_0
                          try clear hcz20_1
                          try clear hcz20_2
                          try clear hcz20_3
                          try clear hcz20_4
                          try clear hcz22_0
                          try clear hcz22_1
                          try clear hcz22_2
                          try clear hcz22_3
                          try clear hcz22_4
                          try clear hcz23_0
                          try clear hcz23_1
                          try clear hcz23_2
                          try clear hcz23_3
                          try clear hcz23_4
                          try clear hcz25_0
                          try clear hcz25_1
                          try clear hcz25_2
                          try clear hcz25_3
                          try clear hcz25_4
                          try clear hcz26_0
                          try clear hcz26_1
                          try clear hcz26_2
                          try clear hcz26_3
                          try clear hcz26_4
                          try clear hcz28_0
                          try clear hcz28_1
                          try clear hcz28_2
                          try clear hcz28_3
                          try clear hcz28_4
                          try clear hcz29_0
                          try clear hcz29_1
                          try clear hcz29_2
                          try clear hcz29_3
                          try clear hcz29_4
                          try clear hfz10_0
                          try clear hfz10_1
                          try clear hfz10_2
                          try clear hfz10_3
                          try clear hfz10_4
                          try clear hfz14_0
                          try clear hfz14_1
                          try clear hfz14_2
                          try clear hfz14_3
                          try clear hfz14_4
                          try clear hfz20_0
                          try clear hfz20_1
                          try clear hfz20_2
                          try clear hfz20_3
                          try clear hfz20_4
                          try clear hfz22_0
                          try clear hfz22_1
                          try clear hfz22_2
                          try clear hfz22_3
                          try clear hfz22_4
                          try clear hfz23_0
                          try clear hfz23_1
                          try clear hfz23_2
                          try clear hfz23_3
                          try clear hfz23_4
                          try clear hfz25_0
                          try clear hfz25_1
                          try clear hfz25_2
                          try clear hfz25_3
                          try clear hfz25_4
                          try clear hfz26_0
                          try clear hfz26_1
                          try clear hfz26_2
                          try clear hfz26_3
                          try clear hfz26_4
                          try clear hfz28_0
                          try clear hfz28_1
                          try clear hfz28_2
                          try clear hfz28_3
                          try clear hfz28_4
                          try clear hfz29_0
                          try clear hfz29_1
                          try clear hfz29_2
                          try clear hfz29_3
                          try clear hfz29_4
                          try clear hx646_0
                          try clear p2
                          try clear p6
                          try clear p646
                          try clear q6
                          try clear q646
                          obtain ⟨kq, x91_41, rfl, HA, HJ41, HO_5, HO_642003, BK641, HB⟩ := hcut
                          cases kq with
                          | zero => exact absurd HA.out (by simp [laws_FnStaNext.j3])
                          | succ kj41 =>
                            have H := HA.out
                            clear HA
                            simp only [laws_FnStaNext.j3] at H
                            by_cases c48 : x91_41 = true
                            · subst c48
                              have H1 : (some false) = some r := by rw [if_pos rfl] at H; exact H
                              clear H
                              have H := H1
                              clear H1
                              obtain rfl := Option.some.inj H
                              go_wp2
                              go_ret
                              exact ⟨by first | rfl | (simp [errW_none, errW_some] <;> rfl) | (simp [*, errW_none, errW_some] <;> rfl), by repeat (first | (with_reducible first | exact HB.out | apply below_alloc | apply pw_below_drewN | apply below_drew1 | refine below_set ?_ GE641.out) | exact HB.out)⟩
                            · replace c48 := Bool.eq_false_iff.mpr c48
                              subst c48
                              have H1 : (laws_FnStaNext.l0 kj41 t637 t638 t642 (wrap64 (x7_2 + 1)) t630 t631 t632 t633 t636) = some r := by rw [if_neg (show ¬ (false = true) by decide)] at H; exact H
                              clear H
                              have H := H1
                              clear H1
                              have H' := Aside0.mk H
                              clear H
                              go_wp2
                              go_roundg kj41
                              case measure => have := HJ6.out; have := HK2.out; have := HJ37.out; have := HJ41.out; omega
                              case rel => exact ⟨(wrap64 (x7_2 + 1)), (by first | rfl | (simp; done) | (simp [*]; done)), H', ⟨by have := HJ6.out; have := HK2.out; have := HJ37.out; have := HJ41.out; omega⟩, ⟨by (with_reducible repeat (first | apply Kd.R_alloc | apply Kd.R_drewN | apply Kd.R_drew)); exact HO_5.out⟩, ⟨by (with_reducible repeat (first | apply Kd.R_alloc | apply Kd.R_drewN | apply Kd.R_drew)); exact HO_642003.out⟩, ⟨by (with_reducible repeat (first | refine blk_drewN ?_ _ | refine blk_drew ?_ | refine blk_alloc ?_ _)); exact BK641.out⟩, ⟨by repeat (first | (with_reducible first | exact HB.out | apply below_alloc | apply pw_below_drewN | apply below_drew1 | refine below_set ?_ GE641.out) | exact HB.out)⟩⟩
                  · rw [if_neg c36] at H
                    exact absurd H (by simp)
                · rw [if_neg c35] at H
                  have c35b0 : decide (x7_2 < (t638.length : Int)) = false := decide_eq_false c35
                  clear c35
                  obtain rfl := Option.some.inj H
                  go_wp2
                  go_ret
                  exact ⟨by first | rfl | (simp [errW_none, errW_some] <;> rfl) | (simp [*, errW_none, errW_some] <;> rfl), by repeat (first | (with_reducible first | exact HB.out | apply below_alloc | apply pw_below_drewN | apply below_drew1 | refine below_set ?_ GE641.out) | exact HB.out)⟩
    · rw [if_neg c6] at H
      have c6b0 : (t642 == t643) = false := beq_eq_false_iff_ne.mpr c6
      have c6b1 : (t642 != t643) = true := bne_iff_ne.mpr c6
      obtain rfl := Option.some.inj H
      go_enter Try.func10, Try.ntmps10
      go_wp2_with (first | ((with_reducible refine gate_callee (f := 34) rfl ?_); refine goesL_ (some 15) rfl rfl Try.func34 (by kernel_rfl) rfl #[.slice A0 l0.length c0] rfl (by (try simp only [List.map_toArray, List.map_cons, List.map_nil]); first | done | rfl | (simp only [List.length_drop, List.length_take]; rfl)) ?_; (with_reducible refine (spec_DrawStaNext.calls k _ _ l0 t630 t631 t632 t633 t636 t637 t638 _ ?side1 ?side2 A3.out).mono ?_); (case side1 => repeat (first | exact HR0.out | (with_reducible refine Kd.C_alloc ?_ _) | (with_reducible refine Kd.C_drewN ?_ _) | (with_reducible refine Kd.C_drew ?_))); (case side2 => exact HC0.out); rintro e w49 ⟨v634, v639, rfl, ho0, ho1, hb⟩; refine ⟨_, rfl, ?_⟩; have n0_ := Aside0.mk (Kd.R_lower ho0 (below_size (by repeat (first | (with_reducible first | exact HB.out | apply below_alloc | apply pw_below_drewN | apply below_drew1) | exact HB.out)))); have n1_ := Aside0.mk (Kd.R_lower ho1 (below_size (by repeat (first | (with_reducible first | exact HB.out | apply below_alloc | apply pw_below_drewN | apply below_drew1) | exact HB.out)))); have n2_ := Aside0.mk (below_step (by repeat (first | (with_reducible first | exact HB.out | apply below_alloc | apply pw_below_drewN | apply below_drew1) | exact HB.out)) hb); clear HB; have HO635 := n0_; have HO640 := n1_; have HB := n2_; clear n0_ n1_ n2_; (try clear hb); (try clear hb2); (try clear hk); (try clear hi); (try clear ho0); (try clear ho1)) | ((with_reducible refine gate_dst (N := 3) rfl ?_); (try (refine gate_guard (by rfl) ?_; dsimp only)); refine box_event ?hg (N := 3) ?hd (cs := #[.int .i64 0, .int .i64 0, .int .i64 0, .slice none 0 0, .int .i64 0]) (t := 31) ?hr ?_; (case hd => rfl); (case hg => rfl); (case hr => first | (go_simp; done) | (go_simp; rfl)); intro gb641 hg w50 hbox hb; have n0_ := Aside0.mk (Kd.R_below (by (with_reducible repeat (first | apply Kd.R_alloc | apply Kd.R_drewN | apply Kd.R_drew)); exact HO635.out) hb); have n1_ := Aside0.mk (Kd.R_below (by (with_reducible repeat (first | apply Kd.R_alloc | apply Kd.R_drewN | apply Kd.R_drew)); exact HO640.out) hb); have n2_ := Aside0.mk (below_step (by repeat (first | (with_reducible first | exact HB.out | apply below_alloc | apply pw_below_drewN | apply below_drew1) | exact HB.out)) hb); have n3_ := Aside0.mk (hbox); have n4_ := Aside0.mk ((by rw [hg]; exact (below_size (by repeat (first | (with_reducible first | exact HB.out | apply below_alloc | apply pw_below_drewN | apply below_drew1) | exact HB.out))) : w.heap.size ≤ gb641)); have n5_ := Aside0.mk ((by rw [hg]; exact (below_size (by repeat (first | (with_reducible first | exact HB.out | apply below_alloc | apply pw_below_drewN | apply below_drew1) | exact HB.out))) : w.heap.size ≤ gb641)); clear HO635; clear HO640; clear HB; have HO635 := n0_; have HO640 := n1_; have HB := n2_; have BK641 := n3_; have GW641 := n4_; have GE641 := n5_; clear n0_ n1_ n2_ n3_ n4_ n5_; clear hb hbox hg; have hcz51_0 : w50.cell? ⟨gb641, 0, none⟩ = some (.int .i64 0) := (blk_cell BK641.out 0).trans rfl; have hcz51_1 : w50.cell? ⟨gb641, 1, none⟩ = some (.int .i64 0) := (blk_cell BK641.out 1).trans rfl; have hcz51_2 : w50.cell? ⟨gb641, 2, none⟩ = some (.int .i64 0) := (blk_cell BK641.out 2).trans rfl; have hcz51_3 : w50.cell? ⟨gb641, 3, none⟩ = some (.slice none 0 0) := (blk_cell BK641.out 3).trans rfl; have hcz51_4 : w50.cell? ⟨gb641, 4, none⟩ = some (.int .i64 0) := (blk_cell BK641.out 4).trans rfl; have hfz51_0 := blk_frozen BK641.out 0; have hfz51_1 := blk_frozen BK641.out 1; have hfz51_2 := blk_frozen BK641.out 2; have hfz51_3 := blk_frozen BK641.out 3; have hfz51_4 := blk_frozen BK641.out 4; obtain ⟨Ao52, co52, eo52⟩ := Kd.R_slice HO635.out; subst eo52; obtain ⟨Ao53, co53, eo53⟩ := Kd.R_slice HO640.out; subst eo53) | ((with_reducible refine gate_callee (f := 32) rfl ?_); refine goesL_ (some 22) rfl rfl Try.func32 (by kernel_rfl) rfl #[.agg #[.int .i64 t630, .int .i64 t631, .int .i64 t632, .slice Ao52 t633.length co52, .int .i64 t636], .int .i64 t637, .slice Ao53 t638.length co53] rfl (by (try simp only [List.map_toArray, List.map_cons, List.map_nil]); first | done | rfl | (simp only [List.length_drop, List.length_take]; rfl)) ?_; (with_reducible refine (impl_StaNext.calls k t630 t631 t632 _ _ t633 t636 t637 _ _ t638 t642 _ ?side1 ?side2 ?side3 ?side4 A4.out).mono ?_); (case side1 => refine (Kd.R_reads' (e := 3) (base := w.heap.size) (ok := fun k_ => some k_ ≠ (.slice Ao53 t638.length co53 : Value).ownBlock) (n := t633.length) (c := co52) ?_).2.2; exact (by (with_reducible repeat (first | apply Kd.R_alloc | apply Kd.R_drewN | apply Kd.R_drew)); exact (Kd.R_mono (Kd.R_far (p := ⟨gb641, 4, none⟩) (Kd.R_far (p := ⟨gb641, 3, none⟩) (Kd.R_far (p := ⟨gb641, 2, none⟩) (Kd.R_far (p := ⟨gb641, 1, none⟩) (Kd.R_far (p := ⟨gb641, 0, none⟩) (Kd.R_types HO635.out BK641.out (by decide)) (fun _ hk => hk.2) (.int .i64 t630)) (fun _ hk => hk.2) (.int .i64 t631)) (fun _ hk => hk.2) (.int .i64 t632)) (fun _ hk => hk.2) (.slice Ao52 t633.length co52)) (fun _ hk => hk.2) (.int .i64 t636)) (fun _ h_ => h_.1)))); (case side2 => exact (Kd.R_reads' HO635.out).2.1); (case side3 => refine (Kd.R_reads' (e := 3) (base := w.heap.size) (ok := fun k_ => some k_ ≠ (.slice Ao52 t633.length co52 : Value).ownBlock) (n := t638.length) (c := co53) ?_).2.2; exact (by (with_reducible repeat (first | apply Kd.R_alloc | apply Kd.R_drewN | apply Kd.R_drew)); exact (Kd.R_mono (Kd.R_far (p := ⟨gb641, 4, none⟩) (Kd.R_far (p := ⟨gb641, 3, none⟩) (Kd.R_far (p := ⟨gb641, 2, none⟩) (Kd.R_far (p := ⟨gb641, 1, none⟩) (Kd.R_far (p := ⟨gb641, 0, none⟩) (Kd.R_types HO640.out BK641.out (by decide)) (fun _ hk => hk.2) (.int .i64 t630)) (fun _ hk => hk.2) (.int .i64 t631)) (fun _ hk => hk.2) (.int .i64 t632)) (fun _ hk => hk.2) (.slice Ao52 t633.length co52)) (fun _ hk => hk.2) (.int .i64 t636)) (fun _ h_ => h_.1)))); (case side4 => exact (Kd.R_reads' HO640.out).2.1); rintro e w54 ⟨rfl, hb⟩; refine ⟨_, rfl, ?_⟩; have n0_ := Aside0.mk (Kd.R_below (by (with_reducible repeat (first | apply Kd.R_alloc | apply Kd.R_drewN | apply Kd.R_drew)); exact (Kd.R_mono (Kd.R_far (p := ⟨gb641, 4, none⟩) (Kd.R_far (p := ⟨gb641, 3, none⟩) (Kd.R_far (p := ⟨gb641, 2, none⟩) (Kd.R_far (p := ⟨gb641, 1, none⟩) (Kd.R_far (p := ⟨gb641, 0, none⟩) (Kd.R_types HO635.out BK641.out (by decide)) (fun _ hk => hk.2) (.int .i64 t630)) (fun _ hk => hk.2) (.int .i64 t631)) (fun _ hk => hk.2) (.int .i64 t632)) (fun _ hk => hk.2) (.slice Ao52 t633.length co52)) (fun _ hk => hk.2) (.int .i64 t636)) (fun _ h_ => h_.1))) hb); have n1_ := Aside0.mk (Kd.R_below (by (with_reducible repeat (first | apply Kd.R_alloc | apply Kd.R_drewN | apply Kd.R_drew)); exact (Kd.R_mono (Kd.R_far (p := ⟨gb641, 4, none⟩) (Kd.R_far (p := ⟨gb641, 3, none⟩) (Kd.R_far (p := ⟨gb641, 2, none⟩) (Kd.R_far (p := ⟨gb641, 1, none⟩) (Kd.R_far (p := ⟨gb641, 0, none⟩) (Kd.R_types HO640.out BK641.out (by decide)) (fun _ hk => hk.2) (.int .i64 t630)) (fun _ hk => hk.2) (.int .i64 t631)) (fun _ hk => hk.2) (.int .i64 t632)) (fun _ hk => hk.2) (.slice Ao52 t633.length co52)) (fun _ hk => hk.2) (.int .i64 t636)) (fun _ h_ => h_.1))) hb); have n2_ := Aside0.mk (blk_below (g := gb641) (o := .cells #[.int .i64 t630, .int .i64 t631, .int .i64 t632, .slice Ao52 t633.length co52, .int .i64 t636] 31 (0, 0)) (by (with_reducible repeat (first | refine blk_drewN ?_ _ | refine blk_drew ?_ | refine blk_alloc ?_ _)); refine blk_put (cs := #[.int .i64 t630, .int .i64 t631, .int .i64 t632, .slice Ao52 t633.length co52, .int .i64 0]) ?_ 4 _ rfl; (with_reducible repeat (first | refine blk_drewN ?_ _ | refine blk_drew ?_ | refine blk_alloc ?_ _)); refine blk_put (cs := #[.int .i64 t630, .int .i64 t631, .int .i64 t632, .slice none 0 0, .int .i64 0]) ?_ 3 _ rfl; (with_reducible repeat (first | refine blk_drewN ?_ _ | refine blk_drew ?_ | refine blk_alloc ?_ _)); refine blk_put (cs := #[.int .i64 t630, .int .i64 t631, .int .i64 0, .slice none 0 0, .int .i64 0]) ?_ 2 _ rfl; (with_reducible repeat (first | refine blk_drewN ?_ _ | refine blk_drew ?_ | refine blk_alloc ?_ _)); refine blk_put (cs := #[.int .i64 t630, .int .i64 0, .int .i64 0, .slice none 0 0, .int .i64 0]) ?_ 1 _ rfl; (with_reducible repeat (first | refine blk_drewN ?_ _ | refine blk_drew ?_ | refine blk_alloc ?_ _)); refine blk_put (cs := #[.int .i64 0, .int .i64 0, .int .i64 0, .slice none 0 0, .int .i64 0]) ?_ 0 _ rfl; (with_reducible repeat (first | refine blk_drewN ?_ _ | refine blk_drew ?_ | refine blk_alloc ?_ _)); exact BK641.out) hb); have n3_ := Aside0.mk (below_step (by repeat (first | (with_reducible first | exact HB.out | apply below_alloc | apply pw_below_drewN | apply below_drew1 | refine below_set ?_ GE641.out) | exact HB.out)) hb); clear HO635; clear HO640; clear BK641; clear HB; have HO635 := n0_; have HO640 := n1_; have BK641 := n2_; have HB := n3_; clear n0_ n1_ n2_ n3_; (try clear hb); (try clear hb2); (try clear hk); (try clear hi); have hcz55_0 : w54.cell? ⟨gb641, 0, none⟩ = some (.int .i64 t630) := (blk_cell BK641.out 0).trans rfl; have hcz55_1 : w54.cell? ⟨gb641, 1, none⟩ = some (.int .i64 t631) := (blk_cell BK641.out 1).trans rfl; have hcz55_2 : w54.cell? ⟨gb641, 2, none⟩ = some (.int .i64 t632) := (blk_cell BK641.out 2).trans rfl; have hcz55_3 : w54.cell? ⟨gb641, 3, none⟩ = some (.slice Ao52 t633.length co52) := (blk_cell BK641.out 3).trans rfl; have hcz55_4 : w54.cell? ⟨gb641, 4, none⟩ = some (.int .i64 t636) := (blk_cell BK641.out 4).trans rfl; have hfz55_0 := blk_frozen BK641.out 0; have hfz55_1 := blk_frozen BK641.out 1; have hfz55_2 := blk_frozen BK641.out 2; have hfz55_3 := blk_frozen BK641.out 3; have hfz55_4 := blk_frozen BK641.out 4) | ((with_reducible refine gate_callee (f := 30) rfl ?_); refine goesL_ (some 27) rfl rfl Try.func30 (by kernel_rfl) rfl #[.agg #[.int .i64 t630, .int .i64 t631, .int .i64 t632, .slice Ao52 t633.length co52, .int .i64 t636], .int .i64 t637, .slice Ao53 t638.length co53] rfl (by (try simp only [List.map_toArray, List.map_cons, List.map_nil]); first | done | rfl | (simp only [List.length_drop, List.length_take]; rfl)) ?_; (with_reducible refine (spec_StaNext.calls k t630 t631 t632 _ _ t633 t636 t637 _ _ t638 t643 _ ?side1 ?side2 ?side3 ?side4 A5.out).mono ?_); (case side1 => repeat (first | exact (Kd.R_reads' HO635.out).2.2 | (with_reducible refine Kd.C_alloc ?_ _) | (with_reducible refine Kd.C_drewN ?_ _) | (with_reducible refine Kd.C_drew ?_))); (case side2 => exact (Kd.R_reads' HO635.out).2.1); (case side3 => repeat (first | exact (Kd.R_reads' HO640.out).2.2 | (with_reducible refine Kd.C_alloc ?_ _) | (with_reducible refine Kd.C_drewN ?_ _) | (with_reducible refine Kd.C_drew ?_))); (case side4 => exact (Kd.R_reads' HO640.out).2.1); rintro e w56 ⟨rfl, hb⟩; refine ⟨_, rfl, ?_⟩; have n0_ := Aside0.mk (Kd.R_below (by (with_reducible repeat (first | apply Kd.R_alloc | apply Kd.R_drewN | apply Kd.R_drew)); exact HO635.out) hb); have n1_ := Aside0.mk (Kd.R_below (by (with_reducible repeat (first | apply Kd.R_alloc | apply Kd.R_drewN | apply Kd.R_drew)); exact HO640.out) hb); have n2_ := Aside0.mk (blk_below (g := gb641) (o := .cells #[.int .i64 t630, .int .i64 t631, .int .i64 t632, .slice Ao52 t633.length co52, .int .i64 t636] 31 (0, 0)) (by (with_reducible repeat (first | refine blk_drewN ?_ _ | refine blk_drew ?_ | refine blk_alloc ?_ _)); exact BK641.out) hb); have n3_ := Aside0.mk (below_step (by repeat (first | (with_reducible first | exact HB.out | apply below_alloc | apply pw_below_drewN | apply below_drew1 | refine below_set ?_ GE641.out) | exact HB.out)) hb); clear HO635; clear HO640; clear BK641; clear HB; have HO635 := n0_; have HO640 := n1_; have BK641 := n2_; have HB := n3_; clear n0_ n1_ n2_ n3_; (try clear hb); (try clear hb2); (try clear hk); (try clear hi)))
      go_ret
      exact ⟨by first | rfl | (simp [errW_none, errW_some] <;> rfl) | (simp [*, errW_none, errW_some] <;> rfl), by repeat (first | (with_reducible first | exact HB.out | apply below_alloc | apply pw_below_drewN | apply below_drew1 | refine below_set ?_ GE641.out) | exact HB.out)⟩

/-- THE ONE PURE STATEMENT of laws_FnStaNext: yours. -/
def laws_FnStaNext.Pure : Prop := ∀ (l0 : List Int), l0.length ≤ maxLen → l0.length * 1 ≤ 140737488351232 → (∀ x ∈ l0, (Lit.int .u8 x).wf = true) → ∃ k, laws_FnStaNext.f k l0 = some true
theorem laws_FnStaNext.walk (P : laws_FnStaNext.Pure) (a0 : Option Addr) (len0 cap0 : Nat) (z0 : List Int) (w : World) (w0 : (a0 = none ∧ len0 = 0 ∧ cap0 = 0 ∧ z0 = []) ∨ ∃ x, a0 = some x ∧ len0 ≤ cap0 ∧ cap0 ≤ maxLen ∧ z0.length = cap0 ∧ (∀ i, i < z0.length → w.cell? (x.add i) = some (.int .u8 (z0.getD i 0))) ∧ ∀ n ∈ z0, (Lit.int .u8 n).wf = true) (y0 : len0 * 1 ≤ 140737488351232) :
    Calls Try.prog 10 #[.slice a0 len0 cap0] w fun e w' => e = .returned (.bool true) ∧ Below w.heap.size w w' := by
  obtain ⟨l0, rfl, hr0, hm0, hw0, hc0⟩ := ReadsInt.ofRowC w0
  obtain ⟨k, h⟩ := P l0 hm0 y0 hw0
  refine (laws_FnStaNext.calls k _ _ l0 true w (Kd.C_of_reads (d := (0 : Int)) (h1 := fun _ => rfl) hr0) hc0 h).mono ?_
  rintro e w' ⟨rfl, hd⟩
  exact ⟨rfl, hd⟩

end Go.Proofs.Ytojgpnobbnihdaa.All
