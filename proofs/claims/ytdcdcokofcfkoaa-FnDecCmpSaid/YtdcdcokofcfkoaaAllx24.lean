-- Written by the session's own program wip/allprint.py, which drives the kit's print; Lean checks it.
import Derived.Test.YtdcdcokofcfkoaaAllx0
import Derived.Test.YtdcdcokofcfkoaaAllx3
import Derived.Test.YtdcdcokofcfkoaaAllx4
import Derived.Test.YtdcdcokofcfkoaaAllx8
import Derived.Test.YtdcdcokofcfkoaaAllx10
import Derived.Test.YtdcdcokofcfkoaaAllx12
import Derived.Test.YtdcdcokofcfkoaaAllx23
namespace Go.Proofs.Ytdcdcokofcfkoaa.All
open Go.RowKit Go.Proofs.YtdcdcokofcfkoaaW.PrintWords Go.Proofs.YtdcdcokofcfkoaaW.PrintLast Go.Proofs.YtdcdcokofcfkoaaW.PrintMore
attribute [local go_sem] max2_int min2_int max_two min_two max_three min_three max_four min_four   -- for this text's walks alone
set_option linter.unusedVariables false
set_option linter.unusedSimpArgs false

/-! ### laws_FnDecCmp: function 12 -/
mutual
def laws_FnDecCmp.j0 : Nat → List Int → List Int → Bool → Option (Bool)
  | 0, _, _, _ => none
  | k + 1, x0, x1, x17 => if x17 = true then (some true) else ((spec_DrawDecCmp.f k x0).bind fun bt601 => ((spec_DrawDecCmp.f k x1).bind fun bt607 => ((impl_DecCmp.f k bt601.1 bt601.2.1 bt601.2.2.1 bt601.2.2.2).bind fun t613 => ((spec_DecCmp.f k bt601.1 bt601.2.1 bt601.2.2.1 bt601.2.2.2).bind fun t614 => (if t613 = t614 then ((impl_DecCmp.f k bt601.2.2.1 bt601.2.2.2 bt601.1 bt601.2.1).bind fun t615 => (laws_FnDecCmp.j1 k t613 (t615 != (wrap64 (-t613))) bt601.1 bt601.2.1 bt601.2.2.1 bt601.2.2.2 bt607.1 bt607.2.1)) else (laws_FnDecCmp.j1 k t613 true bt601.1 bt601.2.1 bt601.2.2.1 bt601.2.2.2 bt607.1 bt607.2.1))))))
def laws_FnDecCmp.j1 : Nat → Int → Bool → Int → Int → Int → Int → Int → Int → Option (Bool)
  | 0, _, _, _, _, _, _, _, _ => none
  | k + 1, x9, x43, x606000, x606001, x607000, x607001, x612000, x612001 => if x43 = true then (some false) else ((spec_DecOk.f k x606000 x606001).bind fun t616 => (if t616 = true then ((spec_DecOk.f k x607000 x607001).bind fun t617 => (if t617 = true then ((spec_DecOk.f k x612000 x612001).bind fun t618 => (laws_FnDecCmp.j2 k x9 (!t618) x606000 x606001 x607000 x607001 x612000 x612001)) else (laws_FnDecCmp.j2 k x9 true x606000 x606001 x607000 x607001 x612000 x612001))) else (laws_FnDecCmp.j2 k x9 true x606000 x606001 x607000 x607001 x612000 x612001)))
def laws_FnDecCmp.j2 : Nat → Int → Bool → Int → Int → Int → Int → Int → Int → Option (Bool)
  | 0, _, _, _, _, _, _, _, _ => none
  | k + 1, x9, x56, x606000, x606001, x607000, x607001, x612000, x612001 => if x56 = true then ((impl_DecOk.f k x606000 x606001).bind fun t619 => ((spec_DecOk.f k x606000 x606001).bind fun t620 => (if (t619 == t620) = true then ((laws_cuOk.f).bind fun t621 => (some t621)) else (some false)))) else (if x9 > 0 then ((impl_DecCmp.f k x607000 x607001 x612000 x612001).bind fun t622 => (if t622 > 0 then ((impl_DecCmp.f k x606000 x606001 x612000 x612001).bind fun t623 => (laws_FnDecCmp.j3 k x9 (decide (t623 ≤ 0)) x606000 x606001 x607000 x607001)) else (laws_FnDecCmp.j3 k x9 false x606000 x606001 x607000 x607001))) else (laws_FnDecCmp.j3 k x9 false x606000 x606001 x607000 x607001))
def laws_FnDecCmp.j3 : Nat → Int → Bool → Int → Int → Int → Int → Option (Bool)
  | 0, _, _, _, _, _, _ => none
  | k + 1, x9, x78, x606000, x606001, x607000, x607001 => if x78 = true then (some false) else ((impl_DecAt.f k x606000 x606001 3).bind fun bt624 => ((impl_DecAt.f k x607000 x607001 3).bind fun bt626 => ((impl_DecCmp.f k bt624.1 bt624.2 bt626.1 bt626.2).bind fun t628 => (if x9 = t628 then ((impl_DecCmp.f k x606000 x606001 x606000 x606001).bind fun t629 => (if t629 = 0 then ((impl_DecCmp.f k 1 0 9 1).bind fun t630 => (some (t630 == 1))) else (some false))) else (some false)))))
end
def laws_FnDecCmp.f (k : Nat) (l0 : List Int) (l1 : List Int) : Option (Bool) := if (l0.length : Int) > 1048576 then (laws_FnDecCmp.j0 k l0 l1 true) else (laws_FnDecCmp.j0 k l0 l1 (decide ((l1.length : Int) > 1048576)))
theorem laws_FnDecCmp.mono_l : ∀ k, (∀ y0 y1 y2, LeO (laws_FnDecCmp.j0 k y0 y1 y2) (laws_FnDecCmp.j0 (k + 1) y0 y1 y2)) ∧ (∀ y0 y1 y2 y3 y4 y5 y6 y7, LeO (laws_FnDecCmp.j1 k y0 y1 y2 y3 y4 y5 y6 y7) (laws_FnDecCmp.j1 (k + 1) y0 y1 y2 y3 y4 y5 y6 y7)) ∧ (∀ y0 y1 y2 y3 y4 y5 y6 y7, LeO (laws_FnDecCmp.j2 k y0 y1 y2 y3 y4 y5 y6 y7) (laws_FnDecCmp.j2 (k + 1) y0 y1 y2 y3 y4 y5 y6 y7)) ∧ (∀ y0 y1 y2 y3 y4 y5, LeO (laws_FnDecCmp.j3 k y0 y1 y2 y3 y4 y5) (laws_FnDecCmp.j3 (k + 1) y0 y1 y2 y3 y4 y5))
  | 0 => ⟨fun _ _ _ r h => by simp [laws_FnDecCmp.j0] at h, fun _ _ _ _ _ _ _ _ r h => by simp [laws_FnDecCmp.j1] at h, fun _ _ _ _ _ _ _ _ r h => by simp [laws_FnDecCmp.j2] at h, fun _ _ _ _ _ _ r h => by simp [laws_FnDecCmp.j3] at h⟩
  | k + 1 => by
    obtain ⟨ih0, ih1, ih2, ih3⟩ := laws_FnDecCmp.mono_l k
    refine ⟨?_, ?_, ?_, ?_⟩
    · intro y0 y1 y2
      unfold laws_FnDecCmp.j0
      repeat' first
      | (with_reducible exact ih0 _ _ _)
      | (with_reducible exact ih1 _ _ _ _ _ _ _ _)
      | (with_reducible exact ih2 _ _ _ _ _ _ _ _)
      | (with_reducible exact ih3 _ _ _ _ _ _)
      | (with_reducible exact impl_DecAt.mono _ _ _ _)
      | (with_reducible exact impl_DecCmp.mono _ _ _ _ _)
      | (with_reducible exact impl_DecOk.mono _ _ _)
      | (with_reducible exact spec_DecCmp.mono _ _ _ _ _)
      | (with_reducible exact spec_DecOk.mono _ _ _)
      | (with_reducible exact spec_DrawDecCmp.mono _ _)
      | (with_reducible exact LeO.refl _)
      | (with_reducible exact LeO.none _)
      | (with_reducible refine LeO.ite ?_ ?_)
      | (with_reducible refine LeO.bind ?_ (fun _ => ?_))
      | exact ih0 _ _ _
      | exact ih1 _ _ _ _ _ _ _ _
      | exact ih2 _ _ _ _ _ _ _ _
      | exact ih3 _ _ _ _ _ _
      | exact impl_DecAt.mono _ _ _ _
      | exact impl_DecCmp.mono _ _ _ _ _
      | exact impl_DecOk.mono _ _ _
      | exact spec_DecCmp.mono _ _ _ _ _
      | exact spec_DecOk.mono _ _ _
      | exact spec_DrawDecCmp.mono _ _
      | exact LeO.none _
      | refine LeO.ite ?_ ?_
      | refine LeO.bind ?_ (fun _ => ?_)
    · intro y0 y1 y2 y3 y4 y5 y6 y7
      unfold laws_FnDecCmp.j1
      repeat' first
      | (with_reducible exact ih0 _ _ _)
      | (with_reducible exact ih1 _ _ _ _ _ _ _ _)
      | (with_reducible exact ih2 _ _ _ _ _ _ _ _)
      | (with_reducible exact ih3 _ _ _ _ _ _)
      | (with_reducible exact impl_DecAt.mono _ _ _ _)
      | (with_reducible exact impl_DecCmp.mono _ _ _ _ _)
      | (with_reducible exact impl_DecOk.mono _ _ _)
      | (with_reducible exact spec_DecCmp.mono _ _ _ _ _)
      | (with_reducible exact spec_DecOk.mono _ _ _)
      | (with_reducible exact spec_DrawDecCmp.mono _ _)
      | (with_reducible exact LeO.refl _)
      | (with_reducible exact LeO.none _)
      | (with_reducible refine LeO.ite ?_ ?_)
      | (with_reducible refine LeO.bind ?_ (fun _ => ?_))
      | exact ih0 _ _ _
      | exact ih1 _ _ _ _ _ _ _ _
      | exact ih2 _ _ _ _ _ _ _ _
      | exact ih3 _ _ _ _ _ _
      | exact impl_DecAt.mono _ _ _ _
      | exact impl_DecCmp.mono _ _ _ _ _
      | exact impl_DecOk.mono _ _ _
      | exact spec_DecCmp.mono _ _ _ _ _
      | exact spec_DecOk.mono _ _ _
      | exact spec_DrawDecCmp.mono _ _
      | exact LeO.none _
      | refine LeO.ite ?_ ?_
      | refine LeO.bind ?_ (fun _ => ?_)
    · intro y0 y1 y2 y3 y4 y5 y6 y7
      unfold laws_FnDecCmp.j2
      repeat' first
      | (with_reducible exact ih0 _ _ _)
      | (with_reducible exact ih1 _ _ _ _ _ _ _ _)
      | (with_reducible exact ih2 _ _ _ _ _ _ _ _)
      | (with_reducible exact ih3 _ _ _ _ _ _)
      | (with_reducible exact impl_DecAt.mono _ _ _ _)
      | (with_reducible exact impl_DecCmp.mono _ _ _ _ _)
      | (with_reducible exact impl_DecOk.mono _ _ _)
      | (with_reducible exact spec_DecCmp.mono _ _ _ _ _)
      | (with_reducible exact spec_DecOk.mono _ _ _)
      | (with_reducible exact spec_DrawDecCmp.mono _ _)
      | (with_reducible exact LeO.refl _)
      | (with_reducible exact LeO.none _)
      | (with_reducible refine LeO.ite ?_ ?_)
      | (with_reducible refine LeO.bind ?_ (fun _ => ?_))
      | exact ih0 _ _ _
      | exact ih1 _ _ _ _ _ _ _ _
      | exact ih2 _ _ _ _ _ _ _ _
      | exact ih3 _ _ _ _ _ _
      | exact impl_DecAt.mono _ _ _ _
      | exact impl_DecCmp.mono _ _ _ _ _
      | exact impl_DecOk.mono _ _ _
      | exact spec_DecCmp.mono _ _ _ _ _
      | exact spec_DecOk.mono _ _ _
      | exact spec_DrawDecCmp.mono _ _
      | exact LeO.none _
      | refine LeO.ite ?_ ?_
      | refine LeO.bind ?_ (fun _ => ?_)
    · intro y0 y1 y2 y3 y4 y5
      unfold laws_FnDecCmp.j3
      repeat' first
      | (with_reducible exact ih0 _ _ _)
      | (with_reducible exact ih1 _ _ _ _ _ _ _ _)
      | (with_reducible exact ih2 _ _ _ _ _ _ _ _)
      | (with_reducible exact ih3 _ _ _ _ _ _)
      | (with_reducible exact impl_DecAt.mono _ _ _ _)
      | (with_reducible exact impl_DecCmp.mono _ _ _ _ _)
      | (with_reducible exact impl_DecOk.mono _ _ _)
      | (with_reducible exact spec_DecCmp.mono _ _ _ _ _)
      | (with_reducible exact spec_DecOk.mono _ _ _)
      | (with_reducible exact spec_DrawDecCmp.mono _ _)
      | (with_reducible exact LeO.refl _)
      | (with_reducible exact LeO.none _)
      | (with_reducible refine LeO.ite ?_ ?_)
      | (with_reducible refine LeO.bind ?_ (fun _ => ?_))
      | exact ih0 _ _ _
      | exact ih1 _ _ _ _ _ _ _ _
      | exact ih2 _ _ _ _ _ _ _ _
      | exact ih3 _ _ _ _ _ _
      | exact impl_DecAt.mono _ _ _ _
      | exact impl_DecCmp.mono _ _ _ _ _
      | exact impl_DecOk.mono _ _ _
      | exact spec_DecCmp.mono _ _ _ _ _
      | exact spec_DecOk.mono _ _ _
      | exact spec_DrawDecCmp.mono _ _
      | exact LeO.none _
      | refine LeO.ite ?_ ?_
      | refine LeO.bind ?_ (fun _ => ?_)
theorem laws_FnDecCmp.mono : ∀ a0 a1 k, LeO (laws_FnDecCmp.f k a0 a1) (laws_FnDecCmp.f (k + 1) a0 a1) := by
  intro a0 a1 k
  obtain ⟨ih0, ih1, ih2, ih3⟩ := laws_FnDecCmp.mono_l k
  unfold laws_FnDecCmp.f
  repeat' first
      | (with_reducible exact ih0 _ _ _)
      | (with_reducible exact ih1 _ _ _ _ _ _ _ _)
      | (with_reducible exact ih2 _ _ _ _ _ _ _ _)
      | (with_reducible exact ih3 _ _ _ _ _ _)
      | (with_reducible exact impl_DecAt.mono _ _ _ _)
      | (with_reducible exact impl_DecCmp.mono _ _ _ _ _)
      | (with_reducible exact impl_DecOk.mono _ _ _)
      | (with_reducible exact spec_DecCmp.mono _ _ _ _ _)
      | (with_reducible exact spec_DecOk.mono _ _ _)
      | (with_reducible exact spec_DrawDecCmp.mono _ _)
      | (with_reducible exact LeO.refl _)
      | (with_reducible exact LeO.none _)
      | (with_reducible refine LeO.ite ?_ ?_)
      | (with_reducible refine LeO.bind ?_ (fun _ => ?_))
      | exact ih0 _ _ _
      | exact ih1 _ _ _ _ _ _ _ _
      | exact ih2 _ _ _ _ _ _ _ _
      | exact ih3 _ _ _ _ _ _
      | exact impl_DecAt.mono _ _ _ _
      | exact impl_DecCmp.mono _ _ _ _ _
      | exact impl_DecOk.mono _ _ _
      | exact spec_DecCmp.mono _ _ _ _ _
      | exact spec_DecOk.mono _ _ _
      | exact spec_DrawDecCmp.mono _ _
      | exact LeO.none _
      | refine LeO.ite ?_ ?_
      | refine LeO.bind ?_ (fun _ => ?_)
def laws_FnDecCmp.T9 : Bool × List (List Nat × List Nat) := (true, [([], []), ([0], [0]), ([], []), ([2, 1], [2]), ([1, 3], [1, 3]), ([4, 3], [4]), ([5, 5], [5]), ([5, 6], [5, 6]), ([7, 6, 0, 1, 2, 3, 4, 5, 6, 7], [7])])
def laws_FnDecCmp.B9 : List Nat := [0, 1, 0, 7, 15, 31, 63, 127, 255]
theorem laws_FnDecCmp.tab9 : rtab .any (opsOf Try.f12 9) = laws_FnDecCmp.T9 := by kernel_rfl
theorem laws_FnDecCmp.bits9 : waitsOk laws_FnDecCmp.T9.2 laws_FnDecCmp.B9 = true := by kernel_rfl
def laws_FnDecCmp.T12 : Bool × List (List Nat × List Nat) := (true, [([], []), ([], []), ([1], [1]), ([], []), ([3, 2], [3]), ([2, 4, 4], [2, 4]), ([0, 5], [0, 5]), ([6, 5], [6]), ([7], [7]), ([7], [7]), ([8, 9, 7, 7], [7, 8, 9]), ([10, 7], [7, 10]), ([7, 11], [7, 11]), ([12, 10], [12]), ([13], [13]), ([13], [13]), ([14, 15, 13, 13], [13, 14, 15]), ([16, 13], [13, 16]), ([13, 17], [13, 17]), ([18, 16, 0, 1, 2, 3, 4, 5, 6, 7, 8, 9, 10, 11, 12, 13, 14, 15, 16, 17, 18], [18])])
def laws_FnDecCmp.B12 : List Nat := [0, 0, 2, 0, 14, 30, 63, 127, 255, 255, 1023, 2047, 4095, 8191, 16383, 16383, 65535, 131071, 262143, 524287]
theorem laws_FnDecCmp.tab12 : rtab .any (opsOf Try.f12 12) = laws_FnDecCmp.T12 := by kernel_rfl
theorem laws_FnDecCmp.bits12 : waitsOk laws_FnDecCmp.T12.2 laws_FnDecCmp.B12 = true := by kernel_rfl
set_option maxHeartbeats 8000000 in
set_option maxRecDepth 100000 in
theorem laws_FnDecCmp.calls (k : Nat) (A0 : Option Addr) (c0 : Nat) (l0 : List Int) (A1 : Option Addr) (c1 : Nat) (l1 : List Int) (r : Bool) (w : World) (hr0 : Kd.C (Kd.int .u8) w A0 l0.length l0) (hc0 : l0.length ≤ c0) (hr1 : Kd.C (Kd.int .u8) w A1 l1.length l1) (hc1 : l1.length ≤ c1) (h : laws_FnDecCmp.f k l0 l1 = some r) :
    Calls Try.prog 12 #[.slice A0 l0.length c0, .slice A1 l1.length c1] w fun e w' => e = .returned (.bool r) ∧ Below w.heap.size w w' := by
  have hu24 := Try.underlying24
  have HR0 := Aside0.mk hr0
  have HC0 := Aside0.mk hc0
  clear hr0 hc0
  have HR1 := Aside0.mk hr1
  have HC1 := Aside0.mk hc1
  clear hr1 hc1
  have HB := Aside0.mk (Below.refl w.heap.size w)
  have H : (if (l0.length : Int) > 1048576 then (laws_FnDecCmp.j0 k l0 l1 true) else (laws_FnDecCmp.j0 k l0 l1 (decide ((l1.length : Int) > 1048576)))) = some r := h
  clear h
  have HC3 := Aside0.mk H
  clear H
  go_enter Try.func12, Try.ntmps12
  go_upto_region 1 with (fail)
  go_cut [17] (fun v17 wc => ∃ (kq : Nat) (x17_2 : Bool), v17 = .bool x17_2 ∧ Aside0 (laws_FnDecCmp.j0 kq l0 l1 x17_2 = some r) ∧ Aside0 (kq ≤ k) ∧ Aside0 (Below w.heap.size w wc))
  case first =>
    have H := HC3.out
    clear HC3
    by_cases c4 : (l0.length : Int) > 1048576
    · rw [if_pos c4] at H
      have c4b0 : decide (1048576 < (l0.length : Int)) = true := decide_eq_true c4
      have c4b1 : decide (1048576 < l0.length) = true := decide_eq_true (by omega)
      clear c4
      (first | rw [c4b0] | (simp only [i64_w, i32_w]; rw [c4b0]) | skip)
      have H' := Aside0.mk H
      clear H
      go_wp2
      go_meet
      case rel => exact ⟨_, (true), (by first | rfl | (simp; done) | (simp [*]; done)), H', ⟨by first | omega | exact Nat.le_refl _⟩, ⟨by repeat (first | (with_reducible first | exact HB.out | apply below_alloc | apply pw_below_drewN | apply below_drew1) | exact HB.out)⟩⟩
    · rw [if_neg c4] at H
      have c4b0 : decide (1048576 < (l0.length : Int)) = false := decide_eq_false c4
      have c4b1 : decide (1048576 < l0.length) = false := decide_eq_false (by omega)
      clear c4
      (first | rw [c4b0] | (simp only [i64_w, i32_w]; rw [c4b0]) | skip)
      have H' := Aside0.mk H
      clear H
      go_wp2
      go_meet
      case rel => exact ⟨_, (decide ((l1.length : Int) > 1048576)), (by first | rfl | (simp; done) | (simp [*]; done)), H', ⟨by first | omega | exact Nat.le_refl _⟩, ⟨by repeat (first | (with_reducible first | exact HB.out | apply below_alloc | apply pw_below_drewN | apply below_drew1) | exact HB.out)⟩⟩
  case rest =>
    clear HC3
    try clear c1
    try clear p2
    try clear c4
    try clear c4b0
    try clear c4b1
    obtain ⟨kq, x17_2, rfl, HA, HJ2, HB⟩ := hcut
    cases kq with
    | zero => exact absurd HA.out (by simp [laws_FnDecCmp.j0])
    | succ kj2 =>
      have H := HA.out
      clear HA
      simp only [laws_FnDecCmp.j0] at H
      by_cases c5 : x17_2 = true
      · subst c5
        have H1 : (some true) = some r := by rw [if_pos rfl] at H; exact H
        clear H
        have H := H1
        clear H1
        obtain rfl := Option.some.inj H
        go_wp2
        go_ret
        exact ⟨by first | rfl | (simp [errW_none, errW_some] <;> rfl) | (simp [*, errW_none, errW_some] <;> rfl), by repeat (first | (with_reducible first | exact HB.out | apply below_alloc | apply pw_below_drewN | apply below_drew1) | exact HB.out)⟩
      · replace c5 := Bool.eq_false_iff.mpr c5
        subst c5
        have H1 : ((spec_DrawDecCmp.f kj2 l0).bind fun bt601 => ((spec_DrawDecCmp.f kj2 l1).bind fun bt607 => ((impl_DecCmp.f kj2 bt601.1 bt601.2.1 bt601.2.2.1 bt601.2.2.2).bind fun t613 => ((spec_DecCmp.f kj2 bt601.1 bt601.2.1 bt601.2.2.1 bt601.2.2.2).bind fun t614 => (if t613 = t614 then ((impl_DecCmp.f kj2 bt601.2.2.1 bt601.2.2.2 bt601.1 bt601.2.1).bind fun t615 => (laws_FnDecCmp.j1 kj2 t613 (t615 != (wrap64 (-t613))) bt601.1 bt601.2.1 bt601.2.2.1 bt601.2.2.2 bt607.1 bt607.2.1)) else (laws_FnDecCmp.j1 kj2 t613 true bt601.1 bt601.2.1 bt601.2.2.1 bt601.2.2.2 bt607.1 bt607.2.1)))))) = some r := by rw [if_neg (show ¬ (false = true) by decide)] at H; exact H
        clear H
        have H := H1
        clear H1
        replace H := Option.bind_eq_some_iff.mp H
        obtain ⟨⟨t601, t602, t603, t604⟩, A60, H⟩ := H
        replace H : ((spec_DrawDecCmp.f kj2 l1).bind fun bt607 => ((impl_DecCmp.f kj2 t601 t602 t603 t604).bind fun t613 => ((spec_DecCmp.f kj2 t601 t602 t603 t604).bind fun t614 => (if t613 = t614 then ((impl_DecCmp.f kj2 t603 t604 t601 t602).bind fun t615 => (laws_FnDecCmp.j1 kj2 t613 (t615 != (wrap64 (-t613))) t601 t602 t603 t604 bt607.1 bt607.2.1)) else (laws_FnDecCmp.j1 kj2 t613 true t601 t602 t603 t604 bt607.1 bt607.2.1))))) = some r := H
        have A6 := Aside0.mk A60
        clear A60
        replace H := Option.bind_eq_some_iff.mp H
        obtain ⟨⟨t607, t608, t609, t610⟩, A70, H⟩ := H
        replace H : ((impl_DecCmp.f kj2 t601 t602 t603 t604).bind fun t613 => ((spec_DecCmp.f kj2 t601 t602 t603 t604).bind fun t614 => (if t613 = t614 then ((impl_DecCmp.f kj2 t603 t604 t601 t602).bind fun t615 => (laws_FnDecCmp.j1 kj2 t613 (t615 != (wrap64 (-t613))) t601 t602 t603 t604 t607 t608)) else (laws_FnDecCmp.j1 kj2 t613 true t601 t602 t603 t604 t607 t608)))) = some r := H
        have A7 := Aside0.mk A70
        clear A70
        replace H := Option.bind_eq_some_iff.mp H
        obtain ⟨t613, A80, H⟩ := H
        replace H : ((spec_DecCmp.f kj2 t601 t602 t603 t604).bind fun t614 => (if t613 = t614 then ((impl_DecCmp.f kj2 t603 t604 t601 t602).bind fun t615 => (laws_FnDecCmp.j1 kj2 t613 (t615 != (wrap64 (-t613))) t601 t602 t603 t604 t607 t608)) else (laws_FnDecCmp.j1 kj2 t613 true t601 t602 t603 t604 t607 t608))) = some r := H
        have A8 := Aside0.mk A80
        clear A80
        have HC9 := Aside0.mk H
        clear H
        go_upto_region 6 with (first | ((with_reducible refine gate_callee (f := 53) rfl ?_); refine goesL_ (some 20) rfl rfl Try.func53 (by kernel_rfl) rfl #[.slice A0 l0.length c0] rfl (by (try simp only [List.map_toArray, List.map_cons, List.map_nil]); first | done | rfl | (simp only [List.length_drop, List.length_take]; rfl)) ?_; (with_reducible refine (spec_DrawDecCmp.calls kj2 _ _ l0 t601 t602 t603 t604 _ ?side1 ?side2 A6.out).mono ?_); (case side1 => repeat (first | exact (Kd.C_below HR0.out HB.out) | (with_reducible refine Kd.C_alloc ?_ _) | (with_reducible refine Kd.C_drewN ?_ _) | (with_reducible refine Kd.C_drew ?_))); (case side2 => exact HC0.out); rintro e w10 ⟨rfl, hb⟩; refine ⟨_, rfl, ?_⟩; have n0_ := Aside0.mk (below_step (by repeat (first | (with_reducible first | exact HB.out | apply below_alloc | apply pw_below_drewN | apply below_drew1) | exact HB.out)) hb); clear HB; have HB := n0_; clear n0_; (try clear hb); (try clear hb2); (try clear hk); (try clear hi)) | ((with_reducible refine gate_dst (N := 5) rfl ?_); (try (refine gate_guard (by rfl) ?_; dsimp only)); refine box_event ?hg (N := 5) ?hd (cs := #[.int .i64 0, .int .i64 0]) (t := 24) ?hr ?_; (case hd => rfl); (case hg => rfl); (case hr => first | (go_simp; done) | (go_simp; rfl)); intro gb605 hg w11 hbox hb; have n0_ := Aside0.mk (below_step (by repeat (first | (with_reducible first | exact HB.out | apply below_alloc | apply pw_below_drewN | apply below_drew1) | exact HB.out)) hb); have n1_ := Aside0.mk (hbox); have n2_ := Aside0.mk ((by rw [hg]; exact (below_size (by repeat (first | (with_reducible first | exact HB.out | apply below_alloc | apply pw_below_drewN | apply below_drew1) | exact HB.out))) : w.heap.size ≤ gb605)); have n3_ := Aside0.mk ((by rw [hg]; exact (below_size (by repeat (first | (with_reducible first | exact HB.out | apply below_alloc | apply pw_below_drewN | apply below_drew1) | exact HB.out))) : w.heap.size ≤ gb605)); clear HB; have HB := n0_; have BK605 := n1_; have GW605 := n2_; have GE605 := n3_; clear n0_ n1_ n2_ n3_; clear hb hbox hg) | ((with_reducible refine gate_dst (N := 6) rfl ?_); (try (refine gate_guard (by rfl) ?_; dsimp only)); refine box_event ?hg (N := 6) ?hd (cs := #[.int .i64 0, .int .i64 0]) (t := 24) ?hr ?_; (case hd => rfl); (case hg => rfl); (case hr => first | (go_simp; done) | (go_simp; rfl)); intro gb606 hg w12 hbox hb; have n0_ := Aside0.mk (blk_below (g := gb605) (o := .cells #[.int .i64 0, .int .i64 0] 24 (0, 0)) (by (with_reducible repeat (first | refine blk_drewN ?_ _ | refine blk_drew ?_ | refine blk_alloc ?_ _)); exact BK605.out) hb); have n1_ := Aside0.mk (below_step (by repeat (first | (with_reducible first | exact HB.out | apply below_alloc | apply pw_below_drewN | apply below_drew1 | refine below_set ?_ GE605.out) | exact HB.out)) hb); have n2_ := Aside0.mk (hbox); have n3_ := Aside0.mk ((by rw [hg]; exact (below_size (by repeat (first | (with_reducible first | exact HB.out | apply below_alloc | apply pw_below_drewN | apply below_drew1 | refine below_set ?_ GE605.out) | exact HB.out))) : w.heap.size ≤ gb606)); have n4_ := Aside0.mk ((by rw [hg]; exact (below_size (by repeat (first | (with_reducible first | exact HB.out | apply below_alloc | apply pw_below_drewN | apply below_drew1 | refine below_set ?_ GE605.out) | exact HB.out))) : w.heap.size ≤ gb606)); have n5_ := Aside0.mk ((by rw [hg]; exact Nat.ne_of_lt (blk_lt (g := gb605) (o := .cells #[.int .i64 0, .int .i64 0] 24 (0, 0)) (by (with_reducible repeat (first | refine blk_drewN ?_ _ | refine blk_drew ?_ | refine blk_alloc ?_ _)); exact BK605.out)) : gb605 ≠ gb606)); have n6_ := Aside0.mk ((by rw [hg]; exact Nat.ne_of_gt (blk_lt (g := gb605) (o := .cells #[.int .i64 0, .int .i64 0] 24 (0, 0)) (by (with_reducible repeat (first | refine blk_drewN ?_ _ | refine blk_drew ?_ | refine blk_alloc ?_ _)); exact BK605.out)) : gb606 ≠ gb605)); clear BK605; clear HB; have BK605 := n0_; have HB := n1_; have BK606 := n2_; have GW606 := n3_; have GE606 := n4_; have NB605_606 := n5_; have NB606_605 := n6_; clear n0_ n1_ n2_ n3_ n4_ n5_ n6_; clear hb hbox hg; have hnb13 := NB605_606.out; have hnc13 := NB606_605.out; have hcz14_0 : w12.cell? ⟨gb605, 0, none⟩ = some (.int .i64 0) := (blk_cell BK605.out 0).trans rfl; have hcz14_1 : w12.cell? ⟨gb605, 1, none⟩ = some (.int .i64 0) := (blk_cell BK605.out 1).trans rfl; have hfz14_0 := blk_frozen BK605.out 0; have hfz14_1 := blk_frozen BK605.out 1; have hcz15_0 : w12.cell? ⟨gb606, 0, none⟩ = some (.int .i64 0) := (blk_cell BK606.out 0).trans rfl; have hcz15_1 : w12.cell? ⟨gb606, 1, none⟩ = some (.int .i64 0) := (blk_cell BK606.out 1).trans rfl; have hfz15_0 := blk_frozen BK606.out 0; have hfz15_1 := blk_frozen BK606.out 1) | ((with_reducible refine gate_callee (f := 53) rfl ?_); refine goesL_ (some 25) rfl rfl Try.func53 (by kernel_rfl) rfl #[.slice A1 l1.length c1] rfl (by (try simp only [List.map_toArray, List.map_cons, List.map_nil]); first | done | rfl | (simp only [List.length_drop, List.length_take]; rfl)) ?_; (with_reducible refine (spec_DrawDecCmp.calls kj2 _ _ l1 t607 t608 t609 t610 _ ?side1 ?side2 A7.out).mono ?_); (case side1 => exact Kd.C_below HR1.out (by repeat (first | (with_reducible first | exact HB.out | apply below_alloc | apply pw_below_drewN | apply below_drew1 | refine below_set ?_ GE605.out | refine below_set ?_ GE606.out) | exact HB.out))); (case side2 => exact HC1.out); rintro e w16 ⟨rfl, hb⟩; refine ⟨_, rfl, ?_⟩; have n0_ := Aside0.mk (blk_below (g := gb605) (o := .cells #[.int .i64 t601, .int .i64 t602] 24 (0, 0)) (by (with_reducible repeat (first | refine blk_drewN ?_ _ | refine blk_drew ?_ | refine blk_alloc ?_ _)); refine blk_far ?_ NB605_606.out _; (with_reducible repeat (first | refine blk_drewN ?_ _ | refine blk_drew ?_ | refine blk_alloc ?_ _)); refine blk_far ?_ NB605_606.out _; (with_reducible repeat (first | refine blk_drewN ?_ _ | refine blk_drew ?_ | refine blk_alloc ?_ _)); refine blk_put (cs := #[.int .i64 t601, .int .i64 0]) ?_ 1 _ rfl; (with_reducible repeat (first | refine blk_drewN ?_ _ | refine blk_drew ?_ | refine blk_alloc ?_ _)); refine blk_put (cs := #[.int .i64 0, .int .i64 0]) ?_ 0 _ rfl; (with_reducible repeat (first | refine blk_drewN ?_ _ | refine blk_drew ?_ | refine blk_alloc ?_ _)); exact BK605.out) hb); have n1_ := Aside0.mk (blk_below (g := gb606) (o := .cells #[.int .i64 t603, .int .i64 t604] 24 (0, 0)) (by (with_reducible repeat (first | refine blk_drewN ?_ _ | refine blk_drew ?_ | refine blk_alloc ?_ _)); refine blk_put (cs := #[.int .i64 t603, .int .i64 0]) ?_ 1 _ rfl; (with_reducible repeat (first | refine blk_drewN ?_ _ | refine blk_drew ?_ | refine blk_alloc ?_ _)); refine blk_put (cs := #[.int .i64 0, .int .i64 0]) ?_ 0 _ rfl; (with_reducible repeat (first | refine blk_drewN ?_ _ | refine blk_drew ?_ | refine blk_alloc ?_ _)); refine blk_far ?_ NB606_605.out _; (with_reducible repeat (first | refine blk_drewN ?_ _ | refine blk_drew ?_ | refine blk_alloc ?_ _)); refine blk_far ?_ NB606_605.out _; (with_reducible repeat (first | refine blk_drewN ?_ _ | refine blk_drew ?_ | refine blk_alloc ?_ _)); exact BK606.out) hb); have n2_ := Aside0.mk (below_step (by repeat (first | (with_reducible first | exact HB.out | apply below_alloc | apply pw_below_drewN | apply below_drew1 | refine below_set ?_ GE605.out | refine below_set ?_ GE606.out) | exact HB.out)) hb); clear BK605; clear BK606; clear HB; have BK605 := n0_; have BK606 := n1_; have HB := n2_; clear n0_ n1_ n2_; (try clear hb); (try clear hb2); (try clear hk); (try clear hi)) | ((with_reducible refine gate_dst (N := 7) rfl ?_); (try (refine gate_guard (by rfl) ?_; dsimp only)); refine box_event ?hg (N := 7) ?hd (cs := #[.int .i64 0, .int .i64 0]) (t := 24) ?hr ?_; (case hd => rfl); (case hg => rfl); (case hr => first | (go_simp; done) | (go_simp; rfl)); intro gb611 hg w17 hbox hb; have n0_ := Aside0.mk (blk_below (g := gb605) (o := .cells #[.int .i64 t601, .int .i64 t602] 24 (0, 0)) (by (with_reducible repeat (first | refine blk_drewN ?_ _ | refine blk_drew ?_ | refine blk_alloc ?_ _)); exact BK605.out) hb); have n1_ := Aside0.mk (blk_below (g := gb606) (o := .cells #[.int .i64 t603, .int .i64 t604] 24 (0, 0)) (by (with_reducible repeat (first | refine blk_drewN ?_ _ | refine blk_drew ?_ | refine blk_alloc ?_ _)); exact BK606.out) hb); have n2_ := Aside0.mk (below_step (by repeat (first | (with_reducible first | exact HB.out | apply below_alloc | apply pw_below_drewN | apply below_drew1 | refine below_set ?_ GE605.out | refine below_set ?_ GE606.out) | exact HB.out)) hb); have n3_ := Aside0.mk (hbox); have n4_ := Aside0.mk ((by rw [hg]; exact (below_size (by repeat (first | (with_reducible first | exact HB.out | apply below_alloc | apply pw_below_drewN | apply below_drew1 | refine below_set ?_ GE605.out | refine below_set ?_ GE606.out) | exact HB.out))) : w.heap.size ≤ gb611)); have n5_ := Aside0.mk ((by rw [hg]; exact (below_size (by repeat (first | (with_reducible first | exact HB.out | apply below_alloc | apply pw_below_drewN | apply below_drew1 | refine below_set ?_ GE605.out | refine below_set ?_ GE606.out) | exact HB.out))) : w.heap.size ≤ gb611)); have n6_ := Aside0.mk ((by rw [hg]; exact Nat.ne_of_lt (blk_lt (g := gb605) (o := .cells #[.int .i64 t601, .int .i64 t602] 24 (0, 0)) (by (with_reducible repeat (first | refine blk_drewN ?_ _ | refine blk_drew ?_ | refine blk_alloc ?_ _)); exact BK605.out)) : gb605 ≠ gb611)); have n7_ := Aside0.mk ((by rw [hg]; exact Nat.ne_of_gt (blk_lt (g := gb605) (o := .cells #[.int .i64 t601, .int .i64 t602] 24 (0, 0)) (by (with_reducible repeat (first | refine blk_drewN ?_ _ | refine blk_drew ?_ | refine blk_alloc ?_ _)); exact BK605.out)) : gb611 ≠ gb605)); have n8_ := Aside0.mk ((by rw [hg]; exact Nat.ne_of_lt (blk_lt (g := gb606) (o := .cells #[.int .i64 t603, .int .i64 t604] 24 (0, 0)) (by (with_reducible repeat (first | refine blk_drewN ?_ _ | refine blk_drew ?_ | refine blk_alloc ?_ _)); exact BK606.out)) : gb606 ≠ gb611)); have n9_ := Aside0.mk ((by rw [hg]; exact Nat.ne_of_gt (blk_lt (g := gb606) (o := .cells #[.int .i64 t603, .int .i64 t604] 24 (0, 0)) (by (with_reducible repeat (first | refine blk_drewN ?_ _ | refine blk_drew ?_ | refine blk_alloc ?_ _)); exact BK606.out)) : gb611 ≠ gb606)); clear BK605; clear BK606; clear HB; have BK605 := n0_; have BK606 := n1_; have HB := n2_; have BK611 := n3_; have GW611 := n4_; have GE611 := n5_; have NB605_611 := n6_; have NB611_605 := n7_; have NB606_611 := n8_; have NB611_606 := n9_; clear n0_ n1_ n2_ n3_ n4_ n5_ n6_ n7_ n8_ n9_; clear hb hbox hg) | ((with_reducible refine gate_dst (N := 8) rfl ?_); (try (refine gate_guard (by rfl) ?_; dsimp only)); refine box_event ?hg (N := 8) ?hd (cs := #[.int .i64 0, .int .i64 0]) (t := 24) ?hr ?_; (case hd => rfl); (case hg => rfl); (case hr => first | (go_simp; done) | (go_simp; rfl)); intro gb612 hg w18 hbox hb; have n0_ := Aside0.mk (blk_below (g := gb605) (o := .cells #[.int .i64 t601, .int .i64 t602] 24 (0, 0)) (by (with_reducible repeat (first | refine blk_drewN ?_ _ | refine blk_drew ?_ | refine blk_alloc ?_ _)); exact BK605.out) hb); have n1_ := Aside0.mk (blk_below (g := gb606) (o := .cells #[.int .i64 t603, .int .i64 t604] 24 (0, 0)) (by (with_reducible repeat (first | refine blk_drewN ?_ _ | refine blk_drew ?_ | refine blk_alloc ?_ _)); exact BK606.out) hb); have n2_ := Aside0.mk (blk_below (g := gb611) (o := .cells #[.int .i64 0, .int .i64 0] 24 (0, 0)) (by (with_reducible repeat (first | refine blk_drewN ?_ _ | refine blk_drew ?_ | refine blk_alloc ?_ _)); exact BK611.out) hb); have n3_ := Aside0.mk (below_step (by repeat (first | (with_reducible first | exact HB.out | apply below_alloc | apply pw_below_drewN | apply below_drew1 | refine below_set ?_ GE605.out | refine below_set ?_ GE606.out | refine below_set ?_ GE611.out) | exact HB.out)) hb); have n4_ := Aside0.mk (hbox); have n5_ := Aside0.mk ((by rw [hg]; exact (below_size (by repeat (first | (with_reducible first | exact HB.out | apply below_alloc | apply pw_below_drewN | apply below_drew1 | refine below_set ?_ GE605.out | refine below_set ?_ GE606.out | refine below_set ?_ GE611.out) | exact HB.out))) : w.heap.size ≤ gb612)); have n6_ := Aside0.mk ((by rw [hg]; exact (below_size (by repeat (first | (with_reducible first | exact HB.out | apply below_alloc | apply pw_below_drewN | apply below_drew1 | refine below_set ?_ GE605.out | refine below_set ?_ GE606.out | refine below_set ?_ GE611.out) | exact HB.out))) : w.heap.size ≤ gb612)); have n7_ := Aside0.mk ((by rw [hg]; exact Nat.ne_of_lt (blk_lt (g := gb605) (o := .cells #[.int .i64 t601, .int .i64 t602] 24 (0, 0)) (by (with_reducible repeat (first | refine blk_drewN ?_ _ | refine blk_drew ?_ | refine blk_alloc ?_ _)); exact BK605.out)) : gb605 ≠ gb612)); have n8_ := Aside0.mk ((by rw [hg]; exact Nat.ne_of_gt (blk_lt (g := gb605) (o := .cells #[.int .i64 t601, .int .i64 t602] 24 (0, 0)) (by (with_reducible repeat (first | refine blk_drewN ?_ _ | refine blk_drew ?_ | refine blk_alloc ?_ _)); exact BK605.out)) : gb612 ≠ gb605)); have n9_ := Aside0.mk ((by rw [hg]; exact Nat.ne_of_lt (blk_lt (g := gb606) (o := .cells #[.int .i64 t603, .int .i64 t604] 24 (0, 0)) (by (with_reducible repeat (first | refine blk_drewN ?_ _ | refine blk_drew ?_ | refine blk_alloc ?_ _)); exact BK606.out)) : gb606 ≠ gb612)); have n10_ := Aside0.mk ((by rw [hg]; exact Nat.ne_of_gt (blk_lt (g := gb606) (o := .cells #[.int .i64 t603, .int .i64 t604] 24 (0, 0)) (by (with_reducible repeat (first | refine blk_drewN ?_ _ | refine blk_drew ?_ | refine blk_alloc ?_ _)); exact BK606.out)) : gb612 ≠ gb606)); have n11_ := Aside0.mk ((by rw [hg]; exact Nat.ne_of_lt (blk_lt (g := gb611) (o := .cells #[.int .i64 0, .int .i64 0] 24 (0, 0)) (by (with_reducible repeat (first | refine blk_drewN ?_ _ | refine blk_drew ?_ | refine blk_alloc ?_ _)); exact BK611.out)) : gb611 ≠ gb612)); have n12_ := Aside0.mk ((by rw [hg]; exact Nat.ne_of_gt (blk_lt (g := gb611) (o := .cells #[.int .i64 0, .int .i64 0] 24 (0, 0)) (by (with_reducible repeat (first | refine blk_drewN ?_ _ | refine blk_drew ?_ | refine blk_alloc ?_ _)); exact BK611.out)) : gb612 ≠ gb611)); clear BK605; clear BK606; clear BK611; clear HB; have BK605 := n0_; have BK606 := n1_; have BK611 := n2_; have HB := n3_; have BK612 := n4_; have GW612 := n5_; have GE612 := n6_; have NB605_612 := n7_; have NB612_605 := n8_; have NB606_612 := n9_; have NB612_606 := n10_; have NB611_612 := n11_; have NB612_611 := n12_; clear n0_ n1_ n2_ n3_ n4_ n5_ n6_ n7_ n8_ n9_ n10_ n11_ n12_; clear hb hbox hg; have hnb19 := NB611_605.out; have hnc19 := NB605_611.out; have hnb20 := NB611_606.out; have hnc20 := NB606_611.out; have hnb21 := NB611_612.out; have hnc21 := NB612_611.out; have hcz22_0 : w18.cell? ⟨gb611, 0, none⟩ = some (.int .i64 0) := (blk_cell BK611.out 0).trans rfl; have hcz22_1 : w18.cell? ⟨gb611, 1, none⟩ = some (.int .i64 0) := (blk_cell BK611.out 1).trans rfl; have hfz22_0 := blk_frozen BK611.out 0; have hfz22_1 := blk_frozen BK611.out 1; have hnb23 := NB612_605.out; have hnc23 := NB605_612.out; have hnb24 := NB612_606.out; have hnc24 := NB606_612.out; have hcz25_0 : w18.cell? ⟨gb612, 0, none⟩ = some (.int .i64 0) := (blk_cell BK612.out 0).trans rfl; have hcz25_1 : w18.cell? ⟨gb612, 1, none⟩ = some (.int .i64 0) := (blk_cell BK612.out 1).trans rfl; have hfz25_0 := blk_frozen BK612.out 0; have hfz25_1 := blk_frozen BK612.out 1; have hcz26_0 : w18.cell? ⟨gb605, 0, none⟩ = some (.int .i64 t601) := (blk_cell BK605.out 0).trans rfl; have hcz26_1 : w18.cell? ⟨gb605, 1, none⟩ = some (.int .i64 t602) := (blk_cell BK605.out 1).trans rfl; have hfz26_0 := blk_frozen BK605.out 0; have hfz26_1 := blk_frozen BK605.out 1; have hcz27_0 : w18.cell? ⟨gb606, 0, none⟩ = some (.int .i64 t603) := (blk_cell BK606.out 0).trans rfl; have hcz27_1 : w18.cell? ⟨gb606, 1, none⟩ = some (.int .i64 t604) := (blk_cell BK606.out 1).trans rfl; have hfz27_0 := blk_frozen BK606.out 0; have hfz27_1 := blk_frozen BK606.out 1) | ((with_reducible refine gate_callee (f := 26) rfl ?_); refine goesL_ (some 30) rfl rfl Try.func26 (by kernel_rfl) rfl #[.agg #[.int .i64 t601, .int .i64 t602], .agg #[.int .i64 t603, .int .i64 t604]] rfl (by (try simp only [List.map_toArray, List.map_cons, List.map_nil]); first | done | rfl | (simp only [List.length_drop, List.length_take]; rfl)) ?_; (with_reducible refine (impl_DecCmp.calls kj2 t601 t602 t603 t604 t613 _ A8.out).mono ?_); rintro e w28 ⟨rfl, hb⟩; refine ⟨_, rfl, ?_⟩; have n0_ := Aside0.mk (blk_below (g := gb605) (o := .cells #[.int .i64 t601, .int .i64 t602] 24 (0, 0)) (by (with_reducible repeat (first | refine blk_drewN ?_ _ | refine blk_drew ?_ | refine blk_alloc ?_ _)); refine blk_far ?_ NB605_612.out _; (with_reducible repeat (first | refine blk_drewN ?_ _ | refine blk_drew ?_ | refine blk_alloc ?_ _)); refine blk_far ?_ NB605_612.out _; (with_reducible repeat (first | refine blk_drewN ?_ _ | refine blk_drew ?_ | refine blk_alloc ?_ _)); refine blk_far ?_ NB605_611.out _; (with_reducible repeat (first | refine blk_drewN ?_ _ | refine blk_drew ?_ | refine blk_alloc ?_ _)); refine blk_far ?_ NB605_611.out _; (with_reducible repeat (first | refine blk_drewN ?_ _ | refine blk_drew ?_ | refine blk_alloc ?_ _)); exact BK605.out) hb); have n1_ := Aside0.mk (blk_below (g := gb606) (o := .cells #[.int .i64 t603, .int .i64 t604] 24 (0, 0)) (by (with_reducible repeat (first | refine blk_drewN ?_ _ | refine blk_drew ?_ | refine blk_alloc ?_ _)); refine blk_far ?_ NB606_612.out _; (with_reducible repeat (first | refine blk_drewN ?_ _ | refine blk_drew ?_ | refine blk_alloc ?_ _)); refine blk_far ?_ NB606_612.out _; (with_reducible repeat (first | refine blk_drewN ?_ _ | refine blk_drew ?_ | refine blk_alloc ?_ _)); refine blk_far ?_ NB606_611.out _; (with_reducible repeat (first | refine blk_drewN ?_ _ | refine blk_drew ?_ | refine blk_alloc ?_ _)); refine blk_far ?_ NB606_611.out _; (with_reducible repeat (first | refine blk_drewN ?_ _ | refine blk_drew ?_ | refine blk_alloc ?_ _)); exact BK606.out) hb); have n2_ := Aside0.mk (blk_below (g := gb611) (o := .cells #[.int .i64 t607, .int .i64 t608] 24 (0, 0)) (by (with_reducible repeat (first | refine blk_drewN ?_ _ | refine blk_drew ?_ | refine blk_alloc ?_ _)); refine blk_far ?_ NB611_612.out _; (with_reducible repeat (first | refine blk_drewN ?_ _ | refine blk_drew ?_ | refine blk_alloc ?_ _)); refine blk_far ?_ NB611_612.out _; (with_reducible repeat (first | refine blk_drewN ?_ _ | refine blk_drew ?_ | refine blk_alloc ?_ _)); refine blk_put (cs := #[.int .i64 t607, .int .i64 0]) ?_ 1 _ rfl; (with_reducible repeat (first | refine blk_drewN ?_ _ | refine blk_drew ?_ | refine blk_alloc ?_ _)); refine blk_put (cs := #[.int .i64 0, .int .i64 0]) ?_ 0 _ rfl; (with_reducible repeat (first | refine blk_drewN ?_ _ | refine blk_drew ?_ | refine blk_alloc ?_ _)); exact BK611.out) hb); have n3_ := Aside0.mk (blk_below (g := gb612) (o := .cells #[.int .i64 t609, .int .i64 t610] 24 (0, 0)) (by (with_reducible repeat (first | refine blk_drewN ?_ _ | refine blk_drew ?_ | refine blk_alloc ?_ _)); refine blk_put (cs := #[.int .i64 t609, .int .i64 0]) ?_ 1 _ rfl; (with_reducible repeat (first | refine blk_drewN ?_ _ | refine blk_drew ?_ | refine blk_alloc ?_ _)); refine blk_put (cs := #[.int .i64 0, .int .i64 0]) ?_ 0 _ rfl; (with_reducible repeat (first | refine blk_drewN ?_ _ | refine blk_drew ?_ | refine blk_alloc ?_ _)); refine blk_far ?_ NB612_611.out _; (with_reducible repeat (first | refine blk_drewN ?_ _ | refine blk_drew ?_ | refine blk_alloc ?_ _)); refine blk_far ?_ NB612_611.out _; (with_reducible repeat (first | refine blk_drewN ?_ _ | refine blk_drew ?_ | refine blk_alloc ?_ _)); exact BK612.out) hb); have n4_ := Aside0.mk (below_step (by repeat (first | (with_reducible first | exact HB.out | apply below_alloc | apply pw_below_drewN | apply below_drew1 | refine below_set ?_ GE605.out | refine below_set ?_ GE606.out | refine below_set ?_ GE611.out | refine below_set ?_ GE612.out) | exact HB.out)) hb); clear BK605; clear BK606; clear BK611; clear BK612; clear HB; have BK605 := n0_; have BK606 := n1_; have BK611 := n2_; have BK612 := n3_; have HB := n4_; clear n0_ n1_ n2_ n3_ n4_; (try clear hb); (try clear hb2); (try clear hk); (try clear hi)))
        (try simp only [Act.put, List.setIfInBounds_toArray, List.set_cons_zero, List.set_cons_succ])
        go_cut [43] (fun v43 wc => ∃ (kq : Nat) (x43_8 : Bool), v43 = .bool x43_8 ∧ Aside0 (laws_FnDecCmp.j1 kq t613 x43_8 t601 t602 t603 t604 t607 t608 = some r) ∧ Aside0 (kq ≤ kj2) ∧ Aside0 (wc.heap[gb605]? = some (.cells #[.int .i64 t601, .int .i64 t602] 24 (0, 0))) ∧ Aside0 (wc.heap[gb606]? = some (.cells #[.int .i64 t603, .int .i64 t604] 24 (0, 0))) ∧ Aside0 (wc.heap[gb611]? = some (.cells #[.int .i64 t607, .int .i64 t608] 24 (0, 0))) ∧ Aside0 (wc.heap[gb612]? = some (.cells #[.int .i64 t609, .int .i64 t610] 24 (0, 0))) ∧ Aside0 (Below w.heap.size w wc))
        case first =>
          have H := HC9.out
          clear HC9
          replace H := Option.bind_eq_some_iff.mp H
          obtain ⟨t614, A290, H⟩ := H
          replace H : (if t613 = t614 then ((impl_DecCmp.f kj2 t603 t604 t601 t602).bind fun t615 => (laws_FnDecCmp.j1 kj2 t613 (t615 != (wrap64 (-t613))) t601 t602 t603 t604 t607 t608)) else (laws_FnDecCmp.j1 kj2 t613 true t601 t602 t603 t604 t607 t608)) = some r := H
          have A29 := Aside0.mk A290
          clear A290
          by_cases c30 : t613 = t614
          · rw [if_pos c30] at H
            have c30b0 : (t613 == t614) = true := beq_iff_eq.mpr c30
            have c30b1 : (t613 != t614) = false := bne_eq_false_iff_eq.mpr c30
            clear c30
            (first | rw [c30b0] | (simp only [i64_w, i32_w]; rw [c30b0]) | skip)
            replace H := Option.bind_eq_some_iff.mp H
            obtain ⟨t615, A310, H⟩ := H
            replace H : (laws_FnDecCmp.j1 kj2 t613 (t615 != (wrap64 (-t613))) t601 t602 t603 t604 t607 t608) = some r := H
            have A31 := Aside0.mk A310
            clear A310
            have H' := Aside0.mk H
            clear H
            have hnb32 := NB605_606.out
            have hnc32 := NB606_605.out
            have hnb33 := NB605_611.out
            have hnc33 := NB611_605.out
            have hnb34 := NB605_612.out
            have hnc34 := NB612_605.out
            have hcz35_0 : w28.cell? ⟨gb605, 0, none⟩ = some (.int .i64 t601) := (blk_cell BK605.out 0).trans rfl
            have hcz35_1 : w28.cell? ⟨gb605, 1, none⟩ = some (.int .i64 t602) := (blk_cell BK605.out 1).trans rfl
            have hfz35_0 := blk_frozen BK605.out 0
            have hfz35_1 := blk_frozen BK605.out 1
            have hnb36 := NB606_611.out
            have hnc36 := NB611_606.out
            have hnb37 := NB606_612.out
            have hnc37 := NB612_606.out
            have hcz38_0 : w28.cell? ⟨gb606, 0, none⟩ = some (.int .i64 t603) := (blk_cell BK606.out 0).trans rfl
            have hcz38_1 : w28.cell? ⟨gb606, 1, none⟩ = some (.int .i64 t604) := (blk_cell BK606.out 1).trans rfl
            have hfz38_0 := blk_frozen BK606.out 0
            have hfz38_1 := blk_frozen BK606.out 1
            go_wp2_with (first | ((with_reducible refine gate_callee (f := 25) rfl ?_); refine goesL_ (some 34) rfl rfl Try.func25 (by kernel_rfl) rfl #[.agg #[.int .i64 t601, .int .i64 t602], .agg #[.int .i64 t603, .int .i64 t604]] rfl (by (try simp only [List.map_toArray, List.map_cons, List.map_nil]); first | done | rfl | (simp only [List.length_drop, List.length_take]; rfl)) ?_; (with_reducible refine (spec_DecCmp.calls kj2 t601 t602 t603 t604 t614 _ A29.out).mono ?_); rintro e w39 ⟨rfl, hb⟩; refine ⟨_, rfl, ?_⟩; have n0_ := Aside0.mk (blk_below (g := gb605) (o := .cells #[.int .i64 t601, .int .i64 t602] 24 (0, 0)) (by (with_reducible repeat (first | refine blk_drewN ?_ _ | refine blk_drew ?_ | refine blk_alloc ?_ _)); exact BK605.out) hb); have n1_ := Aside0.mk (blk_below (g := gb606) (o := .cells #[.int .i64 t603, .int .i64 t604] 24 (0, 0)) (by (with_reducible repeat (first | refine blk_drewN ?_ _ | refine blk_drew ?_ | refine blk_alloc ?_ _)); exact BK606.out) hb); have n2_ := Aside0.mk (blk_below (g := gb611) (o := .cells #[.int .i64 t607, .int .i64 t608] 24 (0, 0)) (by (with_reducible repeat (first | refine blk_drewN ?_ _ | refine blk_drew ?_ | refine blk_alloc ?_ _)); exact BK611.out) hb); have n3_ := Aside0.mk (blk_below (g := gb612) (o := .cells #[.int .i64 t609, .int .i64 t610] 24 (0, 0)) (by (with_reducible repeat (first | refine blk_drewN ?_ _ | refine blk_drew ?_ | refine blk_alloc ?_ _)); exact BK612.out) hb); have n4_ := Aside0.mk (below_step (by repeat (first | (with_reducible first | exact HB.out | apply below_alloc | apply pw_below_drewN | apply below_drew1 | refine below_set ?_ GE605.out | refine below_set ?_ GE606.out | refine below_set ?_ GE611.out | refine below_set ?_ GE612.out) | exact HB.out)) hb); clear BK605; clear BK606; clear BK611; clear BK612; clear HB; have BK605 := n0_; have BK606 := n1_; have BK611 := n2_; have BK612 := n3_; have HB := n4_; clear n0_ n1_ n2_ n3_ n4_; (try clear hb); (try clear hb2); (try clear hk); (try clear hi); have hcz40_0 : w39.cell? ⟨gb606, 0, none⟩ = some (.int .i64 t603) := (blk_cell BK606.out 0).trans rfl; have hcz40_1 : w39.cell? ⟨gb606, 1, none⟩ = some (.int .i64 t604) := (blk_cell BK606.out 1).trans rfl; have hfz40_0 := blk_frozen BK606.out 0; have hfz40_1 := blk_frozen BK606.out 1; have hcz41_0 : w39.cell? ⟨gb605, 0, none⟩ = some (.int .i64 t601) := (blk_cell BK605.out 0).trans rfl; have hcz41_1 : w39.cell? ⟨gb605, 1, none⟩ = some (.int .i64 t602) := (blk_cell BK605.out 1).trans rfl; have hfz41_0 := blk_frozen BK605.out 0; have hfz41_1 := blk_frozen BK605.out 1) | (go_at_call 26; (with_reducible refine (impl_DecCmp.calls kj2 t603 t604 t601 t602 t615 _ A31.out).mono ?_); rintro e w42 ⟨rfl, hb⟩; have n0_ := Aside0.mk (blk_below (g := gb605) (o := .cells #[.int .i64 t601, .int .i64 t602] 24 (0, 0)) (by (with_reducible repeat (first | refine blk_drewN ?_ _ | refine blk_drew ?_ | refine blk_alloc ?_ _)); exact BK605.out) hb); have n1_ := Aside0.mk (blk_below (g := gb606) (o := .cells #[.int .i64 t603, .int .i64 t604] 24 (0, 0)) (by (with_reducible repeat (first | refine blk_drewN ?_ _ | refine blk_drew ?_ | refine blk_alloc ?_ _)); exact BK606.out) hb); have n2_ := Aside0.mk (blk_below (g := gb611) (o := .cells #[.int .i64 t607, .int .i64 t608] 24 (0, 0)) (by (with_reducible repeat (first | refine blk_drewN ?_ _ | refine blk_drew ?_ | refine blk_alloc ?_ _)); exact BK611.out) hb); have n3_ := Aside0.mk (blk_below (g := gb612) (o := .cells #[.int .i64 t609, .int .i64 t610] 24 (0, 0)) (by (with_reducible repeat (first | refine blk_drewN ?_ _ | refine blk_drew ?_ | refine blk_alloc ?_ _)); exact BK612.out) hb); have n4_ := Aside0.mk (below_step (by repeat (first | (with_reducible first | exact HB.out | apply below_alloc | apply pw_below_drewN | apply below_drew1 | refine below_set ?_ GE605.out | refine below_set ?_ GE606.out | refine below_set ?_ GE611.out | refine below_set ?_ GE612.out) | exact HB.out)) hb); clear BK605; clear BK606; clear BK611; clear BK612; clear HB; have BK605 := n0_; have BK606 := n1_; have BK611 := n2_; have BK612 := n3_; have HB := n4_; clear n0_ n1_ n2_ n3_ n4_; (try clear hb); (try clear hb2); (try clear hk); (try clear hi)))
            go_meet
            case rel => exact ⟨_, ((t615 != (wrap64 (-t613)))), (by first | rfl | (simp; done) | (simp [*]; done)), H', ⟨by have := HJ2.out; first | omega | exact Nat.le_refl _⟩, ⟨by (with_reducible repeat (first | refine blk_drewN ?_ _ | refine blk_drew ?_ | refine blk_alloc ?_ _)); exact BK605.out⟩, ⟨by (with_reducible repeat (first | refine blk_drewN ?_ _ | refine blk_drew ?_ | refine blk_alloc ?_ _)); exact BK606.out⟩, ⟨by (with_reducible repeat (first | refine blk_drewN ?_ _ | refine blk_drew ?_ | refine blk_alloc ?_ _)); exact BK611.out⟩, ⟨by (with_reducible repeat (first | refine blk_drewN ?_ _ | refine blk_drew ?_ | refine blk_alloc ?_ _)); exact BK612.out⟩, ⟨by repeat (first | (with_reducible first | exact HB.out | apply below_alloc | apply pw_below_drewN | apply below_drew1 | refine below_set ?_ GE605.out | refine below_set ?_ GE606.out | refine below_set ?_ GE611.out | refine below_set ?_ GE612.out) | exact HB.out)⟩⟩
          · rw [if_neg c30] at H
            have c30b0 : (t613 == t614) = false := beq_eq_false_iff_ne.mpr c30
            have c30b1 : (t613 != t614) = true := bne_iff_ne.mpr c30
            (first | rw [c30b0] | (simp only [i64_w, i32_w]; rw [c30b0]) | skip)
            have H' := Aside0.mk H
            clear H
            have hnb43 := NB605_606.out
            have hnc43 := NB606_605.out
            have hnb44 := NB605_611.out
            have hnc44 := NB611_605.out
            have hnb45 := NB605_612.out
            have hnc45 := NB612_605.out
            have hcz46_0 : w28.cell? ⟨gb605, 0, none⟩ = some (.int .i64 t601) := (blk_cell BK605.out 0).trans rfl
            have hcz46_1 : w28.cell? ⟨gb605, 1, none⟩ = some (.int .i64 t602) := (blk_cell BK605.out 1).trans rfl
            have hfz46_0 := blk_frozen BK605.out 0
            have hfz46_1 := blk_frozen BK605.out 1
            have hnb47 := NB606_611.out
            have hnc47 := NB611_606.out
            have hnb48 := NB606_612.out
            have hnc48 := NB612_606.out
            have hcz49_0 : w28.cell? ⟨gb606, 0, none⟩ = some (.int .i64 t603) := (blk_cell BK606.out 0).trans rfl
            have hcz49_1 : w28.cell? ⟨gb606, 1, none⟩ = some (.int .i64 t604) := (blk_cell BK606.out 1).trans rfl
            have hfz49_0 := blk_frozen BK606.out 0
            have hfz49_1 := blk_frozen BK606.out 1
            go_wp2_with (first | ((with_reducible refine gate_callee (f := 25) rfl ?_); refine goesL_ (some 34) rfl rfl Try.func25 (by kernel_rfl) rfl #[.agg #[.int .i64 t601, .int .i64 t602], .agg #[.int .i64 t603, .int .i64 t604]] rfl (by (try simp only [List.map_toArray, List.map_cons, List.map_nil]); first | done | rfl | (simp only [List.length_drop, List.length_take]; rfl)) ?_; (with_reducible refine (spec_DecCmp.calls kj2 t601 t602 t603 t604 t614 _ A29.out).mono ?_); rintro e w50 ⟨rfl, hb⟩; refine ⟨_, rfl, ?_⟩; have n0_ := Aside0.mk (blk_below (g := gb605) (o := .cells #[.int .i64 t601, .int .i64 t602] 24 (0, 0)) (by (with_reducible repeat (first | refine blk_drewN ?_ _ | refine blk_drew ?_ | refine blk_alloc ?_ _)); exact BK605.out) hb); have n1_ := Aside0.mk (blk_below (g := gb606) (o := .cells #[.int .i64 t603, .int .i64 t604] 24 (0, 0)) (by (with_reducible repeat (first | refine blk_drewN ?_ _ | refine blk_drew ?_ | refine blk_alloc ?_ _)); exact BK606.out) hb); have n2_ := Aside0.mk (blk_below (g := gb611) (o := .cells #[.int .i64 t607, .int .i64 t608] 24 (0, 0)) (by (with_reducible repeat (first | refine blk_drewN ?_ _ | refine blk_drew ?_ | refine blk_alloc ?_ _)); exact BK611.out) hb); have n3_ := Aside0.mk (blk_below (g := gb612) (o := .cells #[.int .i64 t609, .int .i64 t610] 24 (0, 0)) (by (with_reducible repeat (first | refine blk_drewN ?_ _ | refine blk_drew ?_ | refine blk_alloc ?_ _)); exact BK612.out) hb); have n4_ := Aside0.mk (below_step (by repeat (first | (with_reducible first | exact HB.out | apply below_alloc | apply pw_below_drewN | apply below_drew1 | refine below_set ?_ GE605.out | refine below_set ?_ GE606.out | refine below_set ?_ GE611.out | refine below_set ?_ GE612.out) | exact HB.out)) hb); clear BK605; clear BK606; clear BK611; clear BK612; clear HB; have BK605 := n0_; have BK606 := n1_; have BK611 := n2_; have BK612 := n3_; have HB := n4_; clear n0_ n1_ n2_ n3_ n4_; (try clear hb); (try clear hb2); (try clear hk); (try clear hi)))
            go_meet
            case rel => exact ⟨_, (true), (by first | rfl | (simp; done) | (simp [*]; done)), H', ⟨by have := HJ2.out; first | omega | exact Nat.le_refl _⟩, ⟨by (with_reducible repeat (first | refine blk_drewN ?_ _ | refine blk_drew ?_ | refine blk_alloc ?_ _)); exact BK605.out⟩, ⟨by (with_reducible repeat (first | refine blk_drewN ?_ _ | refine blk_drew ?_ | refine blk_alloc ?_ _)); exact BK606.out⟩, ⟨by (with_reducible repeat (first | refine blk_drewN ?_ _ | refine blk_drew ?_ | refine blk_alloc ?_ _)); exact BK611.out⟩, ⟨by (with_reducible repeat (first | refine blk_drewN ?_ _ | refine blk_drew ?_ | refine blk_alloc ?_ _)); exact BK612.out⟩, ⟨by repeat (first | (with_reducible first | exact HB.out | apply below_alloc | apply pw_below_drewN | apply below_drew1 | refine below_set ?_ GE605.out | refine below_set ?_ GE606.out | refine below_set ?_ GE611.out | refine below_set ?_ GE612.out) | exact HB.out)⟩⟩
        case rest =>
          clear HC9
          try clear c1
          try clear c2
          try clear p2
          try clear c3
          try clear c4
          try clear c4b0
          try clear c4b1
          try clear c5
          try clear p6
          try clear c12
          try clear c13
          try clear c19
          try clear c20
          try clear c21
          try clear c23
          try clear c24
          try clear c25
          try clear c26
          try clear c30
          try clear c30b0
          try clear c30b1
          try clear c32
          try clear c33
          try clear c34
          try clear c36
          try clear c37
          try clear c43
          try clear c44
          try clear c45
          try clear c47
          try clear c48
          try clear hcz14_0
          try clear hcz14_1
          try clear hcz15_0
          try clear hcz15_1
          try clear hcz22_0
          try clear hcz22_1
          try clear hcz25_0
          try clear hcz25_1
          try clear hcz26_0
          try clear hcz26_1
          try clear hcz27_0
          try clear hcz27_1
          try clear hcz35_0
          try clear hcz35_1
          try clear hcz38_0
          try clear hcz38_1
          try clear hcz40_0
          try clear hcz40_1
          try clear hcz41_0
          try clear hcz41_1
          try clear hcz46_0
          try clear hcz46_1
          try clear hcz49_0
          try clear hcz49_1
          try clear hfz14_0
          try clear hfz14_1
          try clear hfz15_0
          try clear hfz15_1
          try clear hfz22_0
          try clear hfz22_1
          try clear hfz25_0
          try clear hfz25_1
          try clear hfz26_0
          try clear hfz26_1
          try clear hfz27_0
          try clear hfz27_1
          try clear hfz35_0
          try clear hfz35_1
          try clear hfz38_0
          try clear hfz38_1
          try clear hfz40_0
          try clear hfz40_1
          try clear hfz41_0
          try clear hfz41_1
          try clear hfz46_0
          try clear hfz46_1
          try clear hfz49_0
          try clear hfz49_1
          try clear p2
          obtain ⟨kq, x43_8, rfl, HA, HJ8, BK605, BK606, BK611, BK612, HB⟩ := hcut
          cases kq with
          | zero => exact absurd HA.out (by simp [laws_FnDecCmp.j1])
          | succ kj8 =>
            have H := HA.out
            clear HA
            simp only [laws_FnDecCmp.j1] at H
            by_cases c51 : x43_8 = true
            · subst c51
              have H1 : (some false) = some r := by rw [if_pos rfl] at H; exact H
              clear H
              have H := H1
              clear H1
              obtain rfl := Option.some.inj H
              go_wp2
              go_ret
              exact ⟨by first | rfl | (simp [errW_none, errW_some] <;> rfl) | (simp [*, errW_none, errW_some] <;> rfl), by repeat (first | (with_reducible first | exact HB.out | apply below_alloc | apply pw_below_drewN | apply below_drew1 | refine below_set ?_ GE605.out | refine below_set ?_ GE606.out | refine below_set ?_ GE611.out | refine below_set ?_ GE612.out) | exact HB.out)⟩
            · replace c51 := Bool.eq_false_iff.mpr c51
              subst c51
              have H1 : ((spec_DecOk.f kj8 t601 t602).bind fun t616 => (if t616 = true then ((spec_DecOk.f kj8 t603 t604).bind fun t617 => (if t617 = true then ((spec_DecOk.f kj8 t607 t608).bind fun t618 => (laws_FnDecCmp.j2 kj8 t613 (!t618) t601 t602 t603 t604 t607 t608)) else (laws_FnDecCmp.j2 kj8 t613 true t601 t602 t603 t604 t607 t608))) else (laws_FnDecCmp.j2 kj8 t613 true t601 t602 t603 t604 t607 t608))) = some r := by rw [if_neg (show ¬ (false = true) by decide)] at H; exact H
              clear H
              have H := H1
              clear H1
              have HC52 := Aside0.mk H
              clear H
              go_upto_region 8 with (fail)
              go_cut [56] (fun v56 wc => ∃ (kq : Nat) (x56_51 : Bool), v56 = .bool x56_51 ∧ Aside0 (laws_FnDecCmp.j2 kq t613 x56_51 t601 t602 t603 t604 t607 t608 = some r) ∧ Aside0 (kq ≤ kj8) ∧ Aside0 (wc.heap[gb605]? = some (.cells #[.int .i64 t601, .int .i64 t602] 24 (0, 0))) ∧ Aside0 (wc.heap[gb606]? = some (.cells #[.int .i64 t603, .int .i64 t604] 24 (0, 0))) ∧ Aside0 (wc.heap[gb611]? = some (.cells #[.int .i64 t607, .int .i64 t608] 24 (0, 0))) ∧ Aside0 (wc.heap[gb612]? = some (.cells #[.int .i64 t609, .int .i64 t610] 24 (0, 0))) ∧ Aside0 (Below w.heap.size w wc))
              case first =>
                have H := HC52.out
                clear HC52
                replace H := Option.bind_eq_some_iff.mp H
                obtain ⟨t616, A530, H⟩ := H
                replace H : (if t616 = true then ((spec_DecOk.f kj8 t603 t604).bind fun t617 => (if t617 = true then ((spec_DecOk.f kj8 t607 t608).bind fun t618 => (laws_FnDecCmp.j2 kj8 t613 (!t618) t601 t602 t603 t604 t607 t608)) else (laws_FnDecCmp.j2 kj8 t613 true t601 t602 t603 t604 t607 t608))) else (laws_FnDecCmp.j2 kj8 t613 true t601 t602 t603 t604 t607 t608)) = some r := H
                have A53 := Aside0.mk A530
                clear A530
                by_cases c54 : t616 = true
                · subst c54
                  have H1 : ((spec_DecOk.f kj8 t603 t604).bind fun t617 => (if t617 = true then ((spec_DecOk.f kj8 t607 t608).bind fun t618 => (laws_FnDecCmp.j2 kj8 t613 (!t618) t601 t602 t603 t604 t607 t608)) else (laws_FnDecCmp.j2 kj8 t613 true t601 t602 t603 t604 t607 t608))) = some r := by rw [if_pos rfl] at H; exact H
                  clear H
                  have H := H1
                  clear H1
                  replace H := Option.bind_eq_some_iff.mp H
                  obtain ⟨t617, A550, H⟩ := H
                  replace H : (if t617 = true then ((spec_DecOk.f kj8 t607 t608).bind fun t618 => (laws_FnDecCmp.j2 kj8 t613 (!t618) t601 t602 t603 t604 t607 t608)) else (laws_FnDecCmp.j2 kj8 t613 true t601 t602 t603 t604 t607 t608)) = some r := H
                  have A55 := Aside0.mk A550
                  clear A550
                  by_cases c56 : t617 = true
                  · subst c56
                    have H1 : ((spec_DecOk.f kj8 t607 t608).bind fun t618 => (laws_FnDecCmp.j2 kj8 t613 (!t618) t601 t602 t603 t604 t607 t608)) = some r := by rw [if_pos rfl] at H; exact H
                    clear H
                    have H := H1
                    clear H1
                    replace H := Option.bind_eq_some_iff.mp H
                    obtain ⟨t618, A570, H⟩ := H
                    replace H : (laws_FnDecCmp.j2 kj8 t613 (!t618) t601 t602 t603 t604 t607 t608) = some r := H
                    have A57 := Aside0.mk A570
                    clear A570
                    have H' := Aside0.mk H
                    clear H
                    have hnb58 := NB605_606.out
                    have hnc58 := NB606_605.out
                    have hnb59 := NB605_611.out
                    have hnc59 := NB611_605.out
                    have hnb60 := NB605_612.out
                    have hnc60 := NB612_605.out
                    have hcz61_0 : wc.cell? ⟨gb605, 0, none⟩ = some (.int .i64 t601) := (blk_cell BK605.out 0).trans rfl
                    have hcz61_1 : wc.cell? ⟨gb605, 1, none⟩ = some (.int .i64 t602) := (blk_cell BK605.out 1).trans rfl
                    have hfz61_0 := blk_frozen BK605.out 0
                    have hfz61_1 := blk_frozen BK605.out 1
                    go_wp2_with (first | ((with_reducible refine gate_callee (f := 51) rfl ?_); refine goesL_ (some 45) rfl rfl Try.func51 (by kernel_rfl) rfl #[.agg #[.int .i64 t601, .int .i64 t602]] rfl (by (try simp only [List.map_toArray, List.map_cons, List.map_nil]); first | done | rfl | (simp only [List.length_drop, List.length_take]; rfl)) ?_; (with_reducible refine (spec_DecOk.calls kj8 t601 t602 true _ A53.out).mono ?_); rintro e w62 ⟨rfl, hb⟩; refine ⟨_, rfl, ?_⟩; have n0_ := Aside0.mk (blk_below (g := gb605) (o := .cells #[.int .i64 t601, .int .i64 t602] 24 (0, 0)) (by (with_reducible repeat (first | refine blk_drewN ?_ _ | refine blk_drew ?_ | refine blk_alloc ?_ _)); exact BK605.out) hb); have n1_ := Aside0.mk (blk_below (g := gb606) (o := .cells #[.int .i64 t603, .int .i64 t604] 24 (0, 0)) (by (with_reducible repeat (first | refine blk_drewN ?_ _ | refine blk_drew ?_ | refine blk_alloc ?_ _)); exact BK606.out) hb); have n2_ := Aside0.mk (blk_below (g := gb611) (o := .cells #[.int .i64 t607, .int .i64 t608] 24 (0, 0)) (by (with_reducible repeat (first | refine blk_drewN ?_ _ | refine blk_drew ?_ | refine blk_alloc ?_ _)); exact BK611.out) hb); have n3_ := Aside0.mk (blk_below (g := gb612) (o := .cells #[.int .i64 t609, .int .i64 t610] 24 (0, 0)) (by (with_reducible repeat (first | refine blk_drewN ?_ _ | refine blk_drew ?_ | refine blk_alloc ?_ _)); exact BK612.out) hb); have n4_ := Aside0.mk (below_step (by repeat (first | (with_reducible first | exact HB.out | apply below_alloc | apply pw_below_drewN | apply below_drew1 | refine below_set ?_ GE605.out | refine below_set ?_ GE606.out | refine below_set ?_ GE611.out | refine below_set ?_ GE612.out) | exact HB.out)) hb); clear BK605; clear BK606; clear BK611; clear BK612; clear HB; have BK605 := n0_; have BK606 := n1_; have BK611 := n2_; have BK612 := n3_; have HB := n4_; clear n0_ n1_ n2_ n3_ n4_; (try clear hb); (try clear hb2); (try clear hk); (try clear hi); have hnb63 := NB606_611.out; have hnc63 := NB611_606.out; have hnb64 := NB606_612.out; have hnc64 := NB612_606.out; have hcz65_0 : w62.cell? ⟨gb606, 0, none⟩ = some (.int .i64 t603) := (blk_cell BK606.out 0).trans rfl; have hcz65_1 : w62.cell? ⟨gb606, 1, none⟩ = some (.int .i64 t604) := (blk_cell BK606.out 1).trans rfl; have hfz65_0 := blk_frozen BK606.out 0; have hfz65_1 := blk_frozen BK606.out 1) | (go_at_call 51; (with_reducible refine (spec_DecOk.calls kj8 t603 t604 true _ A55.out).mono ?_); rintro e w66 ⟨rfl, hb⟩; have n0_ := Aside0.mk (blk_below (g := gb605) (o := .cells #[.int .i64 t601, .int .i64 t602] 24 (0, 0)) (by (with_reducible repeat (first | refine blk_drewN ?_ _ | refine blk_drew ?_ | refine blk_alloc ?_ _)); exact BK605.out) hb); have n1_ := Aside0.mk (blk_below (g := gb606) (o := .cells #[.int .i64 t603, .int .i64 t604] 24 (0, 0)) (by (with_reducible repeat (first | refine blk_drewN ?_ _ | refine blk_drew ?_ | refine blk_alloc ?_ _)); exact BK606.out) hb); have n2_ := Aside0.mk (blk_below (g := gb611) (o := .cells #[.int .i64 t607, .int .i64 t608] 24 (0, 0)) (by (with_reducible repeat (first | refine blk_drewN ?_ _ | refine blk_drew ?_ | refine blk_alloc ?_ _)); exact BK611.out) hb); have n3_ := Aside0.mk (blk_below (g := gb612) (o := .cells #[.int .i64 t609, .int .i64 t610] 24 (0, 0)) (by (with_reducible repeat (first | refine blk_drewN ?_ _ | refine blk_drew ?_ | refine blk_alloc ?_ _)); exact BK612.out) hb); have n4_ := Aside0.mk (below_step (by repeat (first | (with_reducible first | exact HB.out | apply below_alloc | apply pw_below_drewN | apply below_drew1 | refine below_set ?_ GE605.out | refine below_set ?_ GE606.out | refine below_set ?_ GE611.out | refine below_set ?_ GE612.out) | exact HB.out)) hb); clear BK605; clear BK606; clear BK611; clear BK612; clear HB; have BK605 := n0_; have BK606 := n1_; have BK611 := n2_; have BK612 := n3_; have HB := n4_; clear n0_ n1_ n2_ n3_ n4_; (try clear hb); (try clear hb2); (try clear hk); (try clear hi); have hnb67 := NB611_612.out; have hnc67 := NB612_611.out; have hcz68_0 : w66.cell? ⟨gb611, 0, none⟩ = some (.int .i64 t607) := (blk_cell BK611.out 0).trans rfl; have hcz68_1 : w66.cell? ⟨gb611, 1, none⟩ = some (.int .i64 t608) := (blk_cell BK611.out 1).trans rfl; have hfz68_0 := blk_frozen BK611.out 0; have hfz68_1 := blk_frozen BK611.out 1) | (go_at_call 51; (with_reducible refine (spec_DecOk.calls kj8 t607 t608 t618 _ A57.out).mono ?_); rintro e w69 ⟨rfl, hb⟩; have n0_ := Aside0.mk (blk_below (g := gb605) (o := .cells #[.int .i64 t601, .int .i64 t602] 24 (0, 0)) (by (with_reducible repeat (first | refine blk_drewN ?_ _ | refine blk_drew ?_ | refine blk_alloc ?_ _)); exact BK605.out) hb); have n1_ := Aside0.mk (blk_below (g := gb606) (o := .cells #[.int .i64 t603, .int .i64 t604] 24 (0, 0)) (by (with_reducible repeat (first | refine blk_drewN ?_ _ | refine blk_drew ?_ | refine blk_alloc ?_ _)); exact BK606.out) hb); have n2_ := Aside0.mk (blk_below (g := gb611) (o := .cells #[.int .i64 t607, .int .i64 t608] 24 (0, 0)) (by (with_reducible repeat (first | refine blk_drewN ?_ _ | refine blk_drew ?_ | refine blk_alloc ?_ _)); exact BK611.out) hb); have n3_ := Aside0.mk (blk_below (g := gb612) (o := .cells #[.int .i64 t609, .int .i64 t610] 24 (0, 0)) (by (with_reducible repeat (first | refine blk_drewN ?_ _ | refine blk_drew ?_ | refine blk_alloc ?_ _)); exact BK612.out) hb); have n4_ := Aside0.mk (below_step (by repeat (first | (with_reducible first | exact HB.out | apply below_alloc | apply pw_below_drewN | apply below_drew1 | refine below_set ?_ GE605.out | refine below_set ?_ GE606.out | refine below_set ?_ GE611.out | refine below_set ?_ GE612.out) | exact HB.out)) hb); clear BK605; clear BK606; clear BK611; clear BK612; clear HB; have BK605 := n0_; have BK606 := n1_; have BK611 := n2_; have BK612 := n3_; have HB := n4_; clear n0_ n1_ n2_ n3_ n4_; (try clear hb); (try clear hb2); (try clear hk); (try clear hi)))
                    go_meet
                    case rel => exact ⟨_, (!t618), (by first | rfl | (simp; done) | (simp [*]; done)), H', ⟨by have := HJ2.out; have := HJ8.out; first | omega | exact Nat.le_refl _⟩, ⟨by (with_reducible repeat (first | refine blk_drewN ?_ _ | refine blk_drew ?_ | refine blk_alloc ?_ _)); exact BK605.out⟩, ⟨by (with_reducible repeat (first | refine blk_drewN ?_ _ | refine blk_drew ?_ | refine blk_alloc ?_ _)); exact BK606.out⟩, ⟨by (with_reducible repeat (first | refine blk_drewN ?_ _ | refine blk_drew ?_ | refine blk_alloc ?_ _)); exact BK611.out⟩, ⟨by (with_reducible repeat (first | refine blk_drewN ?_ _ | refine blk_drew ?_ | refine blk_alloc ?_ _)); exact BK612.out⟩, ⟨by repeat (first | (with_reducible first | exact HB.out | apply below_alloc | apply pw_below_drewN | apply below_drew1 | refine below_set ?_ GE605.out | refine below_set ?_ GE606.out | refine below_set ?_ GE611.out | refine below_set ?_ GE612.out) | exact HB.out)⟩⟩
                  · replace c56 := Bool.eq_false_iff.mpr c56
                    subst c56
                    have H1 : (laws_FnDecCmp.j2 kj8 t613 true t601 t602 t603 t604 t607 t608) = some r := by rw [if_neg (show ¬ (false = true) by decide)] at H; exact H
                    clear H
                    have H := H1
                    clear H1
                    have H' := Aside0.mk H
                    clear H
                    have hnb70 := NB605_606.out
                    have hnc70 := NB606_605.out
                    have hnb71 := NB605_611.out
                    have hnc71 := NB611_605.out
                    have hnb72 := NB605_612.out
                    have hnc72 := NB612_605.out
                    have hcz73_0 : wc.cell? ⟨gb605, 0, none⟩ = some (.int .i64 t601) := (blk_cell BK605.out 0).trans rfl
                    have hcz73_1 : wc.cell? ⟨gb605, 1, none⟩ = some (.int .i64 t602) := (blk_cell BK605.out 1).trans rfl
                    have hfz73_0 := blk_frozen BK605.out 0
                    have hfz73_1 := blk_frozen BK605.out 1
                    go_wp2_with (first | ((with_reducible refine gate_callee (f := 51) rfl ?_); refine goesL_ (some 45) rfl rfl Try.func51 (by kernel_rfl) rfl #[.agg #[.int .i64 t601, .int .i64 t602]] rfl (by (try simp only [List.map_toArray, List.map_cons, List.map_nil]); first | done | rfl | (simp only [List.length_drop, List.length_take]; rfl)) ?_; (with_reducible refine (spec_DecOk.calls kj8 t601 t602 true _ A53.out).mono ?_); rintro e w74 ⟨rfl, hb⟩; refine ⟨_, rfl, ?_⟩; have n0_ := Aside0.mk (blk_below (g := gb605) (o := .cells #[.int .i64 t601, .int .i64 t602] 24 (0, 0)) (by (with_reducible repeat (first | refine blk_drewN ?_ _ | refine blk_drew ?_ | refine blk_alloc ?_ _)); exact BK605.out) hb); have n1_ := Aside0.mk (blk_below (g := gb606) (o := .cells #[.int .i64 t603, .int .i64 t604] 24 (0, 0)) (by (with_reducible repeat (first | refine blk_drewN ?_ _ | refine blk_drew ?_ | refine blk_alloc ?_ _)); exact BK606.out) hb); have n2_ := Aside0.mk (blk_below (g := gb611) (o := .cells #[.int .i64 t607, .int .i64 t608] 24 (0, 0)) (by (with_reducible repeat (first | refine blk_drewN ?_ _ | refine blk_drew ?_ | refine blk_alloc ?_ _)); exact BK611.out) hb); have n3_ := Aside0.mk (blk_below (g := gb612) (o := .cells #[.int .i64 t609, .int .i64 t610] 24 (0, 0)) (by (with_reducible repeat (first | refine blk_drewN ?_ _ | refine blk_drew ?_ | refine blk_alloc ?_ _)); exact BK612.out) hb); have n4_ := Aside0.mk (below_step (by repeat (first | (with_reducible first | exact HB.out | apply below_alloc | apply pw_below_drewN | apply below_drew1 | refine below_set ?_ GE605.out | refine below_set ?_ GE606.out | refine below_set ?_ GE611.out | refine below_set ?_ GE612.out) | exact HB.out)) hb); clear BK605; clear BK606; clear BK611; clear BK612; clear HB; have BK605 := n0_; have BK606 := n1_; have BK611 := n2_; have BK612 := n3_; have HB := n4_; clear n0_ n1_ n2_ n3_ n4_; (try clear hb); (try clear hb2); (try clear hk); (try clear hi); have hnb75 := NB606_611.out; have hnc75 := NB611_606.out; have hnb76 := NB606_612.out; have hnc76 := NB612_606.out; have hcz77_0 : w74.cell? ⟨gb606, 0, none⟩ = some (.int .i64 t603) := (blk_cell BK606.out 0).trans rfl; have hcz77_1 : w74.cell? ⟨gb606, 1, none⟩ = some (.int .i64 t604) := (blk_cell BK606.out 1).trans rfl; have hfz77_0 := blk_frozen BK606.out 0; have hfz77_1 := blk_frozen BK606.out 1) | (go_at_call 51; (with_reducible refine (spec_DecOk.calls kj8 t603 t604 false _ A55.out).mono ?_); rintro e w78 ⟨rfl, hb⟩; have n0_ := Aside0.mk (blk_below (g := gb605) (o := .cells #[.int .i64 t601, .int .i64 t602] 24 (0, 0)) (by (with_reducible repeat (first | refine blk_drewN ?_ _ | refine blk_drew ?_ | refine blk_alloc ?_ _)); exact BK605.out) hb); have n1_ := Aside0.mk (blk_below (g := gb606) (o := .cells #[.int .i64 t603, .int .i64 t604] 24 (0, 0)) (by (with_reducible repeat (first | refine blk_drewN ?_ _ | refine blk_drew ?_ | refine blk_alloc ?_ _)); exact BK606.out) hb); have n2_ := Aside0.mk (blk_below (g := gb611) (o := .cells #[.int .i64 t607, .int .i64 t608] 24 (0, 0)) (by (with_reducible repeat (first | refine blk_drewN ?_ _ | refine blk_drew ?_ | refine blk_alloc ?_ _)); exact BK611.out) hb); have n3_ := Aside0.mk (blk_below (g := gb612) (o := .cells #[.int .i64 t609, .int .i64 t610] 24 (0, 0)) (by (with_reducible repeat (first | refine blk_drewN ?_ _ | refine blk_drew ?_ | refine blk_alloc ?_ _)); exact BK612.out) hb); have n4_ := Aside0.mk (below_step (by repeat (first | (with_reducible first | exact HB.out | apply below_alloc | apply pw_below_drewN | apply below_drew1 | refine below_set ?_ GE605.out | refine below_set ?_ GE606.out | refine below_set ?_ GE611.out | refine below_set ?_ GE612.out) | exact HB.out)) hb); clear BK605; clear BK606; clear BK611; clear BK612; clear HB; have BK605 := n0_; have BK606 := n1_; have BK611 := n2_; have BK612 := n3_; have HB := n4_; clear n0_ n1_ n2_ n3_ n4_; (try clear hb); (try clear hb2); (try clear hk); (try clear hi)))
                    go_meet
                    case rel => exact ⟨_, (true), (by first | rfl | (simp; done) | (simp [*]; done)), H', ⟨by have := HJ2.out; have := HJ8.out; first | omega | exact Nat.le_refl _⟩, ⟨by (with_reducible repeat (first | refine blk_drewN ?_ _ | refine blk_drew ?_ | refine blk_alloc ?_ _)); exact BK605.out⟩, ⟨by (with_reducible repeat (first | refine blk_drewN ?_ _ | refine blk_drew ?_ | refine blk_alloc ?_ _)); exact BK606.out⟩, ⟨by (with_reducible repeat (first | refine blk_drewN ?_ _ | refine blk_drew ?_ | refine blk_alloc ?_ _)); exact BK611.out⟩, ⟨by (with_reducible repeat (first | refine blk_drewN ?_ _ | refine blk_drew ?_ | refine blk_alloc ?_ _)); exact BK612.out⟩, ⟨by repeat (first | (with_reducible first | exact HB.out | apply below_alloc | apply pw_below_drewN | apply below_drew1 | refine below_set ?_ GE605.out | refine below_set ?_ GE606.out | refine below_set ?_ GE611.out | refine below_set ?_ GE612.out) | exact HB.out)⟩⟩
                · replace c54 := Bool.eq_false_iff.mpr c54
                  subst c54
                  have H1 : (laws_FnDecCmp.j2 kj8 t613 true t601 t602 t603 t604 t607 t608) = some r := by rw [if_neg (show ¬ (false = true) by decide)] at H; exact H
                  clear H
                  have H := H1
                  clear H1
                  have H' := Aside0.mk H
                  clear H
                  have hnb79 := NB605_606.out
                  have hnc79 := NB606_605.out
                  have hnb80 := NB605_611.out
                  have hnc80 := NB611_605.out
                  have hnb81 := NB605_612.out
                  have hnc81 := NB612_605.out
                  have hcz82_0 : wc.cell? ⟨gb605, 0, none⟩ = some (.int .i64 t601) := (blk_cell BK605.out 0).trans rfl
                  have hcz82_1 : wc.cell? ⟨gb605, 1, none⟩ = some (.int .i64 t602) := (blk_cell BK605.out 1).trans rfl
                  have hfz82_0 := blk_frozen BK605.out 0
                  have hfz82_1 := blk_frozen BK605.out 1
                  go_wp2_with (first | ((with_reducible refine gate_callee (f := 51) rfl ?_); refine goesL_ (some 45) rfl rfl Try.func51 (by kernel_rfl) rfl #[.agg #[.int .i64 t601, .int .i64 t602]] rfl (by (try simp only [List.map_toArray, List.map_cons, List.map_nil]); first | done | rfl | (simp only [List.length_drop, List.length_take]; rfl)) ?_; (with_reducible refine (spec_DecOk.calls kj8 t601 t602 false _ A53.out).mono ?_); rintro e w83 ⟨rfl, hb⟩; refine ⟨_, rfl, ?_⟩; have n0_ := Aside0.mk (blk_below (g := gb605) (o := .cells #[.int .i64 t601, .int .i64 t602] 24 (0, 0)) (by (with_reducible repeat (first | refine blk_drewN ?_ _ | refine blk_drew ?_ | refine blk_alloc ?_ _)); exact BK605.out) hb); have n1_ := Aside0.mk (blk_below (g := gb606) (o := .cells #[.int .i64 t603, .int .i64 t604] 24 (0, 0)) (by (with_reducible repeat (first | refine blk_drewN ?_ _ | refine blk_drew ?_ | refine blk_alloc ?_ _)); exact BK606.out) hb); have n2_ := Aside0.mk (blk_below (g := gb611) (o := .cells #[.int .i64 t607, .int .i64 t608] 24 (0, 0)) (by (with_reducible repeat (first | refine blk_drewN ?_ _ | refine blk_drew ?_ | refine blk_alloc ?_ _)); exact BK611.out) hb); have n3_ := Aside0.mk (blk_below (g := gb612) (o := .cells #[.int .i64 t609, .int .i64 t610] 24 (0, 0)) (by (with_reducible repeat (first | refine blk_drewN ?_ _ | refine blk_drew ?_ | refine blk_alloc ?_ _)); exact BK612.out) hb); have n4_ := Aside0.mk (below_step (by repeat (first | (with_reducible first | exact HB.out | apply below_alloc | apply pw_below_drewN | apply below_drew1 | refine below_set ?_ GE605.out | refine below_set ?_ GE606.out | refine below_set ?_ GE611.out | refine below_set ?_ GE612.out) | exact HB.out)) hb); clear BK605; clear BK606; clear BK611; clear BK612; clear HB; have BK605 := n0_; have BK606 := n1_; have BK611 := n2_; have BK612 := n3_; have HB := n4_; clear n0_ n1_ n2_ n3_ n4_; (try clear hb); (try clear hb2); (try clear hk); (try clear hi)))
                  go_meet
                  case rel => exact ⟨_, (true), (by first | rfl | (simp; done) | (simp [*]; done)), H', ⟨by have := HJ2.out; have := HJ8.out; first | omega | exact Nat.le_refl _⟩, ⟨by (with_reducible repeat (first | refine blk_drewN ?_ _ | refine blk_drew ?_ | refine blk_alloc ?_ _)); exact BK605.out⟩, ⟨by (with_reducible repeat (first | refine blk_drewN ?_ _ | refine blk_drew ?_ | refine blk_alloc ?_ _)); exact BK606.out⟩, ⟨by (with_reducible repeat (first | refine blk_drewN ?_ _ | refine blk_drew ?_ | refine blk_alloc ?_ _)); exact BK611.out⟩, ⟨by (with_reducible repeat (first | refine blk_drewN ?_ _ | refine blk_drew ?_ | refine blk_alloc ?_ _)); exact BK612.out⟩, ⟨by repeat (first | (with_reducible first | exact HB.out | apply below_alloc | apply pw_below_drewN | apply below_drew1 | refine below_set ?_ GE605.out | refine below_set ?_ GE606.out | refine below_set ?_ GE611.out | refine below_set ?_ GE612.out) | exact HB.out)⟩⟩
              case rest =>
                clear HC52
                try clear c1
                try clear c2
                try clear p2
                try clear c3
                try clear c4
                try clear c4b0
                try clear c4b1
                try clear c5
                try clear c6
                try clear p6
                try clear c7
                try clear c8
                try clear c12
                try clear c13
                try clear c19
                try clear c20
                try clear c21
                try clear c23
                try clear c24
                try clear c25
                try clear c26
                try clear c30
                try clear c30b0
                try clear c30b1
                try clear c32
                try clear c33
                try clear c34
                try clear c36
                try clear c37
                try clear c43
                try clear c44
                try clear c45
                try clear c47
                try clear c48
                try clear c51
                try clear c53
                try clear c54
                try clear c56
                try clear c58
                try clear c59
                try clear c60
                try clear c63
                try clear c64
                try clear p64
                try clear c67
                try clear c70
                try clear c71
                try clear c72
                try clear c75
                try clear c76
                try clear c79
                try clear c80
                try clear c81
                try clear hcz14_0
                try clear hcz14_1
                try clear hcz15_0
                try clear hcz15_1
                try clear hcz22_0
                try clear hcz22_1
                try clear hcz25_0
                try clear hcz25_1
                try clear hcz26_0
                try clear hcz26_1
                try clear hcz27_0
                try clear hcz27_1
                try clear hcz35_0
                try clear hcz35_1
                try clear hcz38_0
                try clear hcz38_1
                try clear hcz40_0
                try clear hcz40_1
                try clear hcz41_0
                try clear hcz41_1
                try clear hcz46_0
                try clear hcz46_1
                try clear hcz49_0
                try clear hcz49_1
                try clear hcz61_0
                try clear hcz61_1
                try clear hcz65_0
                try clear hcz65_1
                try clear hcz68_0
                try clear hcz68_1
                try clear hcz73_0
                try clear hcz73_1
                try clear hcz77_0
                try clear hcz77_1
                try clear hcz82_0
                try clear hcz82_1
                try clear hfz14_0
                try clear hfz14_1
                try clear hfz15_0
                try clear hfz15_1
                try clear hfz22_0
                try clear hfz22_1
                try clear hfz25_0
                try clear hfz25_1
                try clear hfz26_0
                try clear hfz26_1
                try clear hfz27_0
                try clear hfz27_1
                try clear hfz35_0
                try clear hfz35_1
                try clear hfz38_0
                try clear hfz38_1
                try clear hfz40_0
                try clear hfz40_1
                try clear hfz41_0
                try clear hfz41_1
                try clear hfz46_0
                try clear hfz46_1
                try clear hfz49_0
                try clear hfz49_1
                try clear hfz61_0
                try clear hfz61_1
                try clear hfz65_0
                try clear hfz65_1
                try clear hfz68_0
                try clear hfz68_1
                try clear hfz73_0
                try clear hfz73_1
                try clear hfz77_0
                try clear hfz77_1
                try clear hfz82_0
                try clear hfz82_1
                try clear p2
                try clear p6
                obtain ⟨kq, x56_51, rfl, HA, HJ51, BK605, BK606, BK611, BK612, HB⟩ := hcut
                cases kq with
                | zero => exact absurd HA.out (by simp [laws_FnDecCmp.j2])
                | succ kj51 =>
                  have H := HA.out
                  clear HA
                  simp only [laws_FnDecCmp.j2] at H
                  by_cases c84 : x56_51 = true
                  · subst c84
                    have H1 : ((impl_DecOk.f kj51 t601 t602).bind fun t619 => ((spec_DecOk.f kj51 t601 t602).bind fun t620 => (if (t619 == t620) = true then ((laws_cuOk.f).bind fun t621 => (some t621)) else (some false)))) = some r := by rw [if_pos rfl] at H; exact H
                    clear H
                    have H := H1
                    clear H1
                    replace H := Option.bind_eq_some_iff.mp H
                    obtain ⟨t619, A850, H⟩ := H
                    replace H : ((spec_DecOk.f kj51 t601 t602).bind fun t620 => (if (t619 == t620) = true then ((laws_cuOk.f).bind fun t621 => (some t621)) else (some false))) = some r := H
                    have A85 := Aside0.mk A850
                    clear A850
                    replace H := Option.bind_eq_some_iff.mp H
                    obtain ⟨t620, A860, H⟩ := H
                    replace H : (if (t619 == t620) = true then ((laws_cuOk.f).bind fun t621 => (some t621)) else (some false)) = some r := H
                    have A86 := Aside0.mk A860
                    clear A860
                    by_cases c87 : (t619 == t620) = true
                    · rw [if_pos c87] at H
                      have c87b0 : (t619 == t620) = true := c87
                      (try (have c87b1 : decide (t619 = t620) = true := by simpa using c87))
                      (try (have c87b2 : (t619 == t620) = true := by simpa using c87))
                      clear c87
                      replace H := Option.bind_eq_some_iff.mp H
                      obtain ⟨t621, A880, H⟩ := H
                      replace H : (some t621) = some r := H
                      have A88 := Aside0.mk A880
                      clear A880
                      obtain rfl := Option.some.inj H
                      try go_wp2
                      have n0_ := Aside0.mk (blk_drew BK605.out)
                      have n1_ := Aside0.mk (blk_drew BK606.out)
                      have n2_ := Aside0.mk (blk_drew BK611.out)
                      have n3_ := Aside0.mk (blk_drew BK612.out)
                      have n4_ := Aside0.mk (below_drew1 HB.out)
                      clear BK605
                      clear BK606
                      clear BK611
                      clear BK612
                      clear HB
                      have BK605 := n0_
                      have BK606 := n1_
                      have BK611 := n2_
                      have BK612 := n3_
                      have HB := n4_
                      clear n0_ n1_ n2_ n3_ n4_
                      refine start_ (n := 9) (S := fun w' => w'.cell? ⟨gb605, 0, none⟩ = some (.int .i64 t601) ∧ w'.cell? ⟨gb605, 1, none⟩ = some (.int .i64 t602)) (ds := []) #[false, false, false, false, false, false, false, false, false] (by kernel_rfl) rfl rfl ⟨(blk_cell BK605.out 0).trans rfl, (blk_cell BK605.out 1).trans rfl⟩ (fun hHeld => ?_); refine with_tabW laws_FnDecCmp.tab9 laws_FnDecCmp.bits9 (fun HT_ HW_ => ?_)
                      generalize wc.drew = w89 at BK605 BK606 BK611 BK612 HB hHeld ⊢
                      refine take_ (i := 0) (N := some 57) (v := ?_) (a' := ?_) #[true, false, false, false, false, false, false, false, false] rfl rfl (take_ofW HT_.out HW_.out (by kernel_rfl)) (fun _ _ _ h => h) (Or.inl ⟨by rfl, ?_⟩) hHeld ?_ ?_
                      rotate_left
                      · rintro w' ⟨s0, s1⟩
                        go_simp
                        with_reducible rfl
                      rotate_left
                      · simp only [Act.put, List.setIfInBounds_toArray, List.set_cons_zero, List.set_cons_succ, i64_w, i32_w]
                        rfl
                      refine take_ (i := 2) (N := some 59) (v := ?_) (a' := ?_) #[true, false, true, false, false, false, false, false, false] rfl rfl (take_ofW HT_.out HW_.out (by kernel_rfl)) (fun _ _ _ h => h) (Or.inl ⟨by rfl, ?_⟩) hHeld ?_ ?_
                      rotate_left
                      · rintro w' ⟨s0, s1⟩
                        go_simp
                        with_reducible rfl
                      rotate_left
                      · simp only [Act.put, List.setIfInBounds_toArray, List.set_cons_zero, List.set_cons_succ, i64_w, i32_w]
                        rfl
                      refine one_ (i := 1) (N := some 58) #[true, true, true, false, false, false, false, false, false] rfl rfl (one_of HT_.out (by kernel_rfl)) (by decide) (fun K hK => ?_)
                      refine goes_ Try.func52 (by kernel_rfl) rfl #[.agg #[.int .i64 t601, .int .i64 t602]] (by rfl) rfl rfl (by (try simp only [List.map_toArray, List.map_cons, List.map_nil]); first | done | rfl | (simp only [List.length_drop, List.length_take]; rfl)) ?_
                      with_reducible refine (impl_DecOk.calls kj51 t601 t602 t619 _ A85.out).mono ?_
                      rintro e w90 ⟨rfl, hb⟩
                      refine ⟨_, rfl, ?_⟩
                      have n0_ := Aside0.mk (blk_below (g := gb605) (o := .cells #[.int .i64 t601, .int .i64 t602] 24 (0, 0)) (by (with_reducible repeat (first | refine blk_drewN ?_ _ | refine blk_drew ?_ | refine blk_alloc ?_ _)); exact BK605.out) hb)
                      have n1_ := Aside0.mk (blk_below (g := gb606) (o := .cells #[.int .i64 t603, .int .i64 t604] 24 (0, 0)) (by (with_reducible repeat (first | refine blk_drewN ?_ _ | refine blk_drew ?_ | refine blk_alloc ?_ _)); exact BK606.out) hb)
                      have n2_ := Aside0.mk (blk_below (g := gb611) (o := .cells #[.int .i64 t607, .int .i64 t608] 24 (0, 0)) (by (with_reducible repeat (first | refine blk_drewN ?_ _ | refine blk_drew ?_ | refine blk_alloc ?_ _)); exact BK611.out) hb)
                      have n3_ := Aside0.mk (blk_below (g := gb612) (o := .cells #[.int .i64 t609, .int .i64 t610] 24 (0, 0)) (by (with_reducible repeat (first | refine blk_drewN ?_ _ | refine blk_drew ?_ | refine blk_alloc ?_ _)); exact BK612.out) hb)
                      have n4_ := Aside0.mk (below_step (by repeat (first | (with_reducible first | exact HB.out | apply below_alloc | apply pw_below_drewN | apply below_drew1 | refine below_set ?_ GE605.out | refine below_set ?_ GE606.out | refine below_set ?_ GE611.out | refine below_set ?_ GE612.out) | exact HB.out)) hb)
                      clear BK605
                      clear BK606
                      clear BK611
                      clear BK612
                      clear HB
                      have BK605 := n0_
                      have BK606 := n1_
                      have BK611 := n2_
                      have BK612 := n3_
                      have HB := n4_
                      clear n0_ n1_ n2_ n3_ n4_
                      (try clear hb)
                      (try clear hb2)
                      (try clear hk)
                      (try clear hi)
                      refine hK.out _ _ ⟨(blk_cell BK605.out 0).trans rfl, (blk_cell BK605.out 1).trans rfl⟩ (fun hHeld => ?_)
                      clear hK K
                      refine norm_ (a' := ?_) ?_ ?_
                      rotate_left
                      · show Act.put _ (some 58) _ = _
                        simp only [Act.put, List.setIfInBounds_toArray, List.set_cons_zero, List.set_cons_succ, i64_w, i32_w]
                        rfl
                      refine one_ (i := 3) (N := some 60) #[true, true, true, true, false, false, false, false, false] rfl rfl (one_of HT_.out (by kernel_rfl)) (by decide) (fun K hK => ?_)
                      refine goes_ Try.func51 (by kernel_rfl) rfl #[.agg #[.int .i64 t601, .int .i64 t602]] (by rfl) rfl rfl (by (try simp only [List.map_toArray, List.map_cons, List.map_nil]); first | done | rfl | (simp only [List.length_drop, List.length_take]; rfl)) ?_
                      with_reducible refine (spec_DecOk.calls kj51 t601 t602 t620 _ A86.out).mono ?_
                      rintro e w91 ⟨rfl, hb⟩
                      refine ⟨_, rfl, ?_⟩
                      have n0_ := Aside0.mk (blk_below (g := gb605) (o := .cells #[.int .i64 t601, .int .i64 t602] 24 (0, 0)) (by (with_reducible repeat (first | refine blk_drewN ?_ _ | refine blk_drew ?_ | refine blk_alloc ?_ _)); exact BK605.out) hb)
                      have n1_ := Aside0.mk (blk_below (g := gb606) (o := .cells #[.int .i64 t603, .int .i64 t604] 24 (0, 0)) (by (with_reducible repeat (first | refine blk_drewN ?_ _ | refine blk_drew ?_ | refine blk_alloc ?_ _)); exact BK606.out) hb)
                      have n2_ := Aside0.mk (blk_below (g := gb611) (o := .cells #[.int .i64 t607, .int .i64 t608] 24 (0, 0)) (by (with_reducible repeat (first | refine blk_drewN ?_ _ | refine blk_drew ?_ | refine blk_alloc ?_ _)); exact BK611.out) hb)
                      have n3_ := Aside0.mk (blk_below (g := gb612) (o := .cells #[.int .i64 t609, .int .i64 t610] 24 (0, 0)) (by (with_reducible repeat (first | refine blk_drewN ?_ _ | refine blk_drew ?_ | refine blk_alloc ?_ _)); exact BK612.out) hb)
                      have n4_ := Aside0.mk (below_step (by repeat (first | (with_reducible first | exact HB.out | apply below_alloc | apply pw_below_drewN | apply below_drew1 | refine below_set ?_ GE605.out | refine below_set ?_ GE606.out | refine below_set ?_ GE611.out | refine below_set ?_ GE612.out) | exact HB.out)) hb)
                      clear BK605
                      clear BK606
                      clear BK611
                      clear BK612
                      clear HB
                      have BK605 := n0_
                      have BK606 := n1_
                      have BK611 := n2_
                      have BK612 := n3_
                      have HB := n4_
                      clear n0_ n1_ n2_ n3_ n4_
                      (try clear hb)
                      (try clear hb2)
                      (try clear hk)
                      (try clear hi)
                      refine hK.out _ _ ⟨(blk_cell BK605.out 0).trans rfl, (blk_cell BK605.out 1).trans rfl⟩ (fun hHeld => ?_)
                      clear hK K
                      refine norm_ (a' := ?_) ?_ ?_
                      rotate_left
                      · show Act.put _ (some 60) _ = _
                        simp only [Act.put, List.setIfInBounds_toArray, List.set_cons_zero, List.set_cons_succ, i64_w, i32_w]
                        rfl
                      refine pure_ (i := 4) (N := some 61) (v := ?_) (a' := ?_) #[true, true, true, true, true, false, false, false, false] rfl rfl (any_of HT_.out (by kernel_rfl)) (fun _ _ _ h => h) (Or.inl ⟨by rfl, ?_⟩) ?_ ?_
                      rotate_left
                      · intro w'
                        go_simp
                        with_reducible rfl
                      rotate_left
                      · simp only [Act.put, List.setIfInBounds_toArray, List.set_cons_zero, List.set_cons_succ, i64_w, i32_w]
                        rfl
                      refine pure_ (i := 5) (N := some 62) (v := ?_) (a' := ?_) #[true, true, true, true, true, true, false, false, false] rfl rfl (any_of HT_.out (by kernel_rfl)) (fun _ _ _ h => h) (Or.inl ⟨by rfl, ?_⟩) ?_ ?_
                      rotate_left
                      · intro w'
                        go_simp
                        with_reducible rfl
                      rotate_left
                      · simp only [Act.put, List.setIfInBounds_toArray, List.set_cons_zero, List.set_cons_succ, i64_w, i32_w]
                        rfl
                      refine one_ (i := 6) (N := some 63) #[true, true, true, true, true, true, true, false, false] rfl rfl (one_of HT_.out (by kernel_rfl)) (by decide) (fun K hK => ?_)
                      refine goes_ Try.func34 (by kernel_rfl) rfl #[] (by rfl) rfl rfl (by (try simp only [List.map_toArray, List.map_cons, List.map_nil]); first | done | rfl | (simp only [List.length_drop, List.length_take]; rfl)) ?_
                      with_reducible refine (laws_cuOk.calls  t621 _ A88.out).mono ?_
                      rintro e w92 ⟨rfl, hb⟩
                      refine ⟨_, rfl, ?_⟩
                      have n0_ := Aside0.mk (blk_below (g := gb605) (o := .cells #[.int .i64 t601, .int .i64 t602] 24 (0, 0)) (by (with_reducible repeat (first | refine blk_drewN ?_ _ | refine blk_drew ?_ | refine blk_alloc ?_ _)); exact BK605.out) hb)
                      have n1_ := Aside0.mk (blk_below (g := gb606) (o := .cells #[.int .i64 t603, .int .i64 t604] 24 (0, 0)) (by (with_reducible repeat (first | refine blk_drewN ?_ _ | refine blk_drew ?_ | refine blk_alloc ?_ _)); exact BK606.out) hb)
                      have n2_ := Aside0.mk (blk_below (g := gb611) (o := .cells #[.int .i64 t607, .int .i64 t608] 24 (0, 0)) (by (with_reducible repeat (first | refine blk_drewN ?_ _ | refine blk_drew ?_ | refine blk_alloc ?_ _)); exact BK611.out) hb)
                      have n3_ := Aside0.mk (blk_below (g := gb612) (o := .cells #[.int .i64 t609, .int .i64 t610] 24 (0, 0)) (by (with_reducible repeat (first | refine blk_drewN ?_ _ | refine blk_drew ?_ | refine blk_alloc ?_ _)); exact BK612.out) hb)
                      have n4_ := Aside0.mk (below_step (by repeat (first | (with_reducible first | exact HB.out | apply below_alloc | apply pw_below_drewN | apply below_drew1 | refine below_set ?_ GE605.out | refine below_set ?_ GE606.out | refine below_set ?_ GE611.out | refine below_set ?_ GE612.out) | exact HB.out)) hb)
                      clear BK605
                      clear BK606
                      clear BK611
                      clear BK612
                      clear HB
                      have BK605 := n0_
                      have BK606 := n1_
                      have BK611 := n2_
                      have BK612 := n3_
                      have HB := n4_
                      clear n0_ n1_ n2_ n3_ n4_
                      (try clear hb)
                      (try clear hb2)
                      (try clear hk)
                      (try clear hi)
                      refine hK.out _ _ ⟨(blk_cell BK605.out 0).trans rfl, (blk_cell BK605.out 1).trans rfl⟩ (fun hHeld => ?_)
                      clear hK K
                      refine norm_ (a' := ?_) ?_ ?_
                      rotate_left
                      · show Act.put _ (some 63) _ = _
                        simp only [Act.put, List.setIfInBounds_toArray, List.set_cons_zero, List.set_cons_succ, i64_w, i32_w]
                        rfl
                      refine pure_ (i := 7) (N := some 64) (v := ?_) (a' := ?_) #[true, true, true, true, true, true, true, true, false] rfl rfl (any_of HT_.out (by kernel_rfl)) (fun _ _ _ h => h) (Or.inl ⟨by rfl, ?_⟩) ?_ ?_
                      rotate_left
                      · intro w'
                        go_simp
                        with_reducible rfl
                      rotate_left
                      · simp only [Act.put, List.setIfInBounds_toArray, List.set_cons_zero, List.set_cons_succ, i64_w, i32_w]
                        rfl
                      refine pure_ (i := 8) (N := some 4) (v := ?_) (a' := ?_) #[true, true, true, true, true, true, true, true, true] rfl rfl (any_of HT_.out (by kernel_rfl)) (fun _ _ _ h => h) (Or.inl ⟨by rfl, ?_⟩) ?_ ?_
                      rotate_left
                      · intro w'
                        go_simp
                        with_reducible rfl
                      rotate_left
                      · simp only [Act.put, List.setIfInBounds_toArray, List.set_cons_zero, List.set_cons_succ, i64_w, i32_w]
                        rfl
                      refine done_ (done_of HT_.out (by kernel_rfl)) ?_
                      try go_wp2
                      go_ret
                      exact ⟨by first | rfl | (simp [errW_none, errW_some] <;> rfl) | (simp [*, errW_none, errW_some] <;> rfl), by repeat (first | (with_reducible first | exact HB.out | apply below_alloc | apply pw_below_drewN | apply below_drew1 | refine below_set ?_ GE605.out | refine below_set ?_ GE606.out | refine below_set ?_ GE611.out | refine below_set ?_ GE612.out) | exact HB.out)⟩
                    · rw [if_neg c87] at H
                      have c87b0 : (t619 == t620) = false := by simpa using c87
                      (try (have c87b1 : decide (t619 = t620) = false := by simpa using c87))
                      (try (have c87b2 : (t619 == t620) = false := by simpa using c87))
                      (try (have c87b3 : ¬ (t619 = t620) := by simpa using c87))
                      clear c87
                      obtain rfl := Option.some.inj H
                      try go_wp2
                      have n0_ := Aside0.mk (blk_drew BK605.out)
                      have n1_ := Aside0.mk (blk_drew BK606.out)
                      have n2_ := Aside0.mk (blk_drew BK611.out)
                      have n3_ := Aside0.mk (blk_drew BK612.out)
                      have n4_ := Aside0.mk (below_drew1 HB.out)
                      clear BK605
                      clear BK606
                      clear BK611
                      clear BK612
                      clear HB
                      have BK605 := n0_
                      have BK606 := n1_
                      have BK611 := n2_
                      have BK612 := n3_
                      have HB := n4_
                      clear n0_ n1_ n2_ n3_ n4_
                      refine start_ (n := 9) (S := fun w' => w'.cell? ⟨gb605, 0, none⟩ = some (.int .i64 t601) ∧ w'.cell? ⟨gb605, 1, none⟩ = some (.int .i64 t602)) (ds := []) #[false, false, false, false, false, false, false, false, false] (by kernel_rfl) rfl rfl ⟨(blk_cell BK605.out 0).trans rfl, (blk_cell BK605.out 1).trans rfl⟩ (fun hHeld => ?_); refine with_tabW laws_FnDecCmp.tab9 laws_FnDecCmp.bits9 (fun HT_ HW_ => ?_)
                      generalize wc.drew = w93 at BK605 BK606 BK611 BK612 HB hHeld ⊢
                      refine take_ (i := 0) (N := some 57) (v := ?_) (a' := ?_) #[true, false, false, false, false, false, false, false, false] rfl rfl (take_ofW HT_.out HW_.out (by kernel_rfl)) (fun _ _ _ h => h) (Or.inl ⟨by rfl, ?_⟩) hHeld ?_ ?_
                      rotate_left
                      · rintro w' ⟨s0, s1⟩
                        go_simp
                        with_reducible rfl
                      rotate_left
                      · simp only [Act.put, List.setIfInBounds_toArray, List.set_cons_zero, List.set_cons_succ, i64_w, i32_w]
                        rfl
                      refine take_ (i := 2) (N := some 59) (v := ?_) (a' := ?_) #[true, false, true, false, false, false, false, false, false] rfl rfl (take_ofW HT_.out HW_.out (by kernel_rfl)) (fun _ _ _ h => h) (Or.inl ⟨by rfl, ?_⟩) hHeld ?_ ?_
                      rotate_left
                      · rintro w' ⟨s0, s1⟩
                        go_simp
                        with_reducible rfl
                      rotate_left
                      · simp only [Act.put, List.setIfInBounds_toArray, List.set_cons_zero, List.set_cons_succ, i64_w, i32_w]
                        rfl
                      refine one_ (i := 1) (N := some 58) #[true, true, true, false, false, false, false, false, false] rfl rfl (one_of HT_.out (by kernel_rfl)) (by decide) (fun K hK => ?_)
                      refine goes_ Try.func52 (by kernel_rfl) rfl #[.agg #[.int .i64 t601, .int .i64 t602]] (by rfl) rfl rfl (by (try simp only [List.map_toArray, List.map_cons, List.map_nil]); first | done | rfl | (simp only [List.length_drop, List.length_take]; rfl)) ?_
                      with_reducible refine (impl_DecOk.calls kj51 t601 t602 t619 _ A85.out).mono ?_
                      rintro e w94 ⟨rfl, hb⟩
                      refine ⟨_, rfl, ?_⟩
                      have n0_ := Aside0.mk (blk_below (g := gb605) (o := .cells #[.int .i64 t601, .int .i64 t602] 24 (0, 0)) (by (with_reducible repeat (first | refine blk_drewN ?_ _ | refine blk_drew ?_ | refine blk_alloc ?_ _)); exact BK605.out) hb)
                      have n1_ := Aside0.mk (blk_below (g := gb606) (o := .cells #[.int .i64 t603, .int .i64 t604] 24 (0, 0)) (by (with_reducible repeat (first | refine blk_drewN ?_ _ | refine blk_drew ?_ | refine blk_alloc ?_ _)); exact BK606.out) hb)
                      have n2_ := Aside0.mk (blk_below (g := gb611) (o := .cells #[.int .i64 t607, .int .i64 t608] 24 (0, 0)) (by (with_reducible repeat (first | refine blk_drewN ?_ _ | refine blk_drew ?_ | refine blk_alloc ?_ _)); exact BK611.out) hb)
                      have n3_ := Aside0.mk (blk_below (g := gb612) (o := .cells #[.int .i64 t609, .int .i64 t610] 24 (0, 0)) (by (with_reducible repeat (first | refine blk_drewN ?_ _ | refine blk_drew ?_ | refine blk_alloc ?_ _)); exact BK612.out) hb)
                      have n4_ := Aside0.mk (below_step (by repeat (first | (with_reducible first | exact HB.out | apply below_alloc | apply pw_below_drewN | apply below_drew1 | refine below_set ?_ GE605.out | refine below_set ?_ GE606.out | refine below_set ?_ GE611.out | refine below_set ?_ GE612.out) | exact HB.out)) hb)
                      clear BK605
                      clear BK606
                      clear BK611
                      clear BK612
                      clear HB
                      have BK605 := n0_
                      have BK606 := n1_
                      have BK611 := n2_
                      have BK612 := n3_
                      have HB := n4_
                      clear n0_ n1_ n2_ n3_ n4_
                      (try clear hb)
                      (try clear hb2)
                      (try clear hk)
                      (try clear hi)
                      refine hK.out _ _ ⟨(blk_cell BK605.out 0).trans rfl, (blk_cell BK605.out 1).trans rfl⟩ (fun hHeld => ?_)
                      clear hK K
                      refine norm_ (a' := ?_) ?_ ?_
                      rotate_left
                      · show Act.put _ (some 58) _ = _
                        simp only [Act.put, List.setIfInBounds_toArray, List.set_cons_zero, List.set_cons_succ, i64_w, i32_w]
                        rfl
                      refine one_ (i := 3) (N := some 60) #[true, true, true, true, false, false, false, false, false] rfl rfl (one_of HT_.out (by kernel_rfl)) (by decide) (fun K hK => ?_)
                      refine goes_ Try.func51 (by kernel_rfl) rfl #[.agg #[.int .i64 t601, .int .i64 t602]] (by rfl) rfl rfl (by (try simp only [List.map_toArray, List.map_cons, List.map_nil]); first | done | rfl | (simp only [List.length_drop, List.length_take]; rfl)) ?_
                      with_reducible refine (spec_DecOk.calls kj51 t601 t602 t620 _ A86.out).mono ?_
                      rintro e w95 ⟨rfl, hb⟩
                      refine ⟨_, rfl, ?_⟩
                      have n0_ := Aside0.mk (blk_below (g := gb605) (o := .cells #[.int .i64 t601, .int .i64 t602] 24 (0, 0)) (by (with_reducible repeat (first | refine blk_drewN ?_ _ | refine blk_drew ?_ | refine blk_alloc ?_ _)); exact BK605.out) hb)
                      have n1_ := Aside0.mk (blk_below (g := gb606) (o := .cells #[.int .i64 t603, .int .i64 t604] 24 (0, 0)) (by (with_reducible repeat (first | refine blk_drewN ?_ _ | refine blk_drew ?_ | refine blk_alloc ?_ _)); exact BK606.out) hb)
                      have n2_ := Aside0.mk (blk_below (g := gb611) (o := .cells #[.int .i64 t607, .int .i64 t608] 24 (0, 0)) (by (with_reducible repeat (first | refine blk_drewN ?_ _ | refine blk_drew ?_ | refine blk_alloc ?_ _)); exact BK611.out) hb)
                      have n3_ := Aside0.mk (blk_below (g := gb612) (o := .cells #[.int .i64 t609, .int .i64 t610] 24 (0, 0)) (by (with_reducible repeat (first | refine blk_drewN ?_ _ | refine blk_drew ?_ | refine blk_alloc ?_ _)); exact BK612.out) hb)
                      have n4_ := Aside0.mk (below_step (by repeat (first | (with_reducible first | exact HB.out | apply below_alloc | apply pw_below_drewN | apply below_drew1 | refine below_set ?_ GE605.out | refine below_set ?_ GE606.out | refine below_set ?_ GE611.out | refine below_set ?_ GE612.out) | exact HB.out)) hb)
                      clear BK605
                      clear BK606
                      clear BK611
                      clear BK612
                      clear HB
                      have BK605 := n0_
                      have BK606 := n1_
                      have BK611 := n2_
                      have BK612 := n3_
                      have HB := n4_
                      clear n0_ n1_ n2_ n3_ n4_
                      (try clear hb)
                      (try clear hb2)
                      (try clear hk)
                      (try clear hi)
                      refine hK.out _ _ ⟨(blk_cell BK605.out 0).trans rfl, (blk_cell BK605.out 1).trans rfl⟩ (fun hHeld => ?_)
                      clear hK K
                      refine norm_ (a' := ?_) ?_ ?_
                      rotate_left
                      · show Act.put _ (some 60) _ = _
                        simp only [Act.put, List.setIfInBounds_toArray, List.set_cons_zero, List.set_cons_succ, i64_w, i32_w]
                        rfl
                      refine pure_ (i := 4) (N := some 61) (v := ?_) (a' := ?_) #[true, true, true, true, true, false, false, false, false] rfl rfl (any_of HT_.out (by kernel_rfl)) (fun _ _ _ h => h) (Or.inl ⟨by rfl, ?_⟩) ?_ ?_
                      rotate_left
                      · intro w'
                        go_simp
                        with_reducible rfl
                      rotate_left
                      · simp only [Act.put, List.setIfInBounds_toArray, List.set_cons_zero, List.set_cons_succ, i64_w, i32_w]
                        rfl
                      refine pure_ (i := 5) (N := some 62) (v := ?_) (a' := ?_) #[true, true, true, true, true, true, false, false, false] rfl rfl (any_of HT_.out (by kernel_rfl)) (fun _ _ _ h => h) (Or.inl ⟨by rfl, ?_⟩) ?_ ?_
                      rotate_left
                      · intro w'
                        go_simp
                        with_reducible rfl
                      rotate_left
                      · simp only [Act.put, List.setIfInBounds_toArray, List.set_cons_zero, List.set_cons_succ, i64_w, i32_w]
                        rfl
                      refine pure_ (i := 6) (N := some 63) (v := undef) (a' := ?_) #[true, true, true, true, true, true, true, false, false] rfl rfl (any_of HT_.out (by kernel_rfl)) (fun _ _ _ h => h) (Or.inr ⟨by rfl, rfl⟩) ?_ ?_
                      rotate_left
                      · simp only [Act.put, List.setIfInBounds_toArray, List.set_cons_zero, List.set_cons_succ, i64_w, i32_w]
                        rfl
                      refine pure_ (i := 7) (N := some 64) (v := ?_) (a' := ?_) #[true, true, true, true, true, true, true, true, false] rfl rfl (any_of HT_.out (by kernel_rfl)) (fun _ _ _ h => h) (Or.inl ⟨by rfl, ?_⟩) ?_ ?_
                      rotate_left
                      · intro w'
                        go_simp
                        with_reducible rfl
                      rotate_left
                      · simp only [Act.put, List.setIfInBounds_toArray, List.set_cons_zero, List.set_cons_succ, i64_w, i32_w]
                        rfl
                      refine pure_ (i := 8) (N := some 4) (v := ?_) (a' := ?_) #[true, true, true, true, true, true, true, true, true] rfl rfl (any_of HT_.out (by kernel_rfl)) (fun _ _ _ h => h) (Or.inl ⟨by rfl, ?_⟩) ?_ ?_
                      rotate_left
                      · intro w'
                        go_simp
                        with_reducible rfl
                      rotate_left
                      · simp only [Act.put, List.setIfInBounds_toArray, List.set_cons_zero, List.set_cons_succ, i64_w, i32_w]
                        rfl
                      refine done_ (done_of HT_.out (by kernel_rfl)) ?_
                      try go_wp2
                      go_ret
                      exact ⟨by first | rfl | (simp [errW_none, errW_some] <;> rfl) | (simp [*, errW_none, errW_some] <;> rfl), by repeat (first | (with_reducible first | exact HB.out | apply below_alloc | apply pw_below_drewN | apply below_drew1 | refine below_set ?_ GE605.out | refine below_set ?_ GE606.out | refine below_set ?_ GE611.out | refine below_set ?_ GE612.out) | exact HB.out)⟩
                  · replace c84 := Bool.eq_false_iff.mpr c84
                    subst c84
                    have H1 : (if t613 > 0 then ((impl_DecCmp.f kj51 t603 t604 t607 t608).bind fun t622 => (if t622 > 0 then ((impl_DecCmp.f kj51 t601 t602 t607 t608).bind fun t623 => (laws_FnDecCmp.j3 kj51 t613 (decide (t623 ≤ 0)) t601 t602 t603 t604)) else (laws_FnDecCmp.j3 kj51 t613 false t601 t602 t603 t604))) else (laws_FnDecCmp.j3 kj51 t613 false t601 t602 t603 t604)) = some r := by rw [if_neg (show ¬ (false = true) by decide)] at H; exact H
                    clear H
                    have H := H1
                    clear H1
                    have HC96 := Aside0.mk H
                    clear H
                    go_upto_region 10 with (fail)
                    go_cut [78] (fun v78 wc => ∃ (kq : Nat) (x78_95 : Bool), v78 = .bool x78_95 ∧ Aside0 (laws_FnDecCmp.j3 kq t613 x78_95 t601 t602 t603 t604 = some r) ∧ Aside0 (kq ≤ kj51) ∧ Aside0 (wc.heap[gb605]? = some (.cells #[.int .i64 t601, .int .i64 t602] 24 (0, 0))) ∧ Aside0 (wc.heap[gb606]? = some (.cells #[.int .i64 t603, .int .i64 t604] 24 (0, 0))) ∧ Aside0 (wc.heap[gb611]? = some (.cells #[.int .i64 t607, .int .i64 t608] 24 (0, 0))) ∧ Aside0 (wc.heap[gb612]? = some (.cells #[.int .i64 t609, .int .i64 t610] 24 (0, 0))) ∧ Aside0 (Below w.heap.size w wc))
                    case first =>
                      have H := HC96.out
                      clear HC96
                      by_cases c97 : t613 > 0
                      · rw [if_pos c97] at H
                        have c97b0 : decide (0 < t613) = true := decide_eq_true c97
                        clear c97
                        (first | rw [c97b0] | (simp only [i64_w, i32_w]; rw [c97b0]) | skip)
                        replace H := Option.bind_eq_some_iff.mp H
                        obtain ⟨t622, A980, H⟩ := H
                        replace H : (if t622 > 0 then ((impl_DecCmp.f kj51 t601 t602 t607 t608).bind fun t623 => (laws_FnDecCmp.j3 kj51 t613 (decide (t623 ≤ 0)) t601 t602 t603 t604)) else (laws_FnDecCmp.j3 kj51 t613 false t601 t602 t603 t604)) = some r := H
                        have A98 := Aside0.mk A980
                        clear A980
                        by_cases c99 : t622 > 0
                        · rw [if_pos c99] at H
                          have c99b0 : decide (0 < t622) = true := decide_eq_true c99
                          clear c99
                          replace H := Option.bind_eq_some_iff.mp H
                          obtain ⟨t623, A1000, H⟩ := H
                          replace H : (laws_FnDecCmp.j3 kj51 t613 (decide (t623 ≤ 0)) t601 t602 t603 t604) = some r := H
                          have A100 := Aside0.mk A1000
                          clear A1000
                          have H' := Aside0.mk H
                          clear H
                          have hnb101 := NB606_605.out
                          have hnc101 := NB605_606.out
                          have hnb102 := NB606_611.out
                          have hnc102 := NB611_606.out
                          have hnb103 := NB606_612.out
                          have hnc103 := NB612_606.out
                          have hcz104_0 : wc.cell? ⟨gb606, 0, none⟩ = some (.int .i64 t603) := (blk_cell BK606.out 0).trans rfl
                          have hcz104_1 : wc.cell? ⟨gb606, 1, none⟩ = some (.int .i64 t604) := (blk_cell BK606.out 1).trans rfl
                          have hfz104_0 := blk_frozen BK606.out 0
                          have hfz104_1 := blk_frozen BK606.out 1
                          have hnb105 := NB611_605.out
                          have hnc105 := NB605_611.out
                          have hnb106 := NB611_612.out
                          have hnc106 := NB612_611.out
                          have hcz107_0 : wc.cell? ⟨gb611, 0, none⟩ = some (.int .i64 t607) := (blk_cell BK611.out 0).trans rfl
                          have hcz107_1 : wc.cell? ⟨gb611, 1, none⟩ = some (.int .i64 t608) := (blk_cell BK611.out 1).trans rfl
                          have hfz107_0 := blk_frozen BK611.out 0
                          have hfz107_1 := blk_frozen BK611.out 1
                          go_wp2_with (first | (go_at_call 26; (with_reducible refine (impl_DecCmp.calls kj51 t603 t604 t607 t608 t622 _ A98.out).mono ?_); rintro e w108 ⟨rfl, hb⟩; have n0_ := Aside0.mk (blk_below (g := gb605) (o := .cells #[.int .i64 t601, .int .i64 t602] 24 (0, 0)) (by (with_reducible repeat (first | refine blk_drewN ?_ _ | refine blk_drew ?_ | refine blk_alloc ?_ _)); exact BK605.out) hb); have n1_ := Aside0.mk (blk_below (g := gb606) (o := .cells #[.int .i64 t603, .int .i64 t604] 24 (0, 0)) (by (with_reducible repeat (first | refine blk_drewN ?_ _ | refine blk_drew ?_ | refine blk_alloc ?_ _)); exact BK606.out) hb); have n2_ := Aside0.mk (blk_below (g := gb611) (o := .cells #[.int .i64 t607, .int .i64 t608] 24 (0, 0)) (by (with_reducible repeat (first | refine blk_drewN ?_ _ | refine blk_drew ?_ | refine blk_alloc ?_ _)); exact BK611.out) hb); have n3_ := Aside0.mk (blk_below (g := gb612) (o := .cells #[.int .i64 t609, .int .i64 t610] 24 (0, 0)) (by (with_reducible repeat (first | refine blk_drewN ?_ _ | refine blk_drew ?_ | refine blk_alloc ?_ _)); exact BK612.out) hb); have n4_ := Aside0.mk (below_step (by repeat (first | (with_reducible first | exact HB.out | apply below_alloc | apply pw_below_drewN | apply below_drew1 | refine below_set ?_ GE605.out | refine below_set ?_ GE606.out | refine below_set ?_ GE611.out | refine below_set ?_ GE612.out) | exact HB.out)) hb); clear BK605; clear BK606; clear BK611; clear BK612; clear HB; have BK605 := n0_; have BK606 := n1_; have BK611 := n2_; have BK612 := n3_; have HB := n4_; clear n0_ n1_ n2_ n3_ n4_; (try clear hb); (try clear hb2); (try clear hk); (try clear hi); have hnb109 := NB605_612.out; have hnc109 := NB612_605.out; have hcz110_0 : w108.cell? ⟨gb605, 0, none⟩ = some (.int .i64 t601) := (blk_cell BK605.out 0).trans rfl; have hcz110_1 : w108.cell? ⟨gb605, 1, none⟩ = some (.int .i64 t602) := (blk_cell BK605.out 1).trans rfl; have hfz110_0 := blk_frozen BK605.out 0; have hfz110_1 := blk_frozen BK605.out 1; have hcz111_0 : w108.cell? ⟨gb611, 0, none⟩ = some (.int .i64 t607) := (blk_cell BK611.out 0).trans rfl; have hcz111_1 : w108.cell? ⟨gb611, 1, none⟩ = some (.int .i64 t608) := (blk_cell BK611.out 1).trans rfl; have hfz111_0 := blk_frozen BK611.out 0; have hfz111_1 := blk_frozen BK611.out 1) | (go_at_call 26; (with_reducible refine (impl_DecCmp.calls kj51 t601 t602 t607 t608 t623 _ A100.out).mono ?_); rintro e w112 ⟨rfl, hb⟩; have n0_ := Aside0.mk (blk_below (g := gb605) (o := .cells #[.int .i64 t601, .int .i64 t602] 24 (0, 0)) (by (with_reducible repeat (first | refine blk_drewN ?_ _ | refine blk_drew ?_ | refine blk_alloc ?_ _)); exact BK605.out) hb); have n1_ := Aside0.mk (blk_below (g := gb606) (o := .cells #[.int .i64 t603, .int .i64 t604] 24 (0, 0)) (by (with_reducible repeat (first | refine blk_drewN ?_ _ | refine blk_drew ?_ | refine blk_alloc ?_ _)); exact BK606.out) hb); have n2_ := Aside0.mk (blk_below (g := gb611) (o := .cells #[.int .i64 t607, .int .i64 t608] 24 (0, 0)) (by (with_reducible repeat (first | refine blk_drewN ?_ _ | refine blk_drew ?_ | refine blk_alloc ?_ _)); exact BK611.out) hb); have n3_ := Aside0.mk (blk_below (g := gb612) (o := .cells #[.int .i64 t609, .int .i64 t610] 24 (0, 0)) (by (with_reducible repeat (first | refine blk_drewN ?_ _ | refine blk_drew ?_ | refine blk_alloc ?_ _)); exact BK612.out) hb); have n4_ := Aside0.mk (below_step (by repeat (first | (with_reducible first | exact HB.out | apply below_alloc | apply pw_below_drewN | apply below_drew1 | refine below_set ?_ GE605.out | refine below_set ?_ GE606.out | refine below_set ?_ GE611.out | refine below_set ?_ GE612.out) | exact HB.out)) hb); clear BK605; clear BK606; clear BK611; clear BK612; clear HB; have BK605 := n0_; have BK606 := n1_; have BK611 := n2_; have BK612 := n3_; have HB := n4_; clear n0_ n1_ n2_ n3_ n4_; (try clear hb); (try clear hb2); (try clear hk); (try clear hi)))
                          go_meet
                          case rel => exact ⟨_, (decide (t623 ≤ 0)), (by first | rfl | (simp; done) | (simp [*]; done)), H', ⟨by have := HJ2.out; have := HJ8.out; have := HJ51.out; first | omega | exact Nat.le_refl _⟩, ⟨by (with_reducible repeat (first | refine blk_drewN ?_ _ | refine blk_drew ?_ | refine blk_alloc ?_ _)); exact BK605.out⟩, ⟨by (with_reducible repeat (first | refine blk_drewN ?_ _ | refine blk_drew ?_ | refine blk_alloc ?_ _)); exact BK606.out⟩, ⟨by (with_reducible repeat (first | refine blk_drewN ?_ _ | refine blk_drew ?_ | refine blk_alloc ?_ _)); exact BK611.out⟩, ⟨by (with_reducible repeat (first | refine blk_drewN ?_ _ | refine blk_drew ?_ | refine blk_alloc ?_ _)); exact BK612.out⟩, ⟨by repeat (first | (with_reducible first | exact HB.out | apply below_alloc | apply pw_below_drewN | apply below_drew1 | refine below_set ?_ GE605.out | refine below_set ?_ GE606.out | refine below_set ?_ GE611.out | refine below_set ?_ GE612.out) | exact HB.out)⟩⟩
                        · rw [if_neg c99] at H
                          have c99b0 : decide (0 < t622) = false := decide_eq_false c99
                          clear c99
                          have H' := Aside0.mk H
                          clear H
                          have hnb113 := NB606_605.out
                          have hnc113 := NB605_606.out
                          have hnb114 := NB606_611.out
                          have hnc114 := NB611_606.out
                          have hnb115 := NB606_612.out
                          have hnc115 := NB612_606.out
                          have hcz116_0 : wc.cell? ⟨gb606, 0, none⟩ = some (.int .i64 t603) := (blk_cell BK606.out 0).trans rfl
                          have hcz116_1 : wc.cell? ⟨gb606, 1, none⟩ = some (.int .i64 t604) := (blk_cell BK606.out 1).trans rfl
                          have hfz116_0 := blk_frozen BK606.out 0
                          have hfz116_1 := blk_frozen BK606.out 1
                          have hnb117 := NB611_605.out
                          have hnc117 := NB605_611.out
                          have hnb118 := NB611_612.out
                          have hnc118 := NB612_611.out
                          have hcz119_0 : wc.cell? ⟨gb611, 0, none⟩ = some (.int .i64 t607) := (blk_cell BK611.out 0).trans rfl
                          have hcz119_1 : wc.cell? ⟨gb611, 1, none⟩ = some (.int .i64 t608) := (blk_cell BK611.out 1).trans rfl
                          have hfz119_0 := blk_frozen BK611.out 0
                          have hfz119_1 := blk_frozen BK611.out 1
                          go_wp2_with (first | (go_at_call 26; (with_reducible refine (impl_DecCmp.calls kj51 t603 t604 t607 t608 t622 _ A98.out).mono ?_); rintro e w120 ⟨rfl, hb⟩; have n0_ := Aside0.mk (blk_below (g := gb605) (o := .cells #[.int .i64 t601, .int .i64 t602] 24 (0, 0)) (by (with_reducible repeat (first | refine blk_drewN ?_ _ | refine blk_drew ?_ | refine blk_alloc ?_ _)); exact BK605.out) hb); have n1_ := Aside0.mk (blk_below (g := gb606) (o := .cells #[.int .i64 t603, .int .i64 t604] 24 (0, 0)) (by (with_reducible repeat (first | refine blk_drewN ?_ _ | refine blk_drew ?_ | refine blk_alloc ?_ _)); exact BK606.out) hb); have n2_ := Aside0.mk (blk_below (g := gb611) (o := .cells #[.int .i64 t607, .int .i64 t608] 24 (0, 0)) (by (with_reducible repeat (first | refine blk_drewN ?_ _ | refine blk_drew ?_ | refine blk_alloc ?_ _)); exact BK611.out) hb); have n3_ := Aside0.mk (blk_below (g := gb612) (o := .cells #[.int .i64 t609, .int .i64 t610] 24 (0, 0)) (by (with_reducible repeat (first | refine blk_drewN ?_ _ | refine blk_drew ?_ | refine blk_alloc ?_ _)); exact BK612.out) hb); have n4_ := Aside0.mk (below_step (by repeat (first | (with_reducible first | exact HB.out | apply below_alloc | apply pw_below_drewN | apply below_drew1 | refine below_set ?_ GE605.out | refine below_set ?_ GE606.out | refine below_set ?_ GE611.out | refine below_set ?_ GE612.out) | exact HB.out)) hb); clear BK605; clear BK606; clear BK611; clear BK612; clear HB; have BK605 := n0_; have BK606 := n1_; have BK611 := n2_; have BK612 := n3_; have HB := n4_; clear n0_ n1_ n2_ n3_ n4_; (try clear hb); (try clear hb2); (try clear hk); (try clear hi)))
                          go_meet
                          case rel => exact ⟨_, (false), (by first | rfl | (simp; done) | (simp [*]; done)), H', ⟨by have := HJ2.out; have := HJ8.out; have := HJ51.out; first | omega | exact Nat.le_refl _⟩, ⟨by (with_reducible repeat (first | refine blk_drewN ?_ _ | refine blk_drew ?_ | refine blk_alloc ?_ _)); exact BK605.out⟩, ⟨by (with_reducible repeat (first | refine blk_drewN ?_ _ | refine blk_drew ?_ | refine blk_alloc ?_ _)); exact BK606.out⟩, ⟨by (with_reducible repeat (first | refine blk_drewN ?_ _ | refine blk_drew ?_ | refine blk_alloc ?_ _)); exact BK611.out⟩, ⟨by (with_reducible repeat (first | refine blk_drewN ?_ _ | refine blk_drew ?_ | refine blk_alloc ?_ _)); exact BK612.out⟩, ⟨by repeat (first | (with_reducible first | exact HB.out | apply below_alloc | apply pw_below_drewN | apply below_drew1 | refine below_set ?_ GE605.out | refine below_set ?_ GE606.out | refine below_set ?_ GE611.out | refine below_set ?_ GE612.out) | exact HB.out)⟩⟩
                      · rw [if_neg c97] at H
                        have c97b0 : decide (0 < t613) = false := decide_eq_false c97
                        clear c97
                        (first | rw [c97b0] | (simp only [i64_w, i32_w]; rw [c97b0]) | skip)
                        have H' := Aside0.mk H
                        clear H
                        go_wp2
                        go_meet
                        case rel => exact ⟨_, (false), (by first | rfl | (simp; done) | (simp [*]; done)), H', ⟨by have := HJ2.out; have := HJ8.out; have := HJ51.out; first | omega | exact Nat.le_refl _⟩, ⟨by (with_reducible repeat (first | refine blk_drewN ?_ _ | refine blk_drew ?_ | refine blk_alloc ?_ _)); exact BK605.out⟩, ⟨by (with_reducible repeat (first | refine blk_drewN ?_ _ | refine blk_drew ?_ | refine blk_alloc ?_ _)); exact BK606.out⟩, ⟨by (with_reducible repeat (first | refine blk_drewN ?_ _ | refine blk_drew ?_ | refine blk_alloc ?_ _)); exact BK611.out⟩, ⟨by (with_reducible repeat (first | refine blk_drewN ?_ _ | refine blk_drew ?_ | refine blk_alloc ?_ _)); exact BK612.out⟩, ⟨by repeat (first | (with_reducible first | exact HB.out | apply below_alloc | apply pw_below_drewN | apply below_drew1 | refine below_set ?_ GE605.out | refine below_set ?_ GE606.out | refine below_set ?_ GE611.out | refine below_set ?_ GE612.out) | exact HB.out)⟩⟩
                    case rest =>
                      clear HC96
                      try clear c1
                      try clear c2
                      try clear p2
                      try clear c3
                      try clear c4
                      try clear c4b0
                      try clear c4b1
                      try clear c5
                      try clear c6
                      try clear p6
                      try clear c7
                      try clear c8
                      try clear c9
                      try clear c10
                      try clear c11
                      try clear c12
                      try clear c13
                      try clear c19
                      try clear c20
                      try clear c21
                      try clear c23
                      try clear c24
                      try clear c25
                      try clear c26
                      try clear c30
                      try clear c30b0
                      try clear c30b1
                      try clear c32
                      try clear c33
                      try clear c34
                      try clear c36
                      try clear c37
                      try clear c43
                      try clear c44
                      try clear c45
                      try clear c47
                      try clear c48
                      try clear c51
                      try clear c52
                      try clear c53
                      try clear c54
                      try clear c56
                      try clear c58
                      try clear c59
                      try clear c60
                      try clear c63
                      try clear c64
                      try clear p64
                      try clear c67
                      try clear c70
                      try clear c71
                      try clear c72
                      try clear c75
                      try clear c76
                      try clear c79
                      try clear c80
                      try clear c81
                      try clear c84
                      try clear c87
                      try clear c87b0
                      try clear c87b1
                      try clear c87b2
                      try clear c97
                      try clear c97b0
                      try clear c99
                      try clear c99b0
                      try clear c101
                      try clear c102
                      try clear c103
                      try clear c105
                      try clear c106
                      try clear c109
                      try clear c113
                      try clear c114
                      try clear c115
                      try clear c117
                      try clear c118
                      try clear hcz104_0
                      try clear hcz104_1
                      try clear hcz107_0
                      try clear hcz107_1
                      try clear hcz110_0
                      try clear hcz110_1
                      try clear hcz111_0
                      try clear hcz111_1
                      try clear hcz116_0
                      try clear hcz116_1
                      try clear hcz119_0
                      try clear hcz119_1
                      try clear hcz14_0
                      try clear hcz14_1
                      try clear hcz15_0
                      try clear hcz15_1
                      try clear hcz22_0
                      try clear hcz22_1
                      try clear hcz25_0
                      try clear hcz25_1
                      try clear hcz26_0
                      try clear hcz26_1
                      try clear hcz27_0
                      try clear hcz27_1
                      try clear hcz35_0
                      try clear hcz35_1
                      try clear hcz38_0
                      try clear hcz38_1
                      try clear hcz40_0
                      try clear hcz40_1
                      try clear hcz41_0
                      try clear hcz41_1
                      try clear hcz46_0
                      try clear hcz46_1
                      try clear hcz49_0
                      try clear hcz49_1
                      try clear hcz61_0
                      try clear hcz61_1
                      try clear hcz65_0
                      try clear hcz65_1
                      try clear hcz68_0
                      try clear hcz68_1
                      try clear hcz73_0
                      try clear hcz73_1
                      try clear hcz77_0
                      try clear hcz77_1
                      try clear hcz82_0
                      try clear hcz82_1
                      try clear hfz104_0
                      try clear hfz104_1
                      try clear hfz107_0
                      try clear hfz107_1
                      try clear hfz110_0
                      try clear hfz110_1
                      try clear hfz111_0
                      try clear hfz111_1
                      try clear hfz116_0
                      try clear hfz116_1
                      try clear hfz119_0
                      try clear hfz119_1
                      try clear hfz14_0
                      try clear hfz14_1
                      try clear hfz15_0
                      try clear hfz15_1
                      try clear hfz22_0
                      try clear hfz22_1
                      try clear hfz25_0
                      try clear hfz25_1
                      try clear hfz26_0
                      try clear hfz26_1
                      try clear hfz27_0
                      try clear hfz27_1
                      try clear hfz35_0
                      try clear hfz35_1
                      try clear hfz38_0
                      try clear hfz38_1
                      try clear hfz40_0
                      try clear hfz40_1
                      try clear hfz41_0
                      try clear hfz41_1
                      try clear hfz46_0
                      try clear hfz46_1
                      try clear hfz49_0
                      try clear hfz49_1
                      try clear hfz61_0
                      try clear hfz61_1
                      try clear hfz65_0
                      try clear hfz65_1
                      try clear hfz68_0
                      try clear hfz68_1
                      try clear hfz73_0
                      try clear hfz73_1
                      try clear hfz77_0
                      try clear hfz77_1
                      try clear hfz82_0
                      try clear hfz82_1
                      try clear p2
                      try clear p6
                      try clear p64
                      obtain ⟨kq, x78_95, rfl, HA, HJ95, BK605, BK606, BK611, BK612, HB⟩ := hcut
                      cases kq with
                      | zero => exact absurd HA.out (by simp [laws_FnDecCmp.j3])
                      | succ kj95 =>
                        have H := HA.out
                        clear HA
                        simp only [laws_FnDecCmp.j3] at H
                        by_cases c121 : x78_95 = true
                        · subst c121
                          have H1 : (some false) = some r := by rw [if_pos rfl] at H; exact H
                          clear H
                          have H := H1
                          clear H1
                          obtain rfl := Option.some.inj H
                          go_wp2
                          go_ret
                          exact ⟨by first | rfl | (simp [errW_none, errW_some] <;> rfl) | (simp [*, errW_none, errW_some] <;> rfl), by repeat (first | (with_reducible first | exact HB.out | apply below_alloc | apply pw_below_drewN | apply below_drew1 | refine below_set ?_ GE605.out | refine below_set ?_ GE606.out | refine below_set ?_ GE611.out | refine below_set ?_ GE612.out) | exact HB.out)⟩
                        · replace c121 := Bool.eq_false_iff.mpr c121
                          subst c121
                          have H1 : ((impl_DecAt.f kj95 t601 t602 3).bind fun bt624 => ((impl_DecAt.f kj95 t603 t604 3).bind fun bt626 => ((impl_DecCmp.f kj95 bt624.1 bt624.2 bt626.1 bt626.2).bind fun t628 => (if t613 = t628 then ((impl_DecCmp.f kj95 t601 t602 t601 t602).bind fun t629 => (if t629 = 0 then ((impl_DecCmp.f kj95 1 0 9 1).bind fun t630 => (some (t630 == 1))) else (some false))) else (some false))))) = some r := by rw [if_neg (show ¬ (false = true) by decide)] at H; exact H
                          clear H
                          have H := H1
                          clear H1
                          replace H := Option.bind_eq_some_iff.mp H
                          obtain ⟨⟨t624, t625⟩, A1220, H⟩ := H
                          replace H : ((impl_DecAt.f kj95 t603 t604 3).bind fun bt626 => ((impl_DecCmp.f kj95 t624 t625 bt626.1 bt626.2).bind fun t628 => (if t613 = t628 then ((impl_DecCmp.f kj95 t601 t602 t601 t602).bind fun t629 => (if t629 = 0 then ((impl_DecCmp.f kj95 1 0 9 1).bind fun t630 => (some (t630 == 1))) else (some false))) else (some false)))) = some r := H
                          have A122 := Aside0.mk A1220
                          clear A1220
                          replace H := Option.bind_eq_some_iff.mp H
                          obtain ⟨⟨t626, t627⟩, A1230, H⟩ := H
                          replace H : ((impl_DecCmp.f kj95 t624 t625 t626 t627).bind fun t628 => (if t613 = t628 then ((impl_DecCmp.f kj95 t601 t602 t601 t602).bind fun t629 => (if t629 = 0 then ((impl_DecCmp.f kj95 1 0 9 1).bind fun t630 => (some (t630 == 1))) else (some false))) else (some false))) = some r := H
                          have A123 := Aside0.mk A1230
                          clear A1230
                          replace H := Option.bind_eq_some_iff.mp H
                          obtain ⟨t628, A1240, H⟩ := H
                          replace H : (if t613 = t628 then ((impl_DecCmp.f kj95 t601 t602 t601 t602).bind fun t629 => (if t629 = 0 then ((impl_DecCmp.f kj95 1 0 9 1).bind fun t630 => (some (t630 == 1))) else (some false))) else (some false)) = some r := H
                          have A124 := Aside0.mk A1240
                          clear A1240
                          by_cases c125 : t613 = t628
                          · rw [if_pos c125] at H
                            have c125b0 : (t613 == t628) = true := beq_iff_eq.mpr c125
                            have c125b1 : (t613 != t628) = false := bne_eq_false_iff_eq.mpr c125
                            clear c125
                            replace H := Option.bind_eq_some_iff.mp H
                            obtain ⟨t629, A1260, H⟩ := H
                            replace H : (if t629 = 0 then ((impl_DecCmp.f kj95 1 0 9 1).bind fun t630 => (some (t630 == 1))) else (some false)) = some r := H
                            have A126 := Aside0.mk A1260
                            clear A1260
                            by_cases c127 : t629 = 0
                            · rw [if_pos c127] at H
                              have c127b0 : (t629 == 0) = true := beq_iff_eq.mpr c127
                              have c127b1 : (t629 != 0) = false := bne_eq_false_iff_eq.mpr c127
                              clear c127
                              replace H := Option.bind_eq_some_iff.mp H
                              obtain ⟨t630, A1280, H⟩ := H
                              replace H : (some (t630 == 1)) = some r := H
                              have A128 := Aside0.mk A1280
                              clear A1280
                              obtain rfl := Option.some.inj H
                              try go_wp2
                              have n0_ := Aside0.mk (blk_drew BK605.out)
                              have n1_ := Aside0.mk (blk_drew BK606.out)
                              have n2_ := Aside0.mk (blk_drew BK611.out)
                              have n3_ := Aside0.mk (blk_drew BK612.out)
                              have n4_ := Aside0.mk (below_drew1 HB.out)
                              clear BK605
                              clear BK606
                              clear BK611
                              clear BK612
                              clear HB
                              have BK605 := n0_
                              have BK606 := n1_
                              have BK611 := n2_
                              have BK612 := n3_
                              have HB := n4_
                              clear n0_ n1_ n2_ n3_ n4_
                              refine start_ (n := 20) (S := fun w' => w'.cell? ⟨gb605, 0, none⟩ = some (.int .i64 t601) ∧ w'.cell? ⟨gb605, 1, none⟩ = some (.int .i64 t602) ∧ w'.cell? ⟨gb606, 0, none⟩ = some (.int .i64 t603) ∧ w'.cell? ⟨gb606, 1, none⟩ = some (.int .i64 t604)) (ds := []) #[false, false, false, false, false, false, false, false, false, false, false, false, false, false, false, false, false, false, false, false] (by kernel_rfl) rfl rfl ⟨(blk_cell BK605.out 0).trans rfl, (blk_cell BK605.out 1).trans rfl, (blk_cell BK606.out 0).trans rfl, (blk_cell BK606.out 1).trans rfl⟩ (fun hHeld => ?_); refine with_tabW laws_FnDecCmp.tab12 laws_FnDecCmp.bits12 (fun HT_ HW_ => ?_)
                              generalize wc.drew = w129 at BK605 BK606 BK611 BK612 HB hHeld ⊢
                              refine pure_ (i := 0) (N := some 79) (v := ?_) (a' := ?_) #[true, false, false, false, false, false, false, false, false, false, false, false, false, false, false, false, false, false, false, false] rfl rfl (any_of HT_.out (by kernel_rfl)) (fun _ _ _ h => h) (Or.inl ⟨by rfl, ?_⟩) ?_ ?_
                              rotate_left
                              · intro w'
                                go_simp
                                with_reducible rfl
                              rotate_left
                              · simp only [Act.put, List.setIfInBounds_toArray, List.set_cons_zero, List.set_cons_succ, i64_w, i32_w]
                                rfl
                              refine take_ (i := 1) (N := some 80) (v := ?_) (a' := ?_) #[true, true, false, false, false, false, false, false, false, false, false, false, false, false, false, false, false, false, false, false] rfl rfl (take_ofW HT_.out HW_.out (by kernel_rfl)) (fun _ _ _ h => h) (Or.inl ⟨by rfl, ?_⟩) hHeld ?_ ?_
                              rotate_left
                              · rintro w' ⟨s0, s1, s2, s3⟩
                                go_simp
                                with_reducible rfl
                              rotate_left
                              · simp only [Act.put, List.setIfInBounds_toArray, List.set_cons_zero, List.set_cons_succ, i64_w, i32_w]
                                rfl
                              refine take_ (i := 3) (N := some 82) (v := ?_) (a' := ?_) #[true, true, false, true, false, false, false, false, false, false, false, false, false, false, false, false, false, false, false, false] rfl rfl (take_ofW HT_.out HW_.out (by kernel_rfl)) (fun _ _ _ h => h) (Or.inl ⟨by rfl, ?_⟩) hHeld ?_ ?_
                              rotate_left
                              · rintro w' ⟨s0, s1, s2, s3⟩
                                go_simp
                                with_reducible rfl
                              rotate_left
                              · simp only [Act.put, List.setIfInBounds_toArray, List.set_cons_zero, List.set_cons_succ, i64_w, i32_w]
                                rfl
                              refine one_ (i := 2) (N := some 81) #[true, true, true, true, false, false, false, false, false, false, false, false, false, false, false, false, false, false, false, false] rfl rfl (one_of HT_.out (by kernel_rfl)) (by decide) (fun K hK => ?_)
                              refine goes_ Try.func17 (by kernel_rfl) rfl #[.agg #[.int .i64 t601, .int .i64 t602], .int .i64 3] (by rfl) rfl rfl (by (try simp only [List.map_toArray, List.map_cons, List.map_nil]); first | done | rfl | (simp only [List.length_drop, List.length_take]; rfl)) ?_
                              with_reducible refine (impl_DecAt.calls kj95 t601 t602 3 t624 t625 _ A122.out).mono ?_
                              rintro e w130 ⟨rfl, hb⟩
                              refine ⟨_, rfl, ?_⟩
                              have n0_ := Aside0.mk (blk_below (g := gb605) (o := .cells #[.int .i64 t601, .int .i64 t602] 24 (0, 0)) (by (with_reducible repeat (first | refine blk_drewN ?_ _ | refine blk_drew ?_ | refine blk_alloc ?_ _)); exact BK605.out) hb)
                              have n1_ := Aside0.mk (blk_below (g := gb606) (o := .cells #[.int .i64 t603, .int .i64 t604] 24 (0, 0)) (by (with_reducible repeat (first | refine blk_drewN ?_ _ | refine blk_drew ?_ | refine blk_alloc ?_ _)); exact BK606.out) hb)
                              have n2_ := Aside0.mk (blk_below (g := gb611) (o := .cells #[.int .i64 t607, .int .i64 t608] 24 (0, 0)) (by (with_reducible repeat (first | refine blk_drewN ?_ _ | refine blk_drew ?_ | refine blk_alloc ?_ _)); exact BK611.out) hb)
                              have n3_ := Aside0.mk (blk_below (g := gb612) (o := .cells #[.int .i64 t609, .int .i64 t610] 24 (0, 0)) (by (with_reducible repeat (first | refine blk_drewN ?_ _ | refine blk_drew ?_ | refine blk_alloc ?_ _)); exact BK612.out) hb)
                              have n4_ := Aside0.mk (below_step (by repeat (first | (with_reducible first | exact HB.out | apply below_alloc | apply pw_below_drewN | apply below_drew1 | refine below_set ?_ GE605.out | refine below_set ?_ GE606.out | refine below_set ?_ GE611.out | refine below_set ?_ GE612.out) | exact HB.out)) hb)
                              clear BK605
                              clear BK606
                              clear BK611
                              clear BK612
                              clear HB
                              have BK605 := n0_
                              have BK606 := n1_
                              have BK611 := n2_
                              have BK612 := n3_
                              have HB := n4_
                              clear n0_ n1_ n2_ n3_ n4_
                              (try clear hb)
                              (try clear hb2)
                              (try clear hk)
                              (try clear hi)
                              refine hK.out _ _ ⟨(blk_cell BK605.out 0).trans rfl, (blk_cell BK605.out 1).trans rfl, (blk_cell BK606.out 0).trans rfl, (blk_cell BK606.out 1).trans rfl⟩ (fun hHeld => ?_)
                              clear hK K
                              refine norm_ (a' := ?_) ?_ ?_
                              rotate_left
                              · show Act.put _ (some 81) _ = _
                                simp only [Act.put, List.setIfInBounds_toArray, List.set_cons_zero, List.set_cons_succ, i64_w, i32_w]
                                rfl
                              refine one_ (i := 4) (N := some 83) #[true, true, true, true, true, false, false, false, false, false, false, false, false, false, false, false, false, false, false, false] rfl rfl (one_of HT_.out (by kernel_rfl)) (by decide) (fun K hK => ?_)
                              refine goes_ Try.func17 (by kernel_rfl) rfl #[.agg #[.int .i64 t603, .int .i64 t604], .int .i64 3] (by rfl) rfl rfl (by (try simp only [List.map_toArray, List.map_cons, List.map_nil]); first | done | rfl | (simp only [List.length_drop, List.length_take]; rfl)) ?_
                              with_reducible refine (impl_DecAt.calls kj95 t603 t604 3 t626 t627 _ A123.out).mono ?_
                              rintro e w131 ⟨rfl, hb⟩
                              refine ⟨_, rfl, ?_⟩
                              have n0_ := Aside0.mk (blk_below (g := gb605) (o := .cells #[.int .i64 t601, .int .i64 t602] 24 (0, 0)) (by (with_reducible repeat (first | refine blk_drewN ?_ _ | refine blk_drew ?_ | refine blk_alloc ?_ _)); exact BK605.out) hb)
                              have n1_ := Aside0.mk (blk_below (g := gb606) (o := .cells #[.int .i64 t603, .int .i64 t604] 24 (0, 0)) (by (with_reducible repeat (first | refine blk_drewN ?_ _ | refine blk_drew ?_ | refine blk_alloc ?_ _)); exact BK606.out) hb)
                              have n2_ := Aside0.mk (blk_below (g := gb611) (o := .cells #[.int .i64 t607, .int .i64 t608] 24 (0, 0)) (by (with_reducible repeat (first | refine blk_drewN ?_ _ | refine blk_drew ?_ | refine blk_alloc ?_ _)); exact BK611.out) hb)
                              have n3_ := Aside0.mk (blk_below (g := gb612) (o := .cells #[.int .i64 t609, .int .i64 t610] 24 (0, 0)) (by (with_reducible repeat (first | refine blk_drewN ?_ _ | refine blk_drew ?_ | refine blk_alloc ?_ _)); exact BK612.out) hb)
                              have n4_ := Aside0.mk (below_step (by repeat (first | (with_reducible first | exact HB.out | apply below_alloc | apply pw_below_drewN | apply below_drew1 | refine below_set ?_ GE605.out | refine below_set ?_ GE606.out | refine below_set ?_ GE611.out | refine below_set ?_ GE612.out) | exact HB.out)) hb)
                              clear BK605
                              clear BK606
                              clear BK611
                              clear BK612
                              clear HB
                              have BK605 := n0_
                              have BK606 := n1_
                              have BK611 := n2_
                              have BK612 := n3_
                              have HB := n4_
                              clear n0_ n1_ n2_ n3_ n4_
                              (try clear hb)
                              (try clear hb2)
                              (try clear hk)
                              (try clear hi)
                              refine hK.out _ _ ⟨(blk_cell BK605.out 0).trans rfl, (blk_cell BK605.out 1).trans rfl, (blk_cell BK606.out 0).trans rfl, (blk_cell BK606.out 1).trans rfl⟩ (fun hHeld => ?_)
                              clear hK K
                              refine norm_ (a' := ?_) ?_ ?_
                              rotate_left
                              · show Act.put _ (some 83) _ = _
                                simp only [Act.put, List.setIfInBounds_toArray, List.set_cons_zero, List.set_cons_succ, i64_w, i32_w]
                                rfl
                              refine one_ (i := 5) (N := some 84) #[true, true, true, true, true, true, false, false, false, false, false, false, false, false, false, false, false, false, false, false] rfl rfl (one_of HT_.out (by kernel_rfl)) (by decide) (fun K hK => ?_)
                              refine goes_ Try.func26 (by kernel_rfl) rfl #[.agg #[.int .i64 t624, .int .i64 t625], .agg #[.int .i64 t626, .int .i64 t627]] (by rfl) rfl rfl (by (try simp only [List.map_toArray, List.map_cons, List.map_nil]); first | done | rfl | (simp only [List.length_drop, List.length_take]; rfl)) ?_
                              with_reducible refine (impl_DecCmp.calls kj95 t624 t625 t626 t627 t628 _ A124.out).mono ?_
                              rintro e w132 ⟨rfl, hb⟩
                              refine ⟨_, rfl, ?_⟩
                              have n0_ := Aside0.mk (blk_below (g := gb605) (o := .cells #[.int .i64 t601, .int .i64 t602] 24 (0, 0)) (by (with_reducible repeat (first | refine blk_drewN ?_ _ | refine blk_drew ?_ | refine blk_alloc ?_ _)); exact BK605.out) hb)
                              have n1_ := Aside0.mk (blk_below (g := gb606) (o := .cells #[.int .i64 t603, .int .i64 t604] 24 (0, 0)) (by (with_reducible repeat (first | refine blk_drewN ?_ _ | refine blk_drew ?_ | refine blk_alloc ?_ _)); exact BK606.out) hb)
                              have n2_ := Aside0.mk (blk_below (g := gb611) (o := .cells #[.int .i64 t607, .int .i64 t608] 24 (0, 0)) (by (with_reducible repeat (first | refine blk_drewN ?_ _ | refine blk_drew ?_ | refine blk_alloc ?_ _)); exact BK611.out) hb)
                              have n3_ := Aside0.mk (blk_below (g := gb612) (o := .cells #[.int .i64 t609, .int .i64 t610] 24 (0, 0)) (by (with_reducible repeat (first | refine blk_drewN ?_ _ | refine blk_drew ?_ | refine blk_alloc ?_ _)); exact BK612.out) hb)
                              have n4_ := Aside0.mk (below_step (by repeat (first | (with_reducible first | exact HB.out | apply below_alloc | apply pw_below_drewN | apply below_drew1 | refine below_set ?_ GE605.out | refine below_set ?_ GE606.out | refine below_set ?_ GE611.out | refine below_set ?_ GE612.out) | exact HB.out)) hb)
                              clear BK605
                              clear BK606
                              clear BK611
                              clear BK612
                              clear HB
                              have BK605 := n0_
                              have BK606 := n1_
                              have BK611 := n2_
                              have BK612 := n3_
                              have HB := n4_
                              clear n0_ n1_ n2_ n3_ n4_
                              (try clear hb)
                              (try clear hb2)
                              (try clear hk)
                              (try clear hi)
                              refine hK.out _ _ ⟨(blk_cell BK605.out 0).trans rfl, (blk_cell BK605.out 1).trans rfl, (blk_cell BK606.out 0).trans rfl, (blk_cell BK606.out 1).trans rfl⟩ (fun hHeld => ?_)
                              clear hK K
                              refine norm_ (a' := ?_) ?_ ?_
                              rotate_left
                              · show Act.put _ (some 84) _ = _
                                simp only [Act.put, List.setIfInBounds_toArray, List.set_cons_zero, List.set_cons_succ, i64_w, i32_w]
                                rfl
                              refine pure_ (i := 6) (N := some 85) (v := ?_) (a' := ?_) #[true, true, true, true, true, true, true, false, false, false, false, false, false, false, false, false, false, false, false, false] rfl rfl (any_of HT_.out (by kernel_rfl)) (fun _ _ _ h => h) (Or.inl ⟨by rfl, ?_⟩) ?_ ?_
                              rotate_left
                              · intro w'
                                go_simp
                                with_reducible rfl
                              rotate_left
                              · simp only [Act.put, List.setIfInBounds_toArray, List.set_cons_zero, List.set_cons_succ, i64_w, i32_w]
                                rfl
                              refine pure_ (i := 7) (N := some 86) (v := ?_) (a' := ?_) #[true, true, true, true, true, true, true, true, false, false, false, false, false, false, false, false, false, false, false, false] rfl rfl (any_of HT_.out (by kernel_rfl)) (fun _ _ _ h => h) (Or.inl ⟨by rfl, ?_⟩) ?_ ?_
                              rotate_left
                              · intro w'
                                go_simp
                                with_reducible rfl
                              rotate_left
                              · simp only [Act.put, List.setIfInBounds_toArray, List.set_cons_zero, List.set_cons_succ, i64_w, i32_w]
                                rfl
                              refine take_ (i := 8) (N := some 87) (v := ?_) (a' := ?_) #[true, true, true, true, true, true, true, true, true, false, false, false, false, false, false, false, false, false, false, false] rfl rfl (take_ofW HT_.out HW_.out (by kernel_rfl)) (fun _ _ _ h => h) (Or.inl ⟨by rfl, ?_⟩) hHeld ?_ ?_
                              rotate_left
                              · rintro w' ⟨s0, s1, s2, s3⟩
                                go_simp
                                with_reducible rfl
                              rotate_left
                              · simp only [Act.put, List.setIfInBounds_toArray, List.set_cons_zero, List.set_cons_succ, i64_w, i32_w]
                                rfl
                              refine take_ (i := 9) (N := some 88) (v := ?_) (a' := ?_) #[true, true, true, true, true, true, true, true, true, true, false, false, false, false, false, false, false, false, false, false] rfl rfl (take_ofW HT_.out HW_.out (by kernel_rfl)) (fun _ _ _ h => h) (Or.inl ⟨by rfl, ?_⟩) hHeld ?_ ?_
                              rotate_left
                              · rintro w' ⟨s0, s1, s2, s3⟩
                                go_simp
                                with_reducible rfl
                              rotate_left
                              · simp only [Act.put, List.setIfInBounds_toArray, List.set_cons_zero, List.set_cons_succ, i64_w, i32_w]
                                rfl
                              refine one_ (i := 10) (N := some 89) #[true, true, true, true, true, true, true, true, true, true, true, false, false, false, false, false, false, false, false, false] rfl rfl (one_of HT_.out (by kernel_rfl)) (by decide) (fun K hK => ?_)
                              refine goes_ Try.func26 (by kernel_rfl) rfl #[.agg #[.int .i64 t601, .int .i64 t602], .agg #[.int .i64 t601, .int .i64 t602]] (by rfl) rfl rfl (by (try simp only [List.map_toArray, List.map_cons, List.map_nil]); first | done | rfl | (simp only [List.length_drop, List.length_take]; rfl)) ?_
                              with_reducible refine (impl_DecCmp.calls kj95 t601 t602 t601 t602 t629 _ A126.out).mono ?_
                              rintro e w133 ⟨rfl, hb⟩
                              refine ⟨_, rfl, ?_⟩
                              have n0_ := Aside0.mk (blk_below (g := gb605) (o := .cells #[.int .i64 t601, .int .i64 t602] 24 (0, 0)) (by (with_reducible repeat (first | refine blk_drewN ?_ _ | refine blk_drew ?_ | refine blk_alloc ?_ _)); exact BK605.out) hb)
                              have n1_ := Aside0.mk (blk_below (g := gb606) (o := .cells #[.int .i64 t603, .int .i64 t604] 24 (0, 0)) (by (with_reducible repeat (first | refine blk_drewN ?_ _ | refine blk_drew ?_ | refine blk_alloc ?_ _)); exact BK606.out) hb)
                              have n2_ := Aside0.mk (blk_below (g := gb611) (o := .cells #[.int .i64 t607, .int .i64 t608] 24 (0, 0)) (by (with_reducible repeat (first | refine blk_drewN ?_ _ | refine blk_drew ?_ | refine blk_alloc ?_ _)); exact BK611.out) hb)
                              have n3_ := Aside0.mk (blk_below (g := gb612) (o := .cells #[.int .i64 t609, .int .i64 t610] 24 (0, 0)) (by (with_reducible repeat (first | refine blk_drewN ?_ _ | refine blk_drew ?_ | refine blk_alloc ?_ _)); exact BK612.out) hb)
                              have n4_ := Aside0.mk (below_step (by repeat (first | (with_reducible first | exact HB.out | apply below_alloc | apply pw_below_drewN | apply below_drew1 | refine below_set ?_ GE605.out | refine below_set ?_ GE606.out | refine below_set ?_ GE611.out | refine below_set ?_ GE612.out) | exact HB.out)) hb)
                              clear BK605
                              clear BK606
                              clear BK611
                              clear BK612
                              clear HB
                              have BK605 := n0_
                              have BK606 := n1_
                              have BK611 := n2_
                              have BK612 := n3_
                              have HB := n4_
                              clear n0_ n1_ n2_ n3_ n4_
                              (try clear hb)
                              (try clear hb2)
                              (try clear hk)
                              (try clear hi)
                              refine hK.out _ _ ⟨(blk_cell BK605.out 0).trans rfl, (blk_cell BK605.out 1).trans rfl, (blk_cell BK606.out 0).trans rfl, (blk_cell BK606.out 1).trans rfl⟩ (fun hHeld => ?_)
                              clear hK K
                              refine norm_ (a' := ?_) ?_ ?_
                              rotate_left
                              · show Act.put _ (some 89) _ = _
                                simp only [Act.put, List.setIfInBounds_toArray, List.set_cons_zero, List.set_cons_succ, i64_w, i32_w]
                                rfl
                              refine pure_ (i := 11) (N := some 90) (v := ?_) (a' := ?_) #[true, true, true, true, true, true, true, true, true, true, true, true, false, false, false, false, false, false, false, false] rfl rfl (any_of HT_.out (by kernel_rfl)) (fun _ _ _ h => h) (Or.inl ⟨by rfl, ?_⟩) ?_ ?_
                              rotate_left
                              · intro w'
                                go_simp
                                with_reducible rfl
                              rotate_left
                              · simp only [Act.put, List.setIfInBounds_toArray, List.set_cons_zero, List.set_cons_succ, i64_w, i32_w]
                                rfl
                              refine pure_ (i := 12) (N := some 91) (v := ?_) (a' := ?_) #[true, true, true, true, true, true, true, true, true, true, true, true, true, false, false, false, false, false, false, false] rfl rfl (any_of HT_.out (by kernel_rfl)) (fun _ _ _ h => h) (Or.inl ⟨by rfl, ?_⟩) ?_ ?_
                              rotate_left
                              · intro w'
                                go_simp
                                with_reducible rfl
                              rotate_left
                              · simp only [Act.put, List.setIfInBounds_toArray, List.set_cons_zero, List.set_cons_succ, i64_w, i32_w]
                                rfl
                              refine pure_ (i := 13) (N := some 92) (v := ?_) (a' := ?_) #[true, true, true, true, true, true, true, true, true, true, true, true, true, true, false, false, false, false, false, false] rfl rfl (any_of HT_.out (by kernel_rfl)) (fun _ _ _ h => h) (Or.inl ⟨by rfl, ?_⟩) ?_ ?_
                              rotate_left
                              · intro w'
                                go_simp
                                with_reducible rfl
                              rotate_left
                              · simp only [Act.put, List.setIfInBounds_toArray, List.set_cons_zero, List.set_cons_succ, i64_w, i32_w]
                                rfl
                              refine pure_ (i := 14) (N := some 93) (v := ?_) (a' := ?_) #[true, true, true, true, true, true, true, true, true, true, true, true, true, true, true, false, false, false, false, false] rfl rfl (any_of HT_.out (by kernel_rfl)) (fun _ _ _ h => h) (Or.inl ⟨by rfl, ?_⟩) ?_ ?_
                              rotate_left
                              · intro w'
                                go_simp
                                with_reducible rfl
                              rotate_left
                              · simp only [Act.put, List.setIfInBounds_toArray, List.set_cons_zero, List.set_cons_succ, i64_w, i32_w]
                                rfl
                              refine pure_ (i := 15) (N := some 94) (v := ?_) (a' := ?_) #[true, true, true, true, true, true, true, true, true, true, true, true, true, true, true, true, false, false, false, false] rfl rfl (any_of HT_.out (by kernel_rfl)) (fun _ _ _ h => h) (Or.inl ⟨by rfl, ?_⟩) ?_ ?_
                              rotate_left
                              · intro w'
                                go_simp
                                with_reducible rfl
                              rotate_left
                              · simp only [Act.put, List.setIfInBounds_toArray, List.set_cons_zero, List.set_cons_succ, i64_w, i32_w]
                                rfl
                              refine one_ (i := 16) (N := some 95) #[true, true, true, true, true, true, true, true, true, true, true, true, true, true, true, true, true, false, false, false] rfl rfl (one_of HT_.out (by kernel_rfl)) (by decide) (fun K hK => ?_)
                              refine goes_ Try.func26 (by kernel_rfl) rfl #[.agg #[.int .i64 1, .int .i64 0], .agg #[.int .i64 9, .int .i64 1]] (by rfl) rfl rfl (by (try simp only [List.map_toArray, List.map_cons, List.map_nil]); first | done | rfl | (simp only [List.length_drop, List.length_take]; rfl)) ?_
                              with_reducible refine (impl_DecCmp.calls kj95 1 0 9 1 t630 _ A128.out).mono ?_
                              rintro e w134 ⟨rfl, hb⟩
                              refine ⟨_, rfl, ?_⟩
                              have n0_ := Aside0.mk (blk_below (g := gb605) (o := .cells #[.int .i64 t601, .int .i64 t602] 24 (0, 0)) (by (with_reducible repeat (first | refine blk_drewN ?_ _ | refine blk_drew ?_ | refine blk_alloc ?_ _)); exact BK605.out) hb)
                              have n1_ := Aside0.mk (blk_below (g := gb606) (o := .cells #[.int .i64 t603, .int .i64 t604] 24 (0, 0)) (by (with_reducible repeat (first | refine blk_drewN ?_ _ | refine blk_drew ?_ | refine blk_alloc ?_ _)); exact BK606.out) hb)
                              have n2_ := Aside0.mk (blk_below (g := gb611) (o := .cells #[.int .i64 t607, .int .i64 t608] 24 (0, 0)) (by (with_reducible repeat (first | refine blk_drewN ?_ _ | refine blk_drew ?_ | refine blk_alloc ?_ _)); exact BK611.out) hb)
                              have n3_ := Aside0.mk (blk_below (g := gb612) (o := .cells #[.int .i64 t609, .int .i64 t610] 24 (0, 0)) (by (with_reducible repeat (first | refine blk_drewN ?_ _ | refine blk_drew ?_ | refine blk_alloc ?_ _)); exact BK612.out) hb)
                              have n4_ := Aside0.mk (below_step (by repeat (first | (with_reducible first | exact HB.out | apply below_alloc | apply pw_below_drewN | apply below_drew1 | refine below_set ?_ GE605.out | refine below_set ?_ GE606.out | refine below_set ?_ GE611.out | refine below_set ?_ GE612.out) | exact HB.out)) hb)
                              clear BK605
                              clear BK606
                              clear BK611
                              clear BK612
                              clear HB
                              have BK605 := n0_
                              have BK606 := n1_
                              have BK611 := n2_
                              have BK612 := n3_
                              have HB := n4_
                              clear n0_ n1_ n2_ n3_ n4_
                              (try clear hb)
                              (try clear hb2)
                              (try clear hk)
                              (try clear hi)
                              refine hK.out _ _ ⟨(blk_cell BK605.out 0).trans rfl, (blk_cell BK605.out 1).trans rfl, (blk_cell BK606.out 0).trans rfl, (blk_cell BK606.out 1).trans rfl⟩ (fun hHeld => ?_)
                              clear hK K
                              refine norm_ (a' := ?_) ?_ ?_
                              rotate_left
                              · show Act.put _ (some 95) _ = _
                                simp only [Act.put, List.setIfInBounds_toArray, List.set_cons_zero, List.set_cons_succ, i64_w, i32_w]
                                rfl
                              refine pure_ (i := 17) (N := some 96) (v := ?_) (a' := ?_) #[true, true, true, true, true, true, true, true, true, true, true, true, true, true, true, true, true, true, false, false] rfl rfl (any_of HT_.out (by kernel_rfl)) (fun _ _ _ h => h) (Or.inl ⟨by rfl, ?_⟩) ?_ ?_
                              rotate_left
                              · intro w'
                                go_simp
                                with_reducible rfl
                              rotate_left
                              · simp only [Act.put, List.setIfInBounds_toArray, List.set_cons_zero, List.set_cons_succ, i64_w, i32_w]
                                rfl
                              refine pure_ (i := 18) (N := some 97) (v := ?_) (a' := ?_) #[true, true, true, true, true, true, true, true, true, true, true, true, true, true, true, true, true, true, true, false] rfl rfl (any_of HT_.out (by kernel_rfl)) (fun _ _ _ h => h) (Or.inl ⟨by rfl, ?_⟩) ?_ ?_
                              rotate_left
                              · intro w'
                                go_simp
                                with_reducible rfl
                              rotate_left
                              · simp only [Act.put, List.setIfInBounds_toArray, List.set_cons_zero, List.set_cons_succ, i64_w, i32_w]
                                rfl
                              refine pure_ (i := 19) (N := some 4) (v := ?_) (a' := ?_) #[true, true, true, true, true, true, true, true, true, true, true, true, true, true, true, true, true, true, true, true] rfl rfl (any_of HT_.out (by kernel_rfl)) (fun _ _ _ h => h) (Or.inl ⟨by rfl, ?_⟩) ?_ ?_
                              rotate_left
                              · intro w'
                                go_simp
                                with_reducible rfl
                              rotate_left
                              · simp only [Act.put, List.setIfInBounds_toArray, List.set_cons_zero, List.set_cons_succ, i64_w, i32_w]
                                rfl
                              refine done_ (done_of HT_.out (by kernel_rfl)) ?_
                              try go_wp2
                              go_ret
                              exact ⟨by first | rfl | (simp [errW_none, errW_some] <;> rfl) | (simp [*, errW_none, errW_some] <;> rfl), by repeat (first | (with_reducible first | exact HB.out | apply below_alloc | apply pw_below_drewN | apply below_drew1 | refine below_set ?_ GE605.out | refine below_set ?_ GE606.out | refine below_set ?_ GE611.out | refine below_set ?_ GE612.out) | exact HB.out)⟩
                            · rw [if_neg c127] at H
                              have c127b0 : (t629 == 0) = false := beq_eq_false_iff_ne.mpr c127
                              have c127b1 : (t629 != 0) = true := bne_iff_ne.mpr c127
                              obtain rfl := Option.some.inj H
                              try go_wp2
                              have n0_ := Aside0.mk (blk_drew BK605.out)
                              have n1_ := Aside0.mk (blk_drew BK606.out)
                              have n2_ := Aside0.mk (blk_drew BK611.out)
                              have n3_ := Aside0.mk (blk_drew BK612.out)
                              have n4_ := Aside0.mk (below_drew1 HB.out)
                              clear BK605
                              clear BK606
                              clear BK611
                              clear BK612
                              clear HB
                              have BK605 := n0_
                              have BK606 := n1_
                              have BK611 := n2_
                              have BK612 := n3_
                              have HB := n4_
                              clear n0_ n1_ n2_ n3_ n4_
                              refine start_ (n := 20) (S := fun w' => w'.cell? ⟨gb605, 0, none⟩ = some (.int .i64 t601) ∧ w'.cell? ⟨gb605, 1, none⟩ = some (.int .i64 t602) ∧ w'.cell? ⟨gb606, 0, none⟩ = some (.int .i64 t603) ∧ w'.cell? ⟨gb606, 1, none⟩ = some (.int .i64 t604)) (ds := []) #[false, false, false, false, false, false, false, false, false, false, false, false, false, false, false, false, false, false, false, false] (by kernel_rfl) rfl rfl ⟨(blk_cell BK605.out 0).trans rfl, (blk_cell BK605.out 1).trans rfl, (blk_cell BK606.out 0).trans rfl, (blk_cell BK606.out 1).trans rfl⟩ (fun hHeld => ?_); refine with_tabW laws_FnDecCmp.tab12 laws_FnDecCmp.bits12 (fun HT_ HW_ => ?_)
                              generalize wc.drew = w135 at BK605 BK606 BK611 BK612 HB hHeld ⊢
                              refine pure_ (i := 0) (N := some 79) (v := ?_) (a' := ?_) #[true, false, false, false, false, false, false, false, false, false, false, false, false, false, false, false, false, false, false, false] rfl rfl (any_of HT_.out (by kernel_rfl)) (fun _ _ _ h => h) (Or.inl ⟨by rfl, ?_⟩) ?_ ?_
                              rotate_left
                              · intro w'
                                go_simp
                                with_reducible rfl
                              rotate_left
                              · simp only [Act.put, List.setIfInBounds_toArray, List.set_cons_zero, List.set_cons_succ, i64_w, i32_w]
                                rfl
                              refine take_ (i := 1) (N := some 80) (v := ?_) (a' := ?_) #[true, true, false, false, false, false, false, false, false, false, false, false, false, false, false, false, false, false, false, false] rfl rfl (take_ofW HT_.out HW_.out (by kernel_rfl)) (fun _ _ _ h => h) (Or.inl ⟨by rfl, ?_⟩) hHeld ?_ ?_
                              rotate_left
                              · rintro w' ⟨s0, s1, s2, s3⟩
                                go_simp
                                with_reducible rfl
                              rotate_left
                              · simp only [Act.put, List.setIfInBounds_toArray, List.set_cons_zero, List.set_cons_succ, i64_w, i32_w]
                                rfl
                              refine take_ (i := 3) (N := some 82) (v := ?_) (a' := ?_) #[true, true, false, true, false, false, false, false, false, false, false, false, false, false, false, false, false, false, false, false] rfl rfl (take_ofW HT_.out HW_.out (by kernel_rfl)) (fun _ _ _ h => h) (Or.inl ⟨by rfl, ?_⟩) hHeld ?_ ?_
                              rotate_left
                              · rintro w' ⟨s0, s1, s2, s3⟩
                                go_simp
                                with_reducible rfl
                              rotate_left
                              · simp only [Act.put, List.setIfInBounds_toArray, List.set_cons_zero, List.set_cons_succ, i64_w, i32_w]
                                rfl
                              refine one_ (i := 2) (N := some 81) #[true, true, true, true, false, false, false, false, false, false, false, false, false, false, false, false, false, false, false, false] rfl rfl (one_of HT_.out (by kernel_rfl)) (by decide) (fun K hK => ?_)
                              refine goes_ Try.func17 (by kernel_rfl) rfl #[.agg #[.int .i64 t601, .int .i64 t602], .int .i64 3] (by rfl) rfl rfl (by (try simp only [List.map_toArray, List.map_cons, List.map_nil]); first | done | rfl | (simp only [List.length_drop, List.length_take]; rfl)) ?_
                              with_reducible refine (impl_DecAt.calls kj95 t601 t602 3 t624 t625 _ A122.out).mono ?_
                              rintro e w136 ⟨rfl, hb⟩
                              refine ⟨_, rfl, ?_⟩
                              have n0_ := Aside0.mk (blk_below (g := gb605) (o := .cells #[.int .i64 t601, .int .i64 t602] 24 (0, 0)) (by (with_reducible repeat (first | refine blk_drewN ?_ _ | refine blk_drew ?_ | refine blk_alloc ?_ _)); exact BK605.out) hb)
                              have n1_ := Aside0.mk (blk_below (g := gb606) (o := .cells #[.int .i64 t603, .int .i64 t604] 24 (0, 0)) (by (with_reducible repeat (first | refine blk_drewN ?_ _ | refine blk_drew ?_ | refine blk_alloc ?_ _)); exact BK606.out) hb)
                              have n2_ := Aside0.mk (blk_below (g := gb611) (o := .cells #[.int .i64 t607, .int .i64 t608] 24 (0, 0)) (by (with_reducible repeat (first | refine blk_drewN ?_ _ | refine blk_drew ?_ | refine blk_alloc ?_ _)); exact BK611.out) hb)
                              have n3_ := Aside0.mk (blk_below (g := gb612) (o := .cells #[.int .i64 t609, .int .i64 t610] 24 (0, 0)) (by (with_reducible repeat (first | refine blk_drewN ?_ _ | refine blk_drew ?_ | refine blk_alloc ?_ _)); exact BK612.out) hb)
                              have n4_ := Aside0.mk (below_step (by repeat (first | (with_reducible first | exact HB.out | apply below_alloc | apply pw_below_drewN | apply below_drew1 | refine below_set ?_ GE605.out | refine below_set ?_ GE606.out | refine below_set ?_ GE611.out | refine below_set ?_ GE612.out) | exact HB.out)) hb)
                              clear BK605
                              clear BK606
                              clear BK611
                              clear BK612
                              clear HB
                              have BK605 := n0_
                              have BK606 := n1_
                              have BK611 := n2_
                              have BK612 := n3_
                              have HB := n4_
                              clear n0_ n1_ n2_ n3_ n4_
                              (try clear hb)
                              (try clear hb2)
                              (try clear hk)
                              (try clear hi)
                              refine hK.out _ _ ⟨(blk_cell BK605.out 0).trans rfl, (blk_cell BK605.out 1).trans rfl, (blk_cell BK606.out 0).trans rfl, (blk_cell BK606.out 1).trans rfl⟩ (fun hHeld => ?_)
                              clear hK K
                              refine norm_ (a' := ?_) ?_ ?_
                              rotate_left
                              · show Act.put _ (some 81) _ = _
                                simp only [Act.put, List.setIfInBounds_toArray, List.set_cons_zero, List.set_cons_succ, i64_w, i32_w]
                                rfl
                              refine one_ (i := 4) (N := some 83) #[true, true, true, true, true, false, false, false, false, false, false, false, false, false, false, false, false, false, false, false] rfl rfl (one_of HT_.out (by kernel_rfl)) (by decide) (fun K hK => ?_)
                              refine goes_ Try.func17 (by kernel_rfl) rfl #[.agg #[.int .i64 t603, .int .i64 t604], .int .i64 3] (by rfl) rfl rfl (by (try simp only [List.map_toArray, List.map_cons, List.map_nil]); first | done | rfl | (simp only [List.length_drop, List.length_take]; rfl)) ?_
                              with_reducible refine (impl_DecAt.calls kj95 t603 t604 3 t626 t627 _ A123.out).mono ?_
                              rintro e w137 ⟨rfl, hb⟩
                              refine ⟨_, rfl, ?_⟩
                              have n0_ := Aside0.mk (blk_below (g := gb605) (o := .cells #[.int .i64 t601, .int .i64 t602] 24 (0, 0)) (by (with_reducible repeat (first | refine blk_drewN ?_ _ | refine blk_drew ?_ | refine blk_alloc ?_ _)); exact BK605.out) hb)
                              have n1_ := Aside0.mk (blk_below (g := gb606) (o := .cells #[.int .i64 t603, .int .i64 t604] 24 (0, 0)) (by (with_reducible repeat (first | refine blk_drewN ?_ _ | refine blk_drew ?_ | refine blk_alloc ?_ _)); exact BK606.out) hb)
                              have n2_ := Aside0.mk (blk_below (g := gb611) (o := .cells #[.int .i64 t607, .int .i64 t608] 24 (0, 0)) (by (with_reducible repeat (first | refine blk_drewN ?_ _ | refine blk_drew ?_ | refine blk_alloc ?_ _)); exact BK611.out) hb)
                              have n3_ := Aside0.mk (blk_below (g := gb612) (o := .cells #[.int .i64 t609, .int .i64 t610] 24 (0, 0)) (by (with_reducible repeat (first | refine blk_drewN ?_ _ | refine blk_drew ?_ | refine blk_alloc ?_ _)); exact BK612.out) hb)
                              have n4_ := Aside0.mk (below_step (by repeat (first | (with_reducible first | exact HB.out | apply below_alloc | apply pw_below_drewN | apply below_drew1 | refine below_set ?_ GE605.out | refine below_set ?_ GE606.out | refine below_set ?_ GE611.out | refine below_set ?_ GE612.out) | exact HB.out)) hb)
                              clear BK605
                              clear BK606
                              clear BK611
                              clear BK612
                              clear HB
                              have BK605 := n0_
                              have BK606 := n1_
                              have BK611 := n2_
                              have BK612 := n3_
                              have HB := n4_
                              clear n0_ n1_ n2_ n3_ n4_
                              (try clear hb)
                              (try clear hb2)
                              (try clear hk)
                              (try clear hi)
                              refine hK.out _ _ ⟨(blk_cell BK605.out 0).trans rfl, (blk_cell BK605.out 1).trans rfl, (blk_cell BK606.out 0).trans rfl, (blk_cell BK606.out 1).trans rfl⟩ (fun hHeld => ?_)
                              clear hK K
                              refine norm_ (a' := ?_) ?_ ?_
                              rotate_left
                              · show Act.put _ (some 83) _ = _
                                simp only [Act.put, List.setIfInBounds_toArray, List.set_cons_zero, List.set_cons_succ, i64_w, i32_w]
                                rfl
                              refine one_ (i := 5) (N := some 84) #[true, true, true, true, true, true, false, false, false, false, false, false, false, false, false, false, false, false, false, false] rfl rfl (one_of HT_.out (by kernel_rfl)) (by decide) (fun K hK => ?_)
                              refine goes_ Try.func26 (by kernel_rfl) rfl #[.agg #[.int .i64 t624, .int .i64 t625], .agg #[.int .i64 t626, .int .i64 t627]] (by rfl) rfl rfl (by (try simp only [List.map_toArray, List.map_cons, List.map_nil]); first | done | rfl | (simp only [List.length_drop, List.length_take]; rfl)) ?_
                              with_reducible refine (impl_DecCmp.calls kj95 t624 t625 t626 t627 t628 _ A124.out).mono ?_
                              rintro e w138 ⟨rfl, hb⟩
                              refine ⟨_, rfl, ?_⟩
                              have n0_ := Aside0.mk (blk_below (g := gb605) (o := .cells #[.int .i64 t601, .int .i64 t602] 24 (0, 0)) (by (with_reducible repeat (first | refine blk_drewN ?_ _ | refine blk_drew ?_ | refine blk_alloc ?_ _)); exact BK605.out) hb)
                              have n1_ := Aside0.mk (blk_below (g := gb606) (o := .cells #[.int .i64 t603, .int .i64 t604] 24 (0, 0)) (by (with_reducible repeat (first | refine blk_drewN ?_ _ | refine blk_drew ?_ | refine blk_alloc ?_ _)); exact BK606.out) hb)
                              have n2_ := Aside0.mk (blk_below (g := gb611) (o := .cells #[.int .i64 t607, .int .i64 t608] 24 (0, 0)) (by (with_reducible repeat (first | refine blk_drewN ?_ _ | refine blk_drew ?_ | refine blk_alloc ?_ _)); exact BK611.out) hb)
                              have n3_ := Aside0.mk (blk_below (g := gb612) (o := .cells #[.int .i64 t609, .int .i64 t610] 24 (0, 0)) (by (with_reducible repeat (first | refine blk_drewN ?_ _ | refine blk_drew ?_ | refine blk_alloc ?_ _)); exact BK612.out) hb)
                              have n4_ := Aside0.mk (below_step (by repeat (first | (with_reducible first | exact HB.out | apply below_alloc | apply pw_below_drewN | apply below_drew1 | refine below_set ?_ GE605.out | refine below_set ?_ GE606.out | refine below_set ?_ GE611.out | refine below_set ?_ GE612.out) | exact HB.out)) hb)
                              clear BK605
                              clear BK606
                              clear BK611
                              clear BK612
                              clear HB
                              have BK605 := n0_
                              have BK606 := n1_
                              have BK611 := n2_
                              have BK612 := n3_
                              have HB := n4_
                              clear n0_ n1_ n2_ n3_ n4_
                              (try clear hb)
                              (try clear hb2)
                              (try clear hk)
                              (try clear hi)
                              refine hK.out _ _ ⟨(blk_cell BK605.out 0).trans rfl, (blk_cell BK605.out 1).trans rfl, (blk_cell BK606.out 0).trans rfl, (blk_cell BK606.out 1).trans rfl⟩ (fun hHeld => ?_)
                              clear hK K
                              refine norm_ (a' := ?_) ?_ ?_
                              rotate_left
                              · show Act.put _ (some 84) _ = _
                                simp only [Act.put, List.setIfInBounds_toArray, List.set_cons_zero, List.set_cons_succ, i64_w, i32_w]
                                rfl
                              refine pure_ (i := 6) (N := some 85) (v := ?_) (a' := ?_) #[true, true, true, true, true, true, true, false, false, false, false, false, false, false, false, false, false, false, false, false] rfl rfl (any_of HT_.out (by kernel_rfl)) (fun _ _ _ h => h) (Or.inl ⟨by rfl, ?_⟩) ?_ ?_
                              rotate_left
                              · intro w'
                                go_simp
                                with_reducible rfl
                              rotate_left
                              · simp only [Act.put, List.setIfInBounds_toArray, List.set_cons_zero, List.set_cons_succ, i64_w, i32_w]
                                rfl
                              refine pure_ (i := 7) (N := some 86) (v := ?_) (a' := ?_) #[true, true, true, true, true, true, true, true, false, false, false, false, false, false, false, false, false, false, false, false] rfl rfl (any_of HT_.out (by kernel_rfl)) (fun _ _ _ h => h) (Or.inl ⟨by rfl, ?_⟩) ?_ ?_
                              rotate_left
                              · intro w'
                                go_simp
                                with_reducible rfl
                              rotate_left
                              · simp only [Act.put, List.setIfInBounds_toArray, List.set_cons_zero, List.set_cons_succ, i64_w, i32_w]
                                rfl
                              refine take_ (i := 8) (N := some 87) (v := ?_) (a' := ?_) #[true, true, true, true, true, true, true, true, true, false, false, false, false, false, false, false, false, false, false, false] rfl rfl (take_ofW HT_.out HW_.out (by kernel_rfl)) (fun _ _ _ h => h) (Or.inl ⟨by rfl, ?_⟩) hHeld ?_ ?_
                              rotate_left
                              · rintro w' ⟨s0, s1, s2, s3⟩
                                go_simp
                                with_reducible rfl
                              rotate_left
                              · simp only [Act.put, List.setIfInBounds_toArray, List.set_cons_zero, List.set_cons_succ, i64_w, i32_w]
                                rfl
                              refine take_ (i := 9) (N := some 88) (v := ?_) (a' := ?_) #[true, true, true, true, true, true, true, true, true, true, false, false, false, false, false, false, false, false, false, false] rfl rfl (take_ofW HT_.out HW_.out (by kernel_rfl)) (fun _ _ _ h => h) (Or.inl ⟨by rfl, ?_⟩) hHeld ?_ ?_
                              rotate_left
                              · rintro w' ⟨s0, s1, s2, s3⟩
                                go_simp
                                with_reducible rfl
                              rotate_left
                              · simp only [Act.put, List.setIfInBounds_toArray, List.set_cons_zero, List.set_cons_succ, i64_w, i32_w]
                                rfl
                              refine one_ (i := 10) (N := some 89) #[true, true, true, true, true, true, true, true, true, true, true, false, false, false, false, false, false, false, false, false] rfl rfl (one_of HT_.out (by kernel_rfl)) (by decide) (fun K hK => ?_)
                              refine goes_ Try.func26 (by kernel_rfl) rfl #[.agg #[.int .i64 t601, .int .i64 t602], .agg #[.int .i64 t601, .int .i64 t602]] (by rfl) rfl rfl (by (try simp only [List.map_toArray, List.map_cons, List.map_nil]); first | done | rfl | (simp only [List.length_drop, List.length_take]; rfl)) ?_
                              with_reducible refine (impl_DecCmp.calls kj95 t601 t602 t601 t602 t629 _ A126.out).mono ?_
                              rintro e w139 ⟨rfl, hb⟩
                              refine ⟨_, rfl, ?_⟩
                              have n0_ := Aside0.mk (blk_below (g := gb605) (o := .cells #[.int .i64 t601, .int .i64 t602] 24 (0, 0)) (by (with_reducible repeat (first | refine blk_drewN ?_ _ | refine blk_drew ?_ | refine blk_alloc ?_ _)); exact BK605.out) hb)
                              have n1_ := Aside0.mk (blk_below (g := gb606) (o := .cells #[.int .i64 t603, .int .i64 t604] 24 (0, 0)) (by (with_reducible repeat (first | refine blk_drewN ?_ _ | refine blk_drew ?_ | refine blk_alloc ?_ _)); exact BK606.out) hb)
                              have n2_ := Aside0.mk (blk_below (g := gb611) (o := .cells #[.int .i64 t607, .int .i64 t608] 24 (0, 0)) (by (with_reducible repeat (first | refine blk_drewN ?_ _ | refine blk_drew ?_ | refine blk_alloc ?_ _)); exact BK611.out) hb)
                              have n3_ := Aside0.mk (blk_below (g := gb612) (o := .cells #[.int .i64 t609, .int .i64 t610] 24 (0, 0)) (by (with_reducible repeat (first | refine blk_drewN ?_ _ | refine blk_drew ?_ | refine blk_alloc ?_ _)); exact BK612.out) hb)
                              have n4_ := Aside0.mk (below_step (by repeat (first | (with_reducible first | exact HB.out | apply below_alloc | apply pw_below_drewN | apply below_drew1 | refine below_set ?_ GE605.out | refine below_set ?_ GE606.out | refine below_set ?_ GE611.out | refine below_set ?_ GE612.out) | exact HB.out)) hb)
                              clear BK605
                              clear BK606
                              clear BK611
                              clear BK612
                              clear HB
                              have BK605 := n0_
                              have BK606 := n1_
                              have BK611 := n2_
                              have BK612 := n3_
                              have HB := n4_
                              clear n0_ n1_ n2_ n3_ n4_
                              (try clear hb)
                              (try clear hb2)
                              (try clear hk)
                              (try clear hi)
                              refine hK.out _ _ ⟨(blk_cell BK605.out 0).trans rfl, (blk_cell BK605.out 1).trans rfl, (blk_cell BK606.out 0).trans rfl, (blk_cell BK606.out 1).trans rfl⟩ (fun hHeld => ?_)
                              clear hK K
                              refine norm_ (a' := ?_) ?_ ?_
                              rotate_left
                              · show Act.put _ (some 89) _ = _
                                simp only [Act.put, List.setIfInBounds_toArray, List.set_cons_zero, List.set_cons_succ, i64_w, i32_w]
                                rfl
                              refine pure_ (i := 11) (N := some 90) (v := ?_) (a' := ?_) #[true, true, true, true, true, true, true, true, true, true, true, true, false, false, false, false, false, false, false, false] rfl rfl (any_of HT_.out (by kernel_rfl)) (fun _ _ _ h => h) (Or.inl ⟨by rfl, ?_⟩) ?_ ?_
                              rotate_left
                              · intro w'
                                go_simp
                                with_reducible rfl
                              rotate_left
                              · simp only [Act.put, List.setIfInBounds_toArray, List.set_cons_zero, List.set_cons_succ, i64_w, i32_w]
                                rfl
                              refine pure_ (i := 12) (N := some 91) (v := ?_) (a' := ?_) #[true, true, true, true, true, true, true, true, true, true, true, true, true, false, false, false, false, false, false, false] rfl rfl (any_of HT_.out (by kernel_rfl)) (fun _ _ _ h => h) (Or.inl ⟨by rfl, ?_⟩) ?_ ?_
                              rotate_left
                              · intro w'
                                go_simp
                                with_reducible rfl
                              rotate_left
                              · simp only [Act.put, List.setIfInBounds_toArray, List.set_cons_zero, List.set_cons_succ, i64_w, i32_w]
                                rfl
                              refine pure_ (i := 13) (N := some 92) (v := ?_) (a' := ?_) #[true, true, true, true, true, true, true, true, true, true, true, true, true, true, false, false, false, false, false, false] rfl rfl (any_of HT_.out (by kernel_rfl)) (fun _ _ _ h => h) (Or.inl ⟨by rfl, ?_⟩) ?_ ?_
                              rotate_left
                              · intro w'
                                go_simp
                                with_reducible rfl
                              rotate_left
                              · simp only [Act.put, List.setIfInBounds_toArray, List.set_cons_zero, List.set_cons_succ, i64_w, i32_w]
                                rfl
                              refine pure_ (i := 14) (N := some 93) (v := undef) (a' := ?_) #[true, true, true, true, true, true, true, true, true, true, true, true, true, true, true, false, false, false, false, false] rfl rfl (any_of HT_.out (by kernel_rfl)) (fun _ _ _ h => h) (Or.inr ⟨by rfl, rfl⟩) ?_ ?_
                              rotate_left
                              · simp only [Act.put, List.setIfInBounds_toArray, List.set_cons_zero, List.set_cons_succ, i64_w, i32_w]
                                rfl
                              refine pure_ (i := 15) (N := some 94) (v := undef) (a' := ?_) #[true, true, true, true, true, true, true, true, true, true, true, true, true, true, true, true, false, false, false, false] rfl rfl (any_of HT_.out (by kernel_rfl)) (fun _ _ _ h => h) (Or.inr ⟨by rfl, rfl⟩) ?_ ?_
                              rotate_left
                              · simp only [Act.put, List.setIfInBounds_toArray, List.set_cons_zero, List.set_cons_succ, i64_w, i32_w]
                                rfl
                              refine pure_ (i := 16) (N := some 95) (v := undef) (a' := ?_) #[true, true, true, true, true, true, true, true, true, true, true, true, true, true, true, true, true, false, false, false] rfl rfl (any_of HT_.out (by kernel_rfl)) (fun _ _ _ h => h) (Or.inr ⟨by rfl, rfl⟩) ?_ ?_
                              rotate_left
                              · simp only [Act.put, List.setIfInBounds_toArray, List.set_cons_zero, List.set_cons_succ, i64_w, i32_w]
                                rfl
                              refine pure_ (i := 17) (N := some 96) (v := undef) (a' := ?_) #[true, true, true, true, true, true, true, true, true, true, true, true, true, true, true, true, true, true, false, false] rfl rfl (any_of HT_.out (by kernel_rfl)) (fun _ _ _ h => h) (Or.inr ⟨by rfl, rfl⟩) ?_ ?_
                              rotate_left
                              · simp only [Act.put, List.setIfInBounds_toArray, List.set_cons_zero, List.set_cons_succ, i64_w, i32_w]
                                rfl
                              refine pure_ (i := 18) (N := some 97) (v := ?_) (a' := ?_) #[true, true, true, true, true, true, true, true, true, true, true, true, true, true, true, true, true, true, true, false] rfl rfl (any_of HT_.out (by kernel_rfl)) (fun _ _ _ h => h) (Or.inl ⟨by rfl, ?_⟩) ?_ ?_
                              rotate_left
                              · intro w'
                                go_simp
                                with_reducible rfl
                              rotate_left
                              · simp only [Act.put, List.setIfInBounds_toArray, List.set_cons_zero, List.set_cons_succ, i64_w, i32_w]
                                rfl
                              refine pure_ (i := 19) (N := some 4) (v := ?_) (a' := ?_) #[true, true, true, true, true, true, true, true, true, true, true, true, true, true, true, true, true, true, true, true] rfl rfl (any_of HT_.out (by kernel_rfl)) (fun _ _ _ h => h) (Or.inl ⟨by rfl, ?_⟩) ?_ ?_
                              rotate_left
                              · intro w'
                                go_simp
                                with_reducible rfl
                              rotate_left
                              · simp only [Act.put, List.setIfInBounds_toArray, List.set_cons_zero, List.set_cons_succ, i64_w, i32_w]
                                rfl
                              refine done_ (done_of HT_.out (by kernel_rfl)) ?_
                              try go_wp2
                              go_ret
                              exact ⟨by first | rfl | (simp [errW_none, errW_some] <;> rfl) | (simp [*, errW_none, errW_some] <;> rfl), by repeat (first | (with_reducible first | exact HB.out | apply below_alloc | apply pw_below_drewN | apply below_drew1 | refine below_set ?_ GE605.out | refine below_set ?_ GE606.out | refine below_set ?_ GE611.out | refine below_set ?_ GE612.out) | exact HB.out)⟩
                          · rw [if_neg c125] at H
                            have c125b0 : (t613 == t628) = false := beq_eq_false_iff_ne.mpr c125
                            have c125b1 : (t613 != t628) = true := bne_iff_ne.mpr c125
                            obtain rfl := Option.some.inj H
                            try go_wp2
                            have n0_ := Aside0.mk (blk_drew BK605.out)
                            have n1_ := Aside0.mk (blk_drew BK606.out)
                            have n2_ := Aside0.mk (blk_drew BK611.out)
                            have n3_ := Aside0.mk (blk_drew BK612.out)
                            have n4_ := Aside0.mk (below_drew1 HB.out)
                            clear BK605
                            clear BK606
                            clear BK611
                            clear BK612
                            clear HB
                            have BK605 := n0_
                            have BK606 := n1_
                            have BK611 := n2_
                            have BK612 := n3_
                            have HB := n4_
                            clear n0_ n1_ n2_ n3_ n4_
                            refine start_ (n := 20) (S := fun w' => w'.cell? ⟨gb605, 0, none⟩ = some (.int .i64 t601) ∧ w'.cell? ⟨gb605, 1, none⟩ = some (.int .i64 t602) ∧ w'.cell? ⟨gb606, 0, none⟩ = some (.int .i64 t603) ∧ w'.cell? ⟨gb606, 1, none⟩ = some (.int .i64 t604)) (ds := []) #[false, false, false, false, false, false, false, false, false, false, false, false, false, false, false, false, false, false, false, false] (by kernel_rfl) rfl rfl ⟨(blk_cell BK605.out 0).trans rfl, (blk_cell BK605.out 1).trans rfl, (blk_cell BK606.out 0).trans rfl, (blk_cell BK606.out 1).trans rfl⟩ (fun hHeld => ?_); refine with_tabW laws_FnDecCmp.tab12 laws_FnDecCmp.bits12 (fun HT_ HW_ => ?_)
                            generalize wc.drew = w140 at BK605 BK606 BK611 BK612 HB hHeld ⊢
                            refine pure_ (i := 0) (N := some 79) (v := ?_) (a' := ?_) #[true, false, false, false, false, false, false, false, false, false, false, false, false, false, false, false, false, false, false, false] rfl rfl (any_of HT_.out (by kernel_rfl)) (fun _ _ _ h => h) (Or.inl ⟨by rfl, ?_⟩) ?_ ?_
                            rotate_left
                            · intro w'
                              go_simp
                              with_reducible rfl
                            rotate_left
                            · simp only [Act.put, List.setIfInBounds_toArray, List.set_cons_zero, List.set_cons_succ, i64_w, i32_w]
                              rfl
                            refine take_ (i := 1) (N := some 80) (v := ?_) (a' := ?_) #[true, true, false, false, false, false, false, false, false, false, false, false, false, false, false, false, false, false, false, false] rfl rfl (take_ofW HT_.out HW_.out (by kernel_rfl)) (fun _ _ _ h => h) (Or.inl ⟨by rfl, ?_⟩) hHeld ?_ ?_
                            rotate_left
                            · rintro w' ⟨s0, s1, s2, s3⟩
                              go_simp
                              with_reducible rfl
                            rotate_left
                            · simp only [Act.put, List.setIfInBounds_toArray, List.set_cons_zero, List.set_cons_succ, i64_w, i32_w]
                              rfl
                            refine take_ (i := 3) (N := some 82) (v := ?_) (a' := ?_) #[true, true, false, true, false, false, false, false, false, false, false, false, false, false, false, false, false, false, false, false] rfl rfl (take_ofW HT_.out HW_.out (by kernel_rfl)) (fun _ _ _ h => h) (Or.inl ⟨by rfl, ?_⟩) hHeld ?_ ?_
                            rotate_left
                            · rintro w' ⟨s0, s1, s2, s3⟩
                              go_simp
                              with_reducible rfl
                            rotate_left
                            · simp only [Act.put, List.setIfInBounds_toArray, List.set_cons_zero, List.set_cons_succ, i64_w, i32_w]
                              rfl
                            refine one_ (i := 2) (N := some 81) #[true, true, true, true, false, false, false, false, false, false, false, false, false, false, false, false, false, false, false, false] rfl rfl (one_of HT_.out (by kernel_rfl)) (by decide) (fun K hK => ?_)
                            refine goes_ Try.func17 (by kernel_rfl) rfl #[.agg #[.int .i64 t601, .int .i64 t602], .int .i64 3] (by rfl) rfl rfl (by (try simp only [List.map_toArray, List.map_cons, List.map_nil]); first | done | rfl | (simp only [List.length_drop, List.length_take]; rfl)) ?_
                            with_reducible refine (impl_DecAt.calls kj95 t601 t602 3 t624 t625 _ A122.out).mono ?_
                            rintro e w141 ⟨rfl, hb⟩
                            refine ⟨_, rfl, ?_⟩
                            have n0_ := Aside0.mk (blk_below (g := gb605) (o := .cells #[.int .i64 t601, .int .i64 t602] 24 (0, 0)) (by (with_reducible repeat (first | refine blk_drewN ?_ _ | refine blk_drew ?_ | refine blk_alloc ?_ _)); exact BK605.out) hb)
                            have n1_ := Aside0.mk (blk_below (g := gb606) (o := .cells #[.int .i64 t603, .int .i64 t604] 24 (0, 0)) (by (with_reducible repeat (first | refine blk_drewN ?_ _ | refine blk_drew ?_ | refine blk_alloc ?_ _)); exact BK606.out) hb)
                            have n2_ := Aside0.mk (blk_below (g := gb611) (o := .cells #[.int .i64 t607, .int .i64 t608] 24 (0, 0)) (by (with_reducible repeat (first | refine blk_drewN ?_ _ | refine blk_drew ?_ | refine blk_alloc ?_ _)); exact BK611.out) hb)
                            have n3_ := Aside0.mk (blk_below (g := gb612) (o := .cells #[.int .i64 t609, .int .i64 t610] 24 (0, 0)) (by (with_reducible repeat (first | refine blk_drewN ?_ _ | refine blk_drew ?_ | refine blk_alloc ?_ _)); exact BK612.out) hb)
                            have n4_ := Aside0.mk (below_step (by repeat (first | (with_reducible first | exact HB.out | apply below_alloc | apply pw_below_drewN | apply below_drew1 | refine below_set ?_ GE605.out | refine below_set ?_ GE606.out | refine below_set ?_ GE611.out | refine below_set ?_ GE612.out) | exact HB.out)) hb)
                            clear BK605
                            clear BK606
                            clear BK611
                            clear BK612
                            clear HB
                            have BK605 := n0_
                            have BK606 := n1_
                            have BK611 := n2_
                            have BK612 := n3_
                            have HB := n4_
                            clear n0_ n1_ n2_ n3_ n4_
                            (try clear hb)
                            (try clear hb2)
                            (try clear hk)
                            (try clear hi)
                            refine hK.out _ _ ⟨(blk_cell BK605.out 0).trans rfl, (blk_cell BK605.out 1).trans rfl, (blk_cell BK606.out 0).trans rfl, (blk_cell BK606.out 1).trans rfl⟩ (fun hHeld => ?_)
                            clear hK K
                            refine norm_ (a' := ?_) ?_ ?_
                            rotate_left
                            · show Act.put _ (some 81) _ = _
                              simp only [Act.put, List.setIfInBounds_toArray, List.set_cons_zero, List.set_cons_succ, i64_w, i32_w]
                              rfl
                            refine one_ (i := 4) (N := some 83) #[true, true, true, true, true, false, false, false, false, false, false, false, false, false, false, false, false, false, false, false] rfl rfl (one_of HT_.out (by kernel_rfl)) (by decide) (fun K hK => ?_)
                            refine goes_ Try.func17 (by kernel_rfl) rfl #[.agg #[.int .i64 t603, .int .i64 t604], .int .i64 3] (by rfl) rfl rfl (by (try simp only [List.map_toArray, List.map_cons, List.map_nil]); first | done | rfl | (simp only [List.length_drop, List.length_take]; rfl)) ?_
                            with_reducible refine (impl_DecAt.calls kj95 t603 t604 3 t626 t627 _ A123.out).mono ?_
                            rintro e w142 ⟨rfl, hb⟩
                            refine ⟨_, rfl, ?_⟩
                            have n0_ := Aside0.mk (blk_below (g := gb605) (o := .cells #[.int .i64 t601, .int .i64 t602] 24 (0, 0)) (by (with_reducible repeat (first | refine blk_drewN ?_ _ | refine blk_drew ?_ | refine blk_alloc ?_ _)); exact BK605.out) hb)
                            have n1_ := Aside0.mk (blk_below (g := gb606) (o := .cells #[.int .i64 t603, .int .i64 t604] 24 (0, 0)) (by (with_reducible repeat (first | refine blk_drewN ?_ _ | refine blk_drew ?_ | refine blk_alloc ?_ _)); exact BK606.out) hb)
                            have n2_ := Aside0.mk (blk_below (g := gb611) (o := .cells #[.int .i64 t607, .int .i64 t608] 24 (0, 0)) (by (with_reducible repeat (first | refine blk_drewN ?_ _ | refine blk_drew ?_ | refine blk_alloc ?_ _)); exact BK611.out) hb)
                            have n3_ := Aside0.mk (blk_below (g := gb612) (o := .cells #[.int .i64 t609, .int .i64 t610] 24 (0, 0)) (by (with_reducible repeat (first | refine blk_drewN ?_ _ | refine blk_drew ?_ | refine blk_alloc ?_ _)); exact BK612.out) hb)
                            have n4_ := Aside0.mk (below_step (by repeat (first | (with_reducible first | exact HB.out | apply below_alloc | apply pw_below_drewN | apply below_drew1 | refine below_set ?_ GE605.out | refine below_set ?_ GE606.out | refine below_set ?_ GE611.out | refine below_set ?_ GE612.out) | exact HB.out)) hb)
                            clear BK605
                            clear BK606
                            clear BK611
                            clear BK612
                            clear HB
                            have BK605 := n0_
                            have BK606 := n1_
                            have BK611 := n2_
                            have BK612 := n3_
                            have HB := n4_
                            clear n0_ n1_ n2_ n3_ n4_
                            (try clear hb)
                            (try clear hb2)
                            (try clear hk)
                            (try clear hi)
                            refine hK.out _ _ ⟨(blk_cell BK605.out 0).trans rfl, (blk_cell BK605.out 1).trans rfl, (blk_cell BK606.out 0).trans rfl, (blk_cell BK606.out 1).trans rfl⟩ (fun hHeld => ?_)
                            clear hK K
                            refine norm_ (a' := ?_) ?_ ?_
                            rotate_left
                            · show Act.put _ (some 83) _ = _
                              simp only [Act.put, List.setIfInBounds_toArray, List.set_cons_zero, List.set_cons_succ, i64_w, i32_w]
                              rfl
                            refine one_ (i := 5) (N := some 84) #[true, true, true, true, true, true, false, false, false, false, false, false, false, false, false, false, false, false, false, false] rfl rfl (one_of HT_.out (by kernel_rfl)) (by decide) (fun K hK => ?_)
                            refine goes_ Try.func26 (by kernel_rfl) rfl #[.agg #[.int .i64 t624, .int .i64 t625], .agg #[.int .i64 t626, .int .i64 t627]] (by rfl) rfl rfl (by (try simp only [List.map_toArray, List.map_cons, List.map_nil]); first | done | rfl | (simp only [List.length_drop, List.length_take]; rfl)) ?_
                            with_reducible refine (impl_DecCmp.calls kj95 t624 t625 t626 t627 t628 _ A124.out).mono ?_
                            rintro e w143 ⟨rfl, hb⟩
                            refine ⟨_, rfl, ?_⟩
                            have n0_ := Aside0.mk (blk_below (g := gb605) (o := .cells #[.int .i64 t601, .int .i64 t602] 24 (0, 0)) (by (with_reducible repeat (first | refine blk_drewN ?_ _ | refine blk_drew ?_ | refine blk_alloc ?_ _)); exact BK605.out) hb)
                            have n1_ := Aside0.mk (blk_below (g := gb606) (o := .cells #[.int .i64 t603, .int .i64 t604] 24 (0, 0)) (by (with_reducible repeat (first | refine blk_drewN ?_ _ | refine blk_drew ?_ | refine blk_alloc ?_ _)); exact BK606.out) hb)
                            have n2_ := Aside0.mk (blk_below (g := gb611) (o := .cells #[.int .i64 t607, .int .i64 t608] 24 (0, 0)) (by (with_reducible repeat (first | refine blk_drewN ?_ _ | refine blk_drew ?_ | refine blk_alloc ?_ _)); exact BK611.out) hb)
                            have n3_ := Aside0.mk (blk_below (g := gb612) (o := .cells #[.int .i64 t609, .int .i64 t610] 24 (0, 0)) (by (with_reducible repeat (first | refine blk_drewN ?_ _ | refine blk_drew ?_ | refine blk_alloc ?_ _)); exact BK612.out) hb)
                            have n4_ := Aside0.mk (below_step (by repeat (first | (with_reducible first | exact HB.out | apply below_alloc | apply pw_below_drewN | apply below_drew1 | refine below_set ?_ GE605.out | refine below_set ?_ GE606.out | refine below_set ?_ GE611.out | refine below_set ?_ GE612.out) | exact HB.out)) hb)
                            clear BK605
                            clear BK606
                            clear BK611
                            clear BK612
                            clear HB
                            have BK605 := n0_
                            have BK606 := n1_
                            have BK611 := n2_
                            have BK612 := n3_
                            have HB := n4_
                            clear n0_ n1_ n2_ n3_ n4_
                            (try clear hb)
                            (try clear hb2)
                            (try clear hk)
                            (try clear hi)
                            refine hK.out _ _ ⟨(blk_cell BK605.out 0).trans rfl, (blk_cell BK605.out 1).trans rfl, (blk_cell BK606.out 0).trans rfl, (blk_cell BK606.out 1).trans rfl⟩ (fun hHeld => ?_)
                            clear hK K
                            refine norm_ (a' := ?_) ?_ ?_
                            rotate_left
                            · show Act.put _ (some 84) _ = _
                              simp only [Act.put, List.setIfInBounds_toArray, List.set_cons_zero, List.set_cons_succ, i64_w, i32_w]
                              rfl
                            refine pure_ (i := 6) (N := some 85) (v := ?_) (a' := ?_) #[true, true, true, true, true, true, true, false, false, false, false, false, false, false, false, false, false, false, false, false] rfl rfl (any_of HT_.out (by kernel_rfl)) (fun _ _ _ h => h) (Or.inl ⟨by rfl, ?_⟩) ?_ ?_
                            rotate_left
                            · intro w'
                              go_simp
                              with_reducible rfl
                            rotate_left
                            · simp only [Act.put, List.setIfInBounds_toArray, List.set_cons_zero, List.set_cons_succ, i64_w, i32_w]
                              rfl
                            refine pure_ (i := 7) (N := some 86) (v := ?_) (a' := ?_) #[true, true, true, true, true, true, true, true, false, false, false, false, false, false, false, false, false, false, false, false] rfl rfl (any_of HT_.out (by kernel_rfl)) (fun _ _ _ h => h) (Or.inl ⟨by rfl, ?_⟩) ?_ ?_
                            rotate_left
                            · intro w'
                              go_simp
                              with_reducible rfl
                            rotate_left
                            · simp only [Act.put, List.setIfInBounds_toArray, List.set_cons_zero, List.set_cons_succ, i64_w, i32_w]
                              rfl
                            refine pure_ (i := 8) (N := some 87) (v := undef) (a' := ?_) #[true, true, true, true, true, true, true, true, true, false, false, false, false, false, false, false, false, false, false, false] rfl rfl (any_of HT_.out (by kernel_rfl)) (fun _ _ _ h => h) (Or.inr ⟨by rfl, rfl⟩) ?_ ?_
                            rotate_left
                            · simp only [Act.put, List.setIfInBounds_toArray, List.set_cons_zero, List.set_cons_succ, i64_w, i32_w]
                              rfl
                            refine pure_ (i := 9) (N := some 88) (v := undef) (a' := ?_) #[true, true, true, true, true, true, true, true, true, true, false, false, false, false, false, false, false, false, false, false] rfl rfl (any_of HT_.out (by kernel_rfl)) (fun _ _ _ h => h) (Or.inr ⟨by rfl, rfl⟩) ?_ ?_
                            rotate_left
                            · simp only [Act.put, List.setIfInBounds_toArray, List.set_cons_zero, List.set_cons_succ, i64_w, i32_w]
                              rfl
                            refine pure_ (i := 10) (N := some 89) (v := undef) (a' := ?_) #[true, true, true, true, true, true, true, true, true, true, true, false, false, false, false, false, false, false, false, false] rfl rfl (any_of HT_.out (by kernel_rfl)) (fun _ _ _ h => h) (Or.inr ⟨by rfl, rfl⟩) ?_ ?_
                            rotate_left
                            · simp only [Act.put, List.setIfInBounds_toArray, List.set_cons_zero, List.set_cons_succ, i64_w, i32_w]
                              rfl
                            refine pure_ (i := 11) (N := some 90) (v := undef) (a' := ?_) #[true, true, true, true, true, true, true, true, true, true, true, true, false, false, false, false, false, false, false, false] rfl rfl (any_of HT_.out (by kernel_rfl)) (fun _ _ _ h => h) (Or.inr ⟨by rfl, rfl⟩) ?_ ?_
                            rotate_left
                            · simp only [Act.put, List.setIfInBounds_toArray, List.set_cons_zero, List.set_cons_succ, i64_w, i32_w]
                              rfl
                            refine pure_ (i := 12) (N := some 91) (v := ?_) (a' := ?_) #[true, true, true, true, true, true, true, true, true, true, true, true, true, false, false, false, false, false, false, false] rfl rfl (any_of HT_.out (by kernel_rfl)) (fun _ _ _ h => h) (Or.inl ⟨by rfl, ?_⟩) ?_ ?_
                            rotate_left
                            · intro w'
                              go_simp
                              with_reducible rfl
                            rotate_left
                            · simp only [Act.put, List.setIfInBounds_toArray, List.set_cons_zero, List.set_cons_succ, i64_w, i32_w]
                              rfl
                            refine pure_ (i := 13) (N := some 92) (v := ?_) (a' := ?_) #[true, true, true, true, true, true, true, true, true, true, true, true, true, true, false, false, false, false, false, false] rfl rfl (any_of HT_.out (by kernel_rfl)) (fun _ _ _ h => h) (Or.inl ⟨by rfl, ?_⟩) ?_ ?_
                            rotate_left
                            · intro w'
                              go_simp
                              with_reducible rfl
                            rotate_left
                            · simp only [Act.put, List.setIfInBounds_toArray, List.set_cons_zero, List.set_cons_succ, i64_w, i32_w]
                              rfl
                            refine pure_ (i := 14) (N := some 93) (v := undef) (a' := ?_) #[true, true, true, true, true, true, true, true, true, true, true, true, true, true, true, false, false, false, false, false] rfl rfl (any_of HT_.out (by kernel_rfl)) (fun _ _ _ h => h) (Or.inr ⟨by rfl, rfl⟩) ?_ ?_
                            rotate_left
                            · simp only [Act.put, List.setIfInBounds_toArray, List.set_cons_zero, List.set_cons_succ, i64_w, i32_w]
                              rfl
                            refine pure_ (i := 15) (N := some 94) (v := undef) (a' := ?_) #[true, true, true, true, true, true, true, true, true, true, true, true, true, true, true, true, false, false, false, false] rfl rfl (any_of HT_.out (by kernel_rfl)) (fun _ _ _ h => h) (Or.inr ⟨by rfl, rfl⟩) ?_ ?_
                            rotate_left
                            · simp only [Act.put, List.setIfInBounds_toArray, List.set_cons_zero, List.set_cons_succ, i64_w, i32_w]
                              rfl
                            refine pure_ (i := 16) (N := some 95) (v := undef) (a' := ?_) #[true, true, true, true, true, true, true, true, true, true, true, true, true, true, true, true, true, false, false, false] rfl rfl (any_of HT_.out (by kernel_rfl)) (fun _ _ _ h => h) (Or.inr ⟨by rfl, rfl⟩) ?_ ?_
                            rotate_left
                            · simp only [Act.put, List.setIfInBounds_toArray, List.set_cons_zero, List.set_cons_succ, i64_w, i32_w]
                              rfl
                            refine pure_ (i := 17) (N := some 96) (v := undef) (a' := ?_) #[true, true, true, true, true, true, true, true, true, true, true, true, true, true, true, true, true, true, false, false] rfl rfl (any_of HT_.out (by kernel_rfl)) (fun _ _ _ h => h) (Or.inr ⟨by rfl, rfl⟩) ?_ ?_
                            rotate_left
                            · simp only [Act.put, List.setIfInBounds_toArray, List.set_cons_zero, List.set_cons_succ, i64_w, i32_w]
                              rfl
                            refine pure_ (i := 18) (N := some 97) (v := ?_) (a' := ?_) #[true, true, true, true, true, true, true, true, true, true, true, true, true, true, true, true, true, true, true, false] rfl rfl (any_of HT_.out (by kernel_rfl)) (fun _ _ _ h => h) (Or.inl ⟨by rfl, ?_⟩) ?_ ?_
                            rotate_left
                            · intro w'
                              go_simp
                              with_reducible rfl
                            rotate_left
                            · simp only [Act.put, List.setIfInBounds_toArray, List.set_cons_zero, List.set_cons_succ, i64_w, i32_w]
                              rfl
                            refine pure_ (i := 19) (N := some 4) (v := ?_) (a' := ?_) #[true, true, true, true, true, true, true, true, true, true, true, true, true, true, true, true, true, true, true, true] rfl rfl (any_of HT_.out (by kernel_rfl)) (fun _ _ _ h => h) (Or.inl ⟨by rfl, ?_⟩) ?_ ?_
                            rotate_left
                            · intro w'
                              go_simp
                              with_reducible rfl
                            rotate_left
                            · simp only [Act.put, List.setIfInBounds_toArray, List.set_cons_zero, List.set_cons_succ, i64_w, i32_w]
                              rfl
                            refine done_ (done_of HT_.out (by kernel_rfl)) ?_
                            try go_wp2
                            go_ret
                            exact ⟨by first | rfl | (simp [errW_none, errW_some] <;> rfl) | (simp [*, errW_none, errW_some] <;> rfl), by repeat (first | (with_reducible first | exact HB.out | apply below_alloc | apply pw_below_drewN | apply below_drew1 | refine below_set ?_ GE605.out | refine below_set ?_ GE606.out | refine below_set ?_ GE611.out | refine below_set ?_ GE612.out) | exact HB.out)⟩

/-- THE ONE PURE STATEMENT of laws_FnDecCmp: yours. -/
def laws_FnDecCmp.Pure : Prop := ∀ (l0 : List Int) (l1 : List Int), l0.length ≤ maxLen → l0.length * 1 ≤ 140737488351232 → (∀ x ∈ l0, (Lit.int .u8 x).wf = true) → l1.length ≤ maxLen → l1.length * 1 ≤ 140737488351232 → (∀ x ∈ l1, (Lit.int .u8 x).wf = true) → ∃ k, laws_FnDecCmp.f k l0 l1 = some true
theorem laws_FnDecCmp.walk (P : laws_FnDecCmp.Pure) (a0 : Option Addr) (len0 cap0 : Nat) (z0 : List Int) (a1 : Option Addr) (len1 cap1 : Nat) (z1 : List Int) (w : World) (w0 : (a0 = none ∧ len0 = 0 ∧ cap0 = 0 ∧ z0 = []) ∨ ∃ x, a0 = some x ∧ len0 ≤ cap0 ∧ cap0 ≤ maxLen ∧ z0.length = cap0 ∧ (∀ i, i < z0.length → w.cell? (x.add i) = some (.int .u8 (z0.getD i 0))) ∧ ∀ n ∈ z0, (Lit.int .u8 n).wf = true) (y0 : len0 * 1 ≤ 140737488351232) (w1 : (a1 = none ∧ len1 = 0 ∧ cap1 = 0 ∧ z1 = []) ∨ ∃ x, a1 = some x ∧ len1 ≤ cap1 ∧ cap1 ≤ maxLen ∧ z1.length = cap1 ∧ (∀ i, i < z1.length → w.cell? (x.add i) = some (.int .u8 (z1.getD i 0))) ∧ ∀ n ∈ z1, (Lit.int .u8 n).wf = true) (y1 : len1 * 1 ≤ 140737488351232) :
    Calls Try.prog 12 #[.slice a0 len0 cap0, .slice a1 len1 cap1] w fun e w' => e = .returned (.bool true) ∧ Below w.heap.size w w' := by
  obtain ⟨l0, rfl, hr0, hm0, hw0, hc0⟩ := ReadsInt.ofRowC w0
  obtain ⟨l1, rfl, hr1, hm1, hw1, hc1⟩ := ReadsInt.ofRowC w1
  obtain ⟨k, h⟩ := P l0 l1 hm0 y0 hw0 hm1 y1 hw1
  refine (laws_FnDecCmp.calls k _ _ l0 _ _ l1 true w (Kd.C_of_reads (d := (0 : Int)) (h1 := fun _ => rfl) hr0) hc0 (Kd.C_of_reads (d := (0 : Int)) (h1 := fun _ => rfl) hr1) hc1 h).mono ?_
  rintro e w' ⟨rfl, hd⟩
  exact ⟨rfl, hd⟩

end Go.Proofs.Ytdcdcokofcfkoaa.All
