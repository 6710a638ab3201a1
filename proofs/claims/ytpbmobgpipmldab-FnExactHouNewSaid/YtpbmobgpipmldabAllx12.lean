-- Written by the session's own program wip/allprint.py, which drives the kit's print; Lean checks it.
import Derived.Test.YtpbmobgpipmldabAllx0
import Derived.Test.YtpbmobgpipmldabAllx10
import Derived.Test.YtpbmobgpipmldabAllx11
namespace Go.Proofs.Ytpbmobgpipmldab.All
open Go.RowKit Go.Proofs.YtpbmobgpipmldabW.PrintWords Go.Proofs.YtpbmobgpipmldabW.PrintLast Go.Proofs.YtpbmobgpipmldabW.PrintMore
attribute [local go_sem] max2_int min2_int max_two min_two max_three min_three max_four min_four   -- for this text's walks alone
set_option linter.unusedVariables false
set_option linter.unusedSimpArgs false

/-! ### laws_heldBatBatchS: function 21 -/
def laws_heldBatBatchS.l0 : Nat → List (S50) → Int → Int → Option (Int)
  | 0, _, _, _ => none
  | k + 1, x0, x1, x5 => if x5 < (x0.length : Int) then (if 0 ≤ x5 then (if ((rd_T50 x0 x5).f0) = x1 then (if ((rd_T50 x0 x5).f1) = (wrap64 (x1 + 1)) then ((laws_heldTstTestS.f k ((rd_T50 x0 x5).f2) (wrap64 ((wrap64 (x1 + 1)) + 1))).bind fun t211 => (if t211 < 0 then (some (-1)) else (if ((rd_T50 x0 x5).f3) = t211 then ((laws_heldBatSigS.f k ((rd_T50 x0 x5).f4) (wrap64 (t211 + 1))).bind fun t214 => (if t214 < 0 then (some (-1)) else ((laws_heldBoolS.f k ((rd_T50 x0 x5).f5) t214).bind fun t216 => (if t216 < 0 then (some (-1)) else (laws_heldBatBatchS.l0 k x0 t216 (wrap64 (x5 + 1))))))) else (some (-1))))) else (some (-1))) else (some (-1))) else (none)) else (some x1)
def laws_heldBatBatchS.f (k : Nat) (l0 : List (S50)) (a1 : Int) : Option (Int) := laws_heldBatBatchS.l0 k l0 a1 0
theorem laws_heldBatBatchS.mono_l : ∀ k, (∀ y0 y1 y2, LeO (laws_heldBatBatchS.l0 k y0 y1 y2) (laws_heldBatBatchS.l0 (k + 1) y0 y1 y2))
  | 0 => fun _ _ _ r h => by simp [laws_heldBatBatchS.l0] at h
  | k + 1 => by
    have ih0 := laws_heldBatBatchS.mono_l k
    · intro y0 y1 y2
      unfold laws_heldBatBatchS.l0
      repeat' first
      | (with_reducible exact ih0 _ _ _)
      | (with_reducible exact laws_heldBatSigS.mono _ _ _)
      | (with_reducible exact laws_heldBoolS.mono _ _ _)
      | (with_reducible exact laws_heldTstTestS.mono _ _ _)
      | (with_reducible exact LeO.refl _)
      | (with_reducible exact LeO.none _)
      | (with_reducible refine LeO.ite ?_ ?_)
      | (with_reducible refine LeO.bind ?_ (fun _ => ?_))
      | exact ih0 _ _ _
      | exact laws_heldBatSigS.mono _ _ _
      | exact laws_heldBoolS.mono _ _ _
      | exact laws_heldTstTestS.mono _ _ _
      | exact LeO.none _
      | refine LeO.ite ?_ ?_
      | refine LeO.bind ?_ (fun _ => ?_)
theorem laws_heldBatBatchS.mono : ∀ a0 a1 k, LeO (laws_heldBatBatchS.f k a0 a1) (laws_heldBatBatchS.f (k + 1) a0 a1) := by
  intro a0 a1 k
  have ih0 := laws_heldBatBatchS.mono_l k
  unfold laws_heldBatBatchS.f
  repeat' first
      | (with_reducible exact ih0 _ _ _)
      | (with_reducible exact laws_heldBatSigS.mono _ _ _)
      | (with_reducible exact laws_heldBoolS.mono _ _ _)
      | (with_reducible exact laws_heldTstTestS.mono _ _ _)
      | (with_reducible exact LeO.refl _)
      | (with_reducible exact LeO.none _)
      | (with_reducible refine LeO.ite ?_ ?_)
      | (with_reducible refine LeO.bind ?_ (fun _ => ?_))
      | exact ih0 _ _ _
      | exact laws_heldBatSigS.mono _ _ _
      | exact laws_heldBoolS.mono _ _ _
      | exact laws_heldTstTestS.mono _ _ _
      | exact LeO.none _
      | refine LeO.ite ?_ ?_
      | refine LeO.bind ?_ (fun _ => ?_)
set_option maxHeartbeats 8000000 in
set_option maxRecDepth 100000 in
theorem laws_heldBatBatchS.calls (k : Nat) (A0 : Option Addr) (c0 : Nat) (l0 : List (S50)) (a1 : Int) (r : Int) (w : World) (hr0 : Kd.C k50 w A0 l0.length l0) (hc0 : l0.length ≤ c0) (h : laws_heldBatBatchS.f k l0 a1 = some r) :
    Calls Try.prog 21 #[.slice A0 l0.length c0, .int .i64 a1] w fun e w' => e = .returned (.int .i64 r) ∧ Drawn0 w w' := by
  have HR0 := Aside0.mk hr0
  have HC0 := Aside0.mk hc0
  clear hr0 hc0
  have H : (laws_heldBatBatchS.l0 k l0 a1 0) = some r := h
  clear h
  have H' := Aside0.mk H
  clear H
  go_enter Try.func21, Try.ntmps21
  go_wp2
  go_loopg [1, 5] k (fun kq v1 v5 w' => ∃ (x1_1 : Int) (x5_1 : Int), v1 = .int .i64 x1_1 ∧ v5 = .int .i64 x5_1 ∧ Aside0 (laws_heldBatBatchS.l0 kq l0 x1_1 x5_1 = some r) ∧ Aside0 (kq ≤ k) ∧ Drawn0 w w')
  case atStart => exact ⟨(a1), (0), (by first | rfl | (simp; done) | (simp [*]; done)), (by first | rfl | (simp; done) | (simp [*]; done)), H', ⟨Nat.le_refl _⟩, by repeat (first | exact Drawn0.refl _ | apply Drawn0.step)⟩
  case round =>
    clear H'
    try clear c2
    try clear p2
    obtain ⟨x1_1, x5_1, rfl, rfl, HA, HK1, ⟨m1, rfl⟩⟩ := hrel
    cases gk with
    | zero => exact absurd HA.out (by simp [laws_heldBatBatchS.l0])
    | succ k1 =>
      have H := HA.out
      clear HA
      simp only [laws_heldBatBatchS.l0] at H
      by_cases c3 : x5_1 < (l0.length : Int)
      · rw [if_pos c3] at H
        have c3b0 : decide (x5_1 < (l0.length : Int)) = true := decide_eq_true c3
        clear c3
        by_cases c4 : 0 ≤ x5_1
        · rw [if_pos c4] at H
          have c4b0 : decide (0 ≤ x5_1) = true := decide_eq_true c4
          clear c4
          by_cases c5 : ((rd_T50 l0 x5_1).f0) = x1_1
          · rw [if_pos c5] at H
            have c5b0 : (((rd_T50 l0 x5_1).f0) == x1_1) = true := beq_iff_eq.mpr c5
            have c5b1 : (((rd_T50 l0 x5_1).f0) != x1_1) = false := bne_eq_false_iff_eq.mpr c5
            clear c5
            by_cases c6 : ((rd_T50 l0 x5_1).f1) = (wrap64 (x1_1 + 1))
            · rw [if_pos c6] at H
              have c6b0 : (((rd_T50 l0 x5_1).f1) == (wrap64 (x1_1 + 1))) = true := beq_iff_eq.mpr c6
              have c6b1 : (((rd_T50 l0 x5_1).f1) != (wrap64 (x1_1 + 1))) = false := bne_eq_false_iff_eq.mpr c6
              clear c6
              replace H := Option.bind_eq_some_iff.mp H
              obtain ⟨t211, A70, H⟩ := H
              replace H : (if t211 < 0 then (some (-1)) else (if ((rd_T50 l0 x5_1).f3) = t211 then ((laws_heldBatSigS.f k1 ((rd_T50 l0 x5_1).f4) (wrap64 (t211 + 1))).bind fun t214 => (if t214 < 0 then (some (-1)) else ((laws_heldBoolS.f k1 ((rd_T50 l0 x5_1).f5) t214).bind fun t216 => (if t216 < 0 then (some (-1)) else (laws_heldBatBatchS.l0 k1 l0 t216 (wrap64 (x5_1 + 1))))))) else (some (-1)))) = some r := H
              have A7 := Aside0.mk A70
              clear A70
              by_cases c8 : t211 < 0
              · rw [if_pos c8] at H
                have c8b0 : decide (t211 < 0) = true := decide_eq_true c8
                clear c8
                obtain rfl := Option.some.inj H
                have p208 : 0 ≤ (x5_1 : Int) := of_decide_eq_true (by first | (with_reducible assumption) | assumption)
                have q208 : x5_1 < (l0.length : Int) := of_decide_eq_true (by first | (with_reducible assumption) | assumption)
                obtain ⟨ad208, A208_2, c208_2, A208_4, c208_4, A208_5, c208_5, e208, hx208_0, hx208_1, hx208_2, hx208_3, hx208_4, hx208_5, hl208_2, hi208_2, hl208_4, hi208_4, hl208_5, hi208_5⟩ := at_T50 HR0.out x5_1 p208 q208
                cases e208
                have HR208_2 := Aside0.mk hi208_2
                have HC208_2 := Aside0.mk hl208_2
                clear hi208_2 hl208_2
                have HR208_4 := Aside0.mk hi208_4
                have HC208_4 := Aside0.mk hl208_4
                clear hi208_4 hl208_4
                have HR208_5 := Aside0.mk hi208_5
                have HC208_5 := Aside0.mk hl208_5
                clear hi208_5 hl208_5
                replace p208 := eq_true p208
                replace q208 := eq_true q208
                have p209 : 0 ≤ (x5_1 : Int) := of_decide_eq_true (by first | (with_reducible assumption) | assumption)
                have q209 : x5_1 < (l0.length : Int) := of_decide_eq_true (by first | (with_reducible assumption) | assumption)
                obtain ⟨ad209, A209_2, c209_2, A209_4, c209_4, A209_5, c209_5, e209, hx209_0, hx209_1, hx209_2, hx209_3, hx209_4, hx209_5, hl209_2, hi209_2, hl209_4, hi209_4, hl209_5, hi209_5⟩ := at_T50 HR0.out x5_1 p209 q209
                obtain rfl : ad208 = ad209 := (by injection e209)
                have HR209_2 := Aside0.mk hi209_2
                have HC209_2 := Aside0.mk hl209_2
                clear hi209_2 hl209_2
                have HR209_4 := Aside0.mk hi209_4
                have HC209_4 := Aside0.mk hl209_4
                clear hi209_4 hl209_4
                have HR209_5 := Aside0.mk hi209_5
                have HC209_5 := Aside0.mk hl209_5
                clear hi209_5 hl209_5
                replace p209 := eq_true p209
                replace q209 := eq_true q209
                have ea_ := Option.some.inj (hx208_2.symm.trans hx209_2)
                injection ea_ with ea_ en_ ec_
                subst ea_
                subst ec_
                clear en_
                have ea_ := Option.some.inj (hx208_4.symm.trans hx209_4)
                injection ea_ with ea_ en_ ec_
                subst ea_
                subst ec_
                clear en_
                have ea_ := Option.some.inj (hx208_5.symm.trans hx209_5)
                injection ea_ with ea_ en_ ec_
                subst ea_
                subst ec_
                clear en_
                have p210 : 0 ≤ (x5_1 : Int) := of_decide_eq_true (by first | (with_reducible assumption) | assumption)
                have q210 : x5_1 < (l0.length : Int) := of_decide_eq_true (by first | (with_reducible assumption) | assumption)
                obtain ⟨ad210, A210_2, c210_2, A210_4, c210_4, A210_5, c210_5, e210, hx210_0, hx210_1, hx210_2, hx210_3, hx210_4, hx210_5, hl210_2, hi210_2, hl210_4, hi210_4, hl210_5, hi210_5⟩ := at_T50 HR0.out x5_1 p210 q210
                obtain rfl : ad208 = ad210 := (by injection e210)
                have HR210_2 := Aside0.mk hi210_2
                have HC210_2 := Aside0.mk hl210_2
                clear hi210_2 hl210_2
                have HR210_4 := Aside0.mk hi210_4
                have HC210_4 := Aside0.mk hl210_4
                clear hi210_4 hl210_4
                have HR210_5 := Aside0.mk hi210_5
                have HC210_5 := Aside0.mk hl210_5
                clear hi210_5 hl210_5
                replace p210 := eq_true p210
                replace q210 := eq_true q210
                have ea_ := Option.some.inj (hx208_2.symm.trans hx210_2)
                injection ea_ with ea_ en_ ec_
                subst ea_
                subst ec_
                clear en_
                have ea_ := Option.some.inj (hx208_4.symm.trans hx210_4)
                injection ea_ with ea_ en_ ec_
                subst ea_
                subst ec_
                clear en_
                have ea_ := Option.some.inj (hx208_5.symm.trans hx210_5)
                injection ea_ with ea_ en_ ec_
                subst ea_
                subst ec_
                clear en_
                go_wp2_with (first | ((with_reducible refine gate_callee (f := 32) rfl ?_); refine goesL_ (some 36) rfl rfl Try.func32 (by kernel_rfl) rfl #[.slice A208_2 ((rd_T50 l0 x5_1).f2).length c208_2, .int .i64 (wrap64 ((wrap64 (x1_1 + 1)) + 1))] rfl (by (try simp only [List.map_toArray, List.map_cons, List.map_nil]); first | done | rfl | (simp only [List.length_drop, List.length_take]; rfl)) ?_; (with_reducible refine (laws_heldTstTestS.calls k1 _ _ ((rd_T50 l0 x5_1).f2) (wrap64 ((wrap64 (x1_1 + 1)) + 1)) t211 _ ?side1 ?side2 A7.out).mono ?_); (case side1 => repeat (first | exact HR210_2.out | (with_reducible refine Kd.C_alloc ?_ _) | (with_reducible refine Kd.C_drewN ?_ _) | (with_reducible refine Kd.C_drew ?_))); (case side2 => exact HC210_2.out); rintro e w' ⟨rfl, ⟨nd, rfl⟩⟩; refine ⟨_, rfl, ?_⟩))
                go_ret
                exact ⟨by first | rfl | (simp; done) | (simp [*]; done), by repeat (first | exact Drawn0.refl _ | apply Drawn0.step)⟩
              · rw [if_neg c8] at H
                have c8b0 : decide (t211 < 0) = false := decide_eq_false c8
                clear c8
                by_cases c9 : ((rd_T50 l0 x5_1).f3) = t211
                · rw [if_pos c9] at H
                  have c9b0 : (((rd_T50 l0 x5_1).f3) == t211) = true := beq_iff_eq.mpr c9
                  have c9b1 : (((rd_T50 l0 x5_1).f3) != t211) = false := bne_eq_false_iff_eq.mpr c9
                  clear c9
                  replace H := Option.bind_eq_some_iff.mp H
                  obtain ⟨t214, A100, H⟩ := H
                  replace H : (if t214 < 0 then (some (-1)) else ((laws_heldBoolS.f k1 ((rd_T50 l0 x5_1).f5) t214).bind fun t216 => (if t216 < 0 then (some (-1)) else (laws_heldBatBatchS.l0 k1 l0 t216 (wrap64 (x5_1 + 1)))))) = some r := H
                  have A10 := Aside0.mk A100
                  clear A100
                  by_cases c11 : t214 < 0
                  · rw [if_pos c11] at H
                    have c11b0 : decide (t214 < 0) = true := decide_eq_true c11
                    clear c11
                    obtain rfl := Option.some.inj H
                    have p208 : 0 ≤ (x5_1 : Int) := of_decide_eq_true (by first | (with_reducible assumption) | assumption)
                    have q208 : x5_1 < (l0.length : Int) := of_decide_eq_true (by first | (with_reducible assumption) | assumption)
                    obtain ⟨ad208, A208_2, c208_2, A208_4, c208_4, A208_5, c208_5, e208, hx208_0, hx208_1, hx208_2, hx208_3, hx208_4, hx208_5, hl208_2, hi208_2, hl208_4, hi208_4, hl208_5, hi208_5⟩ := at_T50 HR0.out x5_1 p208 q208
                    cases e208
                    have HR208_2 := Aside0.mk hi208_2
                    have HC208_2 := Aside0.mk hl208_2
                    clear hi208_2 hl208_2
                    have HR208_4 := Aside0.mk hi208_4
                    have HC208_4 := Aside0.mk hl208_4
                    clear hi208_4 hl208_4
                    have HR208_5 := Aside0.mk hi208_5
                    have HC208_5 := Aside0.mk hl208_5
                    clear hi208_5 hl208_5
                    replace p208 := eq_true p208
                    replace q208 := eq_true q208
                    have p209 : 0 ≤ (x5_1 : Int) := of_decide_eq_true (by first | (with_reducible assumption) | assumption)
                    have q209 : x5_1 < (l0.length : Int) := of_decide_eq_true (by first | (with_reducible assumption) | assumption)
                    obtain ⟨ad209, A209_2, c209_2, A209_4, c209_4, A209_5, c209_5, e209, hx209_0, hx209_1, hx209_2, hx209_3, hx209_4, hx209_5, hl209_2, hi209_2, hl209_4, hi209_4, hl209_5, hi209_5⟩ := at_T50 HR0.out x5_1 p209 q209
                    obtain rfl : ad208 = ad209 := (by injection e209)
                    have HR209_2 := Aside0.mk hi209_2
                    have HC209_2 := Aside0.mk hl209_2
                    clear hi209_2 hl209_2
                    have HR209_4 := Aside0.mk hi209_4
                    have HC209_4 := Aside0.mk hl209_4
                    clear hi209_4 hl209_4
                    have HR209_5 := Aside0.mk hi209_5
                    have HC209_5 := Aside0.mk hl209_5
                    clear hi209_5 hl209_5
                    replace p209 := eq_true p209
                    replace q209 := eq_true q209
                    have ea_ := Option.some.inj (hx208_2.symm.trans hx209_2)
                    injection ea_ with ea_ en_ ec_
                    subst ea_
                    subst ec_
                    clear en_
                    have ea_ := Option.some.inj (hx208_4.symm.trans hx209_4)
                    injection ea_ with ea_ en_ ec_
                    subst ea_
                    subst ec_
                    clear en_
                    have ea_ := Option.some.inj (hx208_5.symm.trans hx209_5)
                    injection ea_ with ea_ en_ ec_
                    subst ea_
                    subst ec_
                    clear en_
                    have p210 : 0 ≤ (x5_1 : Int) := of_decide_eq_true (by first | (with_reducible assumption) | assumption)
                    have q210 : x5_1 < (l0.length : Int) := of_decide_eq_true (by first | (with_reducible assumption) | assumption)
                    obtain ⟨ad210, A210_2, c210_2, A210_4, c210_4, A210_5, c210_5, e210, hx210_0, hx210_1, hx210_2, hx210_3, hx210_4, hx210_5, hl210_2, hi210_2, hl210_4, hi210_4, hl210_5, hi210_5⟩ := at_T50 HR0.out x5_1 p210 q210
                    obtain rfl : ad208 = ad210 := (by injection e210)
                    have HR210_2 := Aside0.mk hi210_2
                    have HC210_2 := Aside0.mk hl210_2
                    clear hi210_2 hl210_2
                    have HR210_4 := Aside0.mk hi210_4
                    have HC210_4 := Aside0.mk hl210_4
                    clear hi210_4 hl210_4
                    have HR210_5 := Aside0.mk hi210_5
                    have HC210_5 := Aside0.mk hl210_5
                    clear hi210_5 hl210_5
                    replace p210 := eq_true p210
                    replace q210 := eq_true q210
                    have ea_ := Option.some.inj (hx208_2.symm.trans hx210_2)
                    injection ea_ with ea_ en_ ec_
                    subst ea_
                    subst ec_
                    clear en_
                    have ea_ := Option.some.inj (hx208_4.symm.trans hx210_4)
                    injection ea_ with ea_ en_ ec_
                    subst ea_
                    subst ec_
                    clear en_
                    have ea_ := Option.some.inj (hx208_5.symm.trans hx210_5)
                    injection ea_ with ea_ en_ ec_
                    subst ea_
                    subst ec_
                    clear en_
                    go_wp2_with (first | ((with_reducible refine gate_callee (f := 32) rfl ?_); refine goesL_ (some 36) rfl rfl Try.func32 (by kernel_rfl) rfl #[.slice A208_2 ((rd_T50 l0 x5_1).f2).length c208_2, .int .i64 (wrap64 ((wrap64 (x1_1 + 1)) + 1))] rfl (by (try simp only [List.map_toArray, List.map_cons, List.map_nil]); first | done | rfl | (simp only [List.length_drop, List.length_take]; rfl)) ?_; (with_reducible refine (laws_heldTstTestS.calls k1 _ _ ((rd_T50 l0 x5_1).f2) (wrap64 ((wrap64 (x1_1 + 1)) + 1)) t211 _ ?side1 ?side2 A7.out).mono ?_); (case side1 => repeat (first | exact HR210_2.out | (with_reducible refine Kd.C_alloc ?_ _) | (with_reducible refine Kd.C_drewN ?_ _) | (with_reducible refine Kd.C_drew ?_))); (case side2 => exact HC210_2.out); rintro e w' ⟨rfl, ⟨nd, rfl⟩⟩; refine ⟨_, rfl, ?_⟩; have p212 : 0 ≤ (x5_1 : Int) := of_decide_eq_true (by first | (with_reducible assumption) | assumption); have q212 : x5_1 < (l0.length : Int) := of_decide_eq_true (by first | (with_reducible assumption) | assumption); obtain ⟨ad212, A212_2, c212_2, A212_4, c212_4, A212_5, c212_5, e212, hx212_0, hx212_1, hx212_2, hx212_3, hx212_4, hx212_5, hl212_2, hi212_2, hl212_4, hi212_4, hl212_5, hi212_5⟩ := at_T50 HR0.out x5_1 p212 q212; obtain rfl : ad208 = ad212 := (by injection e212); have HR212_2 := Aside0.mk hi212_2; have HC212_2 := Aside0.mk hl212_2; clear hi212_2 hl212_2; have HR212_4 := Aside0.mk hi212_4; have HC212_4 := Aside0.mk hl212_4; clear hi212_4 hl212_4; have HR212_5 := Aside0.mk hi212_5; have HC212_5 := Aside0.mk hl212_5; clear hi212_5 hl212_5; replace p212 := eq_true p212; replace q212 := eq_true q212; have ea_ := Option.some.inj (hx208_2.symm.trans hx212_2); injection ea_ with ea_ en_ ec_; subst ea_; subst ec_; clear en_; have ea_ := Option.some.inj (hx208_4.symm.trans hx212_4); injection ea_ with ea_ en_ ec_; subst ea_; subst ec_; clear en_; have ea_ := Option.some.inj (hx208_5.symm.trans hx212_5); injection ea_ with ea_ en_ ec_; subst ea_; subst ec_; clear en_; have p213 : 0 ≤ (x5_1 : Int) := of_decide_eq_true (by first | (with_reducible assumption) | assumption); have q213 : x5_1 < (l0.length : Int) := of_decide_eq_true (by first | (with_reducible assumption) | assumption); obtain ⟨ad213, A213_2, c213_2, A213_4, c213_4, A213_5, c213_5, e213, hx213_0, hx213_1, hx213_2, hx213_3, hx213_4, hx213_5, hl213_2, hi213_2, hl213_4, hi213_4, hl213_5, hi213_5⟩ := at_T50 HR0.out x5_1 p213 q213; obtain rfl : ad208 = ad213 := (by injection e213); have HR213_2 := Aside0.mk hi213_2; have HC213_2 := Aside0.mk hl213_2; clear hi213_2 hl213_2; have HR213_4 := Aside0.mk hi213_4; have HC213_4 := Aside0.mk hl213_4; clear hi213_4 hl213_4; have HR213_5 := Aside0.mk hi213_5; have HC213_5 := Aside0.mk hl213_5; clear hi213_5 hl213_5; replace p213 := eq_true p213; replace q213 := eq_true q213; have ea_ := Option.some.inj (hx208_2.symm.trans hx213_2); injection ea_ with ea_ en_ ec_; subst ea_; subst ec_; clear en_; have ea_ := Option.some.inj (hx208_4.symm.trans hx213_4); injection ea_ with ea_ en_ ec_; subst ea_; subst ec_; clear en_; have ea_ := Option.some.inj (hx208_5.symm.trans hx213_5); injection ea_ with ea_ en_ ec_; subst ea_; subst ec_; clear en_) | ((with_reducible refine gate_callee (f := 33) rfl ?_); refine goesL_ (some 54) rfl rfl Try.func33 (by kernel_rfl) rfl #[.slice A208_4 ((rd_T50 l0 x5_1).f4).length c208_4, .int .i64 (wrap64 (t211 + 1))] rfl (by (try simp only [List.map_toArray, List.map_cons, List.map_nil]); first | done | rfl | (simp only [List.length_drop, List.length_take]; rfl)) ?_; (with_reducible refine (laws_heldBatSigS.calls k1 _ _ ((rd_T50 l0 x5_1).f4) (wrap64 (t211 + 1)) t214 _ ?side1 ?side2 A10.out).mono ?_); (case side1 => repeat (first | exact HR213_4.out | (with_reducible refine Kd.C_alloc ?_ _) | (with_reducible refine Kd.C_drewN ?_ _) | (with_reducible refine Kd.C_drew ?_))); (case side2 => exact HC213_4.out); rintro e w' ⟨rfl, ⟨nd, rfl⟩⟩; refine ⟨_, rfl, ?_⟩))
                    go_ret
                    exact ⟨by first | rfl | (simp; done) | (simp [*]; done), by repeat (first | exact Drawn0.refl _ | apply Drawn0.step)⟩
                  · rw [if_neg c11] at H
                    have c11b0 : decide (t214 < 0) = false := decide_eq_false c11
                    clear c11
                    replace H := Option.bind_eq_some_iff.mp H
                    obtain ⟨t216, A120, H⟩ := H
                    replace H : (if t216 < 0 then (some (-1)) else (laws_heldBatBatchS.l0 k1 l0 t216 (wrap64 (x5_1 + 1)))) = some r := H
                    have A12 := Aside0.mk A120
                    clear A120
                    by_cases c13 : t216 < 0
                    · rw [if_pos c13] at H
                      have c13b0 : decide (t216 < 0) = true := decide_eq_true c13
                      clear c13
                      obtain rfl := Option.some.inj H
                      have p208 : 0 ≤ (x5_1 : Int) := of_decide_eq_true (by first | (with_reducible assumption) | assumption)
                      have q208 : x5_1 < (l0.length : Int) := of_decide_eq_true (by first | (with_reducible assumption) | assumption)
                      obtain ⟨ad208, A208_2, c208_2, A208_4, c208_4, A208_5, c208_5, e208, hx208_0, hx208_1, hx208_2, hx208_3, hx208_4, hx208_5, hl208_2, hi208_2, hl208_4, hi208_4, hl208_5, hi208_5⟩ := at_T50 HR0.out x5_1 p208 q208
                      cases e208
                      have HR208_2 := Aside0.mk hi208_2
                      have HC208_2 := Aside0.mk hl208_2
                      clear hi208_2 hl208_2
                      have HR208_4 := Aside0.mk hi208_4
                      have HC208_4 := Aside0.mk hl208_4
                      clear hi208_4 hl208_4
                      have HR208_5 := Aside0.mk hi208_5
                      have HC208_5 := Aside0.mk hl208_5
                      clear hi208_5 hl208_5
                      replace p208 := eq_true p208
                      replace q208 := eq_true q208
                      have p209 : 0 ≤ (x5_1 : Int) := of_decide_eq_true (by first | (with_reducible assumption) | assumption)
                      have q209 : x5_1 < (l0.length : Int) := of_decide_eq_true (by first | (with_reducible assumption) | assumption)
                      obtain ⟨ad209, A209_2, c209_2, A209_4, c209_4, A209_5, c209_5, e209, hx209_0, hx209_1, hx209_2, hx209_3, hx209_4, hx209_5, hl209_2, hi209_2, hl209_4, hi209_4, hl209_5, hi209_5⟩ := at_T50 HR0.out x5_1 p209 q209
                      obtain rfl : ad208 = ad209 := (by injection e209)
                      have HR209_2 := Aside0.mk hi209_2
                      have HC209_2 := Aside0.mk hl209_2
                      clear hi209_2 hl209_2
                      have HR209_4 := Aside0.mk hi209_4
                      have HC209_4 := Aside0.mk hl209_4
                      clear hi209_4 hl209_4
                      have HR209_5 := Aside0.mk hi209_5
                      have HC209_5 := Aside0.mk hl209_5
                      clear hi209_5 hl209_5
                      replace p209 := eq_true p209
                      replace q209 := eq_true q209
                      have ea_ := Option.some.inj (hx208_2.symm.trans hx209_2)
                      injection ea_ with ea_ en_ ec_
                      subst ea_
                      subst ec_
                      clear en_
                      have ea_ := Option.some.inj (hx208_4.symm.trans hx209_4)
                      injection ea_ with ea_ en_ ec_
                      subst ea_
                      subst ec_
                      clear en_
                      have ea_ := Option.some.inj (hx208_5.symm.trans hx209_5)
                      injection ea_ with ea_ en_ ec_
                      subst ea_
                      subst ec_
                      clear en_
                      have p210 : 0 ≤ (x5_1 : Int) := of_decide_eq_true (by first | (with_reducible assumption) | assumption)
                      have q210 : x5_1 < (l0.length : Int) := of_decide_eq_true (by first | (with_reducible assumption) | assumption)
                      obtain ⟨ad210, A210_2, c210_2, A210_4, c210_4, A210_5, c210_5, e210, hx210_0, hx210_1, hx210_2, hx210_3, hx210_4, hx210_5, hl210_2, hi210_2, hl210_4, hi210_4, hl210_5, hi210_5⟩ := at_T50 HR0.out x5_1 p210 q210
                      obtain rfl : ad208 = ad210 := (by injection e210)
                      have HR210_2 := Aside0.mk hi210_2
                      have HC210_2 := Aside0.mk hl210_2
                      clear hi210_2 hl210_2
                      have HR210_4 := Aside0.mk hi210_4
                      have HC210_4 := Aside0.mk hl210_4
                      clear hi210_4 hl210_4
                      have HR210_5 := Aside0.mk hi210_5
                      have HC210_5 := Aside0.mk hl210_5
                      clear hi210_5 hl210_5
                      replace p210 := eq_true p210
                      replace q210 := eq_true q210
                      have ea_ := Option.some.inj (hx208_2.symm.trans hx210_2)
                      injection ea_ with ea_ en_ ec_
                      subst ea_
                      subst ec_
                      clear en_
                      have ea_ := Option.some.inj (hx208_4.symm.trans hx210_4)
                      injection ea_ with ea_ en_ ec_
                      subst ea_
                      subst ec_
                      clear en_
                      have ea_ := Option.some.inj (hx208_5.symm.trans hx210_5)
                      injection ea_ with ea_ en_ ec_
                      subst ea_
                      subst ec_
                      clear en_
                      go_wp2_with (first | ((with_reducible refine gate_callee (f := 32) rfl ?_); refine goesL_ (some 36) rfl rfl Try.func32 (by kernel_rfl) rfl #[.slice A208_2 ((rd_T50 l0 x5_1).f2).length c208_2, .int .i64 (wrap64 ((wrap64 (x1_1 + 1)) + 1))] rfl (by (try simp only [List.map_toArray, List.map_cons, List.map_nil]); first | done | rfl | (simp only [List.length_drop, List.length_take]; rfl)) ?_; (with_reducible refine (laws_heldTstTestS.calls k1 _ _ ((rd_T50 l0 x5_1).f2) (wrap64 ((wrap64 (x1_1 + 1)) + 1)) t211 _ ?side1 ?side2 A7.out).mono ?_); (case side1 => repeat (first | exact HR210_2.out | (with_reducible refine Kd.C_alloc ?_ _) | (with_reducible refine Kd.C_drewN ?_ _) | (with_reducible refine Kd.C_drew ?_))); (case side2 => exact HC210_2.out); rintro e w' ⟨rfl, ⟨nd, rfl⟩⟩; refine ⟨_, rfl, ?_⟩; have p212 : 0 ≤ (x5_1 : Int) := of_decide_eq_true (by first | (with_reducible assumption) | assumption); have q212 : x5_1 < (l0.length : Int) := of_decide_eq_true (by first | (with_reducible assumption) | assumption); obtain ⟨ad212, A212_2, c212_2, A212_4, c212_4, A212_5, c212_5, e212, hx212_0, hx212_1, hx212_2, hx212_3, hx212_4, hx212_5, hl212_2, hi212_2, hl212_4, hi212_4, hl212_5, hi212_5⟩ := at_T50 HR0.out x5_1 p212 q212; obtain rfl : ad208 = ad212 := (by injection e212); have HR212_2 := Aside0.mk hi212_2; have HC212_2 := Aside0.mk hl212_2; clear hi212_2 hl212_2; have HR212_4 := Aside0.mk hi212_4; have HC212_4 := Aside0.mk hl212_4; clear hi212_4 hl212_4; have HR212_5 := Aside0.mk hi212_5; have HC212_5 := Aside0.mk hl212_5; clear hi212_5 hl212_5; replace p212 := eq_true p212; replace q212 := eq_true q212; have ea_ := Option.some.inj (hx208_2.symm.trans hx212_2); injection ea_ with ea_ en_ ec_; subst ea_; subst ec_; clear en_; have ea_ := Option.some.inj (hx208_4.symm.trans hx212_4); injection ea_ with ea_ en_ ec_; subst ea_; subst ec_; clear en_; have ea_ := Option.some.inj (hx208_5.symm.trans hx212_5); injection ea_ with ea_ en_ ec_; subst ea_; subst ec_; clear en_; have p213 : 0 ≤ (x5_1 : Int) := of_decide_eq_true (by first | (with_reducible assumption) | assumption); have q213 : x5_1 < (l0.length : Int) := of_decide_eq_true (by first | (with_reducible assumption) | assumption); obtain ⟨ad213, A213_2, c213_2, A213_4, c213_4, A213_5, c213_5, e213, hx213_0, hx213_1, hx213_2, hx213_3, hx213_4, hx213_5, hl213_2, hi213_2, hl213_4, hi213_4, hl213_5, hi213_5⟩ := at_T50 HR0.out x5_1 p213 q213; obtain rfl : ad208 = ad213 := (by injection e213); have HR213_2 := Aside0.mk hi213_2; have HC213_2 := Aside0.mk hl213_2; clear hi213_2 hl213_2; have HR213_4 := Aside0.mk hi213_4; have HC213_4 := Aside0.mk hl213_4; clear hi213_4 hl213_4; have HR213_5 := Aside0.mk hi213_5; have HC213_5 := Aside0.mk hl213_5; clear hi213_5 hl213_5; replace p213 := eq_true p213; replace q213 := eq_true q213; have ea_ := Option.some.inj (hx208_2.symm.trans hx213_2); injection ea_ with ea_ en_ ec_; subst ea_; subst ec_; clear en_; have ea_ := Option.some.inj (hx208_4.symm.trans hx213_4); injection ea_ with ea_ en_ ec_; subst ea_; subst ec_; clear en_; have ea_ := Option.some.inj (hx208_5.symm.trans hx213_5); injection ea_ with ea_ en_ ec_; subst ea_; subst ec_; clear en_) | ((with_reducible refine gate_callee (f := 33) rfl ?_); refine goesL_ (some 54) rfl rfl Try.func33 (by kernel_rfl) rfl #[.slice A208_4 ((rd_T50 l0 x5_1).f4).length c208_4, .int .i64 (wrap64 (t211 + 1))] rfl (by (try simp only [List.map_toArray, List.map_cons, List.map_nil]); first | done | rfl | (simp only [List.length_drop, List.length_take]; rfl)) ?_; (with_reducible refine (laws_heldBatSigS.calls k1 _ _ ((rd_T50 l0 x5_1).f4) (wrap64 (t211 + 1)) t214 _ ?side1 ?side2 A10.out).mono ?_); (case side1 => repeat (first | exact HR213_4.out | (with_reducible refine Kd.C_alloc ?_ _) | (with_reducible refine Kd.C_drewN ?_ _) | (with_reducible refine Kd.C_drew ?_))); (case side2 => exact HC213_4.out); rintro e w' ⟨rfl, ⟨nd, rfl⟩⟩; refine ⟨_, rfl, ?_⟩; have p215 : 0 ≤ (x5_1 : Int) := of_decide_eq_true (by first | (with_reducible assumption) | assumption); have q215 : x5_1 < (l0.length : Int) := of_decide_eq_true (by first | (with_reducible assumption) | assumption); obtain ⟨ad215, A215_2, c215_2, A215_4, c215_4, A215_5, c215_5, e215, hx215_0, hx215_1, hx215_2, hx215_3, hx215_4, hx215_5, hl215_2, hi215_2, hl215_4, hi215_4, hl215_5, hi215_5⟩ := at_T50 HR0.out x5_1 p215 q215; obtain rfl : ad208 = ad215 := (by injection e215); have HR215_2 := Aside0.mk hi215_2; have HC215_2 := Aside0.mk hl215_2; clear hi215_2 hl215_2; have HR215_4 := Aside0.mk hi215_4; have HC215_4 := Aside0.mk hl215_4; clear hi215_4 hl215_4; have HR215_5 := Aside0.mk hi215_5; have HC215_5 := Aside0.mk hl215_5; clear hi215_5 hl215_5; replace p215 := eq_true p215; replace q215 := eq_true q215; have ea_ := Option.some.inj (hx208_2.symm.trans hx215_2); injection ea_ with ea_ en_ ec_; subst ea_; subst ec_; clear en_; have ea_ := Option.some.inj (hx208_4.symm.trans hx215_4); injection ea_ with ea_ en_ ec_; subst ea_; subst ec_; clear en_; have ea_ := Option.some.inj (hx208_5.symm.trans hx215_5); injection ea_ with ea_ en_ ec_; subst ea_; subst ec_; clear en_) | ((with_reducible refine gate_callee (f := 34) rfl ?_); refine goesL_ (some 63) rfl rfl Try.func34 (by kernel_rfl) rfl #[.slice A208_5 ((rd_T50 l0 x5_1).f5).length c208_5, .int .i64 t214] rfl (by (try simp only [List.map_toArray, List.map_cons, List.map_nil]); first | done | rfl | (simp only [List.length_drop, List.length_take]; rfl)) ?_; (with_reducible refine (laws_heldBoolS.calls k1 _ _ ((rd_T50 l0 x5_1).f5) t214 t216 _ ?side1 ?side2 A12.out).mono ?_); (case side1 => repeat (first | exact HR215_5.out | (with_reducible refine Kd.C_alloc ?_ _) | (with_reducible refine Kd.C_drewN ?_ _) | (with_reducible refine Kd.C_drew ?_))); (case side2 => exact HC215_5.out); rintro e w' ⟨rfl, ⟨nd, rfl⟩⟩; refine ⟨_, rfl, ?_⟩))
                      go_ret
                      exact ⟨by first | rfl | (simp; done) | (simp [*]; done), by repeat (first | exact Drawn0.refl _ | apply Drawn0.step)⟩
                    · rw [if_neg c13] at H
                      have c13b0 : decide (t216 < 0) = false := decide_eq_false c13
                      clear c13
                      have H' := Aside0.mk H
                      clear H
                      have p208 : 0 ≤ (x5_1 : Int) := of_decide_eq_true (by first | (with_reducible assumption) | assumption)
                      have q208 : x5_1 < (l0.length : Int) := of_decide_eq_true (by first | (with_reducible assumption) | assumption)
                      obtain ⟨ad208, A208_2, c208_2, A208_4, c208_4, A208_5, c208_5, e208, hx208_0, hx208_1, hx208_2, hx208_3, hx208_4, hx208_5, hl208_2, hi208_2, hl208_4, hi208_4, hl208_5, hi208_5⟩ := at_T50 HR0.out x5_1 p208 q208
                      cases e208
                      have HR208_2 := Aside0.mk hi208_2
                      have HC208_2 := Aside0.mk hl208_2
                      clear hi208_2 hl208_2
                      have HR208_4 := Aside0.mk hi208_4
                      have HC208_4 := Aside0.mk hl208_4
                      clear hi208_4 hl208_4
                      have HR208_5 := Aside0.mk hi208_5
                      have HC208_5 := Aside0.mk hl208_5
                      clear hi208_5 hl208_5
                      replace p208 := eq_true p208
                      replace q208 := eq_true q208
                      have p209 : 0 ≤ (x5_1 : Int) := of_decide_eq_true (by first | (with_reducible assumption) | assumption)
                      have q209 : x5_1 < (l0.length : Int) := of_decide_eq_true (by first | (with_reducible assumption) | assumption)
                      obtain ⟨ad209, A209_2, c209_2, A209_4, c209_4, A209_5, c209_5, e209, hx209_0, hx209_1, hx209_2, hx209_3, hx209_4, hx209_5, hl209_2, hi209_2, hl209_4, hi209_4, hl209_5, hi209_5⟩ := at_T50 HR0.out x5_1 p209 q209
                      obtain rfl : ad208 = ad209 := (by injection e209)
                      have HR209_2 := Aside0.mk hi209_2
                      have HC209_2 := Aside0.mk hl209_2
                      clear hi209_2 hl209_2
                      have HR209_4 := Aside0.mk hi209_4
                      have HC209_4 := Aside0.mk hl209_4
                      clear hi209_4 hl209_4
                      have HR209_5 := Aside0.mk hi209_5
                      have HC209_5 := Aside0.mk hl209_5
                      clear hi209_5 hl209_5
                      replace p209 := eq_true p209
                      replace q209 := eq_true q209
                      have ea_ := Option.some.inj (hx208_2.symm.trans hx209_2)
                      injection ea_ with ea_ en_ ec_
                      subst ea_
                      subst ec_
                      clear en_
                      have ea_ := Option.some.inj (hx208_4.symm.trans hx209_4)
                      injection ea_ with ea_ en_ ec_
                      subst ea_
                      subst ec_
                      clear en_
                      have ea_ := Option.some.inj (hx208_5.symm.trans hx209_5)
                      injection ea_ with ea_ en_ ec_
                      subst ea_
                      subst ec_
                      clear en_
                      have p210 : 0 ≤ (x5_1 : Int) := of_decide_eq_true (by first | (with_reducible assumption) | assumption)
                      have q210 : x5_1 < (l0.length : Int) := of_decide_eq_true (by first | (with_reducible assumption) | assumption)
                      obtain ⟨ad210, A210_2, c210_2, A210_4, c210_4, A210_5, c210_5, e210, hx210_0, hx210_1, hx210_2, hx210_3, hx210_4, hx210_5, hl210_2, hi210_2, hl210_4, hi210_4, hl210_5, hi210_5⟩ := at_T50 HR0.out x5_1 p210 q210
                      obtain rfl : ad208 = ad210 := (by injection e210)
                      have HR210_2 := Aside0.mk hi210_2
                      have HC210_2 := Aside0.mk hl210_2
                      clear hi210_2 hl210_2
                      have HR210_4 := Aside0.mk hi210_4
                      have HC210_4 := Aside0.mk hl210_4
                      clear hi210_4 hl210_4
                      have HR210_5 := Aside0.mk hi210_5
                      have HC210_5 := Aside0.mk hl210_5
                      clear hi210_5 hl210_5
                      replace p210 := eq_true p210
                      replace q210 := eq_true q210
                      have ea_ := Option.some.inj (hx208_2.symm.trans hx210_2)
                      injection ea_ with ea_ en_ ec_
                      subst ea_
                      subst ec_
                      clear en_
                      have ea_ := Option.some.inj (hx208_4.symm.trans hx210_4)
                      injection ea_ with ea_ en_ ec_
                      subst ea_
                      subst ec_
                      clear en_
                      have ea_ := Option.some.inj (hx208_5.symm.trans hx210_5)
                      injection ea_ with ea_ en_ ec_
                      subst ea_
                      subst ec_
                      clear en_
                      go_wp2_with (first | ((with_reducible refine gate_callee (f := 32) rfl ?_); refine goesL_ (some 36) rfl rfl Try.func32 (by kernel_rfl) rfl #[.slice A208_2 ((rd_T50 l0 x5_1).f2).length c208_2, .int .i64 (wrap64 ((wrap64 (x1_1 + 1)) + 1))] rfl (by (try simp only [List.map_toArray, List.map_cons, List.map_nil]); first | done | rfl | (simp only [List.length_drop, List.length_take]; rfl)) ?_; (with_reducible refine (laws_heldTstTestS.calls k1 _ _ ((rd_T50 l0 x5_1).f2) (wrap64 ((wrap64 (x1_1 + 1)) + 1)) t211 _ ?side1 ?side2 A7.out).mono ?_); (case side1 => repeat (first | exact HR210_2.out | (with_reducible refine Kd.C_alloc ?_ _) | (with_reducible refine Kd.C_drewN ?_ _) | (with_reducible refine Kd.C_drew ?_))); (case side2 => exact HC210_2.out); rintro e w' ⟨rfl, ⟨nd, rfl⟩⟩; refine ⟨_, rfl, ?_⟩; have p212 : 0 ≤ (x5_1 : Int) := of_decide_eq_true (by first | (with_reducible assumption) | assumption); have q212 : x5_1 < (l0.length : Int) := of_decide_eq_true (by first | (with_reducible assumption) | assumption); obtain ⟨ad212, A212_2, c212_2, A212_4, c212_4, A212_5, c212_5, e212, hx212_0, hx212_1, hx212_2, hx212_3, hx212_4, hx212_5, hl212_2, hi212_2, hl212_4, hi212_4, hl212_5, hi212_5⟩ := at_T50 HR0.out x5_1 p212 q212; obtain rfl : ad208 = ad212 := (by injection e212); have HR212_2 := Aside0.mk hi212_2; have HC212_2 := Aside0.mk hl212_2; clear hi212_2 hl212_2; have HR212_4 := Aside0.mk hi212_4; have HC212_4 := Aside0.mk hl212_4; clear hi212_4 hl212_4; have HR212_5 := Aside0.mk hi212_5; have HC212_5 := Aside0.mk hl212_5; clear hi212_5 hl212_5; replace p212 := eq_true p212; replace q212 := eq_true q212; have ea_ := Option.some.inj (hx208_2.symm.trans hx212_2); injection ea_ with ea_ en_ ec_; subst ea_; subst ec_; clear en_; have ea_ := Option.some.inj (hx208_4.symm.trans hx212_4); injection ea_ with ea_ en_ ec_; subst ea_; subst ec_; clear en_; have ea_ := Option.some.inj (hx208_5.symm.trans hx212_5); injection ea_ with ea_ en_ ec_; subst ea_; subst ec_; clear en_; have p213 : 0 ≤ (x5_1 : Int) := of_decide_eq_true (by first | (with_reducible assumption) | assumption); have q213 : x5_1 < (l0.length : Int) := of_decide_eq_true (by first | (with_reducible assumption) | assumption); obtain ⟨ad213, A213_2, c213_2, A213_4, c213_4, A213_5, c213_5, e213, hx213_0, hx213_1, hx213_2, hx213_3, hx213_4, hx213_5, hl213_2, hi213_2, hl213_4, hi213_4, hl213_5, hi213_5⟩ := at_T50 HR0.out x5_1 p213 q213; obtain rfl : ad208 = ad213 := (by injection e213); have HR213_2 := Aside0.mk hi213_2; have HC213_2 := Aside0.mk hl213_2; clear hi213_2 hl213_2; have HR213_4 := Aside0.mk hi213_4; have HC213_4 := Aside0.mk hl213_4; clear hi213_4 hl213_4; have HR213_5 := Aside0.mk hi213_5; have HC213_5 := Aside0.mk hl213_5; clear hi213_5 hl213_5; replace p213 := eq_true p213; replace q213 := eq_true q213; have ea_ := Option.some.inj (hx208_2.symm.trans hx213_2); injection ea_ with ea_ en_ ec_; subst ea_; subst ec_; clear en_; have ea_ := Option.some.inj (hx208_4.symm.trans hx213_4); injection ea_ with ea_ en_ ec_; subst ea_; subst ec_; clear en_; have ea_ := Option.some.inj (hx208_5.symm.trans hx213_5); injection ea_ with ea_ en_ ec_; subst ea_; subst ec_; clear en_) | ((with_reducible refine gate_callee (f := 33) rfl ?_); refine goesL_ (some 54) rfl rfl Try.func33 (by kernel_rfl) rfl #[.slice A208_4 ((rd_T50 l0 x5_1).f4).length c208_4, .int .i64 (wrap64 (t211 + 1))] rfl (by (try simp only [List.map_toArray, List.map_cons, List.map_nil]); first | done | rfl | (simp only [List.length_drop, List.length_take]; rfl)) ?_; (with_reducible refine (laws_heldBatSigS.calls k1 _ _ ((rd_T50 l0 x5_1).f4) (wrap64 (t211 + 1)) t214 _ ?side1 ?side2 A10.out).mono ?_); (case side1 => repeat (first | exact HR213_4.out | (with_reducible refine Kd.C_alloc ?_ _) | (with_reducible refine Kd.C_drewN ?_ _) | (with_reducible refine Kd.C_drew ?_))); (case side2 => exact HC213_4.out); rintro e w' ⟨rfl, ⟨nd, rfl⟩⟩; refine ⟨_, rfl, ?_⟩; have p215 : 0 ≤ (x5_1 : Int) := of_decide_eq_true (by first | (with_reducible assumption) | assumption); have q215 : x5_1 < (l0.length : Int) := of_decide_eq_true (by first | (with_reducible assumption) | assumption); obtain ⟨ad215, A215_2, c215_2, A215_4, c215_4, A215_5, c215_5, e215, hx215_0, hx215_1, hx215_2, hx215_3, hx215_4, hx215_5, hl215_2, hi215_2, hl215_4, hi215_4, hl215_5, hi215_5⟩ := at_T50 HR0.out x5_1 p215 q215; obtain rfl : ad208 = ad215 := (by injection e215); have HR215_2 := Aside0.mk hi215_2; have HC215_2 := Aside0.mk hl215_2; clear hi215_2 hl215_2; have HR215_4 := Aside0.mk hi215_4; have HC215_4 := Aside0.mk hl215_4; clear hi215_4 hl215_4; have HR215_5 := Aside0.mk hi215_5; have HC215_5 := Aside0.mk hl215_5; clear hi215_5 hl215_5; replace p215 := eq_true p215; replace q215 := eq_true q215; have ea_ := Option.some.inj (hx208_2.symm.trans hx215_2); injection ea_ with ea_ en_ ec_; subst ea_; subst ec_; clear en_; have ea_ := Option.some.inj (hx208_4.symm.trans hx215_4); injection ea_ with ea_ en_ ec_; subst ea_; subst ec_; clear en_; have ea_ := Option.some.inj (hx208_5.symm.trans hx215_5); injection ea_ with ea_ en_ ec_; subst ea_; subst ec_; clear en_) | ((with_reducible refine gate_callee (f := 34) rfl ?_); refine goesL_ (some 63) rfl rfl Try.func34 (by kernel_rfl) rfl #[.slice A208_5 ((rd_T50 l0 x5_1).f5).length c208_5, .int .i64 t214] rfl (by (try simp only [List.map_toArray, List.map_cons, List.map_nil]); first | done | rfl | (simp only [List.length_drop, List.length_take]; rfl)) ?_; (with_reducible refine (laws_heldBoolS.calls k1 _ _ ((rd_T50 l0 x5_1).f5) t214 t216 _ ?side1 ?side2 A12.out).mono ?_); (case side1 => repeat (first | exact HR215_5.out | (with_reducible refine Kd.C_alloc ?_ _) | (with_reducible refine Kd.C_drewN ?_ _) | (with_reducible refine Kd.C_drew ?_))); (case side2 => exact HC215_5.out); rintro e w' ⟨rfl, ⟨nd, rfl⟩⟩; refine ⟨_, rfl, ?_⟩))
                      go_roundg k1
                      case measure => have := HK1.out; omega
                      case rel => exact ⟨(t216), (wrap64 (x5_1 + 1)), (by first | rfl | (simp; done) | (simp [*]; done)), (by first | rfl | (simp; done) | (simp [*]; done)), H', ⟨by have := HK1.out; omega⟩, by repeat (first | exact Drawn0.refl _ | apply Drawn0.step)⟩
                · rw [if_neg c9] at H
                  have c9b0 : (((rd_T50 l0 x5_1).f3) == t211) = false := beq_eq_false_iff_ne.mpr c9
                  have c9b1 : (((rd_T50 l0 x5_1).f3) != t211) = true := bne_iff_ne.mpr c9
                  obtain rfl := Option.some.inj H
                  have p208 : 0 ≤ (x5_1 : Int) := of_decide_eq_true (by first | (with_reducible assumption) | assumption)
                  have q208 : x5_1 < (l0.length : Int) := of_decide_eq_true (by first | (with_reducible assumption) | assumption)
                  obtain ⟨ad208, A208_2, c208_2, A208_4, c208_4, A208_5, c208_5, e208, hx208_0, hx208_1, hx208_2, hx208_3, hx208_4, hx208_5, hl208_2, hi208_2, hl208_4, hi208_4, hl208_5, hi208_5⟩ := at_T50 HR0.out x5_1 p208 q208
                  cases e208
                  have HR208_2 := Aside0.mk hi208_2
                  have HC208_2 := Aside0.mk hl208_2
                  clear hi208_2 hl208_2
                  have HR208_4 := Aside0.mk hi208_4
                  have HC208_4 := Aside0.mk hl208_4
                  clear hi208_4 hl208_4
                  have HR208_5 := Aside0.mk hi208_5
                  have HC208_5 := Aside0.mk hl208_5
                  clear hi208_5 hl208_5
                  replace p208 := eq_true p208
                  replace q208 := eq_true q208
                  have p209 : 0 ≤ (x5_1 : Int) := of_decide_eq_true (by first | (with_reducible assumption) | assumption)
                  have q209 : x5_1 < (l0.length : Int) := of_decide_eq_true (by first | (with_reducible assumption) | assumption)
                  obtain ⟨ad209, A209_2, c209_2, A209_4, c209_4, A209_5, c209_5, e209, hx209_0, hx209_1, hx209_2, hx209_3, hx209_4, hx209_5, hl209_2, hi209_2, hl209_4, hi209_4, hl209_5, hi209_5⟩ := at_T50 HR0.out x5_1 p209 q209
                  obtain rfl : ad208 = ad209 := (by injection e209)
                  have HR209_2 := Aside0.mk hi209_2
                  have HC209_2 := Aside0.mk hl209_2
                  clear hi209_2 hl209_2
                  have HR209_4 := Aside0.mk hi209_4
                  have HC209_4 := Aside0.mk hl209_4
                  clear hi209_4 hl209_4
                  have HR209_5 := Aside0.mk hi209_5
                  have HC209_5 := Aside0.mk hl209_5
                  clear hi209_5 hl209_5
                  replace p209 := eq_true p209
                  replace q209 := eq_true q209
                  have ea_ := Option.some.inj (hx208_2.symm.trans hx209_2)
                  injection ea_ with ea_ en_ ec_
                  subst ea_
                  subst ec_
                  clear en_
                  have ea_ := Option.some.inj (hx208_4.symm.trans hx209_4)
                  injection ea_ with ea_ en_ ec_
                  subst ea_
                  subst ec_
                  clear en_
                  have ea_ := Option.some.inj (hx208_5.symm.trans hx209_5)
                  injection ea_ with ea_ en_ ec_
                  subst ea_
                  subst ec_
                  clear en_
                  have p210 : 0 ≤ (x5_1 : Int) := of_decide_eq_true (by first | (with_reducible assumption) | assumption)
                  have q210 : x5_1 < (l0.length : Int) := of_decide_eq_true (by first | (with_reducible assumption) | assumption)
                  obtain ⟨ad210, A210_2, c210_2, A210_4, c210_4, A210_5, c210_5, e210, hx210_0, hx210_1, hx210_2, hx210_3, hx210_4, hx210_5, hl210_2, hi210_2, hl210_4, hi210_4, hl210_5, hi210_5⟩ := at_T50 HR0.out x5_1 p210 q210
                  obtain rfl : ad208 = ad210 := (by injection e210)
                  have HR210_2 := Aside0.mk hi210_2
                  have HC210_2 := Aside0.mk hl210_2
                  clear hi210_2 hl210_2
                  have HR210_4 := Aside0.mk hi210_4
                  have HC210_4 := Aside0.mk hl210_4
                  clear hi210_4 hl210_4
                  have HR210_5 := Aside0.mk hi210_5
                  have HC210_5 := Aside0.mk hl210_5
                  clear hi210_5 hl210_5
                  replace p210 := eq_true p210
                  replace q210 := eq_true q210
                  have ea_ := Option.some.inj (hx208_2.symm.trans hx210_2)
                  injection ea_ with ea_ en_ ec_
                  subst ea_
                  subst ec_
                  clear en_
                  have ea_ := Option.some.inj (hx208_4.symm.trans hx210_4)
                  injection ea_ with ea_ en_ ec_
                  subst ea_
                  subst ec_
                  clear en_
                  have ea_ := Option.some.inj (hx208_5.symm.trans hx210_5)
                  injection ea_ with ea_ en_ ec_
                  subst ea_
                  subst ec_
                  clear en_
                  go_wp2_with (first | ((with_reducible refine gate_callee (f := 32) rfl ?_); refine goesL_ (some 36) rfl rfl Try.func32 (by kernel_rfl) rfl #[.slice A208_2 ((rd_T50 l0 x5_1).f2).length c208_2, .int .i64 (wrap64 ((wrap64 (x1_1 + 1)) + 1))] rfl (by (try simp only [List.map_toArray, List.map_cons, List.map_nil]); first | done | rfl | (simp only [List.length_drop, List.length_take]; rfl)) ?_; (with_reducible refine (laws_heldTstTestS.calls k1 _ _ ((rd_T50 l0 x5_1).f2) (wrap64 ((wrap64 (x1_1 + 1)) + 1)) t211 _ ?side1 ?side2 A7.out).mono ?_); (case side1 => repeat (first | exact HR210_2.out | (with_reducible refine Kd.C_alloc ?_ _) | (with_reducible refine Kd.C_drewN ?_ _) | (with_reducible refine Kd.C_drew ?_))); (case side2 => exact HC210_2.out); rintro e w' ⟨rfl, ⟨nd, rfl⟩⟩; refine ⟨_, rfl, ?_⟩; have p212 : 0 ≤ (x5_1 : Int) := of_decide_eq_true (by first | (with_reducible assumption) | assumption); have q212 : x5_1 < (l0.length : Int) := of_decide_eq_true (by first | (with_reducible assumption) | assumption); obtain ⟨ad212, A212_2, c212_2, A212_4, c212_4, A212_5, c212_5, e212, hx212_0, hx212_1, hx212_2, hx212_3, hx212_4, hx212_5, hl212_2, hi212_2, hl212_4, hi212_4, hl212_5, hi212_5⟩ := at_T50 HR0.out x5_1 p212 q212; obtain rfl : ad208 = ad212 := (by injection e212); have HR212_2 := Aside0.mk hi212_2; have HC212_2 := Aside0.mk hl212_2; clear hi212_2 hl212_2; have HR212_4 := Aside0.mk hi212_4; have HC212_4 := Aside0.mk hl212_4; clear hi212_4 hl212_4; have HR212_5 := Aside0.mk hi212_5; have HC212_5 := Aside0.mk hl212_5; clear hi212_5 hl212_5; replace p212 := eq_true p212; replace q212 := eq_true q212; have ea_ := Option.some.inj (hx208_2.symm.trans hx212_2); injection ea_ with ea_ en_ ec_; subst ea_; subst ec_; clear en_; have ea_ := Option.some.inj (hx208_4.symm.trans hx212_4); injection ea_ with ea_ en_ ec_; subst ea_; subst ec_; clear en_; have ea_ := Option.some.inj (hx208_5.symm.trans hx212_5); injection ea_ with ea_ en_ ec_; subst ea_; subst ec_; clear en_))
                  go_ret
                  exact ⟨by first | rfl | (simp; done) | (simp [*]; done), by repeat (first | exact Drawn0.refl _ | apply Drawn0.step)⟩
            · rw [if_neg c6] at H
              have c6b0 : (((rd_T50 l0 x5_1).f1) == (wrap64 (x1_1 + 1))) = false := beq_eq_false_iff_ne.mpr c6
              have c6b1 : (((rd_T50 l0 x5_1).f1) != (wrap64 (x1_1 + 1))) = true := bne_iff_ne.mpr c6
              obtain rfl := Option.some.inj H
              have p208 : 0 ≤ (x5_1 : Int) := of_decide_eq_true (by first | (with_reducible assumption) | assumption)
              have q208 : x5_1 < (l0.length : Int) := of_decide_eq_true (by first | (with_reducible assumption) | assumption)
              obtain ⟨ad208, A208_2, c208_2, A208_4, c208_4, A208_5, c208_5, e208, hx208_0, hx208_1, hx208_2, hx208_3, hx208_4, hx208_5, hl208_2, hi208_2, hl208_4, hi208_4, hl208_5, hi208_5⟩ := at_T50 HR0.out x5_1 p208 q208
              cases e208
              have HR208_2 := Aside0.mk hi208_2
              have HC208_2 := Aside0.mk hl208_2
              clear hi208_2 hl208_2
              have HR208_4 := Aside0.mk hi208_4
              have HC208_4 := Aside0.mk hl208_4
              clear hi208_4 hl208_4
              have HR208_5 := Aside0.mk hi208_5
              have HC208_5 := Aside0.mk hl208_5
              clear hi208_5 hl208_5
              replace p208 := eq_true p208
              replace q208 := eq_true q208
              have p209 : 0 ≤ (x5_1 : Int) := of_decide_eq_true (by first | (with_reducible assumption) | assumption)
              have q209 : x5_1 < (l0.length : Int) := of_decide_eq_true (by first | (with_reducible assumption) | assumption)
              obtain ⟨ad209, A209_2, c209_2, A209_4, c209_4, A209_5, c209_5, e209, hx209_0, hx209_1, hx209_2, hx209_3, hx209_4, hx209_5, hl209_2, hi209_2, hl209_4, hi209_4, hl209_5, hi209_5⟩ := at_T50 HR0.out x5_1 p209 q209
              obtain rfl : ad208 = ad209 := (by injection e209)
              have HR209_2 := Aside0.mk hi209_2
              have HC209_2 := Aside0.mk hl209_2
              clear hi209_2 hl209_2
              have HR209_4 := Aside0.mk hi209_4
              have HC209_4 := Aside0.mk hl209_4
              clear hi209_4 hl209_4
              have HR209_5 := Aside0.mk hi209_5
              have HC209_5 := Aside0.mk hl209_5
              clear hi209_5 hl209_5
              replace p209 := eq_true p209
              replace q209 := eq_true q209
              have ea_ := Option.some.inj (hx208_2.symm.trans hx209_2)
              injection ea_ with ea_ en_ ec_
              subst ea_
              subst ec_
              clear en_
              have ea_ := Option.some.inj (hx208_4.symm.trans hx209_4)
              injection ea_ with ea_ en_ ec_
              subst ea_
              subst ec_
              clear en_
              have ea_ := Option.some.inj (hx208_5.symm.trans hx209_5)
              injection ea_ with ea_ en_ ec_
              subst ea_
              subst ec_
              clear en_
              go_wp2
              go_ret
              exact ⟨by first | rfl | (simp; done) | (simp [*]; done), by repeat (first | exact Drawn0.refl _ | apply Drawn0.step)⟩
          · rw [if_neg c5] at H
            have c5b0 : (((rd_T50 l0 x5_1).f0) == x1_1) = false := beq_eq_false_iff_ne.mpr c5
            have c5b1 : (((rd_T50 l0 x5_1).f0) != x1_1) = true := bne_iff_ne.mpr c5
            obtain rfl := Option.some.inj H
            have p208 : 0 ≤ (x5_1 : Int) := of_decide_eq_true (by first | (with_reducible assumption) | assumption)
            have q208 : x5_1 < (l0.length : Int) := of_decide_eq_true (by first | (with_reducible assumption) | assumption)
            obtain ⟨ad208, A208_2, c208_2, A208_4, c208_4, A208_5, c208_5, e208, hx208_0, hx208_1, hx208_2, hx208_3, hx208_4, hx208_5, hl208_2, hi208_2, hl208_4, hi208_4, hl208_5, hi208_5⟩ := at_T50 HR0.out x5_1 p208 q208
            cases e208
            have HR208_2 := Aside0.mk hi208_2
            have HC208_2 := Aside0.mk hl208_2
            clear hi208_2 hl208_2
            have HR208_4 := Aside0.mk hi208_4
            have HC208_4 := Aside0.mk hl208_4
            clear hi208_4 hl208_4
            have HR208_5 := Aside0.mk hi208_5
            have HC208_5 := Aside0.mk hl208_5
            clear hi208_5 hl208_5
            replace p208 := eq_true p208
            replace q208 := eq_true q208
            go_wp2
            go_ret
            exact ⟨by first | rfl | (simp; done) | (simp [*]; done), by repeat (first | exact Drawn0.refl _ | apply Drawn0.step)⟩
        · rw [if_neg c4] at H
          exact absurd H (by simp)
      · rw [if_neg c3] at H
        have c3b0 : decide (x5_1 < (l0.length : Int)) = false := decide_eq_false c3
        clear c3
        obtain rfl := Option.some.inj H
        go_wp2
        go_ret
        exact ⟨by first | rfl | (simp; done) | (simp [*]; done), by repeat (first | exact Drawn0.refl _ | apply Drawn0.step)⟩

end Go.Proofs.Ytpbmobgpipmldab.All
