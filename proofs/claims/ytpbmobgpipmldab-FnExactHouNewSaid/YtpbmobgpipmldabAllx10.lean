-- Written by the session's own program wip/allprint.py, which drives the kit's print; Lean checks it.
import Derived.Test.YtpbmobgpipmldabAllx0
import Derived.Test.YtpbmobgpipmldabAllx9
namespace Go.Proofs.Ytpbmobgpipmldab.All
open Go.RowKit Go.Proofs.YtpbmobgpipmldabW.PrintWords Go.Proofs.YtpbmobgpipmldabW.PrintLast Go.Proofs.YtpbmobgpipmldabW.PrintMore
attribute [local go_sem] max2_int min2_int max_two min_two max_three min_three max_four min_four   -- for this text's walks alone
set_option linter.unusedVariables false
set_option linter.unusedSimpArgs false

/-! ### laws_heldTstTestS: function 32 -/
def laws_heldTstTestS.l0 : Nat → List (S66) → Int → Int → Option (Int)
  | 0, _, _, _ => none
  | k + 1, x0, x1, x5 => if x5 < (x0.length : Int) then (if 0 ≤ x5 then (if ((rd_T66 x0 x5).f0.f0) = x1 then (if ((rd_T66 x0 x5).f0.f1.f0) = (wrap64 (x1 + 1)) then (if ((rd_T66 x0 x5).f0.f1.f1) = (wrap64 ((wrap64 (x1 + 1)) + 1)) then (if ((rd_T66 x0 x5).f0.f2.f0) = (wrap64 ((wrap64 ((wrap64 (x1 + 1)) + 1)) + 1)) then (if ((rd_T66 x0 x5).f0.f2.f1) = (wrap64 ((wrap64 ((wrap64 ((wrap64 (x1 + 1)) + 1)) + 1)) + 1)) then (if ((rd_T66 x0 x5).f0.f3) = (wrap64 ((wrap64 ((wrap64 ((wrap64 ((wrap64 (x1 + 1)) + 1)) + 1)) + 1)) + 1)) then (if ((rd_T66 x0 x5).f1) = (wrap64 ((wrap64 ((wrap64 ((wrap64 ((wrap64 ((wrap64 (x1 + 1)) + 1)) + 1)) + 1)) + 1)) + 1)) then (if ((rd_T66 x0 x5).f2.f0) = (wrap64 ((wrap64 ((wrap64 ((wrap64 ((wrap64 ((wrap64 ((wrap64 (x1 + 1)) + 1)) + 1)) + 1)) + 1)) + 1)) + 1)) then (if ((rd_T66 x0 x5).f2.f1) = (wrap64 ((wrap64 ((wrap64 ((wrap64 ((wrap64 ((wrap64 ((wrap64 ((wrap64 (x1 + 1)) + 1)) + 1)) + 1)) + 1)) + 1)) + 1)) + 1)) then (if ((rd_T66 x0 x5).f3) = (wrap64 ((wrap64 ((wrap64 ((wrap64 ((wrap64 ((wrap64 ((wrap64 ((wrap64 ((wrap64 (x1 + 1)) + 1)) + 1)) + 1)) + 1)) + 1)) + 1)) + 1)) + 1)) then ((laws_heldDecDecS.f k ((rd_T66 x0 x5).f4) (wrap64 ((wrap64 ((wrap64 ((wrap64 ((wrap64 ((wrap64 ((wrap64 ((wrap64 ((wrap64 ((wrap64 (x1 + 1)) + 1)) + 1)) + 1)) + 1)) + 1)) + 1)) + 1)) + 1)) + 1))).bind fun t203 => (if t203 < 0 then (some (-1)) else (laws_heldTstTestS.l0 k x0 t203 (wrap64 (x5 + 1))))) else (some (-1))) else (some (-1))) else (some (-1))) else (some (-1))) else (some (-1))) else (some (-1))) else (some (-1))) else (some (-1))) else (some (-1))) else (some (-1))) else (none)) else (some x1)
def laws_heldTstTestS.f (k : Nat) (l0 : List (S66)) (a1 : Int) : Option (Int) := laws_heldTstTestS.l0 k l0 a1 0
theorem laws_heldTstTestS.mono_l : ∀ k, (∀ y0 y1 y2, LeO (laws_heldTstTestS.l0 k y0 y1 y2) (laws_heldTstTestS.l0 (k + 1) y0 y1 y2))
  | 0 => fun _ _ _ r h => by simp [laws_heldTstTestS.l0] at h
  | k + 1 => by
    have ih0 := laws_heldTstTestS.mono_l k
    · intro y0 y1 y2
      unfold laws_heldTstTestS.l0
      repeat' first
      | (with_reducible exact ih0 _ _ _)
      | (with_reducible exact laws_heldDecDecS.mono _ _ _)
      | (with_reducible exact LeO.refl _)
      | (with_reducible exact LeO.none _)
      | (with_reducible refine LeO.ite ?_ ?_)
      | (with_reducible refine LeO.bind ?_ (fun _ => ?_))
      | exact ih0 _ _ _
      | exact laws_heldDecDecS.mono _ _ _
      | exact LeO.none _
      | refine LeO.ite ?_ ?_
      | refine LeO.bind ?_ (fun _ => ?_)
theorem laws_heldTstTestS.mono : ∀ a0 a1 k, LeO (laws_heldTstTestS.f k a0 a1) (laws_heldTstTestS.f (k + 1) a0 a1) := by
  intro a0 a1 k
  have ih0 := laws_heldTstTestS.mono_l k
  unfold laws_heldTstTestS.f
  repeat' first
      | (with_reducible exact ih0 _ _ _)
      | (with_reducible exact laws_heldDecDecS.mono _ _ _)
      | (with_reducible exact LeO.refl _)
      | (with_reducible exact LeO.none _)
      | (with_reducible refine LeO.ite ?_ ?_)
      | (with_reducible refine LeO.bind ?_ (fun _ => ?_))
      | exact ih0 _ _ _
      | exact laws_heldDecDecS.mono _ _ _
      | exact LeO.none _
      | refine LeO.ite ?_ ?_
      | refine LeO.bind ?_ (fun _ => ?_)
set_option maxHeartbeats 8000000 in
set_option maxRecDepth 100000 in
theorem laws_heldTstTestS.calls (k : Nat) (A0 : Option Addr) (c0 : Nat) (l0 : List (S66)) (a1 : Int) (r : Int) (w : World) (hr0 : Kd.C k66 w A0 l0.length l0) (hc0 : l0.length ≤ c0) (h : laws_heldTstTestS.f k l0 a1 = some r) :
    Calls Try.prog 32 #[.slice A0 l0.length c0, .int .i64 a1] w fun e w' => e = .returned (.int .i64 r) ∧ Drawn0 w w' := by
  have HR0 := Aside0.mk hr0
  have HC0 := Aside0.mk hc0
  clear hr0 hc0
  have H : (laws_heldTstTestS.l0 k l0 a1 0) = some r := h
  clear h
  have H' := Aside0.mk H
  clear H
  go_enter Try.func32, Try.ntmps32
  go_wp2
  go_loopg [1, 5] k (fun kq v1 v5 w' => ∃ (x1_1 : Int) (x5_1 : Int), v1 = .int .i64 x1_1 ∧ v5 = .int .i64 x5_1 ∧ Aside0 (laws_heldTstTestS.l0 kq l0 x1_1 x5_1 = some r) ∧ Aside0 (kq ≤ k) ∧ Drawn0 w w')
  case atStart => exact ⟨(a1), (0), (by first | rfl | (simp; done) | (simp [*]; done)), (by first | rfl | (simp; done) | (simp [*]; done)), H', ⟨Nat.le_refl _⟩, by repeat (first | exact Drawn0.refl _ | apply Drawn0.step)⟩
  case round =>
    clear H'
    try clear p2
    obtain ⟨x1_1, x5_1, rfl, rfl, HA, HK1, ⟨m1, rfl⟩⟩ := hrel
    cases gk with
    | zero => exact absurd HA.out (by simp [laws_heldTstTestS.l0])
    | succ k1 =>
      have H := HA.out
      clear HA
      simp only [laws_heldTstTestS.l0] at H
      by_cases c3 : x5_1 < (l0.length : Int)
      · rw [if_pos c3] at H
        have c3b0 : decide (x5_1 < (l0.length : Int)) = true := decide_eq_true c3
        clear c3
        by_cases c4 : 0 ≤ x5_1
        · rw [if_pos c4] at H
          have c4b0 : decide (0 ≤ x5_1) = true := decide_eq_true c4
          clear c4
          by_cases c5 : ((rd_T66 l0 x5_1).f0.f0) = x1_1
          · rw [if_pos c5] at H
            have c5b0 : (((rd_T66 l0 x5_1).f0.f0) == x1_1) = true := beq_iff_eq.mpr c5
            have c5b1 : (((rd_T66 l0 x5_1).f0.f0) != x1_1) = false := bne_eq_false_iff_eq.mpr c5
            clear c5
            by_cases c6 : ((rd_T66 l0 x5_1).f0.f1.f0) = (wrap64 (x1_1 + 1))
            · rw [if_pos c6] at H
              have c6b0 : (((rd_T66 l0 x5_1).f0.f1.f0) == (wrap64 (x1_1 + 1))) = true := beq_iff_eq.mpr c6
              have c6b1 : (((rd_T66 l0 x5_1).f0.f1.f0) != (wrap64 (x1_1 + 1))) = false := bne_eq_false_iff_eq.mpr c6
              clear c6
              by_cases c7 : ((rd_T66 l0 x5_1).f0.f1.f1) = (wrap64 ((wrap64 (x1_1 + 1)) + 1))
              · rw [if_pos c7] at H
                have c7b0 : (((rd_T66 l0 x5_1).f0.f1.f1) == (wrap64 ((wrap64 (x1_1 + 1)) + 1))) = true := beq_iff_eq.mpr c7
                have c7b1 : (((rd_T66 l0 x5_1).f0.f1.f1) != (wrap64 ((wrap64 (x1_1 + 1)) + 1))) = false := bne_eq_false_iff_eq.mpr c7
                clear c7
                by_cases c8 : ((rd_T66 l0 x5_1).f0.f2.f0) = (wrap64 ((wrap64 ((wrap64 (x1_1 + 1)) + 1)) + 1))
                · rw [if_pos c8] at H
                  have c8b0 : (((rd_T66 l0 x5_1).f0.f2.f0) == (wrap64 ((wrap64 ((wrap64 (x1_1 + 1)) + 1)) + 1))) = true := beq_iff_eq.mpr c8
                  have c8b1 : (((rd_T66 l0 x5_1).f0.f2.f0) != (wrap64 ((wrap64 ((wrap64 (x1_1 + 1)) + 1)) + 1))) = false := bne_eq_false_iff_eq.mpr c8
                  clear c8
                  by_cases c9 : ((rd_T66 l0 x5_1).f0.f2.f1) = (wrap64 ((wrap64 ((wrap64 ((wrap64 (x1_1 + 1)) + 1)) + 1)) + 1))
                  · rw [if_pos c9] at H
                    have c9b0 : (((rd_T66 l0 x5_1).f0.f2.f1) == (wrap64 ((wrap64 ((wrap64 ((wrap64 (x1_1 + 1)) + 1)) + 1)) + 1))) = true := beq_iff_eq.mpr c9
                    have c9b1 : (((rd_T66 l0 x5_1).f0.f2.f1) != (wrap64 ((wrap64 ((wrap64 ((wrap64 (x1_1 + 1)) + 1)) + 1)) + 1))) = false := bne_eq_false_iff_eq.mpr c9
                    clear c9
                    by_cases c10 : ((rd_T66 l0 x5_1).f0.f3) = (wrap64 ((wrap64 ((wrap64 ((wrap64 ((wrap64 (x1_1 + 1)) + 1)) + 1)) + 1)) + 1))
                    · rw [if_pos c10] at H
                      have c10b0 : (((rd_T66 l0 x5_1).f0.f3) == (wrap64 ((wrap64 ((wrap64 ((wrap64 ((wrap64 (x1_1 + 1)) + 1)) + 1)) + 1)) + 1))) = true := beq_iff_eq.mpr c10
                      have c10b1 : (((rd_T66 l0 x5_1).f0.f3) != (wrap64 ((wrap64 ((wrap64 ((wrap64 ((wrap64 (x1_1 + 1)) + 1)) + 1)) + 1)) + 1))) = false := bne_eq_false_iff_eq.mpr c10
                      clear c10
                      by_cases c11 : ((rd_T66 l0 x5_1).f1) = (wrap64 ((wrap64 ((wrap64 ((wrap64 ((wrap64 ((wrap64 (x1_1 + 1)) + 1)) + 1)) + 1)) + 1)) + 1))
                      · rw [if_pos c11] at H
                        have c11b0 : (((rd_T66 l0 x5_1).f1) == (wrap64 ((wrap64 ((wrap64 ((wrap64 ((wrap64 ((wrap64 (x1_1 + 1)) + 1)) + 1)) + 1)) + 1)) + 1))) = true := beq_iff_eq.mpr c11
                        have c11b1 : (((rd_T66 l0 x5_1).f1) != (wrap64 ((wrap64 ((wrap64 ((wrap64 ((wrap64 ((wrap64 (x1_1 + 1)) + 1)) + 1)) + 1)) + 1)) + 1))) = false := bne_eq_false_iff_eq.mpr c11
                        clear c11
                        by_cases c12 : ((rd_T66 l0 x5_1).f2.f0) = (wrap64 ((wrap64 ((wrap64 ((wrap64 ((wrap64 ((wrap64 ((wrap64 (x1_1 + 1)) + 1)) + 1)) + 1)) + 1)) + 1)) + 1))
                        · rw [if_pos c12] at H
                          have c12b0 : (((rd_T66 l0 x5_1).f2.f0) == (wrap64 ((wrap64 ((wrap64 ((wrap64 ((wrap64 ((wrap64 ((wrap64 (x1_1 + 1)) + 1)) + 1)) + 1)) + 1)) + 1)) + 1))) = true := beq_iff_eq.mpr c12
                          have c12b1 : (((rd_T66 l0 x5_1).f2.f0) != (wrap64 ((wrap64 ((wrap64 ((wrap64 ((wrap64 ((wrap64 ((wrap64 (x1_1 + 1)) + 1)) + 1)) + 1)) + 1)) + 1)) + 1))) = false := bne_eq_false_iff_eq.mpr c12
                          clear c12
                          by_cases c13 : ((rd_T66 l0 x5_1).f2.f1) = (wrap64 ((wrap64 ((wrap64 ((wrap64 ((wrap64 ((wrap64 ((wrap64 ((wrap64 (x1_1 + 1)) + 1)) + 1)) + 1)) + 1)) + 1)) + 1)) + 1))
                          · rw [if_pos c13] at H
                            have c13b0 : (((rd_T66 l0 x5_1).f2.f1) == (wrap64 ((wrap64 ((wrap64 ((wrap64 ((wrap64 ((wrap64 ((wrap64 ((wrap64 (x1_1 + 1)) + 1)) + 1)) + 1)) + 1)) + 1)) + 1)) + 1))) = true := beq_iff_eq.mpr c13
                            have c13b1 : (((rd_T66 l0 x5_1).f2.f1) != (wrap64 ((wrap64 ((wrap64 ((wrap64 ((wrap64 ((wrap64 ((wrap64 ((wrap64 (x1_1 + 1)) + 1)) + 1)) + 1)) + 1)) + 1)) + 1)) + 1))) = false := bne_eq_false_iff_eq.mpr c13
                            clear c13
                            by_cases c14 : ((rd_T66 l0 x5_1).f3) = (wrap64 ((wrap64 ((wrap64 ((wrap64 ((wrap64 ((wrap64 ((wrap64 ((wrap64 ((wrap64 (x1_1 + 1)) + 1)) + 1)) + 1)) + 1)) + 1)) + 1)) + 1)) + 1))
                            · rw [if_pos c14] at H
                              have c14b0 : (((rd_T66 l0 x5_1).f3) == (wrap64 ((wrap64 ((wrap64 ((wrap64 ((wrap64 ((wrap64 ((wrap64 ((wrap64 ((wrap64 (x1_1 + 1)) + 1)) + 1)) + 1)) + 1)) + 1)) + 1)) + 1)) + 1))) = true := beq_iff_eq.mpr c14
                              have c14b1 : (((rd_T66 l0 x5_1).f3) != (wrap64 ((wrap64 ((wrap64 ((wrap64 ((wrap64 ((wrap64 ((wrap64 ((wrap64 ((wrap64 (x1_1 + 1)) + 1)) + 1)) + 1)) + 1)) + 1)) + 1)) + 1)) + 1))) = false := bne_eq_false_iff_eq.mpr c14
                              clear c14
                              replace H := Option.bind_eq_some_iff.mp H
                              obtain ⟨t203, A150, H⟩ := H
                              replace H : (if t203 < 0 then (some (-1)) else (laws_heldTstTestS.l0 k1 l0 t203 (wrap64 (x5_1 + 1)))) = some r := H
                              have A15 := Aside0.mk A150
                              clear A150
                              by_cases c16 : t203 < 0
                              · rw [if_pos c16] at H
                                have c16b0 : decide (t203 < 0) = true := decide_eq_true c16
                                clear c16
                                obtain rfl := Option.some.inj H
                                have p192 : 0 ≤ (x5_1 : Int) := of_decide_eq_true (by first | (with_reducible assumption) | assumption)
                                have q192 : x5_1 < (l0.length : Int) := of_decide_eq_true (by first | (with_reducible assumption) | assumption)
                                obtain ⟨ad192, A192_10, c192_10, e192, hx192_0, hx192_1, hx192_2, hx192_3, hx192_4, hx192_5, hx192_6, hx192_7, hx192_8, hx192_9, hx192_10, hl192_10, hi192_10⟩ := at_T66 HR0.out x5_1 p192 q192
                                cases e192
                                have HR192_10 := Aside0.mk hi192_10
                                have HC192_10 := Aside0.mk hl192_10
                                clear hi192_10 hl192_10
                                replace p192 := eq_true p192
                                replace q192 := eq_true q192
                                have p193 : 0 ≤ (x5_1 : Int) := of_decide_eq_true (by first | (with_reducible assumption) | assumption)
                                have q193 : x5_1 < (l0.length : Int) := of_decide_eq_true (by first | (with_reducible assumption) | assumption)
                                obtain ⟨ad193, A193_10, c193_10, e193, hx193_0, hx193_1, hx193_2, hx193_3, hx193_4, hx193_5, hx193_6, hx193_7, hx193_8, hx193_9, hx193_10, hl193_10, hi193_10⟩ := at_T66 HR0.out x5_1 p193 q193
                                obtain rfl : ad192 = ad193 := (by injection e193)
                                have HR193_10 := Aside0.mk hi193_10
                                have HC193_10 := Aside0.mk hl193_10
                                clear hi193_10 hl193_10
                                replace p193 := eq_true p193
                                replace q193 := eq_true q193
                                have ea_ := Option.some.inj (hx192_10.symm.trans hx193_10)
                                injection ea_ with ea_ en_ ec_
                                subst ea_
                                subst ec_
                                clear en_
                                have p194 : 0 ≤ (x5_1 : Int) := of_decide_eq_true (by first | (with_reducible assumption) | assumption)
                                have q194 : x5_1 < (l0.length : Int) := of_decide_eq_true (by first | (with_reducible assumption) | assumption)
                                obtain ⟨ad194, A194_10, c194_10, e194, hx194_0, hx194_1, hx194_2, hx194_3, hx194_4, hx194_5, hx194_6, hx194_7, hx194_8, hx194_9, hx194_10, hl194_10, hi194_10⟩ := at_T66 HR0.out x5_1 p194 q194
                                obtain rfl : ad192 = ad194 := (by injection e194)
                                have HR194_10 := Aside0.mk hi194_10
                                have HC194_10 := Aside0.mk hl194_10
                                clear hi194_10 hl194_10
                                replace p194 := eq_true p194
                                replace q194 := eq_true q194
                                have ea_ := Option.some.inj (hx192_10.symm.trans hx194_10)
                                injection ea_ with ea_ en_ ec_
                                subst ea_
                                subst ec_
                                clear en_
                                have p195 : 0 ≤ (x5_1 : Int) := of_decide_eq_true (by first | (with_reducible assumption) | assumption)
                                have q195 : x5_1 < (l0.length : Int) := of_decide_eq_true (by first | (with_reducible assumption) | assumption)
                                obtain ⟨ad195, A195_10, c195_10, e195, hx195_0, hx195_1, hx195_2, hx195_3, hx195_4, hx195_5, hx195_6, hx195_7, hx195_8, hx195_9, hx195_10, hl195_10, hi195_10⟩ := at_T66 HR0.out x5_1 p195 q195
                                obtain rfl : ad192 = ad195 := (by injection e195)
                                have HR195_10 := Aside0.mk hi195_10
                                have HC195_10 := Aside0.mk hl195_10
                                clear hi195_10 hl195_10
                                replace p195 := eq_true p195
                                replace q195 := eq_true q195
                                have ea_ := Option.some.inj (hx192_10.symm.trans hx195_10)
                                injection ea_ with ea_ en_ ec_
                                subst ea_
                                subst ec_
                                clear en_
                                have p196 : 0 ≤ (x5_1 : Int) := of_decide_eq_true (by first | (with_reducible assumption) | assumption)
                                have q196 : x5_1 < (l0.length : Int) := of_decide_eq_true (by first | (with_reducible assumption) | assumption)
                                obtain ⟨ad196, A196_10, c196_10, e196, hx196_0, hx196_1, hx196_2, hx196_3, hx196_4, hx196_5, hx196_6, hx196_7, hx196_8, hx196_9, hx196_10, hl196_10, hi196_10⟩ := at_T66 HR0.out x5_1 p196 q196
                                obtain rfl : ad192 = ad196 := (by injection e196)
                                have HR196_10 := Aside0.mk hi196_10
                                have HC196_10 := Aside0.mk hl196_10
                                clear hi196_10 hl196_10
                                replace p196 := eq_true p196
                                replace q196 := eq_true q196
                                have ea_ := Option.some.inj (hx192_10.symm.trans hx196_10)
                                injection ea_ with ea_ en_ ec_
                                subst ea_
                                subst ec_
                                clear en_
                                have p197 : 0 ≤ (x5_1 : Int) := of_decide_eq_true (by first | (with_reducible assumption) | assumption)
                                have q197 : x5_1 < (l0.length : Int) := of_decide_eq_true (by first | (with_reducible assumption) | assumption)
                                obtain ⟨ad197, A197_10, c197_10, e197, hx197_0, hx197_1, hx197_2, hx197_3, hx197_4, hx197_5, hx197_6, hx197_7, hx197_8, hx197_9, hx197_10, hl197_10, hi197_10⟩ := at_T66 HR0.out x5_1 p197 q197
                                obtain rfl : ad192 = ad197 := (by injection e197)
                                have HR197_10 := Aside0.mk hi197_10
                                have HC197_10 := Aside0.mk hl197_10
                                clear hi197_10 hl197_10
                                replace p197 := eq_true p197
                                replace q197 := eq_true q197
                                have ea_ := Option.some.inj (hx192_10.symm.trans hx197_10)
                                injection ea_ with ea_ en_ ec_
                                subst ea_
                                subst ec_
                                clear en_
                                have p198 : 0 ≤ (x5_1 : Int) := of_decide_eq_true (by first | (with_reducible assumption) | assumption)
                                have q198 : x5_1 < (l0.length : Int) := of_decide_eq_true (by first | (with_reducible assumption) | assumption)
                                obtain ⟨ad198, A198_10, c198_10, e198, hx198_0, hx198_1, hx198_2, hx198_3, hx198_4, hx198_5, hx198_6, hx198_7, hx198_8, hx198_9, hx198_10, hl198_10, hi198_10⟩ := at_T66 HR0.out x5_1 p198 q198
                                obtain rfl : ad192 = ad198 := (by injection e198)
                                have HR198_10 := Aside0.mk hi198_10
                                have HC198_10 := Aside0.mk hl198_10
                                clear hi198_10 hl198_10
                                replace p198 := eq_true p198
                                replace q198 := eq_true q198
                                have ea_ := Option.some.inj (hx192_10.symm.trans hx198_10)
                                injection ea_ with ea_ en_ ec_
                                subst ea_
                                subst ec_
                                clear en_
                                have p199 : 0 ≤ (x5_1 : Int) := of_decide_eq_true (by first | (with_reducible assumption) | assumption)
                                have q199 : x5_1 < (l0.length : Int) := of_decide_eq_true (by first | (with_reducible assumption) | assumption)
                                obtain ⟨ad199, A199_10, c199_10, e199, hx199_0, hx199_1, hx199_2, hx199_3, hx199_4, hx199_5, hx199_6, hx199_7, hx199_8, hx199_9, hx199_10, hl199_10, hi199_10⟩ := at_T66 HR0.out x5_1 p199 q199
                                obtain rfl : ad192 = ad199 := (by injection e199)
                                have HR199_10 := Aside0.mk hi199_10
                                have HC199_10 := Aside0.mk hl199_10
                                clear hi199_10 hl199_10
                                replace p199 := eq_true p199
                                replace q199 := eq_true q199
                                have ea_ := Option.some.inj (hx192_10.symm.trans hx199_10)
                                injection ea_ with ea_ en_ ec_
                                subst ea_
                                subst ec_
                                clear en_
                                have p200 : 0 ≤ (x5_1 : Int) := of_decide_eq_true (by first | (with_reducible assumption) | assumption)
                                have q200 : x5_1 < (l0.length : Int) := of_decide_eq_true (by first | (with_reducible assumption) | assumption)
                                obtain ⟨ad200, A200_10, c200_10, e200, hx200_0, hx200_1, hx200_2, hx200_3, hx200_4, hx200_5, hx200_6, hx200_7, hx200_8, hx200_9, hx200_10, hl200_10, hi200_10⟩ := at_T66 HR0.out x5_1 p200 q200
                                obtain rfl : ad192 = ad200 := (by injection e200)
                                have HR200_10 := Aside0.mk hi200_10
                                have HC200_10 := Aside0.mk hl200_10
                                clear hi200_10 hl200_10
                                replace p200 := eq_true p200
                                replace q200 := eq_true q200
                                have ea_ := Option.some.inj (hx192_10.symm.trans hx200_10)
                                injection ea_ with ea_ en_ ec_
                                subst ea_
                                subst ec_
                                clear en_
                                have p201 : 0 ≤ (x5_1 : Int) := of_decide_eq_true (by first | (with_reducible assumption) | assumption)
                                have q201 : x5_1 < (l0.length : Int) := of_decide_eq_true (by first | (with_reducible assumption) | assumption)
                                obtain ⟨ad201, A201_10, c201_10, e201, hx201_0, hx201_1, hx201_2, hx201_3, hx201_4, hx201_5, hx201_6, hx201_7, hx201_8, hx201_9, hx201_10, hl201_10, hi201_10⟩ := at_T66 HR0.out x5_1 p201 q201
                                obtain rfl : ad192 = ad201 := (by injection e201)
                                have HR201_10 := Aside0.mk hi201_10
                                have HC201_10 := Aside0.mk hl201_10
                                clear hi201_10 hl201_10
                                replace p201 := eq_true p201
                                replace q201 := eq_true q201
                                have ea_ := Option.some.inj (hx192_10.symm.trans hx201_10)
                                injection ea_ with ea_ en_ ec_
                                subst ea_
                                subst ec_
                                clear en_
                                have p202 : 0 ≤ (x5_1 : Int) := of_decide_eq_true (by first | (with_reducible assumption) | assumption)
                                have q202 : x5_1 < (l0.length : Int) := of_decide_eq_true (by first | (with_reducible assumption) | assumption)
                                obtain ⟨ad202, A202_10, c202_10, e202, hx202_0, hx202_1, hx202_2, hx202_3, hx202_4, hx202_5, hx202_6, hx202_7, hx202_8, hx202_9, hx202_10, hl202_10, hi202_10⟩ := at_T66 HR0.out x5_1 p202 q202
                                obtain rfl : ad192 = ad202 := (by injection e202)
                                have HR202_10 := Aside0.mk hi202_10
                                have HC202_10 := Aside0.mk hl202_10
                                clear hi202_10 hl202_10
                                replace p202 := eq_true p202
                                replace q202 := eq_true q202
                                have ea_ := Option.some.inj (hx192_10.symm.trans hx202_10)
                                injection ea_ with ea_ en_ ec_
                                subst ea_
                                subst ec_
                                clear en_
                                go_wp2_with (first | ((with_reducible refine gate_callee (f := 41) rfl ?_); refine goesL_ (some 120) rfl rfl Try.func41 (by kernel_rfl) rfl #[.slice A192_10 ((rd_T66 l0 x5_1).f4).length c192_10, .int .i64 (wrap64 ((wrap64 ((wrap64 ((wrap64 ((wrap64 ((wrap64 ((wrap64 ((wrap64 ((wrap64 ((wrap64 (x1_1 + 1)) + 1)) + 1)) + 1)) + 1)) + 1)) + 1)) + 1)) + 1)) + 1))] rfl (by (try simp only [List.map_toArray, List.map_cons, List.map_nil]); first | done | rfl | (simp only [List.length_drop, List.length_take]; rfl)) ?_; (with_reducible refine (laws_heldDecDecS.calls k1 _ _ ((rd_T66 l0 x5_1).f4) (wrap64 ((wrap64 ((wrap64 ((wrap64 ((wrap64 ((wrap64 ((wrap64 ((wrap64 ((wrap64 ((wrap64 (x1_1 + 1)) + 1)) + 1)) + 1)) + 1)) + 1)) + 1)) + 1)) + 1)) + 1)) t203 _ ?side1 ?side2 A15.out).mono ?_); (case side1 => repeat (first | exact HR202_10.out | (with_reducible refine Kd.C_alloc ?_ _) | (with_reducible refine Kd.C_drewN ?_ _) | (with_reducible refine Kd.C_drew ?_))); (case side2 => exact HC202_10.out); rintro e w' ⟨rfl, ⟨nd, rfl⟩⟩; refine ⟨_, rfl, ?_⟩))
                                go_ret
                                exact ⟨by first | rfl | (simp; done) | (simp [*]; done), by repeat (first | exact Drawn0.refl _ | apply Drawn0.step)⟩
                              · rw [if_neg c16] at H
                                have c16b0 : decide (t203 < 0) = false := decide_eq_false c16
                                clear c16
                                have H' := Aside0.mk H
                                clear H
                                have p192 : 0 ≤ (x5_1 : Int) := of_decide_eq_true (by first | (with_reducible assumption) | assumption)
                                have q192 : x5_1 < (l0.length : Int) := of_decide_eq_true (by first | (with_reducible assumption) | assumption)
                                obtain ⟨ad192, A192_10, c192_10, e192, hx192_0, hx192_1, hx192_2, hx192_3, hx192_4, hx192_5, hx192_6, hx192_7, hx192_8, hx192_9, hx192_10, hl192_10, hi192_10⟩ := at_T66 HR0.out x5_1 p192 q192
                                cases e192
                                have HR192_10 := Aside0.mk hi192_10
                                have HC192_10 := Aside0.mk hl192_10
                                clear hi192_10 hl192_10
                                replace p192 := eq_true p192
                                replace q192 := eq_true q192
                                have p193 : 0 ≤ (x5_1 : Int) := of_decide_eq_true (by first | (with_reducible assumption) | assumption)
                                have q193 : x5_1 < (l0.length : Int) := of_decide_eq_true (by first | (with_reducible assumption) | assumption)
                                obtain ⟨ad193, A193_10, c193_10, e193, hx193_0, hx193_1, hx193_2, hx193_3, hx193_4, hx193_5, hx193_6, hx193_7, hx193_8, hx193_9, hx193_10, hl193_10, hi193_10⟩ := at_T66 HR0.out x5_1 p193 q193
                                obtain rfl : ad192 = ad193 := (by injection e193)
                                have HR193_10 := Aside0.mk hi193_10
                                have HC193_10 := Aside0.mk hl193_10
                                clear hi193_10 hl193_10
                                replace p193 := eq_true p193
                                replace q193 := eq_true q193
                                have ea_ := Option.some.inj (hx192_10.symm.trans hx193_10)
                                injection ea_ with ea_ en_ ec_
                                subst ea_
                                subst ec_
                                clear en_
                                have p194 : 0 ≤ (x5_1 : Int) := of_decide_eq_true (by first | (with_reducible assumption) | assumption)
                                have q194 : x5_1 < (l0.length : Int) := of_decide_eq_true (by first | (with_reducible assumption) | assumption)
                                obtain ⟨ad194, A194_10, c194_10, e194, hx194_0, hx194_1, hx194_2, hx194_3, hx194_4, hx194_5, hx194_6, hx194_7, hx194_8, hx194_9, hx194_10, hl194_10, hi194_10⟩ := at_T66 HR0.out x5_1 p194 q194
                                obtain rfl : ad192 = ad194 := (by injection e194)
                                have HR194_10 := Aside0.mk hi194_10
                                have HC194_10 := Aside0.mk hl194_10
                                clear hi194_10 hl194_10
                                replace p194 := eq_true p194
                                replace q194 := eq_true q194
                                have ea_ := Option.some.inj (hx192_10.symm.trans hx194_10)
                                injection ea_ with ea_ en_ ec_
                                subst ea_
                                subst ec_
                                clear en_
                                have p195 : 0 ≤ (x5_1 : Int) := of_decide_eq_true (by first | (with_reducible assumption) | assumption)
                                have q195 : x5_1 < (l0.length : Int) := of_decide_eq_true (by first | (with_reducible assumption) | assumption)
                                obtain ⟨ad195, A195_10, c195_10, e195, hx195_0, hx195_1, hx195_2, hx195_3, hx195_4, hx195_5, hx195_6, hx195_7, hx195_8, hx195_9, hx195_10, hl195_10, hi195_10⟩ := at_T66 HR0.out x5_1 p195 q195
                                obtain rfl : ad192 = ad195 := (by injection e195)
                                have HR195_10 := Aside0.mk hi195_10
                                have HC195_10 := Aside0.mk hl195_10
                                clear hi195_10 hl195_10
                                replace p195 := eq_true p195
                                replace q195 := eq_true q195
                                have ea_ := Option.some.inj (hx192_10.symm.trans hx195_10)
                                injection ea_ with ea_ en_ ec_
                                subst ea_
                                subst ec_
                                clear en_
                                have p196 : 0 ≤ (x5_1 : Int) := of_decide_eq_true (by first | (with_reducible assumption) | assumption)
                                have q196 : x5_1 < (l0.length : Int) := of_decide_eq_true (by first | (with_reducible assumption) | assumption)
                                obtain ⟨ad196, A196_10, c196_10, e196, hx196_0, hx196_1, hx196_2, hx196_3, hx196_4, hx196_5, hx196_6, hx196_7, hx196_8, hx196_9, hx196_10, hl196_10, hi196_10⟩ := at_T66 HR0.out x5_1 p196 q196
                                obtain rfl : ad192 = ad196 := (by injection e196)
                                have HR196_10 := Aside0.mk hi196_10
                                have HC196_10 := Aside0.mk hl196_10
                                clear hi196_10 hl196_10
                                replace p196 := eq_true p196
                                replace q196 := eq_true q196
                                have ea_ := Option.some.inj (hx192_10.symm.trans hx196_10)
                                injection ea_ with ea_ en_ ec_
                                subst ea_
                                subst ec_
                                clear en_
                                have p197 : 0 ≤ (x5_1 : Int) := of_decide_eq_true (by first | (with_reducible assumption) | assumption)
                                have q197 : x5_1 < (l0.length : Int) := of_decide_eq_true (by first | (with_reducible assumption) | assumption)
                                obtain ⟨ad197, A197_10, c197_10, e197, hx197_0, hx197_1, hx197_2, hx197_3, hx197_4, hx197_5, hx197_6, hx197_7, hx197_8, hx197_9, hx197_10, hl197_10, hi197_10⟩ := at_T66 HR0.out x5_1 p197 q197
                                obtain rfl : ad192 = ad197 := (by injection e197)
                                have HR197_10 := Aside0.mk hi197_10
                                have HC197_10 := Aside0.mk hl197_10
                                clear hi197_10 hl197_10
                                replace p197 := eq_true p197
                                replace q197 := eq_true q197
                                have ea_ := Option.some.inj (hx192_10.symm.trans hx197_10)
                                injection ea_ with ea_ en_ ec_
                                subst ea_
                                subst ec_
                                clear en_
                                have p198 : 0 ≤ (x5_1 : Int) := of_decide_eq_true (by first | (with_reducible assumption) | assumption)
                                have q198 : x5_1 < (l0.length : Int) := of_decide_eq_true (by first | (with_reducible assumption) | assumption)
                                obtain ⟨ad198, A198_10, c198_10, e198, hx198_0, hx198_1, hx198_2, hx198_3, hx198_4, hx198_5, hx198_6, hx198_7, hx198_8, hx198_9, hx198_10, hl198_10, hi198_10⟩ := at_T66 HR0.out x5_1 p198 q198
                                obtain rfl : ad192 = ad198 := (by injection e198)
                                have HR198_10 := Aside0.mk hi198_10
                                have HC198_10 := Aside0.mk hl198_10
                                clear hi198_10 hl198_10
                                replace p198 := eq_true p198
                                replace q198 := eq_true q198
                                have ea_ := Option.some.inj (hx192_10.symm.trans hx198_10)
                                injection ea_ with ea_ en_ ec_
                                subst ea_
                                subst ec_
                                clear en_
                                have p199 : 0 ≤ (x5_1 : Int) := of_decide_eq_true (by first | (with_reducible assumption) | assumption)
                                have q199 : x5_1 < (l0.length : Int) := of_decide_eq_true (by first | (with_reducible assumption) | assumption)
                                obtain ⟨ad199, A199_10, c199_10, e199, hx199_0, hx199_1, hx199_2, hx199_3, hx199_4, hx199_5, hx199_6, hx199_7, hx199_8, hx199_9, hx199_10, hl199_10, hi199_10⟩ := at_T66 HR0.out x5_1 p199 q199
                                obtain rfl : ad192 = ad199 := (by injection e199)
                                have HR199_10 := Aside0.mk hi199_10
                                have HC199_10 := Aside0.mk hl199_10
                                clear hi199_10 hl199_10
                                replace p199 := eq_true p199
                                replace q199 := eq_true q199
                                have ea_ := Option.some.inj (hx192_10.symm.trans hx199_10)
                                injection ea_ with ea_ en_ ec_
                                subst ea_
                                subst ec_
                                clear en_
                                have p200 : 0 ≤ (x5_1 : Int) := of_decide_eq_true (by first | (with_reducible assumption) | assumption)
                                have q200 : x5_1 < (l0.length : Int) := of_decide_eq_true (by first | (with_reducible assumption) | assumption)
                                obtain ⟨ad200, A200_10, c200_10, e200, hx200_0, hx200_1, hx200_2, hx200_3, hx200_4, hx200_5, hx200_6, hx200_7, hx200_8, hx200_9, hx200_10, hl200_10, hi200_10⟩ := at_T66 HR0.out x5_1 p200 q200
                                obtain rfl : ad192 = ad200 := (by injection e200)
                                have HR200_10 := Aside0.mk hi200_10
                                have HC200_10 := Aside0.mk hl200_10
                                clear hi200_10 hl200_10
                                replace p200 := eq_true p200
                                replace q200 := eq_true q200
                                have ea_ := Option.some.inj (hx192_10.symm.trans hx200_10)
                                injection ea_ with ea_ en_ ec_
                                subst ea_
                                subst ec_
                                clear en_
                                have p201 : 0 ≤ (x5_1 : Int) := of_decide_eq_true (by first | (with_reducible assumption) | assumption)
                                have q201 : x5_1 < (l0.length : Int) := of_decide_eq_true (by first | (with_reducible assumption) | assumption)
                                obtain ⟨ad201, A201_10, c201_10, e201, hx201_0, hx201_1, hx201_2, hx201_3, hx201_4, hx201_5, hx201_6, hx201_7, hx201_8, hx201_9, hx201_10, hl201_10, hi201_10⟩ := at_T66 HR0.out x5_1 p201 q201
                                obtain rfl : ad192 = ad201 := (by injection e201)
                                have HR201_10 := Aside0.mk hi201_10
                                have HC201_10 := Aside0.mk hl201_10
                                clear hi201_10 hl201_10
                                replace p201 := eq_true p201
                                replace q201 := eq_true q201
                                have ea_ := Option.some.inj (hx192_10.symm.trans hx201_10)
                                injection ea_ with ea_ en_ ec_
                                subst ea_
                                subst ec_
                                clear en_
                                have p202 : 0 ≤ (x5_1 : Int) := of_decide_eq_true (by first | (with_reducible assumption) | assumption)
                                have q202 : x5_1 < (l0.length : Int) := of_decide_eq_true (by first | (with_reducible assumption) | assumption)
                                obtain ⟨ad202, A202_10, c202_10, e202, hx202_0, hx202_1, hx202_2, hx202_3, hx202_4, hx202_5, hx202_6, hx202_7, hx202_8, hx202_9, hx202_10, hl202_10, hi202_10⟩ := at_T66 HR0.out x5_1 p202 q202
                                obtain rfl : ad192 = ad202 := (by injection e202)
                                have HR202_10 := Aside0.mk hi202_10
                                have HC202_10 := Aside0.mk hl202_10
                                clear hi202_10 hl202_10
                                replace p202 := eq_true p202
                                replace q202 := eq_true q202
                                have ea_ := Option.some.inj (hx192_10.symm.trans hx202_10)
                                injection ea_ with ea_ en_ ec_
                                subst ea_
                                subst ec_
                                clear en_
                                go_wp2_with (first | ((with_reducible refine gate_callee (f := 41) rfl ?_); refine goesL_ (some 120) rfl rfl Try.func41 (by kernel_rfl) rfl #[.slice A192_10 ((rd_T66 l0 x5_1).f4).length c192_10, .int .i64 (wrap64 ((wrap64 ((wrap64 ((wrap64 ((wrap64 ((wrap64 ((wrap64 ((wrap64 ((wrap64 ((wrap64 (x1_1 + 1)) + 1)) + 1)) + 1)) + 1)) + 1)) + 1)) + 1)) + 1)) + 1))] rfl (by (try simp only [List.map_toArray, List.map_cons, List.map_nil]); first | done | rfl | (simp only [List.length_drop, List.length_take]; rfl)) ?_; (with_reducible refine (laws_heldDecDecS.calls k1 _ _ ((rd_T66 l0 x5_1).f4) (wrap64 ((wrap64 ((wrap64 ((wrap64 ((wrap64 ((wrap64 ((wrap64 ((wrap64 ((wrap64 ((wrap64 (x1_1 + 1)) + 1)) + 1)) + 1)) + 1)) + 1)) + 1)) + 1)) + 1)) + 1)) t203 _ ?side1 ?side2 A15.out).mono ?_); (case side1 => repeat (first | exact HR202_10.out | (with_reducible refine Kd.C_alloc ?_ _) | (with_reducible refine Kd.C_drewN ?_ _) | (with_reducible refine Kd.C_drew ?_))); (case side2 => exact HC202_10.out); rintro e w' ⟨rfl, ⟨nd, rfl⟩⟩; refine ⟨_, rfl, ?_⟩))
                                go_roundg k1
                                case measure => have := HK1.out; omega
                                case rel => exact ⟨(t203), (wrap64 (x5_1 + 1)), (by first | rfl | (simp; done) | (simp [*]; done)), (by first | rfl | (simp; done) | (simp [*]; done)), H', ⟨by have := HK1.out; omega⟩, by repeat (first | exact Drawn0.refl _ | apply Drawn0.step)⟩
                            · rw [if_neg c14] at H
                              have c14b0 : (((rd_T66 l0 x5_1).f3) == (wrap64 ((wrap64 ((wrap64 ((wrap64 ((wrap64 ((wrap64 ((wrap64 ((wrap64 ((wrap64 (x1_1 + 1)) + 1)) + 1)) + 1)) + 1)) + 1)) + 1)) + 1)) + 1))) = false := beq_eq_false_iff_ne.mpr c14
                              have c14b1 : (((rd_T66 l0 x5_1).f3) != (wrap64 ((wrap64 ((wrap64 ((wrap64 ((wrap64 ((wrap64 ((wrap64 ((wrap64 ((wrap64 (x1_1 + 1)) + 1)) + 1)) + 1)) + 1)) + 1)) + 1)) + 1)) + 1))) = true := bne_iff_ne.mpr c14
                              obtain rfl := Option.some.inj H
                              have p192 : 0 ≤ (x5_1 : Int) := of_decide_eq_true (by first | (with_reducible assumption) | assumption)
                              have q192 : x5_1 < (l0.length : Int) := of_decide_eq_true (by first | (with_reducible assumption) | assumption)
                              obtain ⟨ad192, A192_10, c192_10, e192, hx192_0, hx192_1, hx192_2, hx192_3, hx192_4, hx192_5, hx192_6, hx192_7, hx192_8, hx192_9, hx192_10, hl192_10, hi192_10⟩ := at_T66 HR0.out x5_1 p192 q192
                              cases e192
                              have HR192_10 := Aside0.mk hi192_10
                              have HC192_10 := Aside0.mk hl192_10
                              clear hi192_10 hl192_10
                              replace p192 := eq_true p192
                              replace q192 := eq_true q192
                              have p193 : 0 ≤ (x5_1 : Int) := of_decide_eq_true (by first | (with_reducible assumption) | assumption)
                              have q193 : x5_1 < (l0.length : Int) := of_decide_eq_true (by first | (with_reducible assumption) | assumption)
                              obtain ⟨ad193, A193_10, c193_10, e193, hx193_0, hx193_1, hx193_2, hx193_3, hx193_4, hx193_5, hx193_6, hx193_7, hx193_8, hx193_9, hx193_10, hl193_10, hi193_10⟩ := at_T66 HR0.out x5_1 p193 q193
                              obtain rfl : ad192 = ad193 := (by injection e193)
                              have HR193_10 := Aside0.mk hi193_10
                              have HC193_10 := Aside0.mk hl193_10
                              clear hi193_10 hl193_10
                              replace p193 := eq_true p193
                              replace q193 := eq_true q193
                              have ea_ := Option.some.inj (hx192_10.symm.trans hx193_10)
                              injection ea_ with ea_ en_ ec_
                              subst ea_
                              subst ec_
                              clear en_
                              have p194 : 0 ≤ (x5_1 : Int) := of_decide_eq_true (by first | (with_reducible assumption) | assumption)
                              have q194 : x5_1 < (l0.length : Int) := of_decide_eq_true (by first | (with_reducible assumption) | assumption)
                              obtain ⟨ad194, A194_10, c194_10, e194, hx194_0, hx194_1, hx194_2, hx194_3, hx194_4, hx194_5, hx194_6, hx194_7, hx194_8, hx194_9, hx194_10, hl194_10, hi194_10⟩ := at_T66 HR0.out x5_1 p194 q194
                              obtain rfl : ad192 = ad194 := (by injection e194)
                              have HR194_10 := Aside0.mk hi194_10
                              have HC194_10 := Aside0.mk hl194_10
                              clear hi194_10 hl194_10
                              replace p194 := eq_true p194
                              replace q194 := eq_true q194
                              have ea_ := Option.some.inj (hx192_10.symm.trans hx194_10)
                              injection ea_ with ea_ en_ ec_
                              subst ea_
                              subst ec_
                              clear en_
                              have p195 : 0 ≤ (x5_1 : Int) := of_decide_eq_true (by first | (with_reducible assumption) | assumption)
                              have q195 : x5_1 < (l0.length : Int) := of_decide_eq_true (by first | (with_reducible assumption) | assumption)
                              obtain ⟨ad195, A195_10, c195_10, e195, hx195_0, hx195_1, hx195_2, hx195_3, hx195_4, hx195_5, hx195_6, hx195_7, hx195_8, hx195_9, hx195_10, hl195_10, hi195_10⟩ := at_T66 HR0.out x5_1 p195 q195
                              obtain rfl : ad192 = ad195 := (by injection e195)
                              have HR195_10 := Aside0.mk hi195_10
                              have HC195_10 := Aside0.mk hl195_10
                              clear hi195_10 hl195_10
                              replace p195 := eq_true p195
                              replace q195 := eq_true q195
                              have ea_ := Option.some.inj (hx192_10.symm.trans hx195_10)
                              injection ea_ with ea_ en_ ec_
                              subst ea_
                              subst ec_
                              clear en_
                              have p196 : 0 ≤ (x5_1 : Int) := of_decide_eq_true (by first | (with_reducible assumption) | assumption)
                              have q196 : x5_1 < (l0.length : Int) := of_decide_eq_true (by first | (with_reducible assumption) | assumption)
                              obtain ⟨ad196, A196_10, c196_10, e196, hx196_0, hx196_1, hx196_2, hx196_3, hx196_4, hx196_5, hx196_6, hx196_7, hx196_8, hx196_9, hx196_10, hl196_10, hi196_10⟩ := at_T66 HR0.out x5_1 p196 q196
                              obtain rfl : ad192 = ad196 := (by injection e196)
                              have HR196_10 := Aside0.mk hi196_10
                              have HC196_10 := Aside0.mk hl196_10
                              clear hi196_10 hl196_10
                              replace p196 := eq_true p196
                              replace q196 := eq_true q196
                              have ea_ := Option.some.inj (hx192_10.symm.trans hx196_10)
                              injection ea_ with ea_ en_ ec_
                              subst ea_
                              subst ec_
                              clear en_
                              have p197 : 0 ≤ (x5_1 : Int) := of_decide_eq_true (by first | (with_reducible assumption) | assumption)
                              have q197 : x5_1 < (l0.length : Int) := of_decide_eq_true (by first | (with_reducible assumption) | assumption)
                              obtain ⟨ad197, A197_10, c197_10, e197, hx197_0, hx197_1, hx197_2, hx197_3, hx197_4, hx197_5, hx197_6, hx197_7, hx197_8, hx197_9, hx197_10, hl197_10, hi197_10⟩ := at_T66 HR0.out x5_1 p197 q197
                              obtain rfl : ad192 = ad197 := (by injection e197)
                              have HR197_10 := Aside0.mk hi197_10
                              have HC197_10 := Aside0.mk hl197_10
                              clear hi197_10 hl197_10
                              replace p197 := eq_true p197
                              replace q197 := eq_true q197
                              have ea_ := Option.some.inj (hx192_10.symm.trans hx197_10)
                              injection ea_ with ea_ en_ ec_
                              subst ea_
                              subst ec_
                              clear en_
                              have p198 : 0 ≤ (x5_1 : Int) := of_decide_eq_true (by first | (with_reducible assumption) | assumption)
                              have q198 : x5_1 < (l0.length : Int) := of_decide_eq_true (by first | (with_reducible assumption) | assumption)
                              obtain ⟨ad198, A198_10, c198_10, e198, hx198_0, hx198_1, hx198_2, hx198_3, hx198_4, hx198_5, hx198_6, hx198_7, hx198_8, hx198_9, hx198_10, hl198_10, hi198_10⟩ := at_T66 HR0.out x5_1 p198 q198
                              obtain rfl : ad192 = ad198 := (by injection e198)
                              have HR198_10 := Aside0.mk hi198_10
                              have HC198_10 := Aside0.mk hl198_10
                              clear hi198_10 hl198_10
                              replace p198 := eq_true p198
                              replace q198 := eq_true q198
                              have ea_ := Option.some.inj (hx192_10.symm.trans hx198_10)
                              injection ea_ with ea_ en_ ec_
                              subst ea_
                              subst ec_
                              clear en_
                              have p199 : 0 ≤ (x5_1 : Int) := of_decide_eq_true (by first | (with_reducible assumption) | assumption)
                              have q199 : x5_1 < (l0.length : Int) := of_decide_eq_true (by first | (with_reducible assumption) | assumption)
                              obtain ⟨ad199, A199_10, c199_10, e199, hx199_0, hx199_1, hx199_2, hx199_3, hx199_4, hx199_5, hx199_6, hx199_7, hx199_8, hx199_9, hx199_10, hl199_10, hi199_10⟩ := at_T66 HR0.out x5_1 p199 q199
                              obtain rfl : ad192 = ad199 := (by injection e199)
                              have HR199_10 := Aside0.mk hi199_10
                              have HC199_10 := Aside0.mk hl199_10
                              clear hi199_10 hl199_10
                              replace p199 := eq_true p199
                              replace q199 := eq_true q199
                              have ea_ := Option.some.inj (hx192_10.symm.trans hx199_10)
                              injection ea_ with ea_ en_ ec_
                              subst ea_
                              subst ec_
                              clear en_
                              have p200 : 0 ≤ (x5_1 : Int) := of_decide_eq_true (by first | (with_reducible assumption) | assumption)
                              have q200 : x5_1 < (l0.length : Int) := of_decide_eq_true (by first | (with_reducible assumption) | assumption)
                              obtain ⟨ad200, A200_10, c200_10, e200, hx200_0, hx200_1, hx200_2, hx200_3, hx200_4, hx200_5, hx200_6, hx200_7, hx200_8, hx200_9, hx200_10, hl200_10, hi200_10⟩ := at_T66 HR0.out x5_1 p200 q200
                              obtain rfl : ad192 = ad200 := (by injection e200)
                              have HR200_10 := Aside0.mk hi200_10
                              have HC200_10 := Aside0.mk hl200_10
                              clear hi200_10 hl200_10
                              replace p200 := eq_true p200
                              replace q200 := eq_true q200
                              have ea_ := Option.some.inj (hx192_10.symm.trans hx200_10)
                              injection ea_ with ea_ en_ ec_
                              subst ea_
                              subst ec_
                              clear en_
                              have p201 : 0 ≤ (x5_1 : Int) := of_decide_eq_true (by first | (with_reducible assumption) | assumption)
                              have q201 : x5_1 < (l0.length : Int) := of_decide_eq_true (by first | (with_reducible assumption) | assumption)
                              obtain ⟨ad201, A201_10, c201_10, e201, hx201_0, hx201_1, hx201_2, hx201_3, hx201_4, hx201_5, hx201_6, hx201_7, hx201_8, hx201_9, hx201_10, hl201_10, hi201_10⟩ := at_T66 HR0.out x5_1 p201 q201
                              obtain rfl : ad192 = ad201 := (by injection e201)
                              have HR201_10 := Aside0.mk hi201_10
                              have HC201_10 := Aside0.mk hl201_10
                              clear hi201_10 hl201_10
                              replace p201 := eq_true p201
                              replace q201 := eq_true q201
                              have ea_ := Option.some.inj (hx192_10.symm.trans hx201_10)
                              injection ea_ with ea_ en_ ec_
                              subst ea_
                              subst ec_
                              clear en_
                              go_wp2
                              go_ret
                              exact ⟨by first | rfl | (simp; done) | (simp [*]; done), by repeat (first | exact Drawn0.refl _ | apply Drawn0.step)⟩
                          · rw [if_neg c13] at H
                            have c13b0 : (((rd_T66 l0 x5_1).f2.f1) == (wrap64 ((wrap64 ((wrap64 ((wrap64 ((wrap64 ((wrap64 ((wrap64 ((wrap64 (x1_1 + 1)) + 1)) + 1)) + 1)) + 1)) + 1)) + 1)) + 1))) = false := beq_eq_false_iff_ne.mpr c13
                            have c13b1 : (((rd_T66 l0 x5_1).f2.f1) != (wrap64 ((wrap64 ((wrap64 ((wrap64 ((wrap64 ((wrap64 ((wrap64 ((wrap64 (x1_1 + 1)) + 1)) + 1)) + 1)) + 1)) + 1)) + 1)) + 1))) = true := bne_iff_ne.mpr c13
                            obtain rfl := Option.some.inj H
                            have p192 : 0 ≤ (x5_1 : Int) := of_decide_eq_true (by first | (with_reducible assumption) | assumption)
                            have q192 : x5_1 < (l0.length : Int) := of_decide_eq_true (by first | (with_reducible assumption) | assumption)
                            obtain ⟨ad192, A192_10, c192_10, e192, hx192_0, hx192_1, hx192_2, hx192_3, hx192_4, hx192_5, hx192_6, hx192_7, hx192_8, hx192_9, hx192_10, hl192_10, hi192_10⟩ := at_T66 HR0.out x5_1 p192 q192
                            cases e192
                            have HR192_10 := Aside0.mk hi192_10
                            have HC192_10 := Aside0.mk hl192_10
                            clear hi192_10 hl192_10
                            replace p192 := eq_true p192
                            replace q192 := eq_true q192
                            have p193 : 0 ≤ (x5_1 : Int) := of_decide_eq_true (by first | (with_reducible assumption) | assumption)
                            have q193 : x5_1 < (l0.length : Int) := of_decide_eq_true (by first | (with_reducible assumption) | assumption)
                            obtain ⟨ad193, A193_10, c193_10, e193, hx193_0, hx193_1, hx193_2, hx193_3, hx193_4, hx193_5, hx193_6, hx193_7, hx193_8, hx193_9, hx193_10, hl193_10, hi193_10⟩ := at_T66 HR0.out x5_1 p193 q193
                            obtain rfl : ad192 = ad193 := (by injection e193)
                            have HR193_10 := Aside0.mk hi193_10
                            have HC193_10 := Aside0.mk hl193_10
                            clear hi193_10 hl193_10
                            replace p193 := eq_true p193
                            replace q193 := eq_true q193
                            have ea_ := Option.some.inj (hx192_10.symm.trans hx193_10)
                            injection ea_ with ea_ en_ ec_
                            subst ea_
                            subst ec_
                            clear en_
                            have p194 : 0 ≤ (x5_1 : Int) := of_decide_eq_true (by first | (with_reducible assumption) | assumption)
                            have q194 : x5_1 < (l0.length : Int) := of_decide_eq_true (by first | (with_reducible assumption) | assumption)
                            obtain ⟨ad194, A194_10, c194_10, e194, hx194_0, hx194_1, hx194_2, hx194_3, hx194_4, hx194_5, hx194_6, hx194_7, hx194_8, hx194_9, hx194_10, hl194_10, hi194_10⟩ := at_T66 HR0.out x5_1 p194 q194
                            obtain rfl : ad192 = ad194 := (by injection e194)
                            have HR194_10 := Aside0.mk hi194_10
                            have HC194_10 := Aside0.mk hl194_10
                            clear hi194_10 hl194_10
                            replace p194 := eq_true p194
                            replace q194 := eq_true q194
                            have ea_ := Option.some.inj (hx192_10.symm.trans hx194_10)
                            injection ea_ with ea_ en_ ec_
                            subst ea_
                            subst ec_
                            clear en_
                            have p195 : 0 ≤ (x5_1 : Int) := of_decide_eq_true (by first | (with_reducible assumption) | assumption)
                            have q195 : x5_1 < (l0.length : Int) := of_decide_eq_true (by first | (with_reducible assumption) | assumption)
                            obtain ⟨ad195, A195_10, c195_10, e195, hx195_0, hx195_1, hx195_2, hx195_3, hx195_4, hx195_5, hx195_6, hx195_7, hx195_8, hx195_9, hx195_10, hl195_10, hi195_10⟩ := at_T66 HR0.out x5_1 p195 q195
                            obtain rfl : ad192 = ad195 := (by injection e195)
                            have HR195_10 := Aside0.mk hi195_10
                            have HC195_10 := Aside0.mk hl195_10
                            clear hi195_10 hl195_10
                            replace p195 := eq_true p195
                            replace q195 := eq_true q195
                            have ea_ := Option.some.inj (hx192_10.symm.trans hx195_10)
                            injection ea_ with ea_ en_ ec_
                            subst ea_
                            subst ec_
                            clear en_
                            have p196 : 0 ≤ (x5_1 : Int) := of_decide_eq_true (by first | (with_reducible assumption) | assumption)
                            have q196 : x5_1 < (l0.length : Int) := of_decide_eq_true (by first | (with_reducible assumption) | assumption)
                            obtain ⟨ad196, A196_10, c196_10, e196, hx196_0, hx196_1, hx196_2, hx196_3, hx196_4, hx196_5, hx196_6, hx196_7, hx196_8, hx196_9, hx196_10, hl196_10, hi196_10⟩ := at_T66 HR0.out x5_1 p196 q196
                            obtain rfl : ad192 = ad196 := (by injection e196)
                            have HR196_10 := Aside0.mk hi196_10
                            have HC196_10 := Aside0.mk hl196_10
                            clear hi196_10 hl196_10
                            replace p196 := eq_true p196
                            replace q196 := eq_true q196
                            have ea_ := Option.some.inj (hx192_10.symm.trans hx196_10)
                            injection ea_ with ea_ en_ ec_
                            subst ea_
                            subst ec_
                            clear en_
                            have p197 : 0 ≤ (x5_1 : Int) := of_decide_eq_true (by first | (with_reducible assumption) | assumption)
                            have q197 : x5_1 < (l0.length : Int) := of_decide_eq_true (by first | (with_reducible assumption) | assumption)
                            obtain ⟨ad197, A197_10, c197_10, e197, hx197_0, hx197_1, hx197_2, hx197_3, hx197_4, hx197_5, hx197_6, hx197_7, hx197_8, hx197_9, hx197_10, hl197_10, hi197_10⟩ := at_T66 HR0.out x5_1 p197 q197
                            obtain rfl : ad192 = ad197 := (by injection e197)
                            have HR197_10 := Aside0.mk hi197_10
                            have HC197_10 := Aside0.mk hl197_10
                            clear hi197_10 hl197_10
                            replace p197 := eq_true p197
                            replace q197 := eq_true q197
                            have ea_ := Option.some.inj (hx192_10.symm.trans hx197_10)
                            injection ea_ with ea_ en_ ec_
                            subst ea_
                            subst ec_
                            clear en_
                            have p198 : 0 ≤ (x5_1 : Int) := of_decide_eq_true (by first | (with_reducible assumption) | assumption)
                            have q198 : x5_1 < (l0.length : Int) := of_decide_eq_true (by first | (with_reducible assumption) | assumption)
                            obtain ⟨ad198, A198_10, c198_10, e198, hx198_0, hx198_1, hx198_2, hx198_3, hx198_4, hx198_5, hx198_6, hx198_7, hx198_8, hx198_9, hx198_10, hl198_10, hi198_10⟩ := at_T66 HR0.out x5_1 p198 q198
                            obtain rfl : ad192 = ad198 := (by injection e198)
                            have HR198_10 := Aside0.mk hi198_10
                            have HC198_10 := Aside0.mk hl198_10
                            clear hi198_10 hl198_10
                            replace p198 := eq_true p198
                            replace q198 := eq_true q198
                            have ea_ := Option.some.inj (hx192_10.symm.trans hx198_10)
                            injection ea_ with ea_ en_ ec_
                            subst ea_
                            subst ec_
                            clear en_
                            have p199 : 0 ≤ (x5_1 : Int) := of_decide_eq_true (by first | (with_reducible assumption) | assumption)
                            have q199 : x5_1 < (l0.length : Int) := of_decide_eq_true (by first | (with_reducible assumption) | assumption)
                            obtain ⟨ad199, A199_10, c199_10, e199, hx199_0, hx199_1, hx199_2, hx199_3, hx199_4, hx199_5, hx199_6, hx199_7, hx199_8, hx199_9, hx199_10, hl199_10, hi199_10⟩ := at_T66 HR0.out x5_1 p199 q199
                            obtain rfl : ad192 = ad199 := (by injection e199)
                            have HR199_10 := Aside0.mk hi199_10
                            have HC199_10 := Aside0.mk hl199_10
                            clear hi199_10 hl199_10
                            replace p199 := eq_true p199
                            replace q199 := eq_true q199
                            have ea_ := Option.some.inj (hx192_10.symm.trans hx199_10)
                            injection ea_ with ea_ en_ ec_
                            subst ea_
                            subst ec_
                            clear en_
                            have p200 : 0 ≤ (x5_1 : Int) := of_decide_eq_true (by first | (with_reducible assumption) | assumption)
                            have q200 : x5_1 < (l0.length : Int) := of_decide_eq_true (by first | (with_reducible assumption) | assumption)
                            obtain ⟨ad200, A200_10, c200_10, e200, hx200_0, hx200_1, hx200_2, hx200_3, hx200_4, hx200_5, hx200_6, hx200_7, hx200_8, hx200_9, hx200_10, hl200_10, hi200_10⟩ := at_T66 HR0.out x5_1 p200 q200
                            obtain rfl : ad192 = ad200 := (by injection e200)
                            have HR200_10 := Aside0.mk hi200_10
                            have HC200_10 := Aside0.mk hl200_10
                            clear hi200_10 hl200_10
                            replace p200 := eq_true p200
                            replace q200 := eq_true q200
                            have ea_ := Option.some.inj (hx192_10.symm.trans hx200_10)
                            injection ea_ with ea_ en_ ec_
                            subst ea_
                            subst ec_
                            clear en_
                            go_wp2
                            go_ret
                            exact ⟨by first | rfl | (simp; done) | (simp [*]; done), by repeat (first | exact Drawn0.refl _ | apply Drawn0.step)⟩
                        · rw [if_neg c12] at H
                          have c12b0 : (((rd_T66 l0 x5_1).f2.f0) == (wrap64 ((wrap64 ((wrap64 ((wrap64 ((wrap64 ((wrap64 ((wrap64 (x1_1 + 1)) + 1)) + 1)) + 1)) + 1)) + 1)) + 1))) = false := beq_eq_false_iff_ne.mpr c12
                          have c12b1 : (((rd_T66 l0 x5_1).f2.f0) != (wrap64 ((wrap64 ((wrap64 ((wrap64 ((wrap64 ((wrap64 ((wrap64 (x1_1 + 1)) + 1)) + 1)) + 1)) + 1)) + 1)) + 1))) = true := bne_iff_ne.mpr c12
                          obtain rfl := Option.some.inj H
                          have p192 : 0 ≤ (x5_1 : Int) := of_decide_eq_true (by first | (with_reducible assumption) | assumption)
                          have q192 : x5_1 < (l0.length : Int) := of_decide_eq_true (by first | (with_reducible assumption) | assumption)
                          obtain ⟨ad192, A192_10, c192_10, e192, hx192_0, hx192_1, hx192_2, hx192_3, hx192_4, hx192_5, hx192_6, hx192_7, hx192_8, hx192_9, hx192_10, hl192_10, hi192_10⟩ := at_T66 HR0.out x5_1 p192 q192
                          cases e192
                          have HR192_10 := Aside0.mk hi192_10
                          have HC192_10 := Aside0.mk hl192_10
                          clear hi192_10 hl192_10
                          replace p192 := eq_true p192
                          replace q192 := eq_true q192
                          have p193 : 0 ≤ (x5_1 : Int) := of_decide_eq_true (by first | (with_reducible assumption) | assumption)
                          have q193 : x5_1 < (l0.length : Int) := of_decide_eq_true (by first | (with_reducible assumption) | assumption)
                          obtain ⟨ad193, A193_10, c193_10, e193, hx193_0, hx193_1, hx193_2, hx193_3, hx193_4, hx193_5, hx193_6, hx193_7, hx193_8, hx193_9, hx193_10, hl193_10, hi193_10⟩ := at_T66 HR0.out x5_1 p193 q193
                          obtain rfl : ad192 = ad193 := (by injection e193)
                          have HR193_10 := Aside0.mk hi193_10
                          have HC193_10 := Aside0.mk hl193_10
                          clear hi193_10 hl193_10
                          replace p193 := eq_true p193
                          replace q193 := eq_true q193
                          have ea_ := Option.some.inj (hx192_10.symm.trans hx193_10)
                          injection ea_ with ea_ en_ ec_
                          subst ea_
                          subst ec_
                          clear en_
                          have p194 : 0 ≤ (x5_1 : Int) := of_decide_eq_true (by first | (with_reducible assumption) | assumption)
                          have q194 : x5_1 < (l0.length : Int) := of_decide_eq_true (by first | (with_reducible assumption) | assumption)
                          obtain ⟨ad194, A194_10, c194_10, e194, hx194_0, hx194_1, hx194_2, hx194_3, hx194_4, hx194_5, hx194_6, hx194_7, hx194_8, hx194_9, hx194_10, hl194_10, hi194_10⟩ := at_T66 HR0.out x5_1 p194 q194
                          obtain rfl : ad192 = ad194 := (by injection e194)
                          have HR194_10 := Aside0.mk hi194_10
                          have HC194_10 := Aside0.mk hl194_10
                          clear hi194_10 hl194_10
                          replace p194 := eq_true p194
                          replace q194 := eq_true q194
                          have ea_ := Option.some.inj (hx192_10.symm.trans hx194_10)
                          injection ea_ with ea_ en_ ec_
                          subst ea_
                          subst ec_
                          clear en_
                          have p195 : 0 ≤ (x5_1 : Int) := of_decide_eq_true (by first | (with_reducible assumption) | assumption)
                          have q195 : x5_1 < (l0.length : Int) := of_decide_eq_true (by first | (with_reducible assumption) | assumption)
                          obtain ⟨ad195, A195_10, c195_10, e195, hx195_0, hx195_1, hx195_2, hx195_3, hx195_4, hx195_5, hx195_6, hx195_7, hx195_8, hx195_9, hx195_10, hl195_10, hi195_10⟩ := at_T66 HR0.out x5_1 p195 q195
                          obtain rfl : ad192 = ad195 := (by injection e195)
                          have HR195_10 := Aside0.mk hi195_10
                          have HC195_10 := Aside0.mk hl195_10
                          clear hi195_10 hl195_10
                          replace p195 := eq_true p195
                          replace q195 := eq_true q195
                          have ea_ := Option.some.inj (hx192_10.symm.trans hx195_10)
                          injection ea_ with ea_ en_ ec_
                          subst ea_
                          subst ec_
                          clear en_
                          have p196 : 0 ≤ (x5_1 : Int) := of_decide_eq_true (by first | (with_reducible assumption) | assumption)
                          have q196 : x5_1 < (l0.length : Int) := of_decide_eq_true (by first | (with_reducible assumption) | assumption)
                          obtain ⟨ad196, A196_10, c196_10, e196, hx196_0, hx196_1, hx196_2, hx196_3, hx196_4, hx196_5, hx196_6, hx196_7, hx196_8, hx196_9, hx196_10, hl196_10, hi196_10⟩ := at_T66 HR0.out x5_1 p196 q196
                          obtain rfl : ad192 = ad196 := (by injection e196)
                          have HR196_10 := Aside0.mk hi196_10
                          have HC196_10 := Aside0.mk hl196_10
                          clear hi196_10 hl196_10
                          replace p196 := eq_true p196
                          replace q196 := eq_true q196
                          have ea_ := Option.some.inj (hx192_10.symm.trans hx196_10)
                          injection ea_ with ea_ en_ ec_
                          subst ea_
                          subst ec_
                          clear en_
                          have p197 : 0 ≤ (x5_1 : Int) := of_decide_eq_true (by first | (with_reducible assumption) | assumption)
                          have q197 : x5_1 < (l0.length : Int) := of_decide_eq_true (by first | (with_reducible assumption) | assumption)
                          obtain ⟨ad197, A197_10, c197_10, e197, hx197_0, hx197_1, hx197_2, hx197_3, hx197_4, hx197_5, hx197_6, hx197_7, hx197_8, hx197_9, hx197_10, hl197_10, hi197_10⟩ := at_T66 HR0.out x5_1 p197 q197
                          obtain rfl : ad192 = ad197 := (by injection e197)
                          have HR197_10 := Aside0.mk hi197_10
                          have HC197_10 := Aside0.mk hl197_10
                          clear hi197_10 hl197_10
                          replace p197 := eq_true p197
                          replace q197 := eq_true q197
                          have ea_ := Option.some.inj (hx192_10.symm.trans hx197_10)
                          injection ea_ with ea_ en_ ec_
                          subst ea_
                          subst ec_
                          clear en_
                          have p198 : 0 ≤ (x5_1 : Int) := of_decide_eq_true (by first | (with_reducible assumption) | assumption)
                          have q198 : x5_1 < (l0.length : Int) := of_decide_eq_true (by first | (with_reducible assumption) | assumption)
                          obtain ⟨ad198, A198_10, c198_10, e198, hx198_0, hx198_1, hx198_2, hx198_3, hx198_4, hx198_5, hx198_6, hx198_7, hx198_8, hx198_9, hx198_10, hl198_10, hi198_10⟩ := at_T66 HR0.out x5_1 p198 q198
                          obtain rfl : ad192 = ad198 := (by injection e198)
                          have HR198_10 := Aside0.mk hi198_10
                          have HC198_10 := Aside0.mk hl198_10
                          clear hi198_10 hl198_10
                          replace p198 := eq_true p198
                          replace q198 := eq_true q198
                          have ea_ := Option.some.inj (hx192_10.symm.trans hx198_10)
                          injection ea_ with ea_ en_ ec_
                          subst ea_
                          subst ec_
                          clear en_
                          have p199 : 0 ≤ (x5_1 : Int) := of_decide_eq_true (by first | (with_reducible assumption) | assumption)
                          have q199 : x5_1 < (l0.length : Int) := of_decide_eq_true (by first | (with_reducible assumption) | assumption)
                          obtain ⟨ad199, A199_10, c199_10, e199, hx199_0, hx199_1, hx199_2, hx199_3, hx199_4, hx199_5, hx199_6, hx199_7, hx199_8, hx199_9, hx199_10, hl199_10, hi199_10⟩ := at_T66 HR0.out x5_1 p199 q199
                          obtain rfl : ad192 = ad199 := (by injection e199)
                          have HR199_10 := Aside0.mk hi199_10
                          have HC199_10 := Aside0.mk hl199_10
                          clear hi199_10 hl199_10
                          replace p199 := eq_true p199
                          replace q199 := eq_true q199
                          have ea_ := Option.some.inj (hx192_10.symm.trans hx199_10)
                          injection ea_ with ea_ en_ ec_
                          subst ea_
                          subst ec_
                          clear en_
                          go_wp2
                          go_ret
                          exact ⟨by first | rfl | (simp; done) | (simp [*]; done), by repeat (first | exact Drawn0.refl _ | apply Drawn0.step)⟩
                      · rw [if_neg c11] at H
                        have c11b0 : (((rd_T66 l0 x5_1).f1) == (wrap64 ((wrap64 ((wrap64 ((wrap64 ((wrap64 ((wrap64 (x1_1 + 1)) + 1)) + 1)) + 1)) + 1)) + 1))) = false := beq_eq_false_iff_ne.mpr c11
                        have c11b1 : (((rd_T66 l0 x5_1).f1) != (wrap64 ((wrap64 ((wrap64 ((wrap64 ((wrap64 ((wrap64 (x1_1 + 1)) + 1)) + 1)) + 1)) + 1)) + 1))) = true := bne_iff_ne.mpr c11
                        obtain rfl := Option.some.inj H
                        have p192 : 0 ≤ (x5_1 : Int) := of_decide_eq_true (by first | (with_reducible assumption) | assumption)
                        have q192 : x5_1 < (l0.length : Int) := of_decide_eq_true (by first | (with_reducible assumption) | assumption)
                        obtain ⟨ad192, A192_10, c192_10, e192, hx192_0, hx192_1, hx192_2, hx192_3, hx192_4, hx192_5, hx192_6, hx192_7, hx192_8, hx192_9, hx192_10, hl192_10, hi192_10⟩ := at_T66 HR0.out x5_1 p192 q192
                        cases e192
                        have HR192_10 := Aside0.mk hi192_10
                        have HC192_10 := Aside0.mk hl192_10
                        clear hi192_10 hl192_10
                        replace p192 := eq_true p192
                        replace q192 := eq_true q192
                        have p193 : 0 ≤ (x5_1 : Int) := of_decide_eq_true (by first | (with_reducible assumption) | assumption)
                        have q193 : x5_1 < (l0.length : Int) := of_decide_eq_true (by first | (with_reducible assumption) | assumption)
                        obtain ⟨ad193, A193_10, c193_10, e193, hx193_0, hx193_1, hx193_2, hx193_3, hx193_4, hx193_5, hx193_6, hx193_7, hx193_8, hx193_9, hx193_10, hl193_10, hi193_10⟩ := at_T66 HR0.out x5_1 p193 q193
                        obtain rfl : ad192 = ad193 := (by injection e193)
                        have HR193_10 := Aside0.mk hi193_10
                        have HC193_10 := Aside0.mk hl193_10
                        clear hi193_10 hl193_10
                        replace p193 := eq_true p193
                        replace q193 := eq_true q193
                        have ea_ := Option.some.inj (hx192_10.symm.trans hx193_10)
                        injection ea_ with ea_ en_ ec_
                        subst ea_
                        subst ec_
                        clear en_
                        have p194 : 0 ≤ (x5_1 : Int) := of_decide_eq_true (by first | (with_reducible assumption) | assumption)
                        have q194 : x5_1 < (l0.length : Int) := of_decide_eq_true (by first | (with_reducible assumption) | assumption)
                        obtain ⟨ad194, A194_10, c194_10, e194, hx194_0, hx194_1, hx194_2, hx194_3, hx194_4, hx194_5, hx194_6, hx194_7, hx194_8, hx194_9, hx194_10, hl194_10, hi194_10⟩ := at_T66 HR0.out x5_1 p194 q194
                        obtain rfl : ad192 = ad194 := (by injection e194)
                        have HR194_10 := Aside0.mk hi194_10
                        have HC194_10 := Aside0.mk hl194_10
                        clear hi194_10 hl194_10
                        replace p194 := eq_true p194
                        replace q194 := eq_true q194
                        have ea_ := Option.some.inj (hx192_10.symm.trans hx194_10)
                        injection ea_ with ea_ en_ ec_
                        subst ea_
                        subst ec_
                        clear en_
                        have p195 : 0 ≤ (x5_1 : Int) := of_decide_eq_true (by first | (with_reducible assumption) | assumption)
                        have q195 : x5_1 < (l0.length : Int) := of_decide_eq_true (by first | (with_reducible assumption) | assumption)
                        obtain ⟨ad195, A195_10, c195_10, e195, hx195_0, hx195_1, hx195_2, hx195_3, hx195_4, hx195_5, hx195_6, hx195_7, hx195_8, hx195_9, hx195_10, hl195_10, hi195_10⟩ := at_T66 HR0.out x5_1 p195 q195
                        obtain rfl : ad192 = ad195 := (by injection e195)
                        have HR195_10 := Aside0.mk hi195_10
                        have HC195_10 := Aside0.mk hl195_10
                        clear hi195_10 hl195_10
                        replace p195 := eq_true p195
                        replace q195 := eq_true q195
                        have ea_ := Option.some.inj (hx192_10.symm.trans hx195_10)
                        injection ea_ with ea_ en_ ec_
                        subst ea_
                        subst ec_
                        clear en_
                        have p196 : 0 ≤ (x5_1 : Int) := of_decide_eq_true (by first | (with_reducible assumption) | assumption)
                        have q196 : x5_1 < (l0.length : Int) := of_decide_eq_true (by first | (with_reducible assumption) | assumption)
                        obtain ⟨ad196, A196_10, c196_10, e196, hx196_0, hx196_1, hx196_2, hx196_3, hx196_4, hx196_5, hx196_6, hx196_7, hx196_8, hx196_9, hx196_10, hl196_10, hi196_10⟩ := at_T66 HR0.out x5_1 p196 q196
                        obtain rfl : ad192 = ad196 := (by injection e196)
                        have HR196_10 := Aside0.mk hi196_10
                        have HC196_10 := Aside0.mk hl196_10
                        clear hi196_10 hl196_10
                        replace p196 := eq_true p196
                        replace q196 := eq_true q196
                        have ea_ := Option.some.inj (hx192_10.symm.trans hx196_10)
                        injection ea_ with ea_ en_ ec_
                        subst ea_
                        subst ec_
                        clear en_
                        have p197 : 0 ≤ (x5_1 : Int) := of_decide_eq_true (by first | (with_reducible assumption) | assumption)
                        have q197 : x5_1 < (l0.length : Int) := of_decide_eq_true (by first | (with_reducible assumption) | assumption)
                        obtain ⟨ad197, A197_10, c197_10, e197, hx197_0, hx197_1, hx197_2, hx197_3, hx197_4, hx197_5, hx197_6, hx197_7, hx197_8, hx197_9, hx197_10, hl197_10, hi197_10⟩ := at_T66 HR0.out x5_1 p197 q197
                        obtain rfl : ad192 = ad197 := (by injection e197)
                        have HR197_10 := Aside0.mk hi197_10
                        have HC197_10 := Aside0.mk hl197_10
                        clear hi197_10 hl197_10
                        replace p197 := eq_true p197
                        replace q197 := eq_true q197
                        have ea_ := Option.some.inj (hx192_10.symm.trans hx197_10)
                        injection ea_ with ea_ en_ ec_
                        subst ea_
                        subst ec_
                        clear en_
                        have p198 : 0 ≤ (x5_1 : Int) := of_decide_eq_true (by first | (with_reducible assumption) | assumption)
                        have q198 : x5_1 < (l0.length : Int) := of_decide_eq_true (by first | (with_reducible assumption) | assumption)
                        obtain ⟨ad198, A198_10, c198_10, e198, hx198_0, hx198_1, hx198_2, hx198_3, hx198_4, hx198_5, hx198_6, hx198_7, hx198_8, hx198_9, hx198_10, hl198_10, hi198_10⟩ := at_T66 HR0.out x5_1 p198 q198
                        obtain rfl : ad192 = ad198 := (by injection e198)
                        have HR198_10 := Aside0.mk hi198_10
                        have HC198_10 := Aside0.mk hl198_10
                        clear hi198_10 hl198_10
                        replace p198 := eq_true p198
                        replace q198 := eq_true q198
                        have ea_ := Option.some.inj (hx192_10.symm.trans hx198_10)
                        injection ea_ with ea_ en_ ec_
                        subst ea_
                        subst ec_
                        clear en_
                        go_wp2
                        go_ret
                        exact ⟨by first | rfl | (simp; done) | (simp [*]; done), by repeat (first | exact Drawn0.refl _ | apply Drawn0.step)⟩
                    · rw [if_neg c10] at H
                      have c10b0 : (((rd_T66 l0 x5_1).f0.f3) == (wrap64 ((wrap64 ((wrap64 ((wrap64 ((wrap64 (x1_1 + 1)) + 1)) + 1)) + 1)) + 1))) = false := beq_eq_false_iff_ne.mpr c10
                      have c10b1 : (((rd_T66 l0 x5_1).f0.f3) != (wrap64 ((wrap64 ((wrap64 ((wrap64 ((wrap64 (x1_1 + 1)) + 1)) + 1)) + 1)) + 1))) = true := bne_iff_ne.mpr c10
                      obtain rfl := Option.some.inj H
                      have p192 : 0 ≤ (x5_1 : Int) := of_decide_eq_true (by first | (with_reducible assumption) | assumption)
                      have q192 : x5_1 < (l0.length : Int) := of_decide_eq_true (by first | (with_reducible assumption) | assumption)
                      obtain ⟨ad192, A192_10, c192_10, e192, hx192_0, hx192_1, hx192_2, hx192_3, hx192_4, hx192_5, hx192_6, hx192_7, hx192_8, hx192_9, hx192_10, hl192_10, hi192_10⟩ := at_T66 HR0.out x5_1 p192 q192
                      cases e192
                      have HR192_10 := Aside0.mk hi192_10
                      have HC192_10 := Aside0.mk hl192_10
                      clear hi192_10 hl192_10
                      replace p192 := eq_true p192
                      replace q192 := eq_true q192
                      have p193 : 0 ≤ (x5_1 : Int) := of_decide_eq_true (by first | (with_reducible assumption) | assumption)
                      have q193 : x5_1 < (l0.length : Int) := of_decide_eq_true (by first | (with_reducible assumption) | assumption)
                      obtain ⟨ad193, A193_10, c193_10, e193, hx193_0, hx193_1, hx193_2, hx193_3, hx193_4, hx193_5, hx193_6, hx193_7, hx193_8, hx193_9, hx193_10, hl193_10, hi193_10⟩ := at_T66 HR0.out x5_1 p193 q193
                      obtain rfl : ad192 = ad193 := (by injection e193)
                      have HR193_10 := Aside0.mk hi193_10
                      have HC193_10 := Aside0.mk hl193_10
                      clear hi193_10 hl193_10
                      replace p193 := eq_true p193
                      replace q193 := eq_true q193
                      have ea_ := Option.some.inj (hx192_10.symm.trans hx193_10)
                      injection ea_ with ea_ en_ ec_
                      subst ea_
                      subst ec_
                      clear en_
                      have p194 : 0 ≤ (x5_1 : Int) := of_decide_eq_true (by first | (with_reducible assumption) | assumption)
                      have q194 : x5_1 < (l0.length : Int) := of_decide_eq_true (by first | (with_reducible assumption) | assumption)
                      obtain ⟨ad194, A194_10, c194_10, e194, hx194_0, hx194_1, hx194_2, hx194_3, hx194_4, hx194_5, hx194_6, hx194_7, hx194_8, hx194_9, hx194_10, hl194_10, hi194_10⟩ := at_T66 HR0.out x5_1 p194 q194
                      obtain rfl : ad192 = ad194 := (by injection e194)
                      have HR194_10 := Aside0.mk hi194_10
                      have HC194_10 := Aside0.mk hl194_10
                      clear hi194_10 hl194_10
                      replace p194 := eq_true p194
                      replace q194 := eq_true q194
                      have ea_ := Option.some.inj (hx192_10.symm.trans hx194_10)
                      injection ea_ with ea_ en_ ec_
                      subst ea_
                      subst ec_
                      clear en_
                      have p195 : 0 ≤ (x5_1 : Int) := of_decide_eq_true (by first | (with_reducible assumption) | assumption)
                      have q195 : x5_1 < (l0.length : Int) := of_decide_eq_true (by first | (with_reducible assumption) | assumption)
                      obtain ⟨ad195, A195_10, c195_10, e195, hx195_0, hx195_1, hx195_2, hx195_3, hx195_4, hx195_5, hx195_6, hx195_7, hx195_8, hx195_9, hx195_10, hl195_10, hi195_10⟩ := at_T66 HR0.out x5_1 p195 q195
                      obtain rfl : ad192 = ad195 := (by injection e195)
                      have HR195_10 := Aside0.mk hi195_10
                      have HC195_10 := Aside0.mk hl195_10
                      clear hi195_10 hl195_10
                      replace p195 := eq_true p195
                      replace q195 := eq_true q195
                      have ea_ := Option.some.inj (hx192_10.symm.trans hx195_10)
                      injection ea_ with ea_ en_ ec_
                      subst ea_
                      subst ec_
                      clear en_
                      have p196 : 0 ≤ (x5_1 : Int) := of_decide_eq_true (by first | (with_reducible assumption) | assumption)
                      have q196 : x5_1 < (l0.length : Int) := of_decide_eq_true (by first | (with_reducible assumption) | assumption)
                      obtain ⟨ad196, A196_10, c196_10, e196, hx196_0, hx196_1, hx196_2, hx196_3, hx196_4, hx196_5, hx196_6, hx196_7, hx196_8, hx196_9, hx196_10, hl196_10, hi196_10⟩ := at_T66 HR0.out x5_1 p196 q196
                      obtain rfl : ad192 = ad196 := (by injection e196)
                      have HR196_10 := Aside0.mk hi196_10
                      have HC196_10 := Aside0.mk hl196_10
                      clear hi196_10 hl196_10
                      replace p196 := eq_true p196
                      replace q196 := eq_true q196
                      have ea_ := Option.some.inj (hx192_10.symm.trans hx196_10)
                      injection ea_ with ea_ en_ ec_
                      subst ea_
                      subst ec_
                      clear en_
                      have p197 : 0 ≤ (x5_1 : Int) := of_decide_eq_true (by first | (with_reducible assumption) | assumption)
                      have q197 : x5_1 < (l0.length : Int) := of_decide_eq_true (by first | (with_reducible assumption) | assumption)
                      obtain ⟨ad197, A197_10, c197_10, e197, hx197_0, hx197_1, hx197_2, hx197_3, hx197_4, hx197_5, hx197_6, hx197_7, hx197_8, hx197_9, hx197_10, hl197_10, hi197_10⟩ := at_T66 HR0.out x5_1 p197 q197
                      obtain rfl : ad192 = ad197 := (by injection e197)
                      have HR197_10 := Aside0.mk hi197_10
                      have HC197_10 := Aside0.mk hl197_10
                      clear hi197_10 hl197_10
                      replace p197 := eq_true p197
                      replace q197 := eq_true q197
                      have ea_ := Option.some.inj (hx192_10.symm.trans hx197_10)
                      injection ea_ with ea_ en_ ec_
                      subst ea_
                      subst ec_
                      clear en_
                      go_wp2
                      go_ret
                      exact ⟨by first | rfl | (simp; done) | (simp [*]; done), by repeat (first | exact Drawn0.refl _ | apply Drawn0.step)⟩
                  · rw [if_neg c9] at H
                    have c9b0 : (((rd_T66 l0 x5_1).f0.f2.f1) == (wrap64 ((wrap64 ((wrap64 ((wrap64 (x1_1 + 1)) + 1)) + 1)) + 1))) = false := beq_eq_false_iff_ne.mpr c9
                    have c9b1 : (((rd_T66 l0 x5_1).f0.f2.f1) != (wrap64 ((wrap64 ((wrap64 ((wrap64 (x1_1 + 1)) + 1)) + 1)) + 1))) = true := bne_iff_ne.mpr c9
                    obtain rfl := Option.some.inj H
                    have p192 : 0 ≤ (x5_1 : Int) := of_decide_eq_true (by first | (with_reducible assumption) | assumption)
                    have q192 : x5_1 < (l0.length : Int) := of_decide_eq_true (by first | (with_reducible assumption) | assumption)
                    obtain ⟨ad192, A192_10, c192_10, e192, hx192_0, hx192_1, hx192_2, hx192_3, hx192_4, hx192_5, hx192_6, hx192_7, hx192_8, hx192_9, hx192_10, hl192_10, hi192_10⟩ := at_T66 HR0.out x5_1 p192 q192
                    cases e192
                    have HR192_10 := Aside0.mk hi192_10
                    have HC192_10 := Aside0.mk hl192_10
                    clear hi192_10 hl192_10
                    replace p192 := eq_true p192
                    replace q192 := eq_true q192
                    have p193 : 0 ≤ (x5_1 : Int) := of_decide_eq_true (by first | (with_reducible assumption) | assumption)
                    have q193 : x5_1 < (l0.length : Int) := of_decide_eq_true (by first | (with_reducible assumption) | assumption)
                    obtain ⟨ad193, A193_10, c193_10, e193, hx193_0, hx193_1, hx193_2, hx193_3, hx193_4, hx193_5, hx193_6, hx193_7, hx193_8, hx193_9, hx193_10, hl193_10, hi193_10⟩ := at_T66 HR0.out x5_1 p193 q193
                    obtain rfl : ad192 = ad193 := (by injection e193)
                    have HR193_10 := Aside0.mk hi193_10
                    have HC193_10 := Aside0.mk hl193_10
                    clear hi193_10 hl193_10
                    replace p193 := eq_true p193
                    replace q193 := eq_true q193
                    have ea_ := Option.some.inj (hx192_10.symm.trans hx193_10)
                    injection ea_ with ea_ en_ ec_
                    subst ea_
                    subst ec_
                    clear en_
                    have p194 : 0 ≤ (x5_1 : Int) := of_decide_eq_true (by first | (with_reducible assumption) | assumption)
                    have q194 : x5_1 < (l0.length : Int) := of_decide_eq_true (by first | (with_reducible assumption) | assumption)
                    obtain ⟨ad194, A194_10, c194_10, e194, hx194_0, hx194_1, hx194_2, hx194_3, hx194_4, hx194_5, hx194_6, hx194_7, hx194_8, hx194_9, hx194_10, hl194_10, hi194_10⟩ := at_T66 HR0.out x5_1 p194 q194
                    obtain rfl : ad192 = ad194 := (by injection e194)
                    have HR194_10 := Aside0.mk hi194_10
                    have HC194_10 := Aside0.mk hl194_10
                    clear hi194_10 hl194_10
                    replace p194 := eq_true p194
                    replace q194 := eq_true q194
                    have ea_ := Option.some.inj (hx192_10.symm.trans hx194_10)
                    injection ea_ with ea_ en_ ec_
                    subst ea_
                    subst ec_
                    clear en_
                    have p195 : 0 ≤ (x5_1 : Int) := of_decide_eq_true (by first | (with_reducible assumption) | assumption)
                    have q195 : x5_1 < (l0.length : Int) := of_decide_eq_true (by first | (with_reducible assumption) | assumption)
                    obtain ⟨ad195, A195_10, c195_10, e195, hx195_0, hx195_1, hx195_2, hx195_3, hx195_4, hx195_5, hx195_6, hx195_7, hx195_8, hx195_9, hx195_10, hl195_10, hi195_10⟩ := at_T66 HR0.out x5_1 p195 q195
                    obtain rfl : ad192 = ad195 := (by injection e195)
                    have HR195_10 := Aside0.mk hi195_10
                    have HC195_10 := Aside0.mk hl195_10
                    clear hi195_10 hl195_10
                    replace p195 := eq_true p195
                    replace q195 := eq_true q195
                    have ea_ := Option.some.inj (hx192_10.symm.trans hx195_10)
                    injection ea_ with ea_ en_ ec_
                    subst ea_
                    subst ec_
                    clear en_
                    have p196 : 0 ≤ (x5_1 : Int) := of_decide_eq_true (by first | (with_reducible assumption) | assumption)
                    have q196 : x5_1 < (l0.length : Int) := of_decide_eq_true (by first | (with_reducible assumption) | assumption)
                    obtain ⟨ad196, A196_10, c196_10, e196, hx196_0, hx196_1, hx196_2, hx196_3, hx196_4, hx196_5, hx196_6, hx196_7, hx196_8, hx196_9, hx196_10, hl196_10, hi196_10⟩ := at_T66 HR0.out x5_1 p196 q196
                    obtain rfl : ad192 = ad196 := (by injection e196)
                    have HR196_10 := Aside0.mk hi196_10
                    have HC196_10 := Aside0.mk hl196_10
                    clear hi196_10 hl196_10
                    replace p196 := eq_true p196
                    replace q196 := eq_true q196
                    have ea_ := Option.some.inj (hx192_10.symm.trans hx196_10)
                    injection ea_ with ea_ en_ ec_
                    subst ea_
                    subst ec_
                    clear en_
                    go_wp2
                    go_ret
                    exact ⟨by first | rfl | (simp; done) | (simp [*]; done), by repeat (first | exact Drawn0.refl _ | apply Drawn0.step)⟩
                · rw [if_neg c8] at H
                  have c8b0 : (((rd_T66 l0 x5_1).f0.f2.f0) == (wrap64 ((wrap64 ((wrap64 (x1_1 + 1)) + 1)) + 1))) = false := beq_eq_false_iff_ne.mpr c8
                  have c8b1 : (((rd_T66 l0 x5_1).f0.f2.f0) != (wrap64 ((wrap64 ((wrap64 (x1_1 + 1)) + 1)) + 1))) = true := bne_iff_ne.mpr c8
                  obtain rfl := Option.some.inj H
                  have p192 : 0 ≤ (x5_1 : Int) := of_decide_eq_true (by first | (with_reducible assumption) | assumption)
                  have q192 : x5_1 < (l0.length : Int) := of_decide_eq_true (by first | (with_reducible assumption) | assumption)
                  obtain ⟨ad192, A192_10, c192_10, e192, hx192_0, hx192_1, hx192_2, hx192_3, hx192_4, hx192_5, hx192_6, hx192_7, hx192_8, hx192_9, hx192_10, hl192_10, hi192_10⟩ := at_T66 HR0.out x5_1 p192 q192
                  cases e192
                  have HR192_10 := Aside0.mk hi192_10
                  have HC192_10 := Aside0.mk hl192_10
                  clear hi192_10 hl192_10
                  replace p192 := eq_true p192
                  replace q192 := eq_true q192
                  have p193 : 0 ≤ (x5_1 : Int) := of_decide_eq_true (by first | (with_reducible assumption) | assumption)
                  have q193 : x5_1 < (l0.length : Int) := of_decide_eq_true (by first | (with_reducible assumption) | assumption)
                  obtain ⟨ad193, A193_10, c193_10, e193, hx193_0, hx193_1, hx193_2, hx193_3, hx193_4, hx193_5, hx193_6, hx193_7, hx193_8, hx193_9, hx193_10, hl193_10, hi193_10⟩ := at_T66 HR0.out x5_1 p193 q193
                  obtain rfl : ad192 = ad193 := (by injection e193)
                  have HR193_10 := Aside0.mk hi193_10
                  have HC193_10 := Aside0.mk hl193_10
                  clear hi193_10 hl193_10
                  replace p193 := eq_true p193
                  replace q193 := eq_true q193
                  have ea_ := Option.some.inj (hx192_10.symm.trans hx193_10)
                  injection ea_ with ea_ en_ ec_
                  subst ea_
                  subst ec_
                  clear en_
                  have p194 : 0 ≤ (x5_1 : Int) := of_decide_eq_true (by first | (with_reducible assumption) | assumption)
                  have q194 : x5_1 < (l0.length : Int) := of_decide_eq_true (by first | (with_reducible assumption) | assumption)
                  obtain ⟨ad194, A194_10, c194_10, e194, hx194_0, hx194_1, hx194_2, hx194_3, hx194_4, hx194_5, hx194_6, hx194_7, hx194_8, hx194_9, hx194_10, hl194_10, hi194_10⟩ := at_T66 HR0.out x5_1 p194 q194
                  obtain rfl : ad192 = ad194 := (by injection e194)
                  have HR194_10 := Aside0.mk hi194_10
                  have HC194_10 := Aside0.mk hl194_10
                  clear hi194_10 hl194_10
                  replace p194 := eq_true p194
                  replace q194 := eq_true q194
                  have ea_ := Option.some.inj (hx192_10.symm.trans hx194_10)
                  injection ea_ with ea_ en_ ec_
                  subst ea_
                  subst ec_
                  clear en_
                  have p195 : 0 ≤ (x5_1 : Int) := of_decide_eq_true (by first | (with_reducible assumption) | assumption)
                  have q195 : x5_1 < (l0.length : Int) := of_decide_eq_true (by first | (with_reducible assumption) | assumption)
                  obtain ⟨ad195, A195_10, c195_10, e195, hx195_0, hx195_1, hx195_2, hx195_3, hx195_4, hx195_5, hx195_6, hx195_7, hx195_8, hx195_9, hx195_10, hl195_10, hi195_10⟩ := at_T66 HR0.out x5_1 p195 q195
                  obtain rfl : ad192 = ad195 := (by injection e195)
                  have HR195_10 := Aside0.mk hi195_10
                  have HC195_10 := Aside0.mk hl195_10
                  clear hi195_10 hl195_10
                  replace p195 := eq_true p195
                  replace q195 := eq_true q195
                  have ea_ := Option.some.inj (hx192_10.symm.trans hx195_10)
                  injection ea_ with ea_ en_ ec_
                  subst ea_
                  subst ec_
                  clear en_
                  go_wp2
                  go_ret
                  exact ⟨by first | rfl | (simp; done) | (simp [*]; done), by repeat (first | exact Drawn0.refl _ | apply Drawn0.step)⟩
              · rw [if_neg c7] at H
                have c7b0 : (((rd_T66 l0 x5_1).f0.f1.f1) == (wrap64 ((wrap64 (x1_1 + 1)) + 1))) = false := beq_eq_false_iff_ne.mpr c7
                have c7b1 : (((rd_T66 l0 x5_1).f0.f1.f1) != (wrap64 ((wrap64 (x1_1 + 1)) + 1))) = true := bne_iff_ne.mpr c7
                obtain rfl := Option.some.inj H
                have p192 : 0 ≤ (x5_1 : Int) := of_decide_eq_true (by first | (with_reducible assumption) | assumption)
                have q192 : x5_1 < (l0.length : Int) := of_decide_eq_true (by first | (with_reducible assumption) | assumption)
                obtain ⟨ad192, A192_10, c192_10, e192, hx192_0, hx192_1, hx192_2, hx192_3, hx192_4, hx192_5, hx192_6, hx192_7, hx192_8, hx192_9, hx192_10, hl192_10, hi192_10⟩ := at_T66 HR0.out x5_1 p192 q192
                cases e192
                have HR192_10 := Aside0.mk hi192_10
                have HC192_10 := Aside0.mk hl192_10
                clear hi192_10 hl192_10
                replace p192 := eq_true p192
                replace q192 := eq_true q192
                have p193 : 0 ≤ (x5_1 : Int) := of_decide_eq_true (by first | (with_reducible assumption) | assumption)
                have q193 : x5_1 < (l0.length : Int) := of_decide_eq_true (by first | (with_reducible assumption) | assumption)
                obtain ⟨ad193, A193_10, c193_10, e193, hx193_0, hx193_1, hx193_2, hx193_3, hx193_4, hx193_5, hx193_6, hx193_7, hx193_8, hx193_9, hx193_10, hl193_10, hi193_10⟩ := at_T66 HR0.out x5_1 p193 q193
                obtain rfl : ad192 = ad193 := (by injection e193)
                have HR193_10 := Aside0.mk hi193_10
                have HC193_10 := Aside0.mk hl193_10
                clear hi193_10 hl193_10
                replace p193 := eq_true p193
                replace q193 := eq_true q193
                have ea_ := Option.some.inj (hx192_10.symm.trans hx193_10)
                injection ea_ with ea_ en_ ec_
                subst ea_
                subst ec_
                clear en_
                have p194 : 0 ≤ (x5_1 : Int) := of_decide_eq_true (by first | (with_reducible assumption) | assumption)
                have q194 : x5_1 < (l0.length : Int) := of_decide_eq_true (by first | (with_reducible assumption) | assumption)
                obtain ⟨ad194, A194_10, c194_10, e194, hx194_0, hx194_1, hx194_2, hx194_3, hx194_4, hx194_5, hx194_6, hx194_7, hx194_8, hx194_9, hx194_10, hl194_10, hi194_10⟩ := at_T66 HR0.out x5_1 p194 q194
                obtain rfl : ad192 = ad194 := (by injection e194)
                have HR194_10 := Aside0.mk hi194_10
                have HC194_10 := Aside0.mk hl194_10
                clear hi194_10 hl194_10
                replace p194 := eq_true p194
                replace q194 := eq_true q194
                have ea_ := Option.some.inj (hx192_10.symm.trans hx194_10)
                injection ea_ with ea_ en_ ec_
                subst ea_
                subst ec_
                clear en_
                go_wp2
                go_ret
                exact ⟨by first | rfl | (simp; done) | (simp [*]; done), by repeat (first | exact Drawn0.refl _ | apply Drawn0.step)⟩
            · rw [if_neg c6] at H
              have c6b0 : (((rd_T66 l0 x5_1).f0.f1.f0) == (wrap64 (x1_1 + 1))) = false := beq_eq_false_iff_ne.mpr c6
              have c6b1 : (((rd_T66 l0 x5_1).f0.f1.f0) != (wrap64 (x1_1 + 1))) = true := bne_iff_ne.mpr c6
              obtain rfl := Option.some.inj H
              have p192 : 0 ≤ (x5_1 : Int) := of_decide_eq_true (by first | (with_reducible assumption) | assumption)
              have q192 : x5_1 < (l0.length : Int) := of_decide_eq_true (by first | (with_reducible assumption) | assumption)
              obtain ⟨ad192, A192_10, c192_10, e192, hx192_0, hx192_1, hx192_2, hx192_3, hx192_4, hx192_5, hx192_6, hx192_7, hx192_8, hx192_9, hx192_10, hl192_10, hi192_10⟩ := at_T66 HR0.out x5_1 p192 q192
              cases e192
              have HR192_10 := Aside0.mk hi192_10
              have HC192_10 := Aside0.mk hl192_10
              clear hi192_10 hl192_10
              replace p192 := eq_true p192
              replace q192 := eq_true q192
              have p193 : 0 ≤ (x5_1 : Int) := of_decide_eq_true (by first | (with_reducible assumption) | assumption)
              have q193 : x5_1 < (l0.length : Int) := of_decide_eq_true (by first | (with_reducible assumption) | assumption)
              obtain ⟨ad193, A193_10, c193_10, e193, hx193_0, hx193_1, hx193_2, hx193_3, hx193_4, hx193_5, hx193_6, hx193_7, hx193_8, hx193_9, hx193_10, hl193_10, hi193_10⟩ := at_T66 HR0.out x5_1 p193 q193
              obtain rfl : ad192 = ad193 := (by injection e193)
              have HR193_10 := Aside0.mk hi193_10
              have HC193_10 := Aside0.mk hl193_10
              clear hi193_10 hl193_10
              replace p193 := eq_true p193
              replace q193 := eq_true q193
              have ea_ := Option.some.inj (hx192_10.symm.trans hx193_10)
              injection ea_ with ea_ en_ ec_
              subst ea_
              subst ec_
              clear en_
              go_wp2
              go_ret
              exact ⟨by first | rfl | (simp; done) | (simp [*]; done), by repeat (first | exact Drawn0.refl _ | apply Drawn0.step)⟩
          · rw [if_neg c5] at H
            have c5b0 : (((rd_T66 l0 x5_1).f0.f0) == x1_1) = false := beq_eq_false_iff_ne.mpr c5
            have c5b1 : (((rd_T66 l0 x5_1).f0.f0) != x1_1) = true := bne_iff_ne.mpr c5
            obtain rfl := Option.some.inj H
            have p192 : 0 ≤ (x5_1 : Int) := of_decide_eq_true (by first | (with_reducible assumption) | assumption)
            have q192 : x5_1 < (l0.length : Int) := of_decide_eq_true (by first | (with_reducible assumption) | assumption)
            obtain ⟨ad192, A192_10, c192_10, e192, hx192_0, hx192_1, hx192_2, hx192_3, hx192_4, hx192_5, hx192_6, hx192_7, hx192_8, hx192_9, hx192_10, hl192_10, hi192_10⟩ := at_T66 HR0.out x5_1 p192 q192
            cases e192
            have HR192_10 := Aside0.mk hi192_10
            have HC192_10 := Aside0.mk hl192_10
            clear hi192_10 hl192_10
            replace p192 := eq_true p192
            replace q192 := eq_true q192
            go_wp2
            go_ret
            exact ⟨by first | rfl | (simp; done) | (simp [*]; done), by repeat (first | exact Drawn0.refl _ | apply Drawn0.step)⟩
        · rw [if_neg c4] at H
          exact absurd H (by simp)
      · rw [if_neg c3] at H
        have c3b0 : decide (x5_1 < (l0.length : Int)) = false := decide_eq_false c3
        clear c3
        obtain rfl := Option.some.inj H
        go_wp2
        go_ret
        exact ⟨by first | rfl | (simp; done) | (simp [*]; done), by repeat (first | exact Drawn0.refl _ | apply Drawn0.step)⟩

end Go.Proofs.Ytpbmobgpipmldab.All
