-- Written by the session's own program wip/allprint.py, which drives the kit's print; Lean checks it.
import Derived.Test.YtcollniblajhiaaAllx0
namespace Go.Proofs.Ytcollniblajhiaa.All
open Go.RowKit Go.Proofs.YtcollniblajhiaaW.PrintWords Go.Proofs.YtcollniblajhiaaW.PrintLast Go.Proofs.YtcollniblajhiaaW.PrintMore
attribute [local go_sem] max2_int min2_int max_two min_two max_three min_three max_four min_four   -- for this text's walks alone
set_option linter.unusedVariables false
set_option linter.unusedSimpArgs false

/-! ### spec_ReqMay: function 31 -/
mutual
def spec_ReqMay.j0 : Nat → Int → Int → Bool → Option (Bool)
  | 0, _, _, _ => none
  | k + 1, x0, x5, x6 => if x6 = true then (some (x0 == 4)) else (if x5 = 3 then (spec_ReqMay.j1 k x0 x5 (x5 == 3)) else (if x5 = 4 then (spec_ReqMay.j1 k x0 x5 (x5 == 4)) else (if x5 = 6 then (spec_ReqMay.j1 k x0 x5 (x5 == 6)) else (spec_ReqMay.j1 k x0 x5 (x5 == 7)))))
def spec_ReqMay.j1 : Nat → Int → Int → Bool → Option (Bool)
  | 0, _, _, _ => none
  | k + 1, x0, x5, x11 => if x11 = true then (if x0 = 1 then (some true) else (some (x0 == 2))) else (if x5 = 5 then (spec_ReqMay.j2 k x0 x5 (x5 == 5)) else (spec_ReqMay.j2 k x0 x5 (x5 == 8)))
def spec_ReqMay.j2 : Nat → Int → Int → Bool → Option (Bool)
  | 0, _, _, _ => none
  | k + 1, x0, x5, x22 => if x22 = true then (if x0 = 2 then (some true) else (some (x0 == 3))) else (if x5 = 9 then (if x0 = 2 then (some true) else (some (x0 == 3))) else (if x5 = 10 then (spec_ReqMay.j3 k x0 (x5 == 10)) else (if x5 = 11 then (spec_ReqMay.j3 k x0 (x5 == 11)) else (spec_ReqMay.j3 k x0 (x5 == 12)))))
def spec_ReqMay.j3 : Nat → Int → Bool → Option (Bool)
  | 0, _, _ => none
  | k + 1, x0, x39 => if x39 = true then (some (x0 == 3)) else (some false)
end
def spec_ReqMay.f (k : Nat) (a0 : Int) (a1 : Int) : Option (Bool) := if a1 = 1 then (spec_ReqMay.j0 k a0 a1 (a1 == 1)) else (spec_ReqMay.j0 k a0 a1 (a1 == 2))
theorem spec_ReqMay.mono_l : ∀ k, (∀ y0 y1 y2, LeO (spec_ReqMay.j0 k y0 y1 y2) (spec_ReqMay.j0 (k + 1) y0 y1 y2)) ∧ (∀ y0 y1 y2, LeO (spec_ReqMay.j1 k y0 y1 y2) (spec_ReqMay.j1 (k + 1) y0 y1 y2)) ∧ (∀ y0 y1 y2, LeO (spec_ReqMay.j2 k y0 y1 y2) (spec_ReqMay.j2 (k + 1) y0 y1 y2)) ∧ (∀ y0 y1, LeO (spec_ReqMay.j3 k y0 y1) (spec_ReqMay.j3 (k + 1) y0 y1))
  | 0 => ⟨fun _ _ _ r h => by simp [spec_ReqMay.j0] at h, fun _ _ _ r h => by simp [spec_ReqMay.j1] at h, fun _ _ _ r h => by simp [spec_ReqMay.j2] at h, fun _ _ r h => by simp [spec_ReqMay.j3] at h⟩
  | k + 1 => by
    obtain ⟨ih0, ih1, ih2, ih3⟩ := spec_ReqMay.mono_l k
    refine ⟨?_, ?_, ?_, ?_⟩
    · intro y0 y1 y2
      unfold spec_ReqMay.j0
      repeat' first
      | (with_reducible exact ih0 _ _ _)
      | (with_reducible exact ih1 _ _ _)
      | (with_reducible exact ih2 _ _ _)
      | (with_reducible exact ih3 _ _)
      | (with_reducible exact LeO.refl _)
      | (with_reducible exact LeO.none _)
      | (with_reducible refine LeO.ite ?_ ?_)
      | (with_reducible refine LeO.bind ?_ (fun _ => ?_))
      | exact ih0 _ _ _
      | exact ih1 _ _ _
      | exact ih2 _ _ _
      | exact ih3 _ _
      | exact LeO.none _
      | refine LeO.ite ?_ ?_
      | refine LeO.bind ?_ (fun _ => ?_)
    · intro y0 y1 y2
      unfold spec_ReqMay.j1
      repeat' first
      | (with_reducible exact ih0 _ _ _)
      | (with_reducible exact ih1 _ _ _)
      | (with_reducible exact ih2 _ _ _)
      | (with_reducible exact ih3 _ _)
      | (with_reducible exact LeO.refl _)
      | (with_reducible exact LeO.none _)
      | (with_reducible refine LeO.ite ?_ ?_)
      | (with_reducible refine LeO.bind ?_ (fun _ => ?_))
      | exact ih0 _ _ _
      | exact ih1 _ _ _
      | exact ih2 _ _ _
      | exact ih3 _ _
      | exact LeO.none _
      | refine LeO.ite ?_ ?_
      | refine LeO.bind ?_ (fun _ => ?_)
    · intro y0 y1 y2
      unfold spec_ReqMay.j2
      repeat' first
      | (with_reducible exact ih0 _ _ _)
      | (with_reducible exact ih1 _ _ _)
      | (with_reducible exact ih2 _ _ _)
      | (with_reducible exact ih3 _ _)
      | (with_reducible exact LeO.refl _)
      | (with_reducible exact LeO.none _)
      | (with_reducible refine LeO.ite ?_ ?_)
      | (with_reducible refine LeO.bind ?_ (fun _ => ?_))
      | exact ih0 _ _ _
      | exact ih1 _ _ _
      | exact ih2 _ _ _
      | exact ih3 _ _
      | exact LeO.none _
      | refine LeO.ite ?_ ?_
      | refine LeO.bind ?_ (fun _ => ?_)
    · intro y0 y1
      unfold spec_ReqMay.j3
      repeat' first
      | (with_reducible exact ih0 _ _ _)
      | (with_reducible exact ih1 _ _ _)
      | (with_reducible exact ih2 _ _ _)
      | (with_reducible exact ih3 _ _)
      | (with_reducible exact LeO.refl _)
      | (with_reducible exact LeO.none _)
      | (with_reducible refine LeO.ite ?_ ?_)
      | (with_reducible refine LeO.bind ?_ (fun _ => ?_))
      | exact ih0 _ _ _
      | exact ih1 _ _ _
      | exact ih2 _ _ _
      | exact ih3 _ _
      | exact LeO.none _
      | refine LeO.ite ?_ ?_
      | refine LeO.bind ?_ (fun _ => ?_)
theorem spec_ReqMay.mono : ∀ a0 a1 k, LeO (spec_ReqMay.f k a0 a1) (spec_ReqMay.f (k + 1) a0 a1) := by
  intro a0 a1 k
  obtain ⟨ih0, ih1, ih2, ih3⟩ := spec_ReqMay.mono_l k
  unfold spec_ReqMay.f
  repeat' first
      | (with_reducible exact ih0 _ _ _)
      | (with_reducible exact ih1 _ _ _)
      | (with_reducible exact ih2 _ _ _)
      | (with_reducible exact ih3 _ _)
      | (with_reducible exact LeO.refl _)
      | (with_reducible exact LeO.none _)
      | (with_reducible refine LeO.ite ?_ ?_)
      | (with_reducible refine LeO.bind ?_ (fun _ => ?_))
      | exact ih0 _ _ _
      | exact ih1 _ _ _
      | exact ih2 _ _ _
      | exact ih3 _ _
      | exact LeO.none _
      | refine LeO.ite ?_ ?_
      | refine LeO.bind ?_ (fun _ => ?_)
set_option maxHeartbeats 8000000 in
set_option maxRecDepth 100000 in
theorem spec_ReqMay.calls (k : Nat) (a0 : Int) (a1 : Int) (r : Bool) (w : World) (h : spec_ReqMay.f k a0 a1 = some r) :
    Calls Try.prog 31 #[.int .i64 a0, .int .i64 a1] w fun e w' => e = .returned (.bool r) ∧ Drawn0 w w' := by
  have H : (if a1 = 1 then (spec_ReqMay.j0 k a0 a1 (a1 == 1)) else (spec_ReqMay.j0 k a0 a1 (a1 == 2))) = some r := h
  clear h
  have HC3 := Aside0.mk H
  clear H
  go_enter Try.func31, Try.ntmps31
  go_upto_if 6 with (fail)
  go_cut [6] (fun v6 wc => ∃ (kq : Nat) (x6_2 : Bool), v6 = .bool x6_2 ∧ Aside0 (spec_ReqMay.j0 kq a0 a1 x6_2 = some r) ∧ Aside0 (kq ≤ k) ∧ Drawn0 w wc)
  case first =>
    have H := HC3.out
    clear HC3
    by_cases c4 : a1 = 1
    · rw [if_pos c4] at H
      have c4b0 : (a1 == 1) = true := beq_iff_eq.mpr c4
      have c4b1 : (a1 != 1) = false := bne_eq_false_iff_eq.mpr c4
      clear c4
      (first | rw [c4b0] | (simp only [i64_w, i32_w]; rw [c4b0]) | skip)
      have H' := Aside0.mk H
      clear H
      go_wp2
      go_meet
      case rel => exact ⟨_, ((a1 == 1)), (by first | rfl | (simp; done) | (simp [*]; done)), H', ⟨by first | omega | exact Nat.le_refl _⟩, by repeat (first | exact Drawn0.refl _ | apply Drawn0.step)⟩
    · rw [if_neg c4] at H
      have c4b0 : (a1 == 1) = false := beq_eq_false_iff_ne.mpr c4
      have c4b1 : (a1 != 1) = true := bne_iff_ne.mpr c4
      (first | rw [c4b0] | (simp only [i64_w, i32_w]; rw [c4b0]) | skip)
      have H' := Aside0.mk H
      clear H
      go_wp2
      go_meet
      case rel => exact ⟨_, ((a1 == 2)), (by first | rfl | (simp; done) | (simp [*]; done)), H', ⟨by first | omega | exact Nat.le_refl _⟩, by repeat (first | exact Drawn0.refl _ | apply Drawn0.step)⟩
  case rest =>
    clear HC3
    try clear p2
    try clear c3
    try clear c4
    try clear c4b0
    try clear c4b1
    obtain ⟨kq, x6_2, rfl, HA, HJ2, ⟨mc2, rfl⟩⟩ := hcut
    cases kq with
    | zero => exact absurd HA.out (by simp [spec_ReqMay.j0])
    | succ kj2 =>
      have H := HA.out
      clear HA
      simp only [spec_ReqMay.j0] at H
      by_cases c5 : x6_2 = true
      · subst c5
        have H1 : (some (a0 == 4)) = some r := by rw [if_pos rfl] at H; exact H
        clear H
        have H := H1
        clear H1
        obtain rfl := Option.some.inj H
        go_wp2
        go_ret
        exact ⟨by first | rfl | (simp; done) | (simp [*]; done), by repeat (first | exact Drawn0.refl _ | apply Drawn0.step)⟩
      · replace c5 := Bool.eq_false_iff.mpr c5
        subst c5
        have H1 : (if a1 = 3 then (spec_ReqMay.j1 kj2 a0 a1 (a1 == 3)) else (if a1 = 4 then (spec_ReqMay.j1 kj2 a0 a1 (a1 == 4)) else (if a1 = 6 then (spec_ReqMay.j1 kj2 a0 a1 (a1 == 6)) else (spec_ReqMay.j1 kj2 a0 a1 (a1 == 7))))) = some r := by rw [if_neg (show ¬ (false = true) by decide)] at H; exact H
        clear H
        have H := H1
        clear H1
        have HC6 := Aside0.mk H
        clear H
        go_upto_if 11 with (fail)
        go_cut [11] (fun v11 wc => ∃ (kq : Nat) (x11_5 : Bool), v11 = .bool x11_5 ∧ Aside0 (spec_ReqMay.j1 kq a0 a1 x11_5 = some r) ∧ Aside0 (kq ≤ kj2) ∧ Drawn0 w wc)
        case first =>
          have H := HC6.out
          clear HC6
          by_cases c7 : a1 = 3
          · rw [if_pos c7] at H
            have c7b0 : (a1 == 3) = true := beq_iff_eq.mpr c7
            have c7b1 : (a1 != 3) = false := bne_eq_false_iff_eq.mpr c7
            clear c7
            (first | rw [c7b0] | (simp only [i64_w, i32_w]; rw [c7b0]) | skip)
            have H' := Aside0.mk H
            clear H
            go_wp2
            go_meet
            case rel => exact ⟨_, ((a1 == 3)), (by first | rfl | (simp; done) | (simp [*]; done)), H', ⟨by have := HJ2.out; first | omega | exact Nat.le_refl _⟩, by repeat (first | exact Drawn0.refl _ | apply Drawn0.step)⟩
          · rw [if_neg c7] at H
            have c7b0 : (a1 == 3) = false := beq_eq_false_iff_ne.mpr c7
            have c7b1 : (a1 != 3) = true := bne_iff_ne.mpr c7
            (first | rw [c7b0] | (simp only [i64_w, i32_w]; rw [c7b0]) | skip)
            by_cases c8 : a1 = 4
            · rw [if_pos c8] at H
              have c8b0 : (a1 == 4) = true := beq_iff_eq.mpr c8
              have c8b1 : (a1 != 4) = false := bne_eq_false_iff_eq.mpr c8
              clear c8
              have H' := Aside0.mk H
              clear H
              go_wp2
              go_meet
              case rel => exact ⟨_, ((a1 == 4)), (by first | rfl | (simp; done) | (simp [*]; done)), H', ⟨by have := HJ2.out; first | omega | exact Nat.le_refl _⟩, by repeat (first | exact Drawn0.refl _ | apply Drawn0.step)⟩
            · rw [if_neg c8] at H
              have c8b0 : (a1 == 4) = false := beq_eq_false_iff_ne.mpr c8
              have c8b1 : (a1 != 4) = true := bne_iff_ne.mpr c8
              by_cases c9 : a1 = 6
              · rw [if_pos c9] at H
                have c9b0 : (a1 == 6) = true := beq_iff_eq.mpr c9
                have c9b1 : (a1 != 6) = false := bne_eq_false_iff_eq.mpr c9
                clear c9
                have H' := Aside0.mk H
                clear H
                go_wp2
                go_meet
                case rel => exact ⟨_, ((a1 == 6)), (by first | rfl | (simp; done) | (simp [*]; done)), H', ⟨by have := HJ2.out; first | omega | exact Nat.le_refl _⟩, by repeat (first | exact Drawn0.refl _ | apply Drawn0.step)⟩
              · rw [if_neg c9] at H
                have c9b0 : (a1 == 6) = false := beq_eq_false_iff_ne.mpr c9
                have c9b1 : (a1 != 6) = true := bne_iff_ne.mpr c9
                have H' := Aside0.mk H
                clear H
                go_wp2
                go_meet
                case rel => exact ⟨_, ((a1 == 7)), (by first | rfl | (simp; done) | (simp [*]; done)), H', ⟨by have := HJ2.out; first | omega | exact Nat.le_refl _⟩, by repeat (first | exact Drawn0.refl _ | apply Drawn0.step)⟩
        case rest =>
          clear HC6
          try clear c2
          try clear p2
          try clear c3
          try clear c4
          try clear c4b0
          try clear c4b1
          try clear c5
          try clear c7
          try clear c7b0
          try clear c7b1
          try clear c8
          try clear c8b0
          try clear c8b1
          try clear c9
          try clear c9b0
          try clear c9b1
          try clear p2
          obtain ⟨kq, x11_5, rfl, HA, HJ5, ⟨mc5, rfl⟩⟩ := hcut
          cases kq with
          | zero => exact absurd HA.out (by simp [spec_ReqMay.j1])
          | succ kj5 =>
            have H := HA.out
            clear HA
            simp only [spec_ReqMay.j1] at H
            by_cases c10 : x11_5 = true
            · subst c10
              have H1 : (if a0 = 1 then (some true) else (some (a0 == 2))) = some r := by rw [if_pos rfl] at H; exact H
              clear H
              have H := H1
              clear H1
              by_cases c11 : a0 = 1
              · rw [if_pos c11] at H
                have c11b0 : (a0 == 1) = true := beq_iff_eq.mpr c11
                have c11b1 : (a0 != 1) = false := bne_eq_false_iff_eq.mpr c11
                clear c11
                obtain rfl := Option.some.inj H
                go_wp2
                go_ret
                exact ⟨by first | rfl | (simp; done) | (simp [*]; done), by repeat (first | exact Drawn0.refl _ | apply Drawn0.step)⟩
              · rw [if_neg c11] at H
                have c11b0 : (a0 == 1) = false := beq_eq_false_iff_ne.mpr c11
                have c11b1 : (a0 != 1) = true := bne_iff_ne.mpr c11
                obtain rfl := Option.some.inj H
                go_wp2
                go_ret
                exact ⟨by first | rfl | (simp; done) | (simp [*]; done), by repeat (first | exact Drawn0.refl _ | apply Drawn0.step)⟩
            · replace c10 := Bool.eq_false_iff.mpr c10
              subst c10
              have H1 : (if a1 = 5 then (spec_ReqMay.j2 kj5 a0 a1 (a1 == 5)) else (spec_ReqMay.j2 kj5 a0 a1 (a1 == 8))) = some r := by rw [if_neg (show ¬ (false = true) by decide)] at H; exact H
              clear H
              have H := H1
              clear H1
              have HC12 := Aside0.mk H
              clear H
              go_upto_if 22 with (fail)
              go_cut [22] (fun v22 wc => ∃ (kq : Nat) (x22_11 : Bool), v22 = .bool x22_11 ∧ Aside0 (spec_ReqMay.j2 kq a0 a1 x22_11 = some r) ∧ Aside0 (kq ≤ kj5) ∧ Drawn0 w wc)
              case first =>
                have H := HC12.out
                clear HC12
                by_cases c13 : a1 = 5
                · rw [if_pos c13] at H
                  have c13b0 : (a1 == 5) = true := beq_iff_eq.mpr c13
                  have c13b1 : (a1 != 5) = false := bne_eq_false_iff_eq.mpr c13
                  clear c13
                  (first | rw [c13b0] | (simp only [i64_w, i32_w]; rw [c13b0]) | skip)
                  have H' := Aside0.mk H
                  clear H
                  go_wp2
                  go_meet
                  case rel => exact ⟨_, ((a1 == 5)), (by first | rfl | (simp; done) | (simp [*]; done)), H', ⟨by have := HJ2.out; have := HJ5.out; first | omega | exact Nat.le_refl _⟩, by repeat (first | exact Drawn0.refl _ | apply Drawn0.step)⟩
                · rw [if_neg c13] at H
                  have c13b0 : (a1 == 5) = false := beq_eq_false_iff_ne.mpr c13
                  have c13b1 : (a1 != 5) = true := bne_iff_ne.mpr c13
                  (first | rw [c13b0] | (simp only [i64_w, i32_w]; rw [c13b0]) | skip)
                  have H' := Aside0.mk H
                  clear H
                  go_wp2
                  go_meet
                  case rel => exact ⟨_, ((a1 == 8)), (by first | rfl | (simp; done) | (simp [*]; done)), H', ⟨by have := HJ2.out; have := HJ5.out; first | omega | exact Nat.le_refl _⟩, by repeat (first | exact Drawn0.refl _ | apply Drawn0.step)⟩
              case rest =>
                clear HC12
                try clear c1
                try clear c2
                try clear p2
                try clear c3
                try clear c4
                try clear c4b0
                try clear c4b1
                try clear c5
                try clear c7
                try clear c7b0
                try clear c7b1
                try clear c8
                try clear c8b0
                try clear c8b1
                try clear c9
                try clear c9b0
                try clear c9b1
                try clear c10
                try clear c11
                try clear c11b0
                try clear c11b1
                try clear c13
                try clear c13b0
                try clear c13b1
                try clear p2
                obtain ⟨kq, x22_11, rfl, HA, HJ11, ⟨mc11, rfl⟩⟩ := hcut
                cases kq with
                | zero => exact absurd HA.out (by simp [spec_ReqMay.j2])
                | succ kj11 =>
                  have H := HA.out
                  clear HA
                  simp only [spec_ReqMay.j2] at H
                  by_cases c14 : x22_11 = true
                  · subst c14
                    have H1 : (if a0 = 2 then (some true) else (some (a0 == 3))) = some r := by rw [if_pos rfl] at H; exact H
                    clear H
                    have H := H1
                    clear H1
                    by_cases c15 : a0 = 2
                    · rw [if_pos c15] at H
                      have c15b0 : (a0 == 2) = true := beq_iff_eq.mpr c15
                      have c15b1 : (a0 != 2) = false := bne_eq_false_iff_eq.mpr c15
                      clear c15
                      obtain rfl := Option.some.inj H
                      go_wp2
                      go_ret
                      exact ⟨by first | rfl | (simp; done) | (simp [*]; done), by repeat (first | exact Drawn0.refl _ | apply Drawn0.step)⟩
                    · rw [if_neg c15] at H
                      have c15b0 : (a0 == 2) = false := beq_eq_false_iff_ne.mpr c15
                      have c15b1 : (a0 != 2) = true := bne_iff_ne.mpr c15
                      obtain rfl := Option.some.inj H
                      go_wp2
                      go_ret
                      exact ⟨by first | rfl | (simp; done) | (simp [*]; done), by repeat (first | exact Drawn0.refl _ | apply Drawn0.step)⟩
                  · replace c14 := Bool.eq_false_iff.mpr c14
                    subst c14
                    have H1 : (if a1 = 9 then (if a0 = 2 then (some true) else (some (a0 == 3))) else (if a1 = 10 then (spec_ReqMay.j3 kj11 a0 (a1 == 10)) else (if a1 = 11 then (spec_ReqMay.j3 kj11 a0 (a1 == 11)) else (spec_ReqMay.j3 kj11 a0 (a1 == 12))))) = some r := by rw [if_neg (show ¬ (false = true) by decide)] at H; exact H
                    clear H
                    have H := H1
                    clear H1
                    by_cases c16 : a1 = 9
                    · rw [if_pos c16] at H
                      have c16b0 : (a1 == 9) = true := beq_iff_eq.mpr c16
                      have c16b1 : (a1 != 9) = false := bne_eq_false_iff_eq.mpr c16
                      clear c16
                      by_cases c17 : a0 = 2
                      · rw [if_pos c17] at H
                        have c17b0 : (a0 == 2) = true := beq_iff_eq.mpr c17
                        have c17b1 : (a0 != 2) = false := bne_eq_false_iff_eq.mpr c17
                        clear c17
                        obtain rfl := Option.some.inj H
                        go_wp2
                        go_ret
                        exact ⟨by first | rfl | (simp; done) | (simp [*]; done), by repeat (first | exact Drawn0.refl _ | apply Drawn0.step)⟩
                      · rw [if_neg c17] at H
                        have c17b0 : (a0 == 2) = false := beq_eq_false_iff_ne.mpr c17
                        have c17b1 : (a0 != 2) = true := bne_iff_ne.mpr c17
                        obtain rfl := Option.some.inj H
                        go_wp2
                        go_ret
                        exact ⟨by first | rfl | (simp; done) | (simp [*]; done), by repeat (first | exact Drawn0.refl _ | apply Drawn0.step)⟩
                    · rw [if_neg c16] at H
                      have c16b0 : (a1 == 9) = false := beq_eq_false_iff_ne.mpr c16
                      have c16b1 : (a1 != 9) = true := bne_iff_ne.mpr c16
                      have HC18 := Aside0.mk H
                      clear H
                      go_upto_if 39 with (fail)
                      go_cut [39] (fun v39 wc => ∃ (kq : Nat) (x39_17 : Bool), v39 = .bool x39_17 ∧ Aside0 (spec_ReqMay.j3 kq a0 x39_17 = some r) ∧ Aside0 (kq ≤ kj11) ∧ Drawn0 w wc)
                      case first =>
                        have H := HC18.out
                        clear HC18
                        by_cases c19 : a1 = 10
                        · rw [if_pos c19] at H
                          have c19b0 : (a1 == 10) = true := beq_iff_eq.mpr c19
                          have c19b1 : (a1 != 10) = false := bne_eq_false_iff_eq.mpr c19
                          clear c19
                          (first | rw [c19b0] | (simp only [i64_w, i32_w]; rw [c19b0]) | skip)
                          have H' := Aside0.mk H
                          clear H
                          go_wp2
                          go_meet
                          case rel => exact ⟨_, ((a1 == 10)), (by first | rfl | (simp; done) | (simp [*]; done)), H', ⟨by have := HJ2.out; have := HJ5.out; have := HJ11.out; first | omega | exact Nat.le_refl _⟩, by repeat (first | exact Drawn0.refl _ | apply Drawn0.step)⟩
                        · rw [if_neg c19] at H
                          have c19b0 : (a1 == 10) = false := beq_eq_false_iff_ne.mpr c19
                          have c19b1 : (a1 != 10) = true := bne_iff_ne.mpr c19
                          (first | rw [c19b0] | (simp only [i64_w, i32_w]; rw [c19b0]) | skip)
                          by_cases c20 : a1 = 11
                          · rw [if_pos c20] at H
                            have c20b0 : (a1 == 11) = true := beq_iff_eq.mpr c20
                            have c20b1 : (a1 != 11) = false := bne_eq_false_iff_eq.mpr c20
                            clear c20
                            have H' := Aside0.mk H
                            clear H
                            go_wp2
                            go_meet
                            case rel => exact ⟨_, ((a1 == 11)), (by first | rfl | (simp; done) | (simp [*]; done)), H', ⟨by have := HJ2.out; have := HJ5.out; have := HJ11.out; first | omega | exact Nat.le_refl _⟩, by repeat (first | exact Drawn0.refl _ | apply Drawn0.step)⟩
                          · rw [if_neg c20] at H
                            have c20b0 : (a1 == 11) = false := beq_eq_false_iff_ne.mpr c20
                            have c20b1 : (a1 != 11) = true := bne_iff_ne.mpr c20
                            have H' := Aside0.mk H
                            clear H
                            go_wp2
                            go_meet
                            case rel => exact ⟨_, ((a1 == 12)), (by first | rfl | (simp; done) | (simp [*]; done)), H', ⟨by have := HJ2.out; have := HJ5.out; have := HJ11.out; first | omega | exact Nat.le_refl _⟩, by repeat (first | exact Drawn0.refl _ | apply Drawn0.step)⟩
                      case rest =>
                        clear HC18
                        try clear c1
                        try clear c2
                        try clear p2
                        try clear c3
                        try clear c4
                        try clear c4b0
                        try clear c4b1
                        try clear c5
                        try clear c7
                        try clear c7b0
                        try clear c7b1
                        try clear c8
                        try clear c8b0
                        try clear c8b1
                        try clear c9
                        try clear c9b0
                        try clear c9b1
                        try clear c10
                        try clear c11
                        try clear c11b0
                        try clear c11b1
                        try clear c13
                        try clear c13b0
                        try clear c13b1
                        try clear c14
                        try clear c15
                        try clear c15b0
                        try clear c15b1
                        try clear c16
                        try clear c16b0
                        try clear c16b1
                        try clear c17
                        try clear c17b0
                        try clear c17b1
                        try clear c19
                        try clear c19b0
                        try clear c19b1
                        try clear c20
                        try clear c20b0
                        try clear c20b1
                        try clear p2
                        obtain ⟨kq, x39_17, rfl, HA, HJ17, ⟨mc17, rfl⟩⟩ := hcut
                        cases kq with
                        | zero => exact absurd HA.out (by simp [spec_ReqMay.j3])
                        | succ kj17 =>
                          have H := HA.out
                          clear HA
                          simp only [spec_ReqMay.j3] at H
                          by_cases c21 : x39_17 = true
                          · subst c21
                            have H1 : (some (a0 == 3)) = some r := by rw [if_pos rfl] at H; exact H
                            clear H
                            have H := H1
                            clear H1
                            obtain rfl := Option.some.inj H
                            go_wp2
                            go_ret
                            exact ⟨by first | rfl | (simp; done) | (simp [*]; done), by repeat (first | exact Drawn0.refl _ | apply Drawn0.step)⟩
                          · replace c21 := Bool.eq_false_iff.mpr c21
                            subst c21
                            have H1 : (some false) = some r := by rw [if_neg (show ¬ (false = true) by decide)] at H; exact H
                            clear H
                            have H := H1
                            clear H1
                            obtain rfl := Option.some.inj H
                            go_wp2
                            go_ret
                            exact ⟨by first | rfl | (simp; done) | (simp [*]; done), by repeat (first | exact Drawn0.refl _ | apply Drawn0.step)⟩

/-! ### slices_Index_int_int: function 46 -/
def slices_Index_int_int.l0 : Nat → List Int → Int → Int → Int → Option (Int)
  | 0, _, _, _, _ => none
  | k + 1, x0, x1, x7, x8 => if x8 < x7 then (if 0 ≤ x8 then (if x8 < (x0.length : Int) then (if x1 = (rd x0 x8) then (some x8) else (slices_Index_int_int.l0 k x0 x1 x7 (wrap64 (x8 + 1)))) else (none)) else (none)) else (some (-1))
def slices_Index_int_int.f (k : Nat) (l0 : List Int) (a1 : Int) : Option (Int) := slices_Index_int_int.l0 k l0 a1 (l0.length : Int) 0
theorem slices_Index_int_int.mono_l : ∀ k, (∀ y0 y1 y2 y3, LeO (slices_Index_int_int.l0 k y0 y1 y2 y3) (slices_Index_int_int.l0 (k + 1) y0 y1 y2 y3))
  | 0 => fun _ _ _ _ r h => by simp [slices_Index_int_int.l0] at h
  | k + 1 => by
    have ih0 := slices_Index_int_int.mono_l k
    · intro y0 y1 y2 y3
      unfold slices_Index_int_int.l0
      repeat' first
      | (with_reducible exact ih0 _ _ _ _)
      | (with_reducible exact LeO.refl _)
      | (with_reducible exact LeO.none _)
      | (with_reducible refine LeO.ite ?_ ?_)
      | (with_reducible refine LeO.bind ?_ (fun _ => ?_))
      | exact ih0 _ _ _ _
      | exact LeO.none _
      | refine LeO.ite ?_ ?_
      | refine LeO.bind ?_ (fun _ => ?_)
theorem slices_Index_int_int.mono : ∀ a0 a1 k, LeO (slices_Index_int_int.f k a0 a1) (slices_Index_int_int.f (k + 1) a0 a1) := by
  intro a0 a1 k
  have ih0 := slices_Index_int_int.mono_l k
  unfold slices_Index_int_int.f
  repeat' first
      | (with_reducible exact ih0 _ _ _ _)
      | (with_reducible exact LeO.refl _)
      | (with_reducible exact LeO.none _)
      | (with_reducible refine LeO.ite ?_ ?_)
      | (with_reducible refine LeO.bind ?_ (fun _ => ?_))
      | exact ih0 _ _ _ _
      | exact LeO.none _
      | refine LeO.ite ?_ ?_
      | refine LeO.bind ?_ (fun _ => ?_)
set_option maxHeartbeats 8000000 in
set_option maxRecDepth 100000 in
theorem slices_Index_int_int.calls (k : Nat) (A0 : Option Addr) (c0 : Nat) (l0 : List Int) (a1 : Int) (r : Int) (w : World) (hr0 : Kd.C (Kd.int .i64) w A0 l0.length l0) (hc0 : l0.length ≤ c0) (h : slices_Index_int_int.f k l0 a1 = some r) :
    Calls Try.prog 46 #[.slice A0 l0.length c0, .int .i64 a1] w fun e w' => e = .returned (.int .i64 r) ∧ Drawn0 w w' := by
  have HR0 := Aside0.mk hr0
  have HC0 := Aside0.mk hc0
  clear hr0 hc0
  have H : (slices_Index_int_int.l0 k l0 a1 (l0.length : Int) 0) = some r := h
  clear h
  have H' := Aside0.mk H
  clear H
  go_enter Try.func46, Try.ntmps46
  go_wp2
  go_loopg [8] k (fun kq v8 w' => ∃ (x8_1 : Int), v8 = .int .i64 x8_1 ∧ Aside0 (slices_Index_int_int.l0 kq l0 a1 (l0.length : Int) x8_1 = some r) ∧ Aside0 (kq ≤ k) ∧ Drawn0 w w')
  case atStart => exact ⟨(0), (by first | rfl | (simp; done) | (simp [*]; done)), H', ⟨Nat.le_refl _⟩, by repeat (first | exact Drawn0.refl _ | apply Drawn0.step)⟩
  case round =>
    clear H'
    try clear p2
    obtain ⟨x8_1, rfl, HA, HK1, ⟨m1, rfl⟩⟩ := hrel
    cases gk with
    | zero => exact absurd HA.out (by simp [slices_Index_int_int.l0])
    | succ k1 =>
      have H := HA.out
      clear HA
      simp only [slices_Index_int_int.l0] at H
      by_cases c3 : x8_1 < (l0.length : Int)
      · rw [if_pos c3] at H
        have c3b0 : decide (x8_1 < (l0.length : Int)) = true := decide_eq_true c3
        clear c3
        by_cases c4 : 0 ≤ x8_1
        · rw [if_pos c4] at H
          have c4b0 : decide (0 ≤ x8_1) = true := decide_eq_true c4
          clear c4
          by_cases c5 : x8_1 < (l0.length : Int)
          · rw [if_pos c5] at H
            have c5b0 : decide (x8_1 < (l0.length : Int)) = true := decide_eq_true c5
            clear c5
            by_cases c6 : a1 = (rd l0 x8_1)
            · rw [if_pos c6] at H
              have c6b0 : (a1 == (rd l0 x8_1)) = true := beq_iff_eq.mpr c6
              have c6b1 : (a1 != (rd l0 x8_1)) = false := bne_eq_false_iff_eq.mpr c6
              clear c6
              obtain rfl := Option.some.inj H
              have p159 : 0 ≤ (x8_1 : Int) := of_decide_eq_true (by first | (with_reducible assumption) | assumption)
              have q159 : x8_1 < (l0.length : Int) := of_decide_eq_true (by first | (with_reducible assumption) | assumption)
              obtain ⟨ad159, e159, hx159_0⟩ := Kd.at_int HR0.out x8_1 p159 q159
              cases e159
              replace p159 := eq_true p159
              replace q159 := eq_true q159
              go_wp2
              go_ret
              exact ⟨by first | rfl | (simp; done) | (simp [*]; done), by repeat (first | exact Drawn0.refl _ | apply Drawn0.step)⟩
            · rw [if_neg c6] at H
              have c6b0 : (a1 == (rd l0 x8_1)) = false := beq_eq_false_iff_ne.mpr c6
              have c6b1 : (a1 != (rd l0 x8_1)) = true := bne_iff_ne.mpr c6
              have H' := Aside0.mk H
              clear H
              have p159 : 0 ≤ (x8_1 : Int) := of_decide_eq_true (by first | (with_reducible assumption) | assumption)
              have q159 : x8_1 < (l0.length : Int) := of_decide_eq_true (by first | (with_reducible assumption) | assumption)
              obtain ⟨ad159, e159, hx159_0⟩ := Kd.at_int HR0.out x8_1 p159 q159
              cases e159
              replace p159 := eq_true p159
              replace q159 := eq_true q159
              go_wp2
              go_roundg k1
              case measure => have := HK1.out; omega
              case rel => exact ⟨(wrap64 (x8_1 + 1)), (by first | rfl | (simp; done) | (simp [*]; done)), H', ⟨by have := HK1.out; omega⟩, by repeat (first | exact Drawn0.refl _ | apply Drawn0.step)⟩
          · rw [if_neg c5] at H
            exact absurd H (by simp)
        · rw [if_neg c4] at H
          exact absurd H (by simp)
      · rw [if_neg c3] at H
        have c3b0 : decide (x8_1 < (l0.length : Int)) = false := decide_eq_false c3
        clear c3
        obtain rfl := Option.some.inj H
        go_wp2
        go_ret
        exact ⟨by first | rfl | (simp; done) | (simp [*]; done), by repeat (first | exact Drawn0.refl _ | apply Drawn0.step)⟩

/-! ### slices_Contains_int_int: function 42 -/
def slices_Contains_int_int.f (k : Nat) (l0 : List Int) (a1 : Int) : Option (Bool) := (slices_Index_int_int.f k l0 a1).bind fun t160 => (some (decide (t160 ≥ 0)))
theorem slices_Contains_int_int.mono : ∀ a0 a1 k, LeO (slices_Contains_int_int.f k a0 a1) (slices_Contains_int_int.f (k + 1) a0 a1) := by
  intro a0 a1 k
  unfold slices_Contains_int_int.f
  repeat' first
      | (with_reducible exact slices_Index_int_int.mono _ _ _)
      | (with_reducible exact LeO.refl _)
      | (with_reducible exact LeO.none _)
      | (with_reducible refine LeO.ite ?_ ?_)
      | (with_reducible refine LeO.bind ?_ (fun _ => ?_))
      | exact slices_Index_int_int.mono _ _ _
      | exact LeO.none _
      | refine LeO.ite ?_ ?_
      | refine LeO.bind ?_ (fun _ => ?_)
set_option maxHeartbeats 8000000 in
set_option maxRecDepth 100000 in
theorem slices_Contains_int_int.calls (k : Nat) (A0 : Option Addr) (c0 : Nat) (l0 : List Int) (a1 : Int) (r : Bool) (w : World) (hr0 : Kd.C (Kd.int .i64) w A0 l0.length l0) (hc0 : l0.length ≤ c0) (h : slices_Contains_int_int.f k l0 a1 = some r) :
    Calls Try.prog 42 #[.slice A0 l0.length c0, .int .i64 a1] w fun e w' => e = .returned (.bool r) ∧ Drawn0 w w' := by
  have HR0 := Aside0.mk hr0
  have HC0 := Aside0.mk hc0
  clear hr0 hc0
  have H : ((slices_Index_int_int.f k l0 a1).bind fun t160 => (some (decide (t160 ≥ 0)))) = some r := h
  clear h
  replace H := Option.bind_eq_some_iff.mp H
  obtain ⟨t160, A30, H⟩ := H
  replace H : (some (decide (t160 ≥ 0))) = some r := H
  have A3 := Aside0.mk A30
  clear A30
  obtain rfl := Option.some.inj H
  go_enter Try.func42, Try.ntmps42
  go_wp2_with (first | ((with_reducible refine gate_callee (f := 46) rfl ?_); refine goesL_ (some 7) rfl rfl Try.func46 (by kernel_rfl) rfl #[.slice A0 l0.length c0, .int .i64 a1] rfl (by (try simp only [List.map_toArray, List.map_cons, List.map_nil]); first | done | rfl | (simp only [List.length_drop, List.length_take]; rfl)) ?_; (with_reducible refine (slices_Index_int_int.calls k _ _ l0 a1 t160 _ ?side1 ?side2 A3.out).mono ?_); (case side1 => repeat (first | exact HR0.out | (with_reducible refine Kd.C_alloc ?_ _) | (with_reducible refine Kd.C_drewN ?_ _) | (with_reducible refine Kd.C_drew ?_))); (case side2 => exact HC0.out); rintro e w' ⟨rfl, ⟨nd, rfl⟩⟩; refine ⟨_, rfl, ?_⟩))
  go_ret
  exact ⟨by first | rfl | (simp; done) | (simp [*]; done), by repeat (first | exact Drawn0.refl _ | apply Drawn0.step)⟩

/-! ### impl_manners: function 47 -/
def impl_manners.f  : Option ((List (S50))) := (some (([1, 2] : List Int) : List Int)).bind fun y161 => ((some (([2, 3] : List Int) : List Int)).bind fun y164 => ((some (([3] : List Int) : List Int)).bind fun y167 => ((some (([4] : List Int) : List Int)).bind fun y170 => (some (([(⟨(⟨#[]⟩ : ByteArray), ([] : List Int), (⟨#[]⟩ : ByteArray)⟩ : S50), (⟨(⟨#[100, 114, 97, 102, 116]⟩ : ByteArray), y170, (⟨#[]⟩ : ByteArray)⟩ : S50), (⟨(⟨#[114, 97, 105, 115, 101]⟩ : ByteArray), y170, (⟨#[78]⟩ : ByteArray)⟩ : S50), (⟨(⟨#[116, 97, 107, 101]⟩ : ByteArray), y161, (⟨#[78]⟩ : ByteArray)⟩ : S50), (⟨(⟨#[112, 117, 116]⟩ : ByteArray), y161, (⟨#[66, 84, 86]⟩ : ByteArray)⟩ : S50), (⟨(⟨#[99, 97, 117, 115, 101]⟩ : ByteArray), y164, (⟨#[66, 84, 78]⟩ : ByteArray)⟩ : S50), (⟨(⟨#[109, 111, 114, 101]⟩ : ByteArray), y161, (⟨#[66, 84, 86]⟩ : ByteArray)⟩ : S50), (⟨(⟨#[111, 112, 101, 110]⟩ : ByteArray), y161, (⟨#[66]⟩ : ByteArray)⟩ : S50), (⟨(⟨#[99, 108, 111, 115, 101]⟩ : ByteArray), y164, (⟨#[66, 78]⟩ : ByteArray)⟩ : S50), (⟨(⟨#[115, 105, 103, 110]⟩ : ByteArray), y164, (⟨#[66]⟩ : ByteArray)⟩ : S50), (⟨(⟨#[102, 114, 101, 101]⟩ : ByteArray), y167, (⟨#[66]⟩ : ByteArray)⟩ : S50), (⟨(⟨#[114, 101, 102, 117, 115, 101]⟩ : ByteArray), y167, (⟨#[66]⟩ : ByteArray)⟩ : S50), (⟨(⟨#[114, 101, 99, 97, 108, 108]⟩ : ByteArray), y167, (⟨#[66]⟩ : ByteArray)⟩ : S50)] : List (S50)))))))
set_option maxHeartbeats 8000000 in
set_option maxRecDepth 100000 in
theorem impl_manners.calls  (r : List (S50)) (w : World) (h : impl_manners.f  = some r) :
    Calls Try.prog 47 #[] w fun e w' => ∃ v0_ : Value, e = .returned (v0_) ∧ Kd.N k50 50 w' w.heap.size (fun k_ => (w.heap.size ≤ k_)) v0_ r ∧ Below w.heap.size w w' := by
  have hu50 := Try.underlying50
  have HB := Aside0.mk (Below.refl w.heap.size w)
  have H : ((some (([1, 2] : List Int) : List Int)).bind fun y161 => ((some (([2, 3] : List Int) : List Int)).bind fun y164 => ((some (([3] : List Int) : List Int)).bind fun y167 => ((some (([4] : List Int) : List Int)).bind fun y170 => (some (([(⟨(⟨#[]⟩ : ByteArray), ([] : List Int), (⟨#[]⟩ : ByteArray)⟩ : S50), (⟨(⟨#[100, 114, 97, 102, 116]⟩ : ByteArray), y170, (⟨#[]⟩ : ByteArray)⟩ : S50), (⟨(⟨#[114, 97, 105, 115, 101]⟩ : ByteArray), y170, (⟨#[78]⟩ : ByteArray)⟩ : S50), (⟨(⟨#[116, 97, 107, 101]⟩ : ByteArray), y161, (⟨#[78]⟩ : ByteArray)⟩ : S50), (⟨(⟨#[112, 117, 116]⟩ : ByteArray), y161, (⟨#[66, 84, 86]⟩ : ByteArray)⟩ : S50), (⟨(⟨#[99, 97, 117, 115, 101]⟩ : ByteArray), y164, (⟨#[66, 84, 78]⟩ : ByteArray)⟩ : S50), (⟨(⟨#[109, 111, 114, 101]⟩ : ByteArray), y161, (⟨#[66, 84, 86]⟩ : ByteArray)⟩ : S50), (⟨(⟨#[111, 112, 101, 110]⟩ : ByteArray), y161, (⟨#[66]⟩ : ByteArray)⟩ : S50), (⟨(⟨#[99, 108, 111, 115, 101]⟩ : ByteArray), y164, (⟨#[66, 78]⟩ : ByteArray)⟩ : S50), (⟨(⟨#[115, 105, 103, 110]⟩ : ByteArray), y164, (⟨#[66]⟩ : ByteArray)⟩ : S50), (⟨(⟨#[102, 114, 101, 101]⟩ : ByteArray), y167, (⟨#[66]⟩ : ByteArray)⟩ : S50), (⟨(⟨#[114, 101, 102, 117, 115, 101]⟩ : ByteArray), y167, (⟨#[66]⟩ : ByteArray)⟩ : S50), (⟨(⟨#[114, 101, 99, 97, 108, 108]⟩ : ByteArray), y167, (⟨#[66]⟩ : ByteArray)⟩ : S50)] : List (S50)))))))) = some r := h
  clear h
  obtain ⟨y161, hy161⟩ : ∃ y_ : List Int, y_ = (([1, 2] : List Int)) := ⟨_, rfl⟩
  replace H : ((some (([2, 3] : List Int) : List Int)).bind fun y164 => ((some (([3] : List Int) : List Int)).bind fun y167 => ((some (([4] : List Int) : List Int)).bind fun y170 => (some (([(⟨(⟨#[]⟩ : ByteArray), ([] : List Int), (⟨#[]⟩ : ByteArray)⟩ : S50), (⟨(⟨#[100, 114, 97, 102, 116]⟩ : ByteArray), y170, (⟨#[]⟩ : ByteArray)⟩ : S50), (⟨(⟨#[114, 97, 105, 115, 101]⟩ : ByteArray), y170, (⟨#[78]⟩ : ByteArray)⟩ : S50), (⟨(⟨#[116, 97, 107, 101]⟩ : ByteArray), y161, (⟨#[78]⟩ : ByteArray)⟩ : S50), (⟨(⟨#[112, 117, 116]⟩ : ByteArray), y161, (⟨#[66, 84, 86]⟩ : ByteArray)⟩ : S50), (⟨(⟨#[99, 97, 117, 115, 101]⟩ : ByteArray), y164, (⟨#[66, 84, 78]⟩ : ByteArray)⟩ : S50), (⟨(⟨#[109, 111, 114, 101]⟩ : ByteArray), y161, (⟨#[66, 84, 86]⟩ : ByteArray)⟩ : S50), (⟨(⟨#[111, 112, 101, 110]⟩ : ByteArray), y161, (⟨#[66]⟩ : ByteArray)⟩ : S50), (⟨(⟨#[99, 108, 111, 115, 101]⟩ : ByteArray), y164, (⟨#[66, 78]⟩ : ByteArray)⟩ : S50), (⟨(⟨#[115, 105, 103, 110]⟩ : ByteArray), y164, (⟨#[66]⟩ : ByteArray)⟩ : S50), (⟨(⟨#[102, 114, 101, 101]⟩ : ByteArray), y167, (⟨#[66]⟩ : ByteArray)⟩ : S50), (⟨(⟨#[114, 101, 102, 117, 115, 101]⟩ : ByteArray), y167, (⟨#[66]⟩ : ByteArray)⟩ : S50), (⟨(⟨#[114, 101, 99, 97, 108, 108]⟩ : ByteArray), y167, (⟨#[66]⟩ : ByteArray)⟩ : S50)] : List (S50))))))) = some r := by first | (rw [hy161]; with_reducible exact H) | (have H2_ := (Option.bind_some _ _).symm.trans H; rw [hy161]; with_reducible exact H2_) | (have H2_ := (Option.bind_some _ _).symm.trans H; with_reducible exact H2_) | with_reducible exact H | (rw [hy161]; exact H) | exact H
  have Ny161 := Aside0.mk hy161
  clear hy161
  obtain ⟨y164, hy164⟩ : ∃ y_ : List Int, y_ = (([2, 3] : List Int)) := ⟨_, rfl⟩
  replace H : ((some (([3] : List Int) : List Int)).bind fun y167 => ((some (([4] : List Int) : List Int)).bind fun y170 => (some (([(⟨(⟨#[]⟩ : ByteArray), ([] : List Int), (⟨#[]⟩ : ByteArray)⟩ : S50), (⟨(⟨#[100, 114, 97, 102, 116]⟩ : ByteArray), y170, (⟨#[]⟩ : ByteArray)⟩ : S50), (⟨(⟨#[114, 97, 105, 115, 101]⟩ : ByteArray), y170, (⟨#[78]⟩ : ByteArray)⟩ : S50), (⟨(⟨#[116, 97, 107, 101]⟩ : ByteArray), y161, (⟨#[78]⟩ : ByteArray)⟩ : S50), (⟨(⟨#[112, 117, 116]⟩ : ByteArray), y161, (⟨#[66, 84, 86]⟩ : ByteArray)⟩ : S50), (⟨(⟨#[99, 97, 117, 115, 101]⟩ : ByteArray), y164, (⟨#[66, 84, 78]⟩ : ByteArray)⟩ : S50), (⟨(⟨#[109, 111, 114, 101]⟩ : ByteArray), y161, (⟨#[66, 84, 86]⟩ : ByteArray)⟩ : S50), (⟨(⟨#[111, 112, 101, 110]⟩ : ByteArray), y161, (⟨#[66]⟩ : ByteArray)⟩ : S50), (⟨(⟨#[99, 108, 111, 115, 101]⟩ : ByteArray), y164, (⟨#[66, 78]⟩ : ByteArray)⟩ : S50), (⟨(⟨#[115, 105, 103, 110]⟩ : ByteArray), y164, (⟨#[66]⟩ : ByteArray)⟩ : S50), (⟨(⟨#[102, 114, 101, 101]⟩ : ByteArray), y167, (⟨#[66]⟩ : ByteArray)⟩ : S50), (⟨(⟨#[114, 101, 102, 117, 115, 101]⟩ : ByteArray), y167, (⟨#[66]⟩ : ByteArray)⟩ : S50), (⟨(⟨#[114, 101, 99, 97, 108, 108]⟩ : ByteArray), y167, (⟨#[66]⟩ : ByteArray)⟩ : S50)] : List (S50)))))) = some r := by first | (rw [hy164]; with_reducible exact H) | (have H2_ := (Option.bind_some _ _).symm.trans H; rw [hy164]; with_reducible exact H2_) | (have H2_ := (Option.bind_some _ _).symm.trans H; with_reducible exact H2_) | with_reducible exact H | (rw [hy164]; exact H) | exact H
  have Ny164 := Aside0.mk hy164
  clear hy164
  obtain ⟨y167, hy167⟩ : ∃ y_ : List Int, y_ = (([3] : List Int)) := ⟨_, rfl⟩
  replace H : ((some (([4] : List Int) : List Int)).bind fun y170 => (some (([(⟨(⟨#[]⟩ : ByteArray), ([] : List Int), (⟨#[]⟩ : ByteArray)⟩ : S50), (⟨(⟨#[100, 114, 97, 102, 116]⟩ : ByteArray), y170, (⟨#[]⟩ : ByteArray)⟩ : S50), (⟨(⟨#[114, 97, 105, 115, 101]⟩ : ByteArray), y170, (⟨#[78]⟩ : ByteArray)⟩ : S50), (⟨(⟨#[116, 97, 107, 101]⟩ : ByteArray), y161, (⟨#[78]⟩ : ByteArray)⟩ : S50), (⟨(⟨#[112, 117, 116]⟩ : ByteArray), y161, (⟨#[66, 84, 86]⟩ : ByteArray)⟩ : S50), (⟨(⟨#[99, 97, 117, 115, 101]⟩ : ByteArray), y164, (⟨#[66, 84, 78]⟩ : ByteArray)⟩ : S50), (⟨(⟨#[109, 111, 114, 101]⟩ : ByteArray), y161, (⟨#[66, 84, 86]⟩ : ByteArray)⟩ : S50), (⟨(⟨#[111, 112, 101, 110]⟩ : ByteArray), y161, (⟨#[66]⟩ : ByteArray)⟩ : S50), (⟨(⟨#[99, 108, 111, 115, 101]⟩ : ByteArray), y164, (⟨#[66, 78]⟩ : ByteArray)⟩ : S50), (⟨(⟨#[115, 105, 103, 110]⟩ : ByteArray), y164, (⟨#[66]⟩ : ByteArray)⟩ : S50), (⟨(⟨#[102, 114, 101, 101]⟩ : ByteArray), y167, (⟨#[66]⟩ : ByteArray)⟩ : S50), (⟨(⟨#[114, 101, 102, 117, 115, 101]⟩ : ByteArray), y167, (⟨#[66]⟩ : ByteArray)⟩ : S50), (⟨(⟨#[114, 101, 99, 97, 108, 108]⟩ : ByteArray), y167, (⟨#[66]⟩ : ByteArray)⟩ : S50)] : List (S50))))) = some r := by first | (rw [hy167]; with_reducible exact H) | (have H2_ := (Option.bind_some _ _).symm.trans H; rw [hy167]; with_reducible exact H2_) | (have H2_ := (Option.bind_some _ _).symm.trans H; with_reducible exact H2_) | with_reducible exact H | (rw [hy167]; exact H) | exact H
  have Ny167 := Aside0.mk hy167
  clear hy167
  obtain ⟨y170, hy170⟩ : ∃ y_ : List Int, y_ = (([4] : List Int)) := ⟨_, rfl⟩
  replace H : (some (([(⟨(⟨#[]⟩ : ByteArray), ([] : List Int), (⟨#[]⟩ : ByteArray)⟩ : S50), (⟨(⟨#[100, 114, 97, 102, 116]⟩ : ByteArray), y170, (⟨#[]⟩ : ByteArray)⟩ : S50), (⟨(⟨#[114, 97, 105, 115, 101]⟩ : ByteArray), y170, (⟨#[78]⟩ : ByteArray)⟩ : S50), (⟨(⟨#[116, 97, 107, 101]⟩ : ByteArray), y161, (⟨#[78]⟩ : ByteArray)⟩ : S50), (⟨(⟨#[112, 117, 116]⟩ : ByteArray), y161, (⟨#[66, 84, 86]⟩ : ByteArray)⟩ : S50), (⟨(⟨#[99, 97, 117, 115, 101]⟩ : ByteArray), y164, (⟨#[66, 84, 78]⟩ : ByteArray)⟩ : S50), (⟨(⟨#[109, 111, 114, 101]⟩ : ByteArray), y161, (⟨#[66, 84, 86]⟩ : ByteArray)⟩ : S50), (⟨(⟨#[111, 112, 101, 110]⟩ : ByteArray), y161, (⟨#[66]⟩ : ByteArray)⟩ : S50), (⟨(⟨#[99, 108, 111, 115, 101]⟩ : ByteArray), y164, (⟨#[66, 78]⟩ : ByteArray)⟩ : S50), (⟨(⟨#[115, 105, 103, 110]⟩ : ByteArray), y164, (⟨#[66]⟩ : ByteArray)⟩ : S50), (⟨(⟨#[102, 114, 101, 101]⟩ : ByteArray), y167, (⟨#[66]⟩ : ByteArray)⟩ : S50), (⟨(⟨#[114, 101, 102, 117, 115, 101]⟩ : ByteArray), y167, (⟨#[66]⟩ : ByteArray)⟩ : S50), (⟨(⟨#[114, 101, 99, 97, 108, 108]⟩ : ByteArray), y167, (⟨#[66]⟩ : ByteArray)⟩ : S50)] : List (S50)))) = some r := by first | (rw [hy170]; with_reducible exact H) | (have H2_ := (Option.bind_some _ _).symm.trans H; rw [hy170]; with_reducible exact H2_) | (have H2_ := (Option.bind_some _ _).symm.trans H; with_reducible exact H2_) | with_reducible exact H | (rw [hy170]; exact H) | exact H
  have Ny170 := Aside0.mk hy170
  clear hy170
  obtain ⟨y173, hy173⟩ : ∃ y_ : List (S50), y_ = (([(⟨(⟨#[]⟩ : ByteArray), ([] : List Int), (⟨#[]⟩ : ByteArray)⟩ : S50), (⟨(⟨#[100, 114, 97, 102, 116]⟩ : ByteArray), y170, (⟨#[]⟩ : ByteArray)⟩ : S50), (⟨(⟨#[114, 97, 105, 115, 101]⟩ : ByteArray), y170, (⟨#[78]⟩ : ByteArray)⟩ : S50), (⟨(⟨#[116, 97, 107, 101]⟩ : ByteArray), y161, (⟨#[78]⟩ : ByteArray)⟩ : S50), (⟨(⟨#[112, 117, 116]⟩ : ByteArray), y161, (⟨#[66, 84, 86]⟩ : ByteArray)⟩ : S50), (⟨(⟨#[99, 97, 117, 115, 101]⟩ : ByteArray), y164, (⟨#[66, 84, 78]⟩ : ByteArray)⟩ : S50), (⟨(⟨#[109, 111, 114, 101]⟩ : ByteArray), y161, (⟨#[66, 84, 86]⟩ : ByteArray)⟩ : S50), (⟨(⟨#[111, 112, 101, 110]⟩ : ByteArray), y161, (⟨#[66]⟩ : ByteArray)⟩ : S50), (⟨(⟨#[99, 108, 111, 115, 101]⟩ : ByteArray), y164, (⟨#[66, 78]⟩ : ByteArray)⟩ : S50), (⟨(⟨#[115, 105, 103, 110]⟩ : ByteArray), y164, (⟨#[66]⟩ : ByteArray)⟩ : S50), (⟨(⟨#[102, 114, 101, 101]⟩ : ByteArray), y167, (⟨#[66]⟩ : ByteArray)⟩ : S50), (⟨(⟨#[114, 101, 102, 117, 115, 101]⟩ : ByteArray), y167, (⟨#[66]⟩ : ByteArray)⟩ : S50), (⟨(⟨#[114, 101, 99, 97, 108, 108]⟩ : ByteArray), y167, (⟨#[66]⟩ : ByteArray)⟩ : S50)] : List (S50))) := ⟨_, rfl⟩
  replace H : (some y173) = some r := by first | (rw [hy173]; with_reducible exact H) | (have H2_ := (Option.bind_some _ _).symm.trans H; rw [hy173]; with_reducible exact H2_) | (have H2_ := (Option.bind_some _ _).symm.trans H; with_reducible exact H2_) | with_reducible exact H | (rw [hy173]; exact H) | exact H
  have Ny173 := Aside0.mk hy173
  clear hy173
  obtain rfl := Option.some.inj H
  go_enter Try.func47, Try.ntmps47
  go_wp2_with (first | ((with_reducible refine gate_dst (N := 5) rfl ?_); refine Kd.R_lit (Kd.int .i64) _ 3 ?hg (N := 5) ?hd (xs := ([1, 2] : List Int)) (inner := [.int .i64 1, .int .i64 2]) (ok := fun _ => True) (okp := fun _ => True) ?hr ?hp (fun _ hk => hk) trivial (Below.refl _ _) (Nat.le_refl _) (by simp) ?_; (case hd => rfl); (case hg => rfl); (case hr => first | (go_simp; done) | (go_simp; rfl)); (case hp => exact (Reps.one (show Kd.M (Kd.int .i64) _ _ _ 1 [.int .i64 1] from rfl) (Reps.one (show Kd.M (Kd.int .i64) _ _ _ 2 [.int .i64 2] from rfl) (Reps.none _ _)))); intro v162 w1 ho2 hb hg_ hnew_; clear hg_ hnew_; (first | rw [← Ny161.out] at ho2 | (simp only [Int.reduceToNat] at ho2; rw [← Ny161.out] at ho2)); have n0_ := Aside0.mk (Kd.R_lower (Kd.R_newM (M := fun k_ => (w.heap.size ≤ k_)) ho2 (below_size (by repeat (first | (with_reducible first | exact HB.out | apply below_alloc | apply pw_below_drewN | apply below_drew1) | exact HB.out))) (fun k_ h_ => h_)) (below_size (by repeat (first | (with_reducible first | exact HB.out | apply below_alloc | apply pw_below_drewN | apply below_drew1) | exact HB.out)))); have n1_ := Aside0.mk (below_step (by repeat (first | (with_reducible first | exact HB.out | apply below_alloc | apply pw_below_drewN | apply below_drew1) | exact HB.out)) hb); clear HB; have HO163 := n0_; have HB := n1_; clear n0_ n1_; clear hb ho2) | ((with_reducible refine gate_dst (N := 6) rfl ?_); refine Kd.R_lit (Kd.int .i64) _ 3 ?hg (N := 6) ?hd (xs := ([2, 3] : List Int)) (inner := [.int .i64 2, .int .i64 3]) (ok := fun _ => True) (okp := fun _ => True) ?hr ?hp (fun _ hk => hk) trivial (Below.refl _ _) (Nat.le_refl _) (by simp) ?_; (case hd => rfl); (case hg => rfl); (case hr => first | (go_simp; done) | (go_simp; rfl)); (case hp => exact (Reps.one (show Kd.M (Kd.int .i64) _ _ _ 2 [.int .i64 2] from rfl) (Reps.one (show Kd.M (Kd.int .i64) _ _ _ 3 [.int .i64 3] from rfl) (Reps.none _ _)))); intro v165 w3 ho4 hb hg_ hnew_; clear hg_ hnew_; (first | rw [← Ny164.out] at ho4 | (simp only [Int.reduceToNat] at ho4; rw [← Ny164.out] at ho4)); have n0_ := Aside0.mk (Kd.R_elder' (by (with_reducible repeat (first | apply Kd.R_alloc | apply Kd.R_drewN | apply Kd.R_drew)); exact HO163.out) (Kd.R_base ho4) hb); have n1_ := Aside0.mk (Kd.R_lower (Kd.R_new' (Kd.R_newM (M := fun k_ => (w.heap.size ≤ k_)) ho4 (below_size (by repeat (first | (with_reducible first | exact HB.out | apply below_alloc | apply pw_below_drewN | apply below_drew1) | exact HB.out))) (fun k_ h_ => h_)) (Kd.R_lt (by (with_reducible repeat (first | apply Kd.R_alloc | apply Kd.R_drewN | apply Kd.R_drew)); exact HO163.out))) (below_size (by repeat (first | (with_reducible first | exact HB.out | apply below_alloc | apply pw_below_drewN | apply below_drew1) | exact HB.out)))); have n2_ := Aside0.mk (below_step (by repeat (first | (with_reducible first | exact HB.out | apply below_alloc | apply pw_below_drewN | apply below_drew1) | exact HB.out)) hb); clear HO163; clear HB; have HO163 := n0_; have HO166 := n1_; have HB := n2_; clear n0_ n1_ n2_; clear hb ho4) | ((with_reducible refine gate_dst (N := 7) rfl ?_); refine Kd.R_lit (Kd.int .i64) _ 3 ?hg (N := 7) ?hd (xs := ([3] : List Int)) (inner := [.int .i64 3]) (ok := fun _ => True) (okp := fun _ => True) ?hr ?hp (fun _ hk => hk) trivial (Below.refl _ _) (Nat.le_refl _) (by simp) ?_; (case hd => rfl); (case hg => rfl); (case hr => first | (go_simp; done) | (go_simp; rfl)); (case hp => exact (Reps.one (show Kd.M (Kd.int .i64) _ _ _ 3 [.int .i64 3] from rfl) (Reps.none _ _))); intro v168 w5 ho6 hb hg_ hnew_; clear hg_ hnew_; (first | rw [← Ny167.out] at ho6 | (simp only [Int.reduceToNat] at ho6; rw [← Ny167.out] at ho6)); have n0_ := Aside0.mk (Kd.R_elder' (by (with_reducible repeat (first | apply Kd.R_alloc | apply Kd.R_drewN | apply Kd.R_drew)); exact HO163.out) (Kd.R_base ho6) hb); have n1_ := Aside0.mk (Kd.R_elder' (by (with_reducible repeat (first | apply Kd.R_alloc | apply Kd.R_drewN | apply Kd.R_drew)); exact HO166.out) (Kd.R_base ho6) hb); have n2_ := Aside0.mk (Kd.R_lower (Kd.R_new' (Kd.R_new' (Kd.R_newM (M := fun k_ => (w.heap.size ≤ k_)) ho6 (below_size (by repeat (first | (with_reducible first | exact HB.out | apply below_alloc | apply pw_below_drewN | apply below_drew1) | exact HB.out))) (fun k_ h_ => h_)) (Kd.R_lt (by (with_reducible repeat (first | apply Kd.R_alloc | apply Kd.R_drewN | apply Kd.R_drew)); exact HO163.out))) (Kd.R_lt (by (with_reducible repeat (first | apply Kd.R_alloc | apply Kd.R_drewN | apply Kd.R_drew)); exact HO166.out))) (below_size (by repeat (first | (with_reducible first | exact HB.out | apply below_alloc | apply pw_below_drewN | apply below_drew1) | exact HB.out)))); have n3_ := Aside0.mk (below_step (by repeat (first | (with_reducible first | exact HB.out | apply below_alloc | apply pw_below_drewN | apply below_drew1) | exact HB.out)) hb); clear HO163; clear HO166; clear HB; have HO163 := n0_; have HO166 := n1_; have HO169 := n2_; have HB := n3_; clear n0_ n1_ n2_ n3_; clear hb ho6) | ((with_reducible refine gate_dst (N := 8) rfl ?_); refine Kd.R_lit (Kd.int .i64) _ 3 ?hg (N := 8) ?hd (xs := ([4] : List Int)) (inner := [.int .i64 4]) (ok := fun _ => True) (okp := fun _ => True) ?hr ?hp (fun _ hk => hk) trivial (Below.refl _ _) (Nat.le_refl _) (by simp) ?_; (case hd => rfl); (case hg => rfl); (case hr => first | (go_simp; done) | (go_simp; rfl)); (case hp => exact (Reps.one (show Kd.M (Kd.int .i64) _ _ _ 4 [.int .i64 4] from rfl) (Reps.none _ _))); intro v171 w7 ho8 hb hg_ hnew_; clear hg_ hnew_; (first | rw [← Ny170.out] at ho8 | (simp only [Int.reduceToNat] at ho8; rw [← Ny170.out] at ho8)); have n0_ := Aside0.mk (Kd.R_elder' (by (with_reducible repeat (first | apply Kd.R_alloc | apply Kd.R_drewN | apply Kd.R_drew)); exact HO163.out) (Kd.R_base ho8) hb); have n1_ := Aside0.mk (Kd.R_elder' (by (with_reducible repeat (first | apply Kd.R_alloc | apply Kd.R_drewN | apply Kd.R_drew)); exact HO166.out) (Kd.R_base ho8) hb); have n2_ := Aside0.mk (Kd.R_elder' (by (with_reducible repeat (first | apply Kd.R_alloc | apply Kd.R_drewN | apply Kd.R_drew)); exact HO169.out) (Kd.R_base ho8) hb); have n3_ := Aside0.mk (Kd.R_lower (Kd.R_new' (Kd.R_new' (Kd.R_new' (Kd.R_newM (M := fun k_ => (w.heap.size ≤ k_)) ho8 (below_size (by repeat (first | (with_reducible first | exact HB.out | apply below_alloc | apply pw_below_drewN | apply below_drew1) | exact HB.out))) (fun k_ h_ => h_)) (Kd.R_lt (by (with_reducible repeat (first | apply Kd.R_alloc | apply Kd.R_drewN | apply Kd.R_drew)); exact HO163.out))) (Kd.R_lt (by (with_reducible repeat (first | apply Kd.R_alloc | apply Kd.R_drewN | apply Kd.R_drew)); exact HO166.out))) (Kd.R_lt (by (with_reducible repeat (first | apply Kd.R_alloc | apply Kd.R_drewN | apply Kd.R_drew)); exact HO169.out))) (below_size (by repeat (first | (with_reducible first | exact HB.out | apply below_alloc | apply pw_below_drewN | apply below_drew1) | exact HB.out)))); have n4_ := Aside0.mk (below_step (by repeat (first | (with_reducible first | exact HB.out | apply below_alloc | apply pw_below_drewN | apply below_drew1) | exact HB.out)) hb); clear HO163; clear HO166; clear HO169; clear HB; have HO163 := n0_; have HO166 := n1_; have HO169 := n2_; have HO172 := n3_; have HB := n4_; clear n0_ n1_ n2_ n3_ n4_; clear hb ho8; obtain ⟨Ao9, co9, eo9⟩ := Kd.R_slice HO172.out; subst eo9; obtain ⟨Ao10, co10, eo10⟩ := Kd.R_slice HO163.out; subst eo10; obtain ⟨Ao11, co11, eo11⟩ := Kd.R_slice HO166.out; subst eo11; obtain ⟨Ao12, co12, eo12⟩ := Kd.R_slice HO169.out; subst eo12) | ((with_reducible refine gate_dst (N := 34) rfl ?_); refine Kd.N_lit k50 _ 50 ?hg (N' := 34) ?hd (xs := ([(⟨(⟨#[]⟩ : ByteArray), ([] : List Int), (⟨#[]⟩ : ByteArray)⟩ : S50), (⟨(⟨#[100, 114, 97, 102, 116]⟩ : ByteArray), y170, (⟨#[]⟩ : ByteArray)⟩ : S50), (⟨(⟨#[114, 97, 105, 115, 101]⟩ : ByteArray), y170, (⟨#[78]⟩ : ByteArray)⟩ : S50), (⟨(⟨#[116, 97, 107, 101]⟩ : ByteArray), y161, (⟨#[78]⟩ : ByteArray)⟩ : S50), (⟨(⟨#[112, 117, 116]⟩ : ByteArray), y161, (⟨#[66, 84, 86]⟩ : ByteArray)⟩ : S50), (⟨(⟨#[99, 97, 117, 115, 101]⟩ : ByteArray), y164, (⟨#[66, 84, 78]⟩ : ByteArray)⟩ : S50), (⟨(⟨#[109, 111, 114, 101]⟩ : ByteArray), y161, (⟨#[66, 84, 86]⟩ : ByteArray)⟩ : S50), (⟨(⟨#[111, 112, 101, 110]⟩ : ByteArray), y161, (⟨#[66]⟩ : ByteArray)⟩ : S50), (⟨(⟨#[99, 108, 111, 115, 101]⟩ : ByteArray), y164, (⟨#[66, 78]⟩ : ByteArray)⟩ : S50), (⟨(⟨#[115, 105, 103, 110]⟩ : ByteArray), y164, (⟨#[66]⟩ : ByteArray)⟩ : S50), (⟨(⟨#[102, 114, 101, 101]⟩ : ByteArray), y167, (⟨#[66]⟩ : ByteArray)⟩ : S50), (⟨(⟨#[114, 101, 102, 117, 115, 101]⟩ : ByteArray), y167, (⟨#[66]⟩ : ByteArray)⟩ : S50), (⟨(⟨#[114, 101, 99, 97, 108, 108]⟩ : ByteArray), y167, (⟨#[66]⟩ : ByteArray)⟩ : S50)] : List (S50))) (inner := [.string (⟨#[]⟩ : ByteArray), .slice none 0 0, .string (⟨#[]⟩ : ByteArray), .string (⟨#[100, 114, 97, 102, 116]⟩ : ByteArray), .slice Ao9 y170.length co9, .string (⟨#[]⟩ : ByteArray), .string (⟨#[114, 97, 105, 115, 101]⟩ : ByteArray), .slice Ao9 y170.length co9, .string (⟨#[78]⟩ : ByteArray), .string (⟨#[116, 97, 107, 101]⟩ : ByteArray), .slice Ao10 y161.length co10, .string (⟨#[78]⟩ : ByteArray), .string (⟨#[112, 117, 116]⟩ : ByteArray), .slice Ao10 y161.length co10, .string (⟨#[66, 84, 86]⟩ : ByteArray), .string (⟨#[99, 97, 117, 115, 101]⟩ : ByteArray), .slice Ao11 y164.length co11, .string (⟨#[66, 84, 78]⟩ : ByteArray), .string (⟨#[109, 111, 114, 101]⟩ : ByteArray), .slice Ao10 y161.length co10, .string (⟨#[66, 84, 86]⟩ : ByteArray), .string (⟨#[111, 112, 101, 110]⟩ : ByteArray), .slice Ao10 y161.length co10, .string (⟨#[66]⟩ : ByteArray), .string (⟨#[99, 108, 111, 115, 101]⟩ : ByteArray), .slice Ao11 y164.length co11, .string (⟨#[66, 78]⟩ : ByteArray), .string (⟨#[115, 105, 103, 110]⟩ : ByteArray), .slice Ao11 y164.length co11, .string (⟨#[66]⟩ : ByteArray), .string (⟨#[102, 114, 101, 101]⟩ : ByteArray), .slice Ao12 y167.length co12, .string (⟨#[66]⟩ : ByteArray), .string (⟨#[114, 101, 102, 117, 115, 101]⟩ : ByteArray), .slice Ao12 y167.length co12, .string (⟨#[66]⟩ : ByteArray), .string (⟨#[114, 101, 99, 97, 108, 108]⟩ : ByteArray), .slice Ao12 y167.length co12, .string (⟨#[66]⟩ : ByteArray)]) (ok := (fun k_ => (w.heap.size ≤ k_))) (okp := (fun k_ => (w.heap.size ≤ k_))) ?hr ?hp (fun _ hk => hk) ((show ∀ k_, w7.heap.size ≤ k_ → (fun k_ => (w.heap.size ≤ k_)) k_ from fun k_ hk => (Nat.le_trans (below_size (by repeat (first | (with_reducible first | exact HB.out | apply below_alloc | apply pw_below_drewN | apply below_drew1) | exact HB.out))) hk)) _ (Nat.le_refl _)) (Below.refl _ _) (Nat.le_refl _) (by simp) ?_; (case hd => rfl); (case hg => rfl); (case hr => first | (go_simp; done) | (go_simp; rfl)); (case hp => exact (Reps.c3 (show Kd.FK k50 _ _ (⟨(⟨#[]⟩ : ByteArray), ([] : List Int), (⟨#[]⟩ : ByteArray)⟩ : S50) [.string (⟨#[]⟩ : ByteArray), .slice none 0 0, .string (⟨#[]⟩ : ByteArray)] from (k50_mkF _ _ (⟨(⟨#[]⟩ : ByteArray), ([] : List Int), (⟨#[]⟩ : ByteArray)⟩ : S50) (Nat.le_refl _) (Kd.F_nil _ _ _))) (Reps.c3 (show Kd.FK k50 _ _ (⟨(⟨#[100, 114, 97, 102, 116]⟩ : ByteArray), y170, (⟨#[]⟩ : ByteArray)⟩ : S50) [.string (⟨#[100, 114, 97, 102, 116]⟩ : ByteArray), .slice Ao9 y170.length co9, .string (⟨#[]⟩ : ByteArray)] from (k50_mkF _ _ (⟨(⟨#[100, 114, 97, 102, 116]⟩ : ByteArray), y170, (⟨#[]⟩ : ByteArray)⟩ : S50) (Kd.R_reads' (Kd.R_mono (ok' := (fun k_ => (w.heap.size ≤ k_))) (HO172.out) (fun k_ hk => hk.1.1.1.1))).2.1 (Kd.R_F (Kd.R_mono (ok' := (fun k_ => (w.heap.size ≤ k_))) (HO172.out) (fun k_ hk => hk.1.1.1.1))))) (Reps.c3 (show Kd.FK k50 _ _ (⟨(⟨#[114, 97, 105, 115, 101]⟩ : ByteArray), y170, (⟨#[78]⟩ : ByteArray)⟩ : S50) [.string (⟨#[114, 97, 105, 115, 101]⟩ : ByteArray), .slice Ao9 y170.length co9, .string (⟨#[78]⟩ : ByteArray)] from (k50_mkF _ _ (⟨(⟨#[114, 97, 105, 115, 101]⟩ : ByteArray), y170, (⟨#[78]⟩ : ByteArray)⟩ : S50) (Kd.R_reads' (Kd.R_mono (ok' := (fun k_ => (w.heap.size ≤ k_))) (HO172.out) (fun k_ hk => hk.1.1.1.1))).2.1 (Kd.R_F (Kd.R_mono (ok' := (fun k_ => (w.heap.size ≤ k_))) (HO172.out) (fun k_ hk => hk.1.1.1.1))))) (Reps.c3 (show Kd.FK k50 _ _ (⟨(⟨#[116, 97, 107, 101]⟩ : ByteArray), y161, (⟨#[78]⟩ : ByteArray)⟩ : S50) [.string (⟨#[116, 97, 107, 101]⟩ : ByteArray), .slice Ao10 y161.length co10, .string (⟨#[78]⟩ : ByteArray)] from (k50_mkF _ _ (⟨(⟨#[116, 97, 107, 101]⟩ : ByteArray), y161, (⟨#[78]⟩ : ByteArray)⟩ : S50) (Kd.R_reads' (Kd.R_mono (ok' := (fun k_ => (w.heap.size ≤ k_))) (HO163.out) (fun k_ hk => hk.1.1.1.1))).2.1 (Kd.R_F (Kd.R_mono (ok' := (fun k_ => (w.heap.size ≤ k_))) (HO163.out) (fun k_ hk => hk.1.1.1.1))))) (Reps.c3 (show Kd.FK k50 _ _ (⟨(⟨#[112, 117, 116]⟩ : ByteArray), y161, (⟨#[66, 84, 86]⟩ : ByteArray)⟩ : S50) [.string (⟨#[112, 117, 116]⟩ : ByteArray), .slice Ao10 y161.length co10, .string (⟨#[66, 84, 86]⟩ : ByteArray)] from (k50_mkF _ _ (⟨(⟨#[112, 117, 116]⟩ : ByteArray), y161, (⟨#[66, 84, 86]⟩ : ByteArray)⟩ : S50) (Kd.R_reads' (Kd.R_mono (ok' := (fun k_ => (w.heap.size ≤ k_))) (HO163.out) (fun k_ hk => hk.1.1.1.1))).2.1 (Kd.R_F (Kd.R_mono (ok' := (fun k_ => (w.heap.size ≤ k_))) (HO163.out) (fun k_ hk => hk.1.1.1.1))))) (Reps.c3 (show Kd.FK k50 _ _ (⟨(⟨#[99, 97, 117, 115, 101]⟩ : ByteArray), y164, (⟨#[66, 84, 78]⟩ : ByteArray)⟩ : S50) [.string (⟨#[99, 97, 117, 115, 101]⟩ : ByteArray), .slice Ao11 y164.length co11, .string (⟨#[66, 84, 78]⟩ : ByteArray)] from (k50_mkF _ _ (⟨(⟨#[99, 97, 117, 115, 101]⟩ : ByteArray), y164, (⟨#[66, 84, 78]⟩ : ByteArray)⟩ : S50) (Kd.R_reads' (Kd.R_mono (ok' := (fun k_ => (w.heap.size ≤ k_))) (HO166.out) (fun k_ hk => hk.1.1.1.1))).2.1 (Kd.R_F (Kd.R_mono (ok' := (fun k_ => (w.heap.size ≤ k_))) (HO166.out) (fun k_ hk => hk.1.1.1.1))))) (Reps.c3 (show Kd.FK k50 _ _ (⟨(⟨#[109, 111, 114, 101]⟩ : ByteArray), y161, (⟨#[66, 84, 86]⟩ : ByteArray)⟩ : S50) [.string (⟨#[109, 111, 114, 101]⟩ : ByteArray), .slice Ao10 y161.length co10, .string (⟨#[66, 84, 86]⟩ : ByteArray)] from (k50_mkF _ _ (⟨(⟨#[109, 111, 114, 101]⟩ : ByteArray), y161, (⟨#[66, 84, 86]⟩ : ByteArray)⟩ : S50) (Kd.R_reads' (Kd.R_mono (ok' := (fun k_ => (w.heap.size ≤ k_))) (HO163.out) (fun k_ hk => hk.1.1.1.1))).2.1 (Kd.R_F (Kd.R_mono (ok' := (fun k_ => (w.heap.size ≤ k_))) (HO163.out) (fun k_ hk => hk.1.1.1.1))))) (Reps.c3 (show Kd.FK k50 _ _ (⟨(⟨#[111, 112, 101, 110]⟩ : ByteArray), y161, (⟨#[66]⟩ : ByteArray)⟩ : S50) [.string (⟨#[111, 112, 101, 110]⟩ : ByteArray), .slice Ao10 y161.length co10, .string (⟨#[66]⟩ : ByteArray)] from (k50_mkF _ _ (⟨(⟨#[111, 112, 101, 110]⟩ : ByteArray), y161, (⟨#[66]⟩ : ByteArray)⟩ : S50) (Kd.R_reads' (Kd.R_mono (ok' := (fun k_ => (w.heap.size ≤ k_))) (HO163.out) (fun k_ hk => hk.1.1.1.1))).2.1 (Kd.R_F (Kd.R_mono (ok' := (fun k_ => (w.heap.size ≤ k_))) (HO163.out) (fun k_ hk => hk.1.1.1.1))))) (Reps.c3 (show Kd.FK k50 _ _ (⟨(⟨#[99, 108, 111, 115, 101]⟩ : ByteArray), y164, (⟨#[66, 78]⟩ : ByteArray)⟩ : S50) [.string (⟨#[99, 108, 111, 115, 101]⟩ : ByteArray), .slice Ao11 y164.length co11, .string (⟨#[66, 78]⟩ : ByteArray)] from (k50_mkF _ _ (⟨(⟨#[99, 108, 111, 115, 101]⟩ : ByteArray), y164, (⟨#[66, 78]⟩ : ByteArray)⟩ : S50) (Kd.R_reads' (Kd.R_mono (ok' := (fun k_ => (w.heap.size ≤ k_))) (HO166.out) (fun k_ hk => hk.1.1.1.1))).2.1 (Kd.R_F (Kd.R_mono (ok' := (fun k_ => (w.heap.size ≤ k_))) (HO166.out) (fun k_ hk => hk.1.1.1.1))))) (Reps.c3 (show Kd.FK k50 _ _ (⟨(⟨#[115, 105, 103, 110]⟩ : ByteArray), y164, (⟨#[66]⟩ : ByteArray)⟩ : S50) [.string (⟨#[115, 105, 103, 110]⟩ : ByteArray), .slice Ao11 y164.length co11, .string (⟨#[66]⟩ : ByteArray)] from (k50_mkF _ _ (⟨(⟨#[115, 105, 103, 110]⟩ : ByteArray), y164, (⟨#[66]⟩ : ByteArray)⟩ : S50) (Kd.R_reads' (Kd.R_mono (ok' := (fun k_ => (w.heap.size ≤ k_))) (HO166.out) (fun k_ hk => hk.1.1.1.1))).2.1 (Kd.R_F (Kd.R_mono (ok' := (fun k_ => (w.heap.size ≤ k_))) (HO166.out) (fun k_ hk => hk.1.1.1.1))))) (Reps.c3 (show Kd.FK k50 _ _ (⟨(⟨#[102, 114, 101, 101]⟩ : ByteArray), y167, (⟨#[66]⟩ : ByteArray)⟩ : S50) [.string (⟨#[102, 114, 101, 101]⟩ : ByteArray), .slice Ao12 y167.length co12, .string (⟨#[66]⟩ : ByteArray)] from (k50_mkF _ _ (⟨(⟨#[102, 114, 101, 101]⟩ : ByteArray), y167, (⟨#[66]⟩ : ByteArray)⟩ : S50) (Kd.R_reads' (Kd.R_mono (ok' := (fun k_ => (w.heap.size ≤ k_))) (HO169.out) (fun k_ hk => hk.1.1.1.1))).2.1 (Kd.R_F (Kd.R_mono (ok' := (fun k_ => (w.heap.size ≤ k_))) (HO169.out) (fun k_ hk => hk.1.1.1.1))))) (Reps.c3 (show Kd.FK k50 _ _ (⟨(⟨#[114, 101, 102, 117, 115, 101]⟩ : ByteArray), y167, (⟨#[66]⟩ : ByteArray)⟩ : S50) [.string (⟨#[114, 101, 102, 117, 115, 101]⟩ : ByteArray), .slice Ao12 y167.length co12, .string (⟨#[66]⟩ : ByteArray)] from (k50_mkF _ _ (⟨(⟨#[114, 101, 102, 117, 115, 101]⟩ : ByteArray), y167, (⟨#[66]⟩ : ByteArray)⟩ : S50) (Kd.R_reads' (Kd.R_mono (ok' := (fun k_ => (w.heap.size ≤ k_))) (HO169.out) (fun k_ hk => hk.1.1.1.1))).2.1 (Kd.R_F (Kd.R_mono (ok' := (fun k_ => (w.heap.size ≤ k_))) (HO169.out) (fun k_ hk => hk.1.1.1.1))))) (Reps.c3 (show Kd.FK k50 _ _ (⟨(⟨#[114, 101, 99, 97, 108, 108]⟩ : ByteArray), y167, (⟨#[66]⟩ : ByteArray)⟩ : S50) [.string (⟨#[114, 101, 99, 97, 108, 108]⟩ : ByteArray), .slice Ao12 y167.length co12, .string (⟨#[66]⟩ : ByteArray)] from (k50_mkF _ _ (⟨(⟨#[114, 101, 99, 97, 108, 108]⟩ : ByteArray), y167, (⟨#[66]⟩ : ByteArray)⟩ : S50) (Kd.R_reads' (Kd.R_mono (ok' := (fun k_ => (w.heap.size ≤ k_))) (HO169.out) (fun k_ hk => hk.1.1.1.1))).2.1 (Kd.R_F (Kd.R_mono (ok' := (fun k_ => (w.heap.size ≤ k_))) (HO169.out) (fun k_ hk => hk.1.1.1.1))))) (Reps.none _ _))))))))))))))); intro v174 w13 ho14 hb hg_ hnew_; clear hg_ hnew_; (first | rw [← Ny173.out] at ho14 | (simp only [Int.reduceToNat] at ho14; rw [← Ny173.out] at ho14)); have n0_ := Aside0.mk (Kd.N_lower ho14 (below_size (by repeat (first | (with_reducible first | exact HB.out | apply below_alloc | apply pw_below_drewN | apply below_drew1) | exact HB.out)))); have n1_ := Aside0.mk (below_step (by repeat (first | (with_reducible first | exact HB.out | apply below_alloc | apply pw_below_drewN | apply below_drew1) | exact HB.out)) hb); clear HB; clear HO163; clear HO166; clear HO169; clear HO172; have HO175 := n0_; have HB := n1_; clear n0_ n1_; clear hb ho14))
  go_ret
  exact ⟨_, by first | rfl | (simp [errW_none, errW_some] <;> rfl) | (simp [*, errW_none, errW_some] <;> rfl), by (with_reducible repeat (first | apply Kd.N_alloc | apply Kd.N_drewN | apply Kd.N_drew)); exact HO175.out, by repeat (first | (with_reducible first | exact HB.out | apply below_alloc | apply pw_below_drewN | apply below_drew1) | exact HB.out)⟩

end Go.Proofs.Ytcollniblajhiaa.All
