-- Written by the session's own program wip/allprint.py, which drives the kit's print; Lean checks it.
import Derived.Test.YtpinmagodpplaaaAllx0
import Derived.Test.YtpinmagodpplaaaAllx9
import Derived.Test.YtpinmagodpplaaaAllx16
namespace Go.Proofs.Ytpinmagodpplaaa.All
open Go.RowKit Go.Proofs.YtpinmagodpplaaaW.PrintWords Go.Proofs.YtpinmagodpplaaaW.PrintLast Go.Proofs.YtpinmagodpplaaaW.PrintMore
attribute [local go_sem] max2_int min2_int max_two min_two max_three min_three max_four min_four   -- for this text's walks alone
set_option linter.unusedVariables false
set_option linter.unusedSimpArgs false

/-! ### laws_FnSpcNow: function 8 -/
mutual
def laws_FnSpcNow.l0 : Nat → List (S62) → Int → Int → Option (Bool)
  | 0, _, _, _ => none
  | k + 1, x3, x4, x5 => if x5 < (x3.length : Int) then (if 0 ≤ x5 then (if ((rd_T62 x3 x5).f1) = 2 then (if x4 < 0 then (laws_FnSpcNow.j1 k x3 x4 x5 true) else (laws_FnSpcNow.j1 k x3 x4 x5 (decide (x4 > x5)))) else (laws_FnSpcNow.j1 k x3 x4 x5 false)) else (none)) else (if x4 < 0 then ((impl_SpcNow.f k (([(⟨([] : List (S27)), 2⟩ : S62)] : List (S62)))).bind fun t460 => (some (t460 == 0))) else (if 0 ≤ x4 then (if x4 < (x3.length : Int) then (if ((rd_T62 x3 x4).f1) = 2 then ((impl_SpcNow.f k (([(⟨([] : List (S27)), 2⟩ : S62)] : List (S62)))).bind fun t465 => (some (t465 == 0))) else (some false)) else (none)) else (none)))
def laws_FnSpcNow.j1 : Nat → List (S62) → Int → Int → Bool → Option (Bool)
  | 0, _, _, _, _ => none
  | k + 1, x3, x4, x5, x37 => if x37 = true then (some false) else (laws_FnSpcNow.l0 k x3 x4 (wrap64 (x5 + 1)))
end
def laws_FnSpcNow.f (k : Nat) (l0 : List Int) : Option (Bool) := if (l0.length : Int) > 1048576 then (some true) else ((spec_DrawSpcNow.f k l0).bind fun t451 => ((impl_SpcNow.f k t451).bind fun t454 => ((spec_SpcNow.f k t451).bind fun t455 => (if t454 = t455 then (laws_FnSpcNow.l0 k t451 t454 0) else (some false)))))
theorem laws_FnSpcNow.mono_l : ∀ k, (∀ y0 y1 y2, LeO (laws_FnSpcNow.l0 k y0 y1 y2) (laws_FnSpcNow.l0 (k + 1) y0 y1 y2)) ∧ (∀ y0 y1 y2 y3, LeO (laws_FnSpcNow.j1 k y0 y1 y2 y3) (laws_FnSpcNow.j1 (k + 1) y0 y1 y2 y3))
  | 0 => ⟨fun _ _ _ r h => by simp [laws_FnSpcNow.l0] at h, fun _ _ _ _ r h => by simp [laws_FnSpcNow.j1] at h⟩
  | k + 1 => by
    obtain ⟨ih0, ih1⟩ := laws_FnSpcNow.mono_l k
    refine ⟨?_, ?_⟩
    · intro y0 y1 y2
      unfold laws_FnSpcNow.l0
      repeat' first
      | (with_reducible exact ih0 _ _ _)
      | (with_reducible exact ih1 _ _ _ _)
      | (with_reducible exact impl_SpcNow.mono _ _)
      | (with_reducible exact spec_DrawSpcNow.mono _ _)
      | (with_reducible exact spec_SpcNow.mono _ _)
      | (with_reducible exact LeO.refl _)
      | (with_reducible exact LeO.none _)
      | (with_reducible refine LeO.ite ?_ ?_)
      | (with_reducible refine LeO.bind ?_ (fun _ => ?_))
      | exact ih0 _ _ _
      | exact ih1 _ _ _ _
      | exact impl_SpcNow.mono _ _
      | exact spec_DrawSpcNow.mono _ _
      | exact spec_SpcNow.mono _ _
      | exact LeO.none _
      | refine LeO.ite ?_ ?_
      | refine LeO.bind ?_ (fun _ => ?_)
    · intro y0 y1 y2 y3
      unfold laws_FnSpcNow.j1
      repeat' first
      | (with_reducible exact ih0 _ _ _)
      | (with_reducible exact ih1 _ _ _ _)
      | (with_reducible exact impl_SpcNow.mono _ _)
      | (with_reducible exact spec_DrawSpcNow.mono _ _)
      | (with_reducible exact spec_SpcNow.mono _ _)
      | (with_reducible exact LeO.refl _)
      | (with_reducible exact LeO.none _)
      | (with_reducible refine LeO.ite ?_ ?_)
      | (with_reducible refine LeO.bind ?_ (fun _ => ?_))
      | exact ih0 _ _ _
      | exact ih1 _ _ _ _
      | exact impl_SpcNow.mono _ _
      | exact spec_DrawSpcNow.mono _ _
      | exact spec_SpcNow.mono _ _
      | exact LeO.none _
      | refine LeO.ite ?_ ?_
      | refine LeO.bind ?_ (fun _ => ?_)
theorem laws_FnSpcNow.mono : ∀ a0 k, LeO (laws_FnSpcNow.f k a0) (laws_FnSpcNow.f (k + 1) a0) := by
  intro a0 k
  obtain ⟨ih0, ih1⟩ := laws_FnSpcNow.mono_l k
  unfold laws_FnSpcNow.f
  repeat' first
      | (with_reducible exact ih0 _ _ _)
      | (with_reducible exact ih1 _ _ _ _)
      | (with_reducible exact impl_SpcNow.mono _ _)
      | (with_reducible exact spec_DrawSpcNow.mono _ _)
      | (with_reducible exact spec_SpcNow.mono _ _)
      | (with_reducible exact LeO.refl _)
      | (with_reducible exact LeO.none _)
      | (with_reducible refine LeO.ite ?_ ?_)
      | (with_reducible refine LeO.bind ?_ (fun _ => ?_))
      | exact ih0 _ _ _
      | exact ih1 _ _ _ _
      | exact impl_SpcNow.mono _ _
      | exact spec_DrawSpcNow.mono _ _
      | exact spec_SpcNow.mono _ _
      | exact LeO.none _
      | refine LeO.ite ?_ ?_
      | refine LeO.bind ?_ (fun _ => ?_)
set_option maxHeartbeats 8000000 in
set_option maxRecDepth 100000 in
theorem laws_FnSpcNow.calls (k : Nat) (A0 : Option Addr) (c0 : Nat) (l0 : List Int) (r : Bool) (w : World) (hr0 : Kd.C (Kd.int .u8) w A0 l0.length l0) (hc0 : l0.length ≤ c0) (h : laws_FnSpcNow.f k l0 = some r) :
    Calls Try.prog 8 #[.slice A0 l0.length c0] w fun e w' => e = .returned (.bool r) ∧ Below w.heap.size w w' := by
  have hu62 := Try.underlying62
  have HR0 := Aside0.mk hr0
  have HC0 := Aside0.mk hc0
  clear hr0 hc0
  have HB := Aside0.mk (Below.refl w.heap.size w)
  have H : (if (l0.length : Int) > 1048576 then (some true) else ((spec_DrawSpcNow.f k l0).bind fun t451 => ((impl_SpcNow.f k t451).bind fun t454 => ((spec_SpcNow.f k t451).bind fun t455 => (if t454 = t455 then (laws_FnSpcNow.l0 k t451 t454 0) else (some false)))))) = some r := h
  clear h
  by_cases c2 : (l0.length : Int) > 1048576
  · rw [if_pos c2] at H
    have c2b0 : decide (1048576 < (l0.length : Int)) = true := decide_eq_true c2
    have c2b1 : decide (1048576 < l0.length) = true := decide_eq_true (by omega)
    clear c2
    obtain rfl := Option.some.inj H
    go_enter Try.func8, Try.ntmps8
    go_wp2
    go_ret
    exact ⟨by first | rfl | (simp [errW_none, errW_some] <;> rfl) | (simp [*, errW_none, errW_some] <;> rfl), by repeat (first | (with_reducible first | exact HB.out | apply below_alloc | apply pw_below_drewN | apply below_drew1) | exact HB.out)⟩
  · rw [if_neg c2] at H
    have c2b0 : decide (1048576 < (l0.length : Int)) = false := decide_eq_false c2
    have c2b1 : decide (1048576 < l0.length) = false := decide_eq_false (by omega)
    clear c2
    replace H := Option.bind_eq_some_iff.mp H
    obtain ⟨t451, A30, H⟩ := H
    replace H : ((impl_SpcNow.f k t451).bind fun t454 => ((spec_SpcNow.f k t451).bind fun t455 => (if t454 = t455 then (laws_FnSpcNow.l0 k t451 t454 0) else (some false)))) = some r := H
    have A3 := Aside0.mk A30
    clear A30
    replace H := Option.bind_eq_some_iff.mp H
    obtain ⟨t454, A40, H⟩ := H
    replace H : ((spec_SpcNow.f k t451).bind fun t455 => (if t454 = t455 then (laws_FnSpcNow.l0 k t451 t454 0) else (some false))) = some r := H
    have A4 := Aside0.mk A40
    clear A40
    replace H := Option.bind_eq_some_iff.mp H
    obtain ⟨t455, A50, H⟩ := H
    replace H : (if t454 = t455 then (laws_FnSpcNow.l0 k t451 t454 0) else (some false)) = some r := H
    have A5 := Aside0.mk A50
    clear A50
    by_cases c6 : t454 = t455
    · rw [if_pos c6] at H
      have c6b0 : (t454 == t455) = true := beq_iff_eq.mpr c6
      have c6b1 : (t454 != t455) = false := bne_eq_false_iff_eq.mpr c6
      clear c6
      have H' := Aside0.mk H
      clear H
      go_enter Try.func8, Try.ntmps8
      go_wp2_with (first | ((with_reducible refine gate_callee (f := 32) rfl ?_); refine goesL_ (some 10) rfl rfl Try.func32 (by kernel_rfl) rfl #[.slice A0 l0.length c0] rfl (by (try simp only [List.map_toArray, List.map_cons, List.map_nil]); first | done | rfl | (simp only [List.length_drop, List.length_take]; rfl)) ?_; (with_reducible refine (spec_DrawSpcNow.calls k _ _ l0 t451 _ ?side1 ?side2 A3.out).mono ?_); (case side1 => repeat (first | exact HR0.out | (with_reducible refine Kd.C_alloc ?_ _) | (with_reducible refine Kd.C_drewN ?_ _) | (with_reducible refine Kd.C_drew ?_))); (case side2 => exact HC0.out); rintro e w7 ⟨v452, rfl, ho0, hb⟩; refine ⟨_, rfl, ?_⟩; have n0_ := Aside0.mk (Kd.S_lower ho0 (below_size (by repeat (first | (with_reducible first | exact HB.out | apply below_alloc | apply pw_below_drewN | apply below_drew1) | exact HB.out)))); have n1_ := Aside0.mk (below_step (by repeat (first | (with_reducible first | exact HB.out | apply below_alloc | apply pw_below_drewN | apply below_drew1) | exact HB.out)) hb); clear HB; have HO453 := n0_; have HB := n1_; clear n0_ n1_; (try clear hb); (try clear hb2); (try clear hk); (try clear hi); (try clear ho0); obtain ⟨Ao8, co8, eo8⟩ := Kd.S_slice HO453.out; subst eo8) | ((with_reducible refine gate_callee (f := 24) rfl ?_); refine goesL_ (some 12) rfl rfl Try.func24 (by kernel_rfl) rfl #[.slice Ao8 t451.length co8] rfl (by (try simp only [List.map_toArray, List.map_cons, List.map_nil]); first | done | rfl | (simp only [List.length_drop, List.length_take]; rfl)) ?_; (with_reducible refine (impl_SpcNow.calls k _ _ t451 t454 _ ?side1 ?side2 A4.out).mono ?_); (case side1 => repeat (first | exact (Kd.S_reads' HO453.out).2.2 | (with_reducible refine Kd.C_alloc ?_ _) | (with_reducible refine Kd.C_drewN ?_ _) | (with_reducible refine Kd.C_drew ?_))); (case side2 => exact (Kd.S_reads' HO453.out).2.1); rintro e w9 ⟨rfl, hb⟩; refine ⟨_, rfl, ?_⟩; have n0_ := Aside0.mk (Kd.S_below (by (with_reducible repeat (first | apply Kd.S_alloc | apply Kd.S_drewN | apply Kd.S_drew)); exact HO453.out) hb); have n1_ := Aside0.mk (below_step (by repeat (first | (with_reducible first | exact HB.out | apply below_alloc | apply pw_below_drewN | apply below_drew1) | exact HB.out)) hb); clear HO453; clear HB; have HO453 := n0_; have HB := n1_; clear n0_ n1_; (try clear hb); (try clear hb2); (try clear hk); (try clear hi)) | ((with_reducible refine gate_callee (f := 22) rfl ?_); refine goesL_ (some 15) rfl rfl Try.func22 (by kernel_rfl) rfl #[.slice Ao8 t451.length co8] rfl (by (try simp only [List.map_toArray, List.map_cons, List.map_nil]); first | done | rfl | (simp only [List.length_drop, List.length_take]; rfl)) ?_; (with_reducible refine (spec_SpcNow.calls k _ _ t451 t455 _ ?side1 ?side2 A5.out).mono ?_); (case side1 => repeat (first | exact (Kd.S_reads' HO453.out).2.2 | (with_reducible refine Kd.C_alloc ?_ _) | (with_reducible refine Kd.C_drewN ?_ _) | (with_reducible refine Kd.C_drew ?_))); (case side2 => exact (Kd.S_reads' HO453.out).2.1); rintro e w' ⟨rfl, ⟨nd, rfl⟩⟩; refine ⟨_, rfl, ?_⟩))
      go_loopg [5] k (fun kq v5 w' => ∃ (x5_1 : Int), v5 = .int .i64 x5_1 ∧ Aside0 (laws_FnSpcNow.l0 kq t451 t454 x5_1 = some r) ∧ Aside0 (kq ≤ k) ∧ Aside0 (Kd.S k62 62 w' w.heap.size (fun _ => True) (.slice Ao8 t451.length co8) t451) ∧ Aside0 (Below w.heap.size w w'))
      case atStart => exact ⟨(0), (by first | rfl | (simp; done) | (simp [*]; done)), H', ⟨Nat.le_refl _⟩, ⟨by (with_reducible repeat (first | apply Kd.S_alloc | apply Kd.S_drewN | apply Kd.S_drew)); exact HO453.out⟩, ⟨by repeat (first | (with_reducible first | exact HB.out | apply below_alloc | apply pw_below_drewN | apply below_drew1) | exact HB.out)⟩⟩
      case round =>
        clear H'
        try clear c2
        try clear c2b0
        try clear c2b1
        try clear p2
        try clear c3
        try clear c6
        try clear c6b0
        try clear c6b1
        try clear c8
        obtain ⟨x5_1, rfl, HA, HK1, HO_3, HB⟩ := hrel
        cases gk with
        | zero => exact absurd HA.out (by simp [laws_FnSpcNow.l0])
        | succ k1 =>
          have H := HA.out
          clear HA
          simp only [laws_FnSpcNow.l0] at H
          by_cases c10 : x5_1 < (t451.length : Int)
          · rw [if_pos c10] at H
            have c10b0 : decide (x5_1 < (t451.length : Int)) = true := decide_eq_true c10
            clear c10
            have HC11 := Aside0.mk H
            clear H
            go_upto_region 10 with (fail)
            go_cut [37] (fun v37 wc => ∃ (kq : Nat) (x37_10 : Bool), v37 = .bool x37_10 ∧ Aside0 (laws_FnSpcNow.j1 kq t451 t454 x5_1 x37_10 = some r) ∧ Aside0 (kq ≤ k1) ∧ Aside0 (Kd.S k62 62 wc w.heap.size (fun _ => True) (.slice Ao8 t451.length co8) t451) ∧ Aside0 (Below w.heap.size w wc))
            case first =>
              have H := HC11.out
              clear HC11
              by_cases c12 : 0 ≤ x5_1
              · rw [if_pos c12] at H
                have c12b0 : decide (0 ≤ x5_1) = true := decide_eq_true c12
                clear c12
                (first | rw [c12b0] | (simp only [i64_w, i32_w]; rw [c12b0]) | skip)
                by_cases c13 : ((rd_T62 t451 x5_1).f1) = 2
                · rw [if_pos c13] at H
                  have c13b0 : (((rd_T62 t451 x5_1).f1) == 2) = true := beq_iff_eq.mpr c13
                  have c13b1 : (((rd_T62 t451 x5_1).f1) != 2) = false := bne_eq_false_iff_eq.mpr c13
                  clear c13
                  by_cases c14 : t454 < 0
                  · rw [if_pos c14] at H
                    have c14b0 : decide (t454 < 0) = true := decide_eq_true c14
                    clear c14
                    have H' := Aside0.mk H
                    clear H
                    have p456 : 0 ≤ (x5_1 : Int) := of_decide_eq_true (by first | (with_reducible assumption) | assumption)
                    have q456 : x5_1 < (t451.length : Int) := of_decide_eq_true (by first | (with_reducible assumption) | assumption)
                    obtain ⟨ad456, A456_0, c456_0, e456, hx456_0, hx456_1, hl456_0, hi456_0⟩ := at_T62 (Kd.S_reads' HO_3.out).2.2 x5_1 p456 q456
                    cases e456
                    obtain ⟨ce456, hce456, hMe456, hcc456⟩ := Kd.S_get HO_3.out z62 x5_1 p456 (by first | exact q456 | exact of_decide_eq_true (by first | (with_reducible assumption) | assumption) | (have e_ := (Kd.S_reads' HO_3.out).1; omega))
                    obtain ⟨ve456_0, rfl, ge456_0⟩ := k62_openM hMe456
                    have hv456_0 := hcc456 0 _ rfl
                    rw [Nat.add_zero] at hv456_0
                    replace hv456_0 := Option.some.inj (hv456_0.symm.trans hx456_0)
                    rw [hv456_0] at ge456_0
                    have HL456_0 := Aside0.mk (show Kd.R k27 27 _ _ _ _ ((rd_T62 t451 x5_1).f0) from ge456_0)
                    clear hv456_0 ge456_0
                    clear hcc456 hce456
                    have HR456_0 := Aside0.mk hi456_0
                    have HC456_0 := Aside0.mk hl456_0
                    clear hi456_0 hl456_0
                    replace p456 := eq_true p456
                    replace q456 := eq_true q456
                    go_wp2
                    go_meet
                    case rel => exact ⟨_, (true), (by first | rfl | (simp; done) | (simp [*]; done)), H', ⟨by have := HK1.out; first | omega | exact Nat.le_refl _⟩, ⟨by (with_reducible repeat (first | apply Kd.S_alloc | apply Kd.S_drewN | apply Kd.S_drew)); exact HO_3.out⟩, ⟨by repeat (first | (with_reducible first | exact HB.out | apply below_alloc | apply pw_below_drewN | apply below_drew1) | exact HB.out)⟩⟩
                  · rw [if_neg c14] at H
                    have c14b0 : decide (t454 < 0) = false := decide_eq_false c14
                    clear c14
                    have H' := Aside0.mk H
                    clear H
                    have p456 : 0 ≤ (x5_1 : Int) := of_decide_eq_true (by first | (with_reducible assumption) | assumption)
                    have q456 : x5_1 < (t451.length : Int) := of_decide_eq_true (by first | (with_reducible assumption) | assumption)
                    obtain ⟨ad456, A456_0, c456_0, e456, hx456_0, hx456_1, hl456_0, hi456_0⟩ := at_T62 (Kd.S_reads' HO_3.out).2.2 x5_1 p456 q456
                    cases e456
                    obtain ⟨ce456, hce456, hMe456, hcc456⟩ := Kd.S_get HO_3.out z62 x5_1 p456 (by first | exact q456 | exact of_decide_eq_true (by first | (with_reducible assumption) | assumption) | (have e_ := (Kd.S_reads' HO_3.out).1; omega))
                    obtain ⟨ve456_0, rfl, ge456_0⟩ := k62_openM hMe456
                    have hv456_0 := hcc456 0 _ rfl
                    rw [Nat.add_zero] at hv456_0
                    replace hv456_0 := Option.some.inj (hv456_0.symm.trans hx456_0)
                    rw [hv456_0] at ge456_0
                    have HL456_0 := Aside0.mk (show Kd.R k27 27 _ _ _ _ ((rd_T62 t451 x5_1).f0) from ge456_0)
                    clear hv456_0 ge456_0
                    clear hcc456 hce456
                    have HR456_0 := Aside0.mk hi456_0
                    have HC456_0 := Aside0.mk hl456_0
                    clear hi456_0 hl456_0
                    replace p456 := eq_true p456
                    replace q456 := eq_true q456
                    go_wp2
                    go_meet
                    case rel => exact ⟨_, (decide (t454 > x5_1)), (by first | rfl | (simp; done) | (simp [*]; done)), H', ⟨by have := HK1.out; first | omega | exact Nat.le_refl _⟩, ⟨by (with_reducible repeat (first | apply Kd.S_alloc | apply Kd.S_drewN | apply Kd.S_drew)); exact HO_3.out⟩, ⟨by repeat (first | (with_reducible first | exact HB.out | apply below_alloc | apply pw_below_drewN | apply below_drew1) | exact HB.out)⟩⟩
                · rw [if_neg c13] at H
                  have c13b0 : (((rd_T62 t451 x5_1).f1) == 2) = false := beq_eq_false_iff_ne.mpr c13
                  have c13b1 : (((rd_T62 t451 x5_1).f1) != 2) = true := bne_iff_ne.mpr c13
                  have H' := Aside0.mk H
                  clear H
                  have p456 : 0 ≤ (x5_1 : Int) := of_decide_eq_true (by first | (with_reducible assumption) | assumption)
                  have q456 : x5_1 < (t451.length : Int) := of_decide_eq_true (by first | (with_reducible assumption) | assumption)
                  obtain ⟨ad456, A456_0, c456_0, e456, hx456_0, hx456_1, hl456_0, hi456_0⟩ := at_T62 (Kd.S_reads' HO_3.out).2.2 x5_1 p456 q456
                  cases e456
                  obtain ⟨ce456, hce456, hMe456, hcc456⟩ := Kd.S_get HO_3.out z62 x5_1 p456 (by first | exact q456 | exact of_decide_eq_true (by first | (with_reducible assumption) | assumption) | (have e_ := (Kd.S_reads' HO_3.out).1; omega))
                  obtain ⟨ve456_0, rfl, ge456_0⟩ := k62_openM hMe456
                  have hv456_0 := hcc456 0 _ rfl
                  rw [Nat.add_zero] at hv456_0
                  replace hv456_0 := Option.some.inj (hv456_0.symm.trans hx456_0)
                  rw [hv456_0] at ge456_0
                  have HL456_0 := Aside0.mk (show Kd.R k27 27 _ _ _ _ ((rd_T62 t451 x5_1).f0) from ge456_0)
                  clear hv456_0 ge456_0
                  clear hcc456 hce456
                  have HR456_0 := Aside0.mk hi456_0
                  have HC456_0 := Aside0.mk hl456_0
                  clear hi456_0 hl456_0
                  replace p456 := eq_true p456
                  replace q456 := eq_true q456
                  go_wp2
                  go_meet
                  case rel => exact ⟨_, (false), (by first | rfl | (simp; done) | (simp [*]; done)), H', ⟨by have := HK1.out; first | omega | exact Nat.le_refl _⟩, ⟨by (with_reducible repeat (first | apply Kd.S_alloc | apply Kd.S_drewN | apply Kd.S_drew)); exact HO_3.out⟩, ⟨by repeat (first | (with_reducible first | exact HB.out | apply below_alloc | apply pw_below_drewN | apply below_drew1) | exact HB.out)⟩⟩
              · rw [if_neg c12] at H
                exact absurd H (by simp)
            case rest =>
              clear HC11
              try clear c1
              try clear c2
              try clear c2b0
              try clear c2b1
              try clear p2
              try clear c3
              try clear c4
              try clear p4
              try clear q4
              try clear hx4
              try clear c6
              try clear c6b0
              try clear c6b1
              try clear c8
              try clear c10
              try clear c10b0
              try clear c12
              try clear c12b0
              try clear c13
              try clear c13b0
              try clear c13b1
              try clear c14
              try clear c14b0
              try clear hx456_0
              try clear hx456_1
              try clear p2
              try clear p456
              try clear q456
              obtain ⟨kq, x37_10, rfl, HA, HJ10, HO_3, HB⟩ := hcut
              cases kq with
              | zero => exact absurd HA.out (by simp [laws_FnSpcNow.j1])
              | succ kj10 =>
                have H := HA.out
                clear HA
                simp only [laws_FnSpcNow.j1] at H
                by_cases c15 : x37_10 = true
                · subst c15
                  have H1 : (some false) = some r := by rw [if_pos rfl] at H; exact H
                  clear H
                  have H := H1
                  clear H1
                  obtain rfl := Option.some.inj H
                  go_wp2
                  go_ret
                  exact ⟨by first | rfl | (simp [errW_none, errW_some] <;> rfl) | (simp [*, errW_none, errW_some] <;> rfl), by repeat (first | (with_reducible first | exact HB.out | apply below_alloc | apply pw_below_drewN | apply below_drew1) | exact HB.out)⟩
                · replace c15 := Bool.eq_false_iff.mpr c15
                  subst c15
                  have H1 : (laws_FnSpcNow.l0 kj10 t451 t454 (wrap64 (x5_1 + 1))) = some r := by rw [if_neg (show ¬ (false = true) by decide)] at H; exact H
                  clear H
                  have H := H1
                  clear H1
                  have H' := Aside0.mk H
                  clear H
                  go_wp2
                  go_roundg kj10
                  case measure => have := HK1.out; have := HJ10.out; omega
                  case rel => exact ⟨(wrap64 (x5_1 + 1)), (by first | rfl | (simp; done) | (simp [*]; done)), H', ⟨by have := HK1.out; have := HJ10.out; omega⟩, ⟨by (with_reducible repeat (first | apply Kd.S_alloc | apply Kd.S_drewN | apply Kd.S_drew)); exact HO_3.out⟩, ⟨by repeat (first | (with_reducible first | exact HB.out | apply below_alloc | apply pw_below_drewN | apply below_drew1) | exact HB.out)⟩⟩
          · rw [if_neg c10] at H
            have c10b0 : decide (x5_1 < (t451.length : Int)) = false := decide_eq_false c10
            clear c10
            by_cases c16 : t454 < 0
            · rw [if_pos c16] at H
              have c16b0 : decide (t454 < 0) = true := decide_eq_true c16
              clear c16
              obtain ⟨y457, hy457⟩ : ∃ y_ : List (S62), y_ = (([(⟨([] : List (S27)), 2⟩ : S62)] : List (S62))) := ⟨_, rfl⟩
              replace H : ((impl_SpcNow.f k1 y457).bind fun t460 => (some (t460 == 0))) = some r := by first | (rw [hy457]; with_reducible exact H) | (have H2_ := (Option.bind_some _ _).symm.trans H; rw [hy457]; with_reducible exact H2_) | (have H2_ := (Option.bind_some _ _).symm.trans H; with_reducible exact H2_) | with_reducible exact H | (rw [hy457]; exact H) | exact H
              have Ny457 := Aside0.mk hy457
              clear hy457
              replace H := Option.bind_eq_some_iff.mp H
              obtain ⟨t460, A170, H⟩ := H
              replace H : (some (t460 == 0)) = some r := H
              have A17 := Aside0.mk A170
              clear A170
              obtain rfl := Option.some.inj H
              go_wp2_with (first | ((with_reducible refine gate_dst (N := 50) rfl ?_); (try (refine gate_guard (by rfl) ?_; dsimp only)); refine Kd.S_lit k62 _ 62 ?hg (N := 50) ?hd (xs := ([(⟨([] : List (S27)), 2⟩ : S62)] : List (S62))) (inner := [.slice none 0 0, .int .i64 2]) (ok := fun _ => True) (okp := fun _ => True) ?hr ?hp (fun _ hk => hk) trivial (Below.refl _ _) (Nat.le_refl _) (by simp) ?_; (case hd => rfl); (case hg => rfl); (case hr => first | (go_simp; done) | (go_simp; rfl)); (case hp => exact (Reps.c2 (show Kd.M k62 _ _ _ (⟨([] : List (S27)), 2⟩ : S62) [.slice none 0 0, .int .i64 2] from (k62_mkM _ _ _ (⟨([] : List (S27)), 2⟩ : S62) (Kd.R_nil _ _ _ _ _))) (Reps.none _ _))); intro v458 w18 ho19 hb hg_ hnew_; clear hg_ hnew_; (first | rw [← Ny457.out] at ho19 | (simp only [Int.reduceToNat] at ho19; rw [← Ny457.out] at ho19)); have n0_ := Aside0.mk (Kd.S_elder' (by (with_reducible repeat (first | apply Kd.S_alloc | apply Kd.S_drewN | apply Kd.S_drew)); exact HO_3.out) (Kd.S_base ho19) hb); have n1_ := Aside0.mk (Kd.S_lower (Kd.S_new' ho19 (Kd.S_lt (by (with_reducible repeat (first | apply Kd.S_alloc | apply Kd.S_drewN | apply Kd.S_drew)); exact HO_3.out))) (below_size (by repeat (first | (with_reducible first | exact HB.out | apply below_alloc | apply pw_below_drewN | apply below_drew1) | exact HB.out)))); have n2_ := Aside0.mk (below_step (by repeat (first | (with_reducible first | exact HB.out | apply below_alloc | apply pw_below_drewN | apply below_drew1) | exact HB.out)) hb); clear HO_3; clear HB; have HO_3 := n0_; have HO459 := n1_; have HB := n2_; clear n0_ n1_ n2_; clear hb ho19; obtain ⟨Ao20, co20, eo20⟩ := Kd.S_slice HO459.out; subst eo20) | (go_at_call 24; (with_reducible refine (impl_SpcNow.calls k1 _ _ y457 t460 _ ?side1 ?side2 A17.out).mono ?_); (case side1 => repeat (first | exact (Kd.S_reads' HO459.out).2.2 | (with_reducible refine Kd.C_alloc ?_ _) | (with_reducible refine Kd.C_drewN ?_ _) | (with_reducible refine Kd.C_drew ?_))); (case side2 => exact (Kd.S_reads' HO459.out).2.1); rintro e w21 ⟨rfl, hb⟩; have n0_ := Aside0.mk (Kd.S_below (by (with_reducible repeat (first | apply Kd.S_alloc | apply Kd.S_drewN | apply Kd.S_drew)); exact HO_3.out) hb); have n1_ := Aside0.mk (Kd.S_below (by (with_reducible repeat (first | apply Kd.S_alloc | apply Kd.S_drewN | apply Kd.S_drew)); exact HO459.out) hb); have n2_ := Aside0.mk (below_step (by repeat (first | (with_reducible first | exact HB.out | apply below_alloc | apply pw_below_drewN | apply below_drew1) | exact HB.out)) hb); clear HO_3; clear HO459; clear HB; have HO_3 := n0_; have HO459 := n1_; have HB := n2_; clear n0_ n1_ n2_; (try clear hb); (try clear hb2); (try clear hk); (try clear hi)))
              go_ret
              exact ⟨by first | rfl | (simp [errW_none, errW_some] <;> rfl) | (simp [*, errW_none, errW_some] <;> rfl), by repeat (first | (with_reducible first | exact HB.out | apply below_alloc | apply pw_below_drewN | apply below_drew1) | exact HB.out)⟩
            · rw [if_neg c16] at H
              have c16b0 : decide (t454 < 0) = false := decide_eq_false c16
              clear c16
              by_cases c22 : 0 ≤ t454
              · rw [if_pos c22] at H
                have c22b0 : decide (0 ≤ t454) = true := decide_eq_true c22
                clear c22
                by_cases c23 : t454 < (t451.length : Int)
                · rw [if_pos c23] at H
                  have c23b0 : decide (t454 < (t451.length : Int)) = true := decide_eq_true c23
                  clear c23
                  by_cases c24 : ((rd_T62 t451 t454).f1) = 2
                  · rw [if_pos c24] at H
                    have c24b0 : (((rd_T62 t451 t454).f1) == 2) = true := beq_iff_eq.mpr c24
                    have c24b1 : (((rd_T62 t451 t454).f1) != 2) = false := bne_eq_false_iff_eq.mpr c24
                    clear c24
                    obtain ⟨y462, hy462⟩ : ∃ y_ : List (S62), y_ = (([(⟨([] : List (S27)), 2⟩ : S62)] : List (S62))) := ⟨_, rfl⟩
                    replace H : ((impl_SpcNow.f k1 y462).bind fun t465 => (some (t465 == 0))) = some r := by first | (rw [hy462]; with_reducible exact H) | (have H2_ := (Option.bind_some _ _).symm.trans H; rw [hy462]; with_reducible exact H2_) | (have H2_ := (Option.bind_some _ _).symm.trans H; with_reducible exact H2_) | with_reducible exact H | (rw [hy462]; exact H) | exact H
                    have Ny462 := Aside0.mk hy462
                    clear hy462
                    replace H := Option.bind_eq_some_iff.mp H
                    obtain ⟨t465, A250, H⟩ := H
                    replace H : (some (t465 == 0)) = some r := H
                    have A25 := Aside0.mk A250
                    clear A250
                    obtain rfl := Option.some.inj H
                    have p461 : 0 ≤ (t454 : Int) := of_decide_eq_true (by first | (with_reducible assumption) | assumption)
                    have q461 : t454 < (t451.length : Int) := of_decide_eq_true (by first | (with_reducible assumption) | assumption)
                    obtain ⟨ad461, A461_0, c461_0, e461, hx461_0, hx461_1, hl461_0, hi461_0⟩ := at_T62 (Kd.S_reads' HO_3.out).2.2 t454 p461 q461
                    cases e461
                    obtain ⟨ce461, hce461, hMe461, hcc461⟩ := Kd.S_get HO_3.out z62 t454 p461 (by first | exact q461 | exact of_decide_eq_true (by first | (with_reducible assumption) | assumption) | (have e_ := (Kd.S_reads' HO_3.out).1; omega))
                    obtain ⟨ve461_0, rfl, ge461_0⟩ := k62_openM hMe461
                    have hv461_0 := hcc461 0 _ rfl
                    rw [Nat.add_zero] at hv461_0
                    replace hv461_0 := Option.some.inj (hv461_0.symm.trans hx461_0)
                    rw [hv461_0] at ge461_0
                    have HL461_0 := Aside0.mk (show Kd.R k27 27 _ _ _ _ ((rd_T62 t451 t454).f0) from ge461_0)
                    clear hv461_0 ge461_0
                    clear hcc461 hce461
                    have HR461_0 := Aside0.mk hi461_0
                    have HC461_0 := Aside0.mk hl461_0
                    clear hi461_0 hl461_0
                    replace p461 := eq_true p461
                    replace q461 := eq_true q461
                    go_wp2_with (first | ((with_reducible refine gate_dst (N := 50) rfl ?_); (try (refine gate_guard (by rfl) ?_; dsimp only)); refine Kd.S_lit k62 _ 62 ?hg (N := 50) ?hd (xs := ([(⟨([] : List (S27)), 2⟩ : S62)] : List (S62))) (inner := [.slice none 0 0, .int .i64 2]) (ok := fun _ => True) (okp := fun _ => True) ?hr ?hp (fun _ hk => hk) trivial (Below.refl _ _) (Nat.le_refl _) (by simp) ?_; (case hd => rfl); (case hg => rfl); (case hr => first | (go_simp; done) | (go_simp; rfl)); (case hp => exact (Reps.c2 (show Kd.M k62 _ _ _ (⟨([] : List (S27)), 2⟩ : S62) [.slice none 0 0, .int .i64 2] from (k62_mkM _ _ _ (⟨([] : List (S27)), 2⟩ : S62) (Kd.R_nil _ _ _ _ _))) (Reps.none _ _))); intro v463 w26 ho27 hb hg_ hnew_; clear hg_ hnew_; (first | rw [← Ny462.out] at ho27 | (simp only [Int.reduceToNat] at ho27; rw [← Ny462.out] at ho27)); have n0_ := Aside0.mk (Kd.S_elder' (by (with_reducible repeat (first | apply Kd.S_alloc | apply Kd.S_drewN | apply Kd.S_drew)); exact HO_3.out) (Kd.S_base ho27) hb); have n1_ := Aside0.mk (Kd.R_below (by (with_reducible repeat (first | apply Kd.R_alloc | apply Kd.R_drewN | apply Kd.R_drew)); exact HL461_0.out) hb); have n2_ := Aside0.mk (Kd.S_lower (Kd.S_new' (Kd.S_new' ho27 (Kd.S_lt (by (with_reducible repeat (first | apply Kd.S_alloc | apply Kd.S_drewN | apply Kd.S_drew)); exact HO_3.out))) (Kd.R_lt (by (with_reducible repeat (first | apply Kd.R_alloc | apply Kd.R_drewN | apply Kd.R_drew)); exact HL461_0.out))) (below_size (by repeat (first | (with_reducible first | exact HB.out | apply below_alloc | apply pw_below_drewN | apply below_drew1) | exact HB.out)))); have n3_ := Aside0.mk (Kd.C_below (by repeat (first | (with_reducible exact HR461_0.out) | (with_reducible refine Kd.C_alloc ?_ _) | (with_reducible refine Kd.C_drewN ?_ _) | (with_reducible refine Kd.C_drew ?_) | exact HR461_0.out)) hb); have n4_ := Aside0.mk (below_step (by repeat (first | (with_reducible first | exact HB.out | apply below_alloc | apply pw_below_drewN | apply below_drew1) | exact HB.out)) hb); clear HO_3; clear HL461_0; clear HR461_0; clear HB; have HO_3 := n0_; have HL461_0 := n1_; have HO464 := n2_; have HR461_0 := n3_; have HB := n4_; clear n0_ n1_ n2_ n3_ n4_; clear hb ho27; obtain ⟨Ao28, co28, eo28⟩ := Kd.S_slice HO464.out; subst eo28) | (go_at_call 24; (with_reducible refine (impl_SpcNow.calls k1 _ _ y462 t465 _ ?side1 ?side2 A25.out).mono ?_); (case side1 => repeat (first | exact (Kd.S_reads' HO464.out).2.2 | (with_reducible refine Kd.C_alloc ?_ _) | (with_reducible refine Kd.C_drewN ?_ _) | (with_reducible refine Kd.C_drew ?_))); (case side2 => exact (Kd.S_reads' HO464.out).2.1); rintro e w29 ⟨rfl, hb⟩; have n0_ := Aside0.mk (Kd.S_below (by (with_reducible repeat (first | apply Kd.S_alloc | apply Kd.S_drewN | apply Kd.S_drew)); exact HO_3.out) hb); have n1_ := Aside0.mk (Kd.R_below (by (with_reducible repeat (first | apply Kd.R_alloc | apply Kd.R_drewN | apply Kd.R_drew)); exact HL461_0.out) hb); have n2_ := Aside0.mk (Kd.S_below (by (with_reducible repeat (first | apply Kd.S_alloc | apply Kd.S_drewN | apply Kd.S_drew)); exact HO464.out) hb); have n3_ := Aside0.mk (Kd.C_below (by repeat (first | (with_reducible exact HR461_0.out) | (with_reducible refine Kd.C_alloc ?_ _) | (with_reducible refine Kd.C_drewN ?_ _) | (with_reducible refine Kd.C_drew ?_) | exact HR461_0.out)) hb); have n4_ := Aside0.mk (below_step (by repeat (first | (with_reducible first | exact HB.out | apply below_alloc | apply pw_below_drewN | apply below_drew1) | exact HB.out)) hb); clear HO_3; clear HL461_0; clear HO464; clear HR461_0; clear HB; have HO_3 := n0_; have HL461_0 := n1_; have HO464 := n2_; have HR461_0 := n3_; have HB := n4_; clear n0_ n1_ n2_ n3_ n4_; (try clear hb); (try clear hb2); (try clear hk); (try clear hi)))
                    go_ret
                    exact ⟨by first | rfl | (simp [errW_none, errW_some] <;> rfl) | (simp [*, errW_none, errW_some] <;> rfl), by repeat (first | (with_reducible first | exact HB.out | apply below_alloc | apply pw_below_drewN | apply below_drew1) | exact HB.out)⟩
                  · rw [if_neg c24] at H
                    have c24b0 : (((rd_T62 t451 t454).f1) == 2) = false := beq_eq_false_iff_ne.mpr c24
                    have c24b1 : (((rd_T62 t451 t454).f1) != 2) = true := bne_iff_ne.mpr c24
                    obtain rfl := Option.some.inj H
                    have p461 : 0 ≤ (t454 : Int) := of_decide_eq_true (by first | (with_reducible assumption) | assumption)
                    have q461 : t454 < (t451.length : Int) := of_decide_eq_true (by first | (with_reducible assumption) | assumption)
                    obtain ⟨ad461, A461_0, c461_0, e461, hx461_0, hx461_1, hl461_0, hi461_0⟩ := at_T62 (Kd.S_reads' HO_3.out).2.2 t454 p461 q461
                    cases e461
                    obtain ⟨ce461, hce461, hMe461, hcc461⟩ := Kd.S_get HO_3.out z62 t454 p461 (by first | exact q461 | exact of_decide_eq_true (by first | (with_reducible assumption) | assumption) | (have e_ := (Kd.S_reads' HO_3.out).1; omega))
                    obtain ⟨ve461_0, rfl, ge461_0⟩ := k62_openM hMe461
                    have hv461_0 := hcc461 0 _ rfl
                    rw [Nat.add_zero] at hv461_0
                    replace hv461_0 := Option.some.inj (hv461_0.symm.trans hx461_0)
                    rw [hv461_0] at ge461_0
                    have HL461_0 := Aside0.mk (show Kd.R k27 27 _ _ _ _ ((rd_T62 t451 t454).f0) from ge461_0)
                    clear hv461_0 ge461_0
                    clear hcc461 hce461
                    have HR461_0 := Aside0.mk hi461_0
                    have HC461_0 := Aside0.mk hl461_0
                    clear hi461_0 hl461_0
                    replace p461 := eq_true p461
                    replace q461 := eq_true q461
                    go_wp2
                    go_ret
                    exact ⟨by first | rfl | (simp [errW_none, errW_some] <;> rfl) | (simp [*, errW_none, errW_some] <;> rfl), by repeat (first | (with_reducible first | exact HB.out | apply below_alloc | apply pw_below_drewN | apply below_drew1) | exact HB.out)⟩
                · rw [if_neg c23] at H
                  exact absurd H (by simp)
              · rw [if_neg c22] at H
                exact absurd H (by simp)
    · rw [if_neg c6] at H
      have c6b0 : (t454 == t455) = false := beq_eq_false_iff_ne.mpr c6
      have c6b1 : (t454 != t455) = true := bne_iff_ne.mpr c6
      obtain rfl := Option.some.inj H
      go_enter Try.func8, Try.ntmps8
      go_wp2_with (first | ((with_reducible refine gate_callee (f := 32) rfl ?_); refine goesL_ (some 10) rfl rfl Try.func32 (by kernel_rfl) rfl #[.slice A0 l0.length c0] rfl (by (try simp only [List.map_toArray, List.map_cons, List.map_nil]); first | done | rfl | (simp only [List.length_drop, List.length_take]; rfl)) ?_; (with_reducible refine (spec_DrawSpcNow.calls k _ _ l0 t451 _ ?side1 ?side2 A3.out).mono ?_); (case side1 => repeat (first | exact HR0.out | (with_reducible refine Kd.C_alloc ?_ _) | (with_reducible refine Kd.C_drewN ?_ _) | (with_reducible refine Kd.C_drew ?_))); (case side2 => exact HC0.out); rintro e w30 ⟨v452, rfl, ho0, hb⟩; refine ⟨_, rfl, ?_⟩; have n0_ := Aside0.mk (Kd.S_lower ho0 (below_size (by repeat (first | (with_reducible first | exact HB.out | apply below_alloc | apply pw_below_drewN | apply below_drew1) | exact HB.out)))); have n1_ := Aside0.mk (below_step (by repeat (first | (with_reducible first | exact HB.out | apply below_alloc | apply pw_below_drewN | apply below_drew1) | exact HB.out)) hb); clear HB; have HO453 := n0_; have HB := n1_; clear n0_ n1_; (try clear hb); (try clear hb2); (try clear hk); (try clear hi); (try clear ho0); obtain ⟨Ao31, co31, eo31⟩ := Kd.S_slice HO453.out; subst eo31) | ((with_reducible refine gate_callee (f := 24) rfl ?_); refine goesL_ (some 12) rfl rfl Try.func24 (by kernel_rfl) rfl #[.slice Ao31 t451.length co31] rfl (by (try simp only [List.map_toArray, List.map_cons, List.map_nil]); first | done | rfl | (simp only [List.length_drop, List.length_take]; rfl)) ?_; (with_reducible refine (impl_SpcNow.calls k _ _ t451 t454 _ ?side1 ?side2 A4.out).mono ?_); (case side1 => repeat (first | exact (Kd.S_reads' HO453.out).2.2 | (with_reducible refine Kd.C_alloc ?_ _) | (with_reducible refine Kd.C_drewN ?_ _) | (with_reducible refine Kd.C_drew ?_))); (case side2 => exact (Kd.S_reads' HO453.out).2.1); rintro e w32 ⟨rfl, hb⟩; refine ⟨_, rfl, ?_⟩; have n0_ := Aside0.mk (Kd.S_below (by (with_reducible repeat (first | apply Kd.S_alloc | apply Kd.S_drewN | apply Kd.S_drew)); exact HO453.out) hb); have n1_ := Aside0.mk (below_step (by repeat (first | (with_reducible first | exact HB.out | apply below_alloc | apply pw_below_drewN | apply below_drew1) | exact HB.out)) hb); clear HO453; clear HB; have HO453 := n0_; have HB := n1_; clear n0_ n1_; (try clear hb); (try clear hb2); (try clear hk); (try clear hi)) | ((with_reducible refine gate_callee (f := 22) rfl ?_); refine goesL_ (some 15) rfl rfl Try.func22 (by kernel_rfl) rfl #[.slice Ao31 t451.length co31] rfl (by (try simp only [List.map_toArray, List.map_cons, List.map_nil]); first | done | rfl | (simp only [List.length_drop, List.length_take]; rfl)) ?_; (with_reducible refine (spec_SpcNow.calls k _ _ t451 t455 _ ?side1 ?side2 A5.out).mono ?_); (case side1 => repeat (first | exact (Kd.S_reads' HO453.out).2.2 | (with_reducible refine Kd.C_alloc ?_ _) | (with_reducible refine Kd.C_drewN ?_ _) | (with_reducible refine Kd.C_drew ?_))); (case side2 => exact (Kd.S_reads' HO453.out).2.1); rintro e w' ⟨rfl, ⟨nd, rfl⟩⟩; refine ⟨_, rfl, ?_⟩))
      go_ret
      exact ⟨by first | rfl | (simp [errW_none, errW_some] <;> rfl) | (simp [*, errW_none, errW_some] <;> rfl), by repeat (first | (with_reducible first | exact HB.out | apply below_alloc | apply pw_below_drewN | apply below_drew1) | exact HB.out)⟩

/-- THE ONE PURE STATEMENT of laws_FnSpcNow: yours. -/
def laws_FnSpcNow.Pure : Prop := ∀ (l0 : List Int), l0.length ≤ maxLen → l0.length * 1 ≤ 140737488351232 → (∀ x ∈ l0, (Lit.int .u8 x).wf = true) → ∃ k, laws_FnSpcNow.f k l0 = some true
theorem laws_FnSpcNow.walk (P : laws_FnSpcNow.Pure) (a0 : Option Addr) (len0 cap0 : Nat) (z0 : List Int) (w : World) (w0 : (a0 = none ∧ len0 = 0 ∧ cap0 = 0 ∧ z0 = []) ∨ ∃ x, a0 = some x ∧ len0 ≤ cap0 ∧ cap0 ≤ maxLen ∧ z0.length = cap0 ∧ (∀ i, i < z0.length → w.cell? (x.add i) = some (.int .u8 (z0.getD i 0))) ∧ ∀ n ∈ z0, (Lit.int .u8 n).wf = true) (y0 : len0 * 1 ≤ 140737488351232) :
    Calls Try.prog 8 #[.slice a0 len0 cap0] w fun e w' => e = .returned (.bool true) ∧ Below w.heap.size w w' := by
  obtain ⟨l0, rfl, hr0, hm0, hw0, hc0⟩ := ReadsInt.ofRowC w0
  obtain ⟨k, h⟩ := P l0 hm0 y0 hw0
  refine (laws_FnSpcNow.calls k _ _ l0 true w (Kd.C_of_reads (d := (0 : Int)) (h1 := fun _ => rfl) hr0) hc0 h).mono ?_
  rintro e w' ⟨rfl, hd⟩
  exact ⟨rfl, hd⟩

end Go.Proofs.Ytpinmagodpplaaa.All
