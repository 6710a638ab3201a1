-- Written by the session's own program wip/allprint.py, which drives the kit's print; Lean checks it.
import Derived.Test.YtpinmagodpplaaaAllx0
namespace Go.Proofs.Ytpinmagodpplaaa.All
open Go.RowKit Go.Proofs.YtpinmagodpplaaaW.PrintWords Go.Proofs.YtpinmagodpplaaaW.PrintLast Go.Proofs.YtpinmagodpplaaaW.PrintMore
attribute [local go_sem] max2_int min2_int max_two min_two max_three min_three max_four min_four   -- for this text's walks alone
set_option linter.unusedVariables false
set_option linter.unusedSimpArgs false

-- GROUP FnSpcNow
/-! ### spec_SpcNow: function 22 -/
def spec_SpcNow.l0 : Nat → List (S62) → Int → Option (Int)
  | 0, _, _ => none
  | k + 1, x0, x3 => if x3 < (x0.length : Int) then (if 0 ≤ x3 then (if ((rd_T62 x0 x3).f1) = 2 then (some x3) else (spec_SpcNow.l0 k x0 (wrap64 (x3 + 1)))) else (none)) else (some (-1))
def spec_SpcNow.f (k : Nat) (l0 : List (S62)) : Option (Int) := spec_SpcNow.l0 k l0 0
theorem spec_SpcNow.mono_l : ∀ k, (∀ y0 y1, LeO (spec_SpcNow.l0 k y0 y1) (spec_SpcNow.l0 (k + 1) y0 y1))
  | 0 => fun _ _ r h => by simp [spec_SpcNow.l0] at h
  | k + 1 => by
    have ih0 := spec_SpcNow.mono_l k
    · intro y0 y1
      unfold spec_SpcNow.l0
      repeat' first
      | (with_reducible exact ih0 _ _)
      | (with_reducible exact LeO.refl _)
      | (with_reducible exact LeO.none _)
      | (with_reducible refine LeO.ite ?_ ?_)
      | (with_reducible refine LeO.bind ?_ (fun _ => ?_))
      | exact ih0 _ _
      | exact LeO.none _
      | refine LeO.ite ?_ ?_
      | refine LeO.bind ?_ (fun _ => ?_)
theorem spec_SpcNow.mono : ∀ a0 k, LeO (spec_SpcNow.f k a0) (spec_SpcNow.f (k + 1) a0) := by
  intro a0 k
  have ih0 := spec_SpcNow.mono_l k
  unfold spec_SpcNow.f
  repeat' first
      | (with_reducible exact ih0 _ _)
      | (with_reducible exact LeO.refl _)
      | (with_reducible exact LeO.none _)
      | (with_reducible refine LeO.ite ?_ ?_)
      | (with_reducible refine LeO.bind ?_ (fun _ => ?_))
      | exact ih0 _ _
      | exact LeO.none _
      | refine LeO.ite ?_ ?_
      | refine LeO.bind ?_ (fun _ => ?_)
set_option maxHeartbeats 8000000 in
set_option maxRecDepth 100000 in
theorem spec_SpcNow.calls (k : Nat) (A0 : Option Addr) (c0 : Nat) (l0 : List (S62)) (r : Int) (w : World) (hr0 : Kd.C k62 w A0 l0.length l0) (hc0 : l0.length ≤ c0) (h : spec_SpcNow.f k l0 = some r) :
    Calls Try.prog 22 #[.slice A0 l0.length c0] w fun e w' => e = .returned (.int .i64 r) ∧ Drawn0 w w' := by
  have HR0 := Aside0.mk hr0
  have HC0 := Aside0.mk hc0
  clear hr0 hc0
  have H : (spec_SpcNow.l0 k l0 0) = some r := h
  clear h
  have H' := Aside0.mk H
  clear H
  go_enter Try.func22, Try.ntmps22
  go_wp2
  go_loopg [3] k (fun kq v3 w' => ∃ (x3_1 : Int), v3 = .int .i64 x3_1 ∧ Aside0 (spec_SpcNow.l0 kq l0 x3_1 = some r) ∧ Aside0 (kq ≤ k) ∧ Drawn0 w w')
  case atStart => exact ⟨(0), (by first | rfl | (simp; done) | (simp [*]; done)), H', ⟨Nat.le_refl _⟩, by repeat (first | exact Drawn0.refl _ | apply Drawn0.step)⟩
  case round =>
    clear H'
    obtain ⟨x3_1, rfl, HA, HK1, ⟨m1, rfl⟩⟩ := hrel
    cases gk with
    | zero => exact absurd HA.out (by simp [spec_SpcNow.l0])
    | succ k1 =>
      have H := HA.out
      clear HA
      simp only [spec_SpcNow.l0] at H
      by_cases c2 : x3_1 < (l0.length : Int)
      · rw [if_pos c2] at H
        have c2b0 : decide (x3_1 < (l0.length : Int)) = true := decide_eq_true c2
        clear c2
        by_cases c3 : 0 ≤ x3_1
        · rw [if_pos c3] at H
          have c3b0 : decide (0 ≤ x3_1) = true := decide_eq_true c3
          clear c3
          by_cases c4 : ((rd_T62 l0 x3_1).f1) = 2
          · rw [if_pos c4] at H
            have c4b0 : (((rd_T62 l0 x3_1).f1) == 2) = true := beq_iff_eq.mpr c4
            have c4b1 : (((rd_T62 l0 x3_1).f1) != 2) = false := bne_eq_false_iff_eq.mpr c4
            clear c4
            obtain rfl := Option.some.inj H
            have p274 : 0 ≤ (x3_1 : Int) := of_decide_eq_true (by first | (with_reducible assumption) | assumption)
            have q274 : x3_1 < (l0.length : Int) := of_decide_eq_true (by first | (with_reducible assumption) | assumption)
            obtain ⟨ad274, A274_0, c274_0, e274, hx274_0, hx274_1, hl274_0, hi274_0⟩ := at_T62 HR0.out x3_1 p274 q274
            cases e274
            have HR274_0 := Aside0.mk hi274_0
            have HC274_0 := Aside0.mk hl274_0
            clear hi274_0 hl274_0
            replace p274 := eq_true p274
            replace q274 := eq_true q274
            go_wp2
            go_ret
            exact ⟨by first | rfl | (simp; done) | (simp [*]; done), by repeat (first | exact Drawn0.refl _ | apply Drawn0.step)⟩
          · rw [if_neg c4] at H
            have c4b0 : (((rd_T62 l0 x3_1).f1) == 2) = false := beq_eq_false_iff_ne.mpr c4
            have c4b1 : (((rd_T62 l0 x3_1).f1) != 2) = true := bne_iff_ne.mpr c4
            have H' := Aside0.mk H
            clear H
            have p274 : 0 ≤ (x3_1 : Int) := of_decide_eq_true (by first | (with_reducible assumption) | assumption)
            have q274 : x3_1 < (l0.length : Int) := of_decide_eq_true (by first | (with_reducible assumption) | assumption)
            obtain ⟨ad274, A274_0, c274_0, e274, hx274_0, hx274_1, hl274_0, hi274_0⟩ := at_T62 HR0.out x3_1 p274 q274
            cases e274
            have HR274_0 := Aside0.mk hi274_0
            have HC274_0 := Aside0.mk hl274_0
            clear hi274_0 hl274_0
            replace p274 := eq_true p274
            replace q274 := eq_true q274
            go_wp2
            go_roundg k1
            case measure => have := HK1.out; omega
            case rel => exact ⟨(wrap64 (x3_1 + 1)), (by first | rfl | (simp; done) | (simp [*]; done)), H', ⟨by have := HK1.out; omega⟩, by repeat (first | exact Drawn0.refl _ | apply Drawn0.step)⟩
        · rw [if_neg c3] at H
          exact absurd H (by simp)
      · rw [if_neg c2] at H
        have c2b0 : decide (x3_1 < (l0.length : Int)) = false := decide_eq_false c2
        clear c2
        obtain rfl := Option.some.inj H
        go_wp2
        go_ret
        exact ⟨by first | rfl | (simp; done) | (simp [*]; done), by repeat (first | exact Drawn0.refl _ | apply Drawn0.step)⟩

/-! ### impl_SpcNow: function 24 (by hand) -/
def impl_SpcNow.l0 : Nat → List (S62) → Int → Option (Int)
  | 0, _, _ => none
  | k + 1, l, x => if x < (l.length : Int) then (if 0 ≤ x then (if (rd_T62 l x).f1 = 2 then some x else impl_SpcNow.l0 k l (wrap64 (x + 1))) else none) else some (-1)
def impl_SpcNow.f (k : Nat) (l0 : List (S62)) : Option (Int) := impl_SpcNow.l0 k l0 0
theorem impl_SpcNow.mono_l : ∀ k, (∀ y0 y1, LeO (impl_SpcNow.l0 k y0 y1) (impl_SpcNow.l0 (k + 1) y0 y1))
  | 0 => fun _ _ r h => by simp [impl_SpcNow.l0] at h
  | k + 1 => by
    have ih0 := impl_SpcNow.mono_l k
    intro y0 y1
    unfold impl_SpcNow.l0
    repeat' first
      | (with_reducible exact ih0 _ _)
      | (with_reducible exact LeO.refl _)
      | (with_reducible exact LeO.none _)
      | (with_reducible refine LeO.ite ?_ ?_)
theorem impl_SpcNow.mono : ∀ a0 k, LeO (impl_SpcNow.f k a0) (impl_SpcNow.f (k + 1) a0) := fun a0 k => impl_SpcNow.mono_l k a0 0
theorem impl_SpcNow.pred (W : World) (v : Value) (n : Int) :
    Calls Try.prog 49 #[.agg #[v, .int .i64 n]] W fun e w' => e = .returned (.bool (n == 2)) ∧ Below W.heap.size W w' := by
  have hu62 := Try.underlying62
  go_enter Try.func49, Try.ntmps49
  go_wp2
  go_ret
  exact ⟨by simp_all, (Below.refl _ W).alloc (Nat.le_refl _) _⟩
set_option maxHeartbeats 8000000 in
set_option maxRecDepth 100000 in
theorem impl_SpcNow.idx (k : Nat) (A0 : Option Addr) (c0 : Nat) (l0 : List S62) (r : Int) (w : World) (hr0 : Kd.C k62 w A0 l0.length l0) (h : impl_SpcNow.l0 k l0 0 = some r) :
    Calls Try.prog 48 #[.slice A0 l0.length c0, .func (.func 49) #[] #[]] w fun e w' => e = .returned (.int .i64 r) ∧ Below w.heap.size w w' := by
  have hu62 := Try.underlying62
  have eg : ∀ args w, (callFunc 49 args).run Try.prog w = .ok (.enter 49 args) w := enters_ Try.func49 (by kernel_rfl) rfl
  have HR0 := Aside0.mk hr0
  clear hr0
  have HB := Aside0.mk (Below.refl w.heap.size w)
  have H' := Aside0.mk h
  clear h
  go_enter Try.func48, Try.ntmps48
  go_wp2
  go_loopg [5, 8] k (fun kq _ v8 w' => ∃ (x : Int), v8 = .int .i64 x ∧ Aside0 (impl_SpcNow.l0 kq l0 x = some r) ∧ Aside0 (Below w.heap.size w w'))
  case atStart => exact ⟨0, rfl, H', HB⟩
  case round =>
    clear H' HB
    obtain ⟨x, rfl, HA, HB⟩ := hrel
    cases gk with
    | zero => exact absurd HA.out (by simp [impl_SpcNow.l0])
    | succ k1 =>
      have H := HA.out
      clear HA
      simp only [impl_SpcNow.l0] at H
      by_cases c1 : x < (l0.length : Int)
      · rw [if_pos c1] at H
        by_cases c2 : 0 ≤ x
        · rw [if_pos c2] at H
          obtain ⟨ad, A1, c9, e, h0, h1, -⟩ := at_T62 HR0.out x c2 c1
          cases e
          replace h0 := (HB.out.cell (World.block_lt_of_cell? w _ h0)).trans h0
          replace h1 := (HB.out.cell (World.block_lt_of_cell? w _ h1)).trans h1
          have hcall := impl_SpcNow.pred wr (.slice A1 (rd_T62 l0 x).f0.length c9) (rd_T62 l0 x).f1
          have c1b : decide (x < (l0.length : Int)) = true := decide_eq_true c1
          have c2b : decide (0 ≤ x) = true := decide_eq_true c2
          replace c2 := eq_true c2
          replace c1 := eq_true c1
          by_cases c3 : (rd_T62 l0 x).f1 = 2
          · rw [if_pos c3] at H
            cases H
            rw [beq_iff_eq.mpr c3] at hcall
            clear c3
            go_wp2_with (go_at_call 49; refine hcall.mono ?_; rintro e w' ⟨rfl, hb⟩)
            go_ret
            exact ⟨rfl, below_step HB.out hb⟩
          · rw [if_neg c3] at H
            rw [beq_eq_false_iff_ne.mpr c3] at hcall
            clear c3
            have H' := Aside0.mk H
            clear H
            go_wp2_with (go_at_call 49; refine hcall.mono ?_; rintro e w' ⟨rfl, hb⟩)
            go_roundg k1
            case measure => omega
            case rel => exact ⟨_, rfl, H', ⟨below_step HB.out hb⟩⟩
        · rw [if_neg c2] at H
          exact absurd H (by simp)
      · rw [if_neg c1] at H
        cases H
        have c1b : decide (x < (l0.length : Int)) = false := decide_eq_false c1
        go_wp2
        go_ret
        exact ⟨rfl, HB.out⟩
theorem impl_SpcNow.calls (k : Nat) (A0 : Option Addr) (c0 : Nat) (l0 : List (S62)) (r : Int) (w : World) (hr0 : Kd.C k62 w A0 l0.length l0) (hc0 : l0.length ≤ c0) (h : impl_SpcNow.f k l0 = some r) :
    Calls Try.prog 24 #[.slice A0 l0.length c0] w fun e w' => e = .returned (.int .i64 r) ∧ Below w.heap.size w w' := by
  have HR0 := Aside0.mk hr0
  have HX := Aside0.mk h
  clear hr0 h
  go_enter Try.func24, Try.ntmps24
  go_wp2_with (go_at_call 48; refine (impl_SpcNow.idx k A0 c0 l0 r _ HR0.out HX.out).mono ?_; rintro e w' ⟨rfl, hb⟩)
  go_ret
  exact ⟨rfl, hb⟩

end Go.Proofs.Ytpinmagodpplaaa.All
