-- Written by the session's own program wip/allprint.py, which drives the kit's print; Lean checks it.
import Derived.Test.YtipfdcmjcelbiaaAllx0
import Derived.Test.YtipfdcmjcelbiaaAllx7
namespace Go.Proofs.Ytipfdcmjcelbiaa.All
open Go.RowKit Go.Proofs.YtipfdcmjcelbiaaW.PrintWords Go.Proofs.YtipfdcmjcelbiaaW.PrintLast Go.Proofs.YtipfdcmjcelbiaaW.PrintMore
attribute [local go_sem] max2_int min2_int max_two min_two max_three min_three max_four min_four   -- for this text's walks alone
set_option linter.unusedVariables false
set_option linter.unusedSimpArgs false

/-! ### impl_DayLast: function 34 (by hand) -/
def impl_DayLast.tab (m : Int) : Int := if m = 4 then 30 else if m = 6 then 30 else if m = 9 then 30 else if m = 11 then 30 else 31
def impl_DayLast.f (a0 : Int) (a1 : Int) : Option (Int) := if a1 ≥ 1 then (if a1 ≤ 12 then (if a1 = 2 then ((impl_DayLeap.f a0).bind fun t => (if t = true then some 29 else some 28)) else some (impl_DayLast.tab a1)) else some 0) else some 0
theorem impl_DayLast.out (a0 a1 : Int) (w : World) (hi : impl_in.f a1 1 12 = some false) :
    Calls Try.prog 34 #[.int .i64 a0, .int .i64 a1] w fun e w' => e = .returned (.int .i64 0) ∧ Drawn0 w w' := by
  have HI := Aside0.mk hi
  clear hi
  go_enter Try.func34, Try.ntmps34
  go_wp2_with (go_at_call 33; refine (impl_in.calls a1 1 12 false _ HI.out).mono ?_; rintro e w' ⟨rfl, ⟨n, rfl⟩⟩)
  go_ret
  exact ⟨rfl, by repeat (first | exact Drawn0.refl _ | apply Drawn0.step)⟩
theorem impl_DayLast.feb (a0 : Int) (b : Bool) (r : Int) (w : World) (hl : impl_DayLeap.f a0 = some b) (hr : r = if b = true then 29 else 28) :
    Calls Try.prog 34 #[.int .i64 a0, .int .i64 2] w fun e w' => e = .returned (.int .i64 r) ∧ Drawn0 w w' := by
  have HL := Aside0.mk hl
  clear hl
  have k0 : ∀ w, (Instr.index 103 (.agg #[.int .i64 31, .int .i64 28, .int .i64 31, .int .i64 30, .int .i64 31, .int .i64 30, .int .i64 31, .int .i64 31, .int .i64 30, .int .i64 31, .int .i64 30, .int .i64 31]) (.int .i64 1)).run Try.prog w = .ok (.int .i64 28) w := fun w => by kernel_rfl
  subst hr
  cases b with
  | true =>
    go_enter Try.func34, Try.ntmps34
    go_wp2_with (first | (go_at_call 33; refine (impl_in.calls 2 1 12 true _ rfl).mono ?_; rintro e w' ⟨rfl, ⟨n, rfl⟩⟩) | (go_at_call 54; refine (impl_DayLeap.calls a0 true _ HL.out).mono ?_; rintro e w' ⟨rfl, ⟨n, rfl⟩⟩))
    go_ret
    exact ⟨rfl, by repeat (first | exact Drawn0.refl _ | apply Drawn0.step)⟩
  | false =>
    go_enter Try.func34, Try.ntmps34
    go_wp2_with (first | (go_at_call 33; refine (impl_in.calls 2 1 12 true _ rfl).mono ?_; rintro e w' ⟨rfl, ⟨n, rfl⟩⟩) | (go_at_call 54; refine (impl_DayLeap.calls a0 false _ HL.out).mono ?_; rintro e w' ⟨rfl, ⟨n, rfl⟩⟩))
    go_ret
    exact ⟨rfl, by repeat (first | exact Drawn0.refl _ | apply Drawn0.step)⟩
theorem impl_DayLast.mon1 (a0 : Int) (w : World) :
    Calls Try.prog 34 #[.int .i64 a0, .int .i64 1] w fun e w' => e = .returned (.int .i64 31) ∧ Drawn0 w w' := by
  have k0 : ∀ w, (Instr.index 103 (.agg #[.int .i64 31, .int .i64 28, .int .i64 31, .int .i64 30, .int .i64 31, .int .i64 30, .int .i64 31, .int .i64 31, .int .i64 30, .int .i64 31, .int .i64 30, .int .i64 31]) (.int .i64 0)).run Try.prog w = .ok (.int .i64 31) w := fun w => by kernel_rfl
  go_enter Try.func34, Try.ntmps34
  go_wp2_with (go_at_call 33; refine (impl_in.calls 1 1 12 true _ rfl).mono ?_; rintro e w' ⟨rfl, ⟨n, rfl⟩⟩)
  go_ret
  exact ⟨rfl, by repeat (first | exact Drawn0.refl _ | apply Drawn0.step)⟩
theorem impl_DayLast.mon3 (a0 : Int) (w : World) :
    Calls Try.prog 34 #[.int .i64 a0, .int .i64 3] w fun e w' => e = .returned (.int .i64 31) ∧ Drawn0 w w' := by
  have k0 : ∀ w, (Instr.index 103 (.agg #[.int .i64 31, .int .i64 28, .int .i64 31, .int .i64 30, .int .i64 31, .int .i64 30, .int .i64 31, .int .i64 31, .int .i64 30, .int .i64 31, .int .i64 30, .int .i64 31]) (.int .i64 2)).run Try.prog w = .ok (.int .i64 31) w := fun w => by kernel_rfl
  go_enter Try.func34, Try.ntmps34
  go_wp2_with (go_at_call 33; refine (impl_in.calls 3 1 12 true _ rfl).mono ?_; rintro e w' ⟨rfl, ⟨n, rfl⟩⟩)
  go_ret
  exact ⟨rfl, by repeat (first | exact Drawn0.refl _ | apply Drawn0.step)⟩
theorem impl_DayLast.mon4 (a0 : Int) (w : World) :
    Calls Try.prog 34 #[.int .i64 a0, .int .i64 4] w fun e w' => e = .returned (.int .i64 30) ∧ Drawn0 w w' := by
  have k0 : ∀ w, (Instr.index 103 (.agg #[.int .i64 31, .int .i64 28, .int .i64 31, .int .i64 30, .int .i64 31, .int .i64 30, .int .i64 31, .int .i64 31, .int .i64 30, .int .i64 31, .int .i64 30, .int .i64 31]) (.int .i64 3)).run Try.prog w = .ok (.int .i64 30) w := fun w => by kernel_rfl
  go_enter Try.func34, Try.ntmps34
  go_wp2_with (go_at_call 33; refine (impl_in.calls 4 1 12 true _ rfl).mono ?_; rintro e w' ⟨rfl, ⟨n, rfl⟩⟩)
  go_ret
  exact ⟨rfl, by repeat (first | exact Drawn0.refl _ | apply Drawn0.step)⟩
theorem impl_DayLast.mon5 (a0 : Int) (w : World) :
    Calls Try.prog 34 #[.int .i64 a0, .int .i64 5] w fun e w' => e = .returned (.int .i64 31) ∧ Drawn0 w w' := by
  have k0 : ∀ w, (Instr.index 103 (.agg #[.int .i64 31, .int .i64 28, .int .i64 31, .int .i64 30, .int .i64 31, .int .i64 30, .int .i64 31, .int .i64 31, .int .i64 30, .int .i64 31, .int .i64 30, .int .i64 31]) (.int .i64 4)).run Try.prog w = .ok (.int .i64 31) w := fun w => by kernel_rfl
  go_enter Try.func34, Try.ntmps34
  go_wp2_with (go_at_call 33; refine (impl_in.calls 5 1 12 true _ rfl).mono ?_; rintro e w' ⟨rfl, ⟨n, rfl⟩⟩)
  go_ret
  exact ⟨rfl, by repeat (first | exact Drawn0.refl _ | apply Drawn0.step)⟩
theorem impl_DayLast.mon6 (a0 : Int) (w : World) :
    Calls Try.prog 34 #[.int .i64 a0, .int .i64 6] w fun e w' => e = .returned (.int .i64 30) ∧ Drawn0 w w' := by
  have k0 : ∀ w, (Instr.index 103 (.agg #[.int .i64 31, .int .i64 28, .int .i64 31, .int .i64 30, .int .i64 31, .int .i64 30, .int .i64 31, .int .i64 31, .int .i64 30, .int .i64 31, .int .i64 30, .int .i64 31]) (.int .i64 5)).run Try.prog w = .ok (.int .i64 30) w := fun w => by kernel_rfl
  go_enter Try.func34, Try.ntmps34
  go_wp2_with (go_at_call 33; refine (impl_in.calls 6 1 12 true _ rfl).mono ?_; rintro e w' ⟨rfl, ⟨n, rfl⟩⟩)
  go_ret
  exact ⟨rfl, by repeat (first | exact Drawn0.refl _ | apply Drawn0.step)⟩
theorem impl_DayLast.mon7 (a0 : Int) (w : World) :
    Calls Try.prog 34 #[.int .i64 a0, .int .i64 7] w fun e w' => e = .returned (.int .i64 31) ∧ Drawn0 w w' := by
  have k0 : ∀ w, (Instr.index 103 (.agg #[.int .i64 31, .int .i64 28, .int .i64 31, .int .i64 30, .int .i64 31, .int .i64 30, .int .i64 31, .int .i64 31, .int .i64 30, .int .i64 31, .int .i64 30, .int .i64 31]) (.int .i64 6)).run Try.prog w = .ok (.int .i64 31) w := fun w => by kernel_rfl
  go_enter Try.func34, Try.ntmps34
  go_wp2_with (go_at_call 33; refine (impl_in.calls 7 1 12 true _ rfl).mono ?_; rintro e w' ⟨rfl, ⟨n, rfl⟩⟩)
  go_ret
  exact ⟨rfl, by repeat (first | exact Drawn0.refl _ | apply Drawn0.step)⟩
theorem impl_DayLast.mon8 (a0 : Int) (w : World) :
    Calls Try.prog 34 #[.int .i64 a0, .int .i64 8] w fun e w' => e = .returned (.int .i64 31) ∧ Drawn0 w w' := by
  have k0 : ∀ w, (Instr.index 103 (.agg #[.int .i64 31, .int .i64 28, .int .i64 31, .int .i64 30, .int .i64 31, .int .i64 30, .int .i64 31, .int .i64 31, .int .i64 30, .int .i64 31, .int .i64 30, .int .i64 31]) (.int .i64 7)).run Try.prog w = .ok (.int .i64 31) w := fun w => by kernel_rfl
  go_enter Try.func34, Try.ntmps34
  go_wp2_with (go_at_call 33; refine (impl_in.calls 8 1 12 true _ rfl).mono ?_; rintro e w' ⟨rfl, ⟨n, rfl⟩⟩)
  go_ret
  exact ⟨rfl, by repeat (first | exact Drawn0.refl _ | apply Drawn0.step)⟩
theorem impl_DayLast.mon9 (a0 : Int) (w : World) :
    Calls Try.prog 34 #[.int .i64 a0, .int .i64 9] w fun e w' => e = .returned (.int .i64 30) ∧ Drawn0 w w' := by
  have k0 : ∀ w, (Instr.index 103 (.agg #[.int .i64 31, .int .i64 28, .int .i64 31, .int .i64 30, .int .i64 31, .int .i64 30, .int .i64 31, .int .i64 31, .int .i64 30, .int .i64 31, .int .i64 30, .int .i64 31]) (.int .i64 8)).run Try.prog w = .ok (.int .i64 30) w := fun w => by kernel_rfl
  go_enter Try.func34, Try.ntmps34
  go_wp2_with (go_at_call 33; refine (impl_in.calls 9 1 12 true _ rfl).mono ?_; rintro e w' ⟨rfl, ⟨n, rfl⟩⟩)
  go_ret
  exact ⟨rfl, by repeat (first | exact Drawn0.refl _ | apply Drawn0.step)⟩
theorem impl_DayLast.mon10 (a0 : Int) (w : World) :
    Calls Try.prog 34 #[.int .i64 a0, .int .i64 10] w fun e w' => e = .returned (.int .i64 31) ∧ Drawn0 w w' := by
  have k0 : ∀ w, (Instr.index 103 (.agg #[.int .i64 31, .int .i64 28, .int .i64 31, .int .i64 30, .int .i64 31, .int .i64 30, .int .i64 31, .int .i64 31, .int .i64 30, .int .i64 31, .int .i64 30, .int .i64 31]) (.int .i64 9)).run Try.prog w = .ok (.int .i64 31) w := fun w => by kernel_rfl
  go_enter Try.func34, Try.ntmps34
  go_wp2_with (go_at_call 33; refine (impl_in.calls 10 1 12 true _ rfl).mono ?_; rintro e w' ⟨rfl, ⟨n, rfl⟩⟩)
  go_ret
  exact ⟨rfl, by repeat (first | exact Drawn0.refl _ | apply Drawn0.step)⟩
theorem impl_DayLast.mon11 (a0 : Int) (w : World) :
    Calls Try.prog 34 #[.int .i64 a0, .int .i64 11] w fun e w' => e = .returned (.int .i64 30) ∧ Drawn0 w w' := by
  have k0 : ∀ w, (Instr.index 103 (.agg #[.int .i64 31, .int .i64 28, .int .i64 31, .int .i64 30, .int .i64 31, .int .i64 30, .int .i64 31, .int .i64 31, .int .i64 30, .int .i64 31, .int .i64 30, .int .i64 31]) (.int .i64 10)).run Try.prog w = .ok (.int .i64 30) w := fun w => by kernel_rfl
  go_enter Try.func34, Try.ntmps34
  go_wp2_with (go_at_call 33; refine (impl_in.calls 11 1 12 true _ rfl).mono ?_; rintro e w' ⟨rfl, ⟨n, rfl⟩⟩)
  go_ret
  exact ⟨rfl, by repeat (first | exact Drawn0.refl _ | apply Drawn0.step)⟩
theorem impl_DayLast.mon12 (a0 : Int) (w : World) :
    Calls Try.prog 34 #[.int .i64 a0, .int .i64 12] w fun e w' => e = .returned (.int .i64 31) ∧ Drawn0 w w' := by
  have k0 : ∀ w, (Instr.index 103 (.agg #[.int .i64 31, .int .i64 28, .int .i64 31, .int .i64 30, .int .i64 31, .int .i64 30, .int .i64 31, .int .i64 31, .int .i64 30, .int .i64 31, .int .i64 30, .int .i64 31]) (.int .i64 11)).run Try.prog w = .ok (.int .i64 31) w := fun w => by kernel_rfl
  go_enter Try.func34, Try.ntmps34
  go_wp2_with (go_at_call 33; refine (impl_in.calls 12 1 12 true _ rfl).mono ?_; rintro e w' ⟨rfl, ⟨n, rfl⟩⟩)
  go_ret
  exact ⟨rfl, by repeat (first | exact Drawn0.refl _ | apply Drawn0.step)⟩
theorem impl_DayLast.mon (a0 m : Int) (w : World) (h1 : 1 ≤ m) (h2 : m ≤ 12) (h3 : m ≠ 2) :
    Calls Try.prog 34 #[.int .i64 a0, .int .i64 m] w fun e w' => e = .returned (.int .i64 (impl_DayLast.tab m)) ∧ Drawn0 w w' := by
  rcases (by omega : m = 1 ∨ m = 3 ∨ m = 4 ∨ m = 5 ∨ m = 6 ∨ m = 7 ∨ m = 8 ∨ m = 9 ∨ m = 10 ∨ m = 11 ∨ m = 12) with rfl | rfl | rfl | rfl | rfl | rfl | rfl | rfl | rfl | rfl | rfl
  · exact impl_DayLast.mon1 a0 w
  · exact impl_DayLast.mon3 a0 w
  · exact impl_DayLast.mon4 a0 w
  · exact impl_DayLast.mon5 a0 w
  · exact impl_DayLast.mon6 a0 w
  · exact impl_DayLast.mon7 a0 w
  · exact impl_DayLast.mon8 a0 w
  · exact impl_DayLast.mon9 a0 w
  · exact impl_DayLast.mon10 a0 w
  · exact impl_DayLast.mon11 a0 w
  · exact impl_DayLast.mon12 a0 w
theorem impl_DayLast.calls (a0 : Int) (a1 : Int) (r : Int) (w : World) (h : impl_DayLast.f a0 a1 = some r) :
    Calls Try.prog 34 #[.int .i64 a0, .int .i64 a1] w fun e w' => e = .returned (.int .i64 r) ∧ Drawn0 w w' := by
  unfold impl_DayLast.f at h
  split at h
  · rename_i g1
    split at h
    · rename_i g2
      split at h
      · rename_i g3
        subst g3
        obtain ⟨b, hb, h⟩ := Option.bind_eq_some_iff.mp h
        refine impl_DayLast.feb a0 b r w hb ?_
        cases b <;> simpa using h.symm
      · rename_i g3
        obtain rfl := Option.some.inj h
        exact impl_DayLast.mon a0 a1 w g1 g2 g3
    · rename_i g2
      obtain rfl := Option.some.inj h
      exact impl_DayLast.out a0 a1 w (by unfold impl_in.f; rw [if_pos g1, decide_eq_false g2])
  · rename_i g1
    obtain rfl := Option.some.inj h
    exact impl_DayLast.out a0 a1 w (by unfold impl_in.f; rw [if_neg g1])

/-! ### impl_DayOk: function 21 -/
def impl_DayOk.f (a0_0 : Int) (a0_1 : Int) (a0_2 : Int) : Option (Bool) := (impl_in.f a0_0 1900 2199).bind fun t1285 => (if t1285 = true then ((impl_DayLast.f a0_0 a0_1).bind fun t1286 => ((impl_in.f a0_2 1 t1286).bind fun t1287 => (some t1287))) else (some false))
set_option maxHeartbeats 8000000 in
set_option maxRecDepth 100000 in
theorem impl_DayOk.calls (a0_0 : Int) (a0_1 : Int) (a0_2 : Int) (r : Bool) (w : World) (h : impl_DayOk.f a0_0 a0_1 a0_2 = some r) :
    Calls Try.prog 21 #[.agg #[.int .i64 a0_0, .int .i64 a0_1, .int .i64 a0_2]] w fun e w' => e = .returned (.bool r) ∧ Below w.heap.size w w' := by
  have hu56 := Try.underlying56
  have HB := Aside0.mk (Below.refl w.heap.size w)
  have H : ((impl_in.f a0_0 1900 2199).bind fun t1285 => (if t1285 = true then ((impl_DayLast.f a0_0 a0_1).bind fun t1286 => ((impl_in.f a0_2 1 t1286).bind fun t1287 => (some t1287))) else (some false))) = some r := h
  clear h
  replace H := Option.bind_eq_some_iff.mp H
  obtain ⟨t1285, A20, H⟩ := H
  replace H : (if t1285 = true then ((impl_DayLast.f a0_0 a0_1).bind fun t1286 => ((impl_in.f a0_2 1 t1286).bind fun t1287 => (some t1287))) else (some false)) = some r := H
  have A2 := Aside0.mk A20
  clear A20
  by_cases c3 : t1285 = true
  · subst c3
    have H1 : ((impl_DayLast.f a0_0 a0_1).bind fun t1286 => ((impl_in.f a0_2 1 t1286).bind fun t1287 => (some t1287))) = some r := by rw [if_pos rfl] at H; exact H
    clear H
    have H := H1
    clear H1
    replace H := Option.bind_eq_some_iff.mp H
    obtain ⟨t1286, A40, H⟩ := H
    replace H : ((impl_in.f a0_2 1 t1286).bind fun t1287 => (some t1287)) = some r := H
    have A4 := Aside0.mk A40
    clear A40
    replace H := Option.bind_eq_some_iff.mp H
    obtain ⟨t1287, A50, H⟩ := H
    replace H : (some t1287) = some r := H
    have A5 := Aside0.mk A50
    clear A50
    obtain rfl := Option.some.inj H
    go_enter Try.func21, Try.ntmps21
    go_wp2_with (first | ((with_reducible refine gate_dst (N := 1) rfl ?_); refine box_event ?hg (N := 1) ?hd (cs := #[.int .i64 a0_0, .int .i64 a0_1, .int .i64 a0_2]) (t := 56) ?hr ?_; (case hd => rfl); (case hg => rfl); (case hr => first | (go_simp; done) | (go_simp; rfl)); intro gb1284 hg w6 hbox hb; have n0_ := Aside0.mk (below_step (by repeat (first | (with_reducible first | exact HB.out | apply below_alloc | apply pw_below_drewN | apply below_drew1) | exact HB.out)) hb); have n1_ := Aside0.mk (hbox); have n2_ := Aside0.mk ((by rw [hg]; exact (below_size (by repeat (first | (with_reducible first | exact HB.out | apply below_alloc | apply pw_below_drewN | apply below_drew1) | exact HB.out))) : w.heap.size ≤ gb1284)); have n3_ := Aside0.mk ((by rw [hg]; exact (below_size (by repeat (first | (with_reducible first | exact HB.out | apply below_alloc | apply pw_below_drewN | apply below_drew1) | exact HB.out))) : w.heap.size ≤ gb1284)); clear HB; have HB := n0_; have BK1284 := n1_; have GW1284 := n2_; have GE1284 := n3_; clear n0_ n1_ n2_ n3_; clear hb hbox hg; have hcz7_0 : w6.cell? ⟨gb1284, 0, none⟩ = some (.int .i64 a0_0) := (blk_cell BK1284.out 0).trans rfl; have hcz7_1 : w6.cell? ⟨gb1284, 1, none⟩ = some (.int .i64 a0_1) := (blk_cell BK1284.out 1).trans rfl; have hcz7_2 : w6.cell? ⟨gb1284, 2, none⟩ = some (.int .i64 a0_2) := (blk_cell BK1284.out 2).trans rfl; have hfz7_0 := blk_frozen BK1284.out 0; have hfz7_1 := blk_frozen BK1284.out 1; have hfz7_2 := blk_frozen BK1284.out 2) | (go_at_call 33; (with_reducible refine (impl_in.calls a0_0 1900 2199 true _ A2.out).mono ?_); rintro e w' ⟨rfl, ⟨nd, rfl⟩⟩; (try first | exact ⟨rfl, _, World.drewN_drewN _ _ _⟩ | exact ⟨rfl, _, Eq.trans (World.drewN_drewN _ _ _) (congrArg (World.drewN _) (Nat.add_assoc _ _ _))⟩)) | (go_at_call 34; (with_reducible refine (impl_DayLast.calls a0_0 a0_1 t1286 _ A4.out).mono ?_); rintro e w' ⟨rfl, ⟨nd, rfl⟩⟩; (try first | exact ⟨rfl, _, World.drewN_drewN _ _ _⟩ | exact ⟨rfl, _, Eq.trans (World.drewN_drewN _ _ _) (congrArg (World.drewN _) (Nat.add_assoc _ _ _))⟩)) | (go_at_call 33; (with_reducible refine (impl_in.calls a0_2 1 t1286 t1287 _ A5.out).mono ?_); rintro e w' ⟨rfl, ⟨nd, rfl⟩⟩; (try first | exact ⟨rfl, _, World.drewN_drewN _ _ _⟩ | exact ⟨rfl, _, Eq.trans (World.drewN_drewN _ _ _) (congrArg (World.drewN _) (Nat.add_assoc _ _ _))⟩)))
    repeat (go_quiet (first | ((with_reducible refine gate_dst (N := 1) rfl ?_); refine box_event ?hg (N := 1) ?hd (cs := #[.int .i64 a0_0, .int .i64 a0_1, .int .i64 a0_2]) (t := 56) ?hr ?_; (case hd => rfl); (case hg => rfl); (case hr => first | (go_simp; done) | (go_simp; rfl)); intro gb1284 hg w6 hbox hb; have n0_ := Aside0.mk (below_step (by repeat (first | (with_reducible first | exact HB.out | apply below_alloc | apply pw_below_drewN | apply below_drew1) | exact HB.out)) hb); have n1_ := Aside0.mk (hbox); have n2_ := Aside0.mk ((by rw [hg]; exact (below_size (by repeat (first | (with_reducible first | exact HB.out | apply below_alloc | apply pw_below_drewN | apply below_drew1) | exact HB.out))) : w.heap.size ≤ gb1284)); have n3_ := Aside0.mk ((by rw [hg]; exact (below_size (by repeat (first | (with_reducible first | exact HB.out | apply below_alloc | apply pw_below_drewN | apply below_drew1) | exact HB.out))) : w.heap.size ≤ gb1284)); clear HB; have HB := n0_; have BK1284 := n1_; have GW1284 := n2_; have GE1284 := n3_; clear n0_ n1_ n2_ n3_; clear hb hbox hg; have hcz7_0 : w6.cell? ⟨gb1284, 0, none⟩ = some (.int .i64 a0_0) := (blk_cell BK1284.out 0).trans rfl; have hcz7_1 : w6.cell? ⟨gb1284, 1, none⟩ = some (.int .i64 a0_1) := (blk_cell BK1284.out 1).trans rfl; have hcz7_2 : w6.cell? ⟨gb1284, 2, none⟩ = some (.int .i64 a0_2) := (blk_cell BK1284.out 2).trans rfl; have hfz7_0 := blk_frozen BK1284.out 0; have hfz7_1 := blk_frozen BK1284.out 1; have hfz7_2 := blk_frozen BK1284.out 2) | (go_at_call 33; (with_reducible refine (impl_in.calls a0_0 1900 2199 true _ A2.out).mono ?_); rintro e w' ⟨rfl, ⟨nd, rfl⟩⟩; (try first | exact ⟨rfl, _, World.drewN_drewN _ _ _⟩ | exact ⟨rfl, _, Eq.trans (World.drewN_drewN _ _ _) (congrArg (World.drewN _) (Nat.add_assoc _ _ _))⟩)) | (go_at_call 34; (with_reducible refine (impl_DayLast.calls a0_0 a0_1 t1286 _ A4.out).mono ?_); rintro e w' ⟨rfl, ⟨nd, rfl⟩⟩; (try first | exact ⟨rfl, _, World.drewN_drewN _ _ _⟩ | exact ⟨rfl, _, Eq.trans (World.drewN_drewN _ _ _) (congrArg (World.drewN _) (Nat.add_assoc _ _ _))⟩)) | (go_at_call 33; (with_reducible refine (impl_in.calls a0_2 1 t1286 t1287 _ A5.out).mono ?_); rintro e w' ⟨rfl, ⟨nd, rfl⟩⟩; (try first | exact ⟨rfl, _, World.drewN_drewN _ _ _⟩ | exact ⟨rfl, _, Eq.trans (World.drewN_drewN _ _ _) (congrArg (World.drewN _) (Nat.add_assoc _ _ _))⟩))); try go_wp2_with (first | ((with_reducible refine gate_dst (N := 1) rfl ?_); refine box_event ?hg (N := 1) ?hd (cs := #[.int .i64 a0_0, .int .i64 a0_1, .int .i64 a0_2]) (t := 56) ?hr ?_; (case hd => rfl); (case hg => rfl); (case hr => first | (go_simp; done) | (go_simp; rfl)); intro gb1284 hg w6 hbox hb; have n0_ := Aside0.mk (below_step (by repeat (first | (with_reducible first | exact HB.out | apply below_alloc | apply pw_below_drewN | apply below_drew1) | exact HB.out)) hb); have n1_ := Aside0.mk (hbox); have n2_ := Aside0.mk ((by rw [hg]; exact (below_size (by repeat (first | (with_reducible first | exact HB.out | apply below_alloc | apply pw_below_drewN | apply below_drew1) | exact HB.out))) : w.heap.size ≤ gb1284)); have n3_ := Aside0.mk ((by rw [hg]; exact (below_size (by repeat (first | (with_reducible first | exact HB.out | apply below_alloc | apply pw_below_drewN | apply below_drew1) | exact HB.out))) : w.heap.size ≤ gb1284)); clear HB; have HB := n0_; have BK1284 := n1_; have GW1284 := n2_; have GE1284 := n3_; clear n0_ n1_ n2_ n3_; clear hb hbox hg; have hcz7_0 : w6.cell? ⟨gb1284, 0, none⟩ = some (.int .i64 a0_0) := (blk_cell BK1284.out 0).trans rfl; have hcz7_1 : w6.cell? ⟨gb1284, 1, none⟩ = some (.int .i64 a0_1) := (blk_cell BK1284.out 1).trans rfl; have hcz7_2 : w6.cell? ⟨gb1284, 2, none⟩ = some (.int .i64 a0_2) := (blk_cell BK1284.out 2).trans rfl; have hfz7_0 := blk_frozen BK1284.out 0; have hfz7_1 := blk_frozen BK1284.out 1; have hfz7_2 := blk_frozen BK1284.out 2) | (go_at_call 33; (with_reducible refine (impl_in.calls a0_0 1900 2199 true _ A2.out).mono ?_); rintro e w' ⟨rfl, ⟨nd, rfl⟩⟩; (try first | exact ⟨rfl, _, World.drewN_drewN _ _ _⟩ | exact ⟨rfl, _, Eq.trans (World.drewN_drewN _ _ _) (congrArg (World.drewN _) (Nat.add_assoc _ _ _))⟩)) | (go_at_call 34; (with_reducible refine (impl_DayLast.calls a0_0 a0_1 t1286 _ A4.out).mono ?_); rintro e w' ⟨rfl, ⟨nd, rfl⟩⟩; (try first | exact ⟨rfl, _, World.drewN_drewN _ _ _⟩ | exact ⟨rfl, _, Eq.trans (World.drewN_drewN _ _ _) (congrArg (World.drewN _) (Nat.add_assoc _ _ _))⟩)) | (go_at_call 33; (with_reducible refine (impl_in.calls a0_2 1 t1286 t1287 _ A5.out).mono ?_); rintro e w' ⟨rfl, ⟨nd, rfl⟩⟩; (try first | exact ⟨rfl, _, World.drewN_drewN _ _ _⟩ | exact ⟨rfl, _, Eq.trans (World.drewN_drewN _ _ _) (congrArg (World.drewN _) (Nat.add_assoc _ _ _))⟩))))
    go_ret
    exact ⟨by first | rfl | (simp [errW_none, errW_some] <;> rfl) | (simp [*, errW_none, errW_some] <;> rfl), by repeat (first | (with_reducible first | exact HB.out | apply below_alloc | apply pw_below_drewN | apply below_drew1 | refine below_set ?_ GE1284.out) | exact HB.out)⟩
  · replace c3 := Bool.eq_false_iff.mpr c3
    subst c3
    have H1 : (some false) = some r := by rw [if_neg (show ¬ (false = true) by decide)] at H; exact H
    clear H
    have H := H1
    clear H1
    obtain rfl := Option.some.inj H
    go_enter Try.func21, Try.ntmps21
    go_wp2_with (first | ((with_reducible refine gate_dst (N := 1) rfl ?_); refine box_event ?hg (N := 1) ?hd (cs := #[.int .i64 a0_0, .int .i64 a0_1, .int .i64 a0_2]) (t := 56) ?hr ?_; (case hd => rfl); (case hg => rfl); (case hr => first | (go_simp; done) | (go_simp; rfl)); intro gb1284 hg w8 hbox hb; have n0_ := Aside0.mk (below_step (by repeat (first | (with_reducible first | exact HB.out | apply below_alloc | apply pw_below_drewN | apply below_drew1) | exact HB.out)) hb); have n1_ := Aside0.mk (hbox); have n2_ := Aside0.mk ((by rw [hg]; exact (below_size (by repeat (first | (with_reducible first | exact HB.out | apply below_alloc | apply pw_below_drewN | apply below_drew1) | exact HB.out))) : w.heap.size ≤ gb1284)); have n3_ := Aside0.mk ((by rw [hg]; exact (below_size (by repeat (first | (with_reducible first | exact HB.out | apply below_alloc | apply pw_below_drewN | apply below_drew1) | exact HB.out))) : w.heap.size ≤ gb1284)); clear HB; have HB := n0_; have BK1284 := n1_; have GW1284 := n2_; have GE1284 := n3_; clear n0_ n1_ n2_ n3_; clear hb hbox hg; have hcz9_0 : w8.cell? ⟨gb1284, 0, none⟩ = some (.int .i64 a0_0) := (blk_cell BK1284.out 0).trans rfl; have hcz9_1 : w8.cell? ⟨gb1284, 1, none⟩ = some (.int .i64 a0_1) := (blk_cell BK1284.out 1).trans rfl; have hcz9_2 : w8.cell? ⟨gb1284, 2, none⟩ = some (.int .i64 a0_2) := (blk_cell BK1284.out 2).trans rfl; have hfz9_0 := blk_frozen BK1284.out 0; have hfz9_1 := blk_frozen BK1284.out 1; have hfz9_2 := blk_frozen BK1284.out 2) | (go_at_call 33; (with_reducible refine (impl_in.calls a0_0 1900 2199 false _ A2.out).mono ?_); rintro e w' ⟨rfl, ⟨nd, rfl⟩⟩; (try first | exact ⟨rfl, _, World.drewN_drewN _ _ _⟩ | exact ⟨rfl, _, Eq.trans (World.drewN_drewN _ _ _) (congrArg (World.drewN _) (Nat.add_assoc _ _ _))⟩)))
    repeat (go_quiet (first | ((with_reducible refine gate_dst (N := 1) rfl ?_); refine box_event ?hg (N := 1) ?hd (cs := #[.int .i64 a0_0, .int .i64 a0_1, .int .i64 a0_2]) (t := 56) ?hr ?_; (case hd => rfl); (case hg => rfl); (case hr => first | (go_simp; done) | (go_simp; rfl)); intro gb1284 hg w8 hbox hb; have n0_ := Aside0.mk (below_step (by repeat (first | (with_reducible first | exact HB.out | apply below_alloc | apply pw_below_drewN | apply below_drew1) | exact HB.out)) hb); have n1_ := Aside0.mk (hbox); have n2_ := Aside0.mk ((by rw [hg]; exact (below_size (by repeat (first | (with_reducible first | exact HB.out | apply below_alloc | apply pw_below_drewN | apply below_drew1) | exact HB.out))) : w.heap.size ≤ gb1284)); have n3_ := Aside0.mk ((by rw [hg]; exact (below_size (by repeat (first | (with_reducible first | exact HB.out | apply below_alloc | apply pw_below_drewN | apply below_drew1) | exact HB.out))) : w.heap.size ≤ gb1284)); clear HB; have HB := n0_; have BK1284 := n1_; have GW1284 := n2_; have GE1284 := n3_; clear n0_ n1_ n2_ n3_; clear hb hbox hg; have hcz9_0 : w8.cell? ⟨gb1284, 0, none⟩ = some (.int .i64 a0_0) := (blk_cell BK1284.out 0).trans rfl; have hcz9_1 : w8.cell? ⟨gb1284, 1, none⟩ = some (.int .i64 a0_1) := (blk_cell BK1284.out 1).trans rfl; have hcz9_2 : w8.cell? ⟨gb1284, 2, none⟩ = some (.int .i64 a0_2) := (blk_cell BK1284.out 2).trans rfl; have hfz9_0 := blk_frozen BK1284.out 0; have hfz9_1 := blk_frozen BK1284.out 1; have hfz9_2 := blk_frozen BK1284.out 2) | (go_at_call 33; (with_reducible refine (impl_in.calls a0_0 1900 2199 false _ A2.out).mono ?_); rintro e w' ⟨rfl, ⟨nd, rfl⟩⟩; (try first | exact ⟨rfl, _, World.drewN_drewN _ _ _⟩ | exact ⟨rfl, _, Eq.trans (World.drewN_drewN _ _ _) (congrArg (World.drewN _) (Nat.add_assoc _ _ _))⟩))); try go_wp2_with (first | ((with_reducible refine gate_dst (N := 1) rfl ?_); refine box_event ?hg (N := 1) ?hd (cs := #[.int .i64 a0_0, .int .i64 a0_1, .int .i64 a0_2]) (t := 56) ?hr ?_; (case hd => rfl); (case hg => rfl); (case hr => first | (go_simp; done) | (go_simp; rfl)); intro gb1284 hg w8 hbox hb; have n0_ := Aside0.mk (below_step (by repeat (first | (with_reducible first | exact HB.out | apply below_alloc | apply pw_below_drewN | apply below_drew1) | exact HB.out)) hb); have n1_ := Aside0.mk (hbox); have n2_ := Aside0.mk ((by rw [hg]; exact (below_size (by repeat (first | (with_reducible first | exact HB.out | apply below_alloc | apply pw_below_drewN | apply below_drew1) | exact HB.out))) : w.heap.size ≤ gb1284)); have n3_ := Aside0.mk ((by rw [hg]; exact (below_size (by repeat (first | (with_reducible first | exact HB.out | apply below_alloc | apply pw_below_drewN | apply below_drew1) | exact HB.out))) : w.heap.size ≤ gb1284)); clear HB; have HB := n0_; have BK1284 := n1_; have GW1284 := n2_; have GE1284 := n3_; clear n0_ n1_ n2_ n3_; clear hb hbox hg; have hcz9_0 : w8.cell? ⟨gb1284, 0, none⟩ = some (.int .i64 a0_0) := (blk_cell BK1284.out 0).trans rfl; have hcz9_1 : w8.cell? ⟨gb1284, 1, none⟩ = some (.int .i64 a0_1) := (blk_cell BK1284.out 1).trans rfl; have hcz9_2 : w8.cell? ⟨gb1284, 2, none⟩ = some (.int .i64 a0_2) := (blk_cell BK1284.out 2).trans rfl; have hfz9_0 := blk_frozen BK1284.out 0; have hfz9_1 := blk_frozen BK1284.out 1; have hfz9_2 := blk_frozen BK1284.out 2) | (go_at_call 33; (with_reducible refine (impl_in.calls a0_0 1900 2199 false _ A2.out).mono ?_); rintro e w' ⟨rfl, ⟨nd, rfl⟩⟩; (try first | exact ⟨rfl, _, World.drewN_drewN _ _ _⟩ | exact ⟨rfl, _, Eq.trans (World.drewN_drewN _ _ _) (congrArg (World.drewN _) (Nat.add_assoc _ _ _))⟩))))
    go_ret
    exact ⟨by first | rfl | (simp [errW_none, errW_some] <;> rfl) | (simp [*, errW_none, errW_some] <;> rfl), by repeat (first | (with_reducible first | exact HB.out | apply below_alloc | apply pw_below_drewN | apply below_drew1 | refine below_set ?_ GE1284.out) | exact HB.out)⟩

/-! ### laws_cuOk: function 9 -/
def laws_cuOk.f  : Option (Bool) := (impl_DayOk.f 2000 2 29).bind fun t1288 => (some t1288)
set_option maxHeartbeats 8000000 in
set_option maxRecDepth 100000 in
theorem laws_cuOk.calls  (r : Bool) (w : World) (h : laws_cuOk.f  = some r) :
    Calls Try.prog 9 #[] w fun e w' => e = .returned (.bool r) ∧ Below w.heap.size w w' := by
  have hu56 := Try.underlying56
  have HB := Aside0.mk (Below.refl w.heap.size w)
  have H : ((impl_DayOk.f 2000 2 29).bind fun t1288 => (some t1288)) = some r := h
  clear h
  replace H := Option.bind_eq_some_iff.mp H
  obtain ⟨t1288, A10, H⟩ := H
  replace H : (some t1288) = some r := H
  have A1 := Aside0.mk A10
  clear A10
  obtain rfl := Option.some.inj H
  go_enter Try.func9, Try.ntmps9
  go_wp2_with (first | ((with_reducible refine gate_callee (f := 21) rfl ?_); refine goesL_ (some 2) rfl rfl Try.func21 (by kernel_rfl) rfl #[.agg #[.int .i64 2000, .int .i64 2, .int .i64 29]] rfl (by (try simp only [List.map_toArray, List.map_cons, List.map_nil]); first | done | rfl | (simp only [List.length_drop, List.length_take]; rfl)) ?_; (with_reducible refine (impl_DayOk.calls 2000 2 29 t1288 _ A1.out).mono ?_); rintro e w2 ⟨rfl, hb⟩; refine ⟨_, rfl, ?_⟩; have n0_ := Aside0.mk (below_step (by repeat (first | (with_reducible first | exact HB.out | apply below_alloc | apply pw_below_drewN | apply below_drew1) | exact HB.out)) hb); clear HB; have HB := n0_; clear n0_; (try clear hb); (try clear hb2); (try clear hk); (try clear hi)))
  go_ret
  exact ⟨by first | rfl | (simp [errW_none, errW_some] <;> rfl) | (simp [*, errW_none, errW_some] <;> rfl), by repeat (first | (with_reducible first | exact HB.out | apply below_alloc | apply pw_below_drewN | apply below_drew1) | exact HB.out)⟩

/-! ### impl_BatSigned: function 15 -/
mutual
def impl_BatSigned.l0 : Nat → Int → Int → Int → List (S41) → Int → Int → Option (Int)
  | 0, _, _, _, _, _, _ => none
  | k + 1, x1, x2, x7, x13, x14, x15 => if x15 < x14 then (if 0 ≤ x15 then (if x15 < (x13.length : Int) then (if ((rd_T41 x13 x15).f1) = x1 then (if ((rd_T41 x13 x15).f2) = x7 then (impl_BatSigned.j1 k x1 x2 x7 x13 x14 x15 (((rd_T41 x13 x15).f0) != x2) ((rd_T41 x13 x15).f0) ((rd_T41 x13 x15).f1) ((rd_T41 x13 x15).f2)) else (impl_BatSigned.j1 k x1 x2 x7 x13 x14 x15 false ((rd_T41 x13 x15).f0) ((rd_T41 x13 x15).f1) ((rd_T41 x13 x15).f2))) else (impl_BatSigned.j1 k x1 x2 x7 x13 x14 x15 false ((rd_T41 x13 x15).f0) ((rd_T41 x13 x15).f1) ((rd_T41 x13 x15).f2))) else (none)) else (none)) else (some 0)
def impl_BatSigned.j1 : Nat → Int → Int → Int → List (S41) → Int → Int → Bool → Int → Int → Int → Option (Int)
  | 0, _, _, _, _, _, _, _, _, _, _ => none
  | k + 1, x1, x2, x7, x13, x14, x15, x34, x1297000, x1297001, x1297002 => if x34 = true then (some x1297000) else (impl_BatSigned.l0 k x1 x2 x7 x13 x14 (wrap64 (x15 + 1)))
end
def impl_BatSigned.f (k : Nat) (a0_0 : Int) (a0_1 : Int) (l0_2 : List (S52)) (a0_3 : Int) (l0_4 : List (S41)) (l0_5 : List Bool) (a1 : Int) (a2 : Int) : Option (Int) := (impl_BatMark.f k a0_0 a0_1 l0_2 a0_3 l0_4 l0_5).bind fun t1294 => (impl_BatSigned.l0 k a1 a2 t1294 l0_4 (l0_4.length : Int) 0)
theorem impl_BatSigned.mono_l : ∀ k, (∀ y0 y1 y2 y3 y4 y5, LeO (impl_BatSigned.l0 k y0 y1 y2 y3 y4 y5) (impl_BatSigned.l0 (k + 1) y0 y1 y2 y3 y4 y5)) ∧ (∀ y0 y1 y2 y3 y4 y5 y6 y7 y8 y9, LeO (impl_BatSigned.j1 k y0 y1 y2 y3 y4 y5 y6 y7 y8 y9) (impl_BatSigned.j1 (k + 1) y0 y1 y2 y3 y4 y5 y6 y7 y8 y9))
  | 0 => ⟨fun _ _ _ _ _ _ r h => by simp [impl_BatSigned.l0] at h, fun _ _ _ _ _ _ _ _ _ _ r h => by simp [impl_BatSigned.j1] at h⟩
  | k + 1 => by
    obtain ⟨ih0, ih1⟩ := impl_BatSigned.mono_l k
    refine ⟨?_, ?_⟩
    · intro y0 y1 y2 y3 y4 y5
      unfold impl_BatSigned.l0
      repeat' first
      | (with_reducible exact ih0 _ _ _ _ _ _)
      | (with_reducible exact ih1 _ _ _ _ _ _ _ _ _ _)
      | (with_reducible exact impl_BatMark.mono _ _ _ _ _ _ _)
      | (with_reducible exact LeO.refl _)
      | (with_reducible exact LeO.none _)
      | (with_reducible refine LeO.ite ?_ ?_)
      | (with_reducible refine LeO.bind ?_ (fun _ => ?_))
      | exact ih0 _ _ _ _ _ _
      | exact ih1 _ _ _ _ _ _ _ _ _ _
      | exact impl_BatMark.mono _ _ _ _ _ _ _
      | exact LeO.none _
      | refine LeO.ite ?_ ?_
      | refine LeO.bind ?_ (fun _ => ?_)
    · intro y0 y1 y2 y3 y4 y5 y6 y7 y8 y9
      unfold impl_BatSigned.j1
      repeat' first
      | (with_reducible exact ih0 _ _ _ _ _ _)
      | (with_reducible exact ih1 _ _ _ _ _ _ _ _ _ _)
      | (with_reducible exact impl_BatMark.mono _ _ _ _ _ _ _)
      | (with_reducible exact LeO.refl _)
      | (with_reducible exact LeO.none _)
      | (with_reducible refine LeO.ite ?_ ?_)
      | (with_reducible refine LeO.bind ?_ (fun _ => ?_))
      | exact ih0 _ _ _ _ _ _
      | exact ih1 _ _ _ _ _ _ _ _ _ _
      | exact impl_BatMark.mono _ _ _ _ _ _ _
      | exact LeO.none _
      | refine LeO.ite ?_ ?_
      | refine LeO.bind ?_ (fun _ => ?_)
theorem impl_BatSigned.mono : ∀ a0 a1 a2 a3 a4 a5 a6 a7 k, LeO (impl_BatSigned.f k a0 a1 a2 a3 a4 a5 a6 a7) (impl_BatSigned.f (k + 1) a0 a1 a2 a3 a4 a5 a6 a7) := by
  intro a0 a1 a2 a3 a4 a5 a6 a7 k
  obtain ⟨ih0, ih1⟩ := impl_BatSigned.mono_l k
  unfold impl_BatSigned.f
  repeat' first
      | (with_reducible exact ih0 _ _ _ _ _ _)
      | (with_reducible exact ih1 _ _ _ _ _ _ _ _ _ _)
      | (with_reducible exact impl_BatMark.mono _ _ _ _ _ _ _)
      | (with_reducible exact LeO.refl _)
      | (with_reducible exact LeO.none _)
      | (with_reducible refine LeO.ite ?_ ?_)
      | (with_reducible refine LeO.bind ?_ (fun _ => ?_))
      | exact ih0 _ _ _ _ _ _
      | exact ih1 _ _ _ _ _ _ _ _ _ _
      | exact impl_BatMark.mono _ _ _ _ _ _ _
      | exact LeO.none _
      | refine LeO.ite ?_ ?_
      | refine LeO.bind ?_ (fun _ => ?_)
set_option maxHeartbeats 8000000 in
set_option maxRecDepth 100000 in
theorem impl_BatSigned.calls (k : Nat) (a0_0 : Int) (a0_1 : Int) (A0_2 : Option Addr) (c0_2 : Nat) (l0_2 : List (S52)) (a0_3 : Int) (A0_4 : Option Addr) (c0_4 : Nat) (l0_4 : List (S41)) (A0_5 : Option Addr) (c0_5 : Nat) (l0_5 : List Bool) (a1 : Int) (a2 : Int) (r : Int) (w : World) (hr0_2 : Kd.C k52 w A0_2 l0_2.length l0_2) (hc0_2 : l0_2.length ≤ c0_2) (hr0_4 : Kd.C k41 w A0_4 l0_4.length l0_4) (hc0_4 : l0_4.length ≤ c0_4) (hr0_5 : Kd.C Kd.bool w A0_5 l0_5.length l0_5) (hc0_5 : l0_5.length ≤ c0_5) (h : impl_BatSigned.f k a0_0 a0_1 l0_2 a0_3 l0_4 l0_5 a1 a2 = some r) :
    Calls Try.prog 15 #[.agg #[.int .i64 a0_0, .int .i64 a0_1, .slice A0_2 l0_2.length c0_2, .int .i64 a0_3, .slice A0_4 l0_4.length c0_4, .slice A0_5 l0_5.length c0_5], .int .i64 a1, .int .i64 a2] w fun e w' => e = .returned (.int .i64 r) ∧ Below w.heap.size w w' := by
  have hu27 := Try.underlying27
  have hu41 := Try.underlying41
  have HR0_2 := Aside0.mk hr0_2
  have HC0_2 := Aside0.mk hc0_2
  clear hr0_2 hc0_2
  have HR0_4 := Aside0.mk hr0_4
  have HC0_4 := Aside0.mk hc0_4
  clear hr0_4 hc0_4
  have HR0_5 := Aside0.mk hr0_5
  have HC0_5 := Aside0.mk hc0_5
  clear hr0_5 hc0_5
  have HB := Aside0.mk (Below.refl w.heap.size w)
  have H : ((impl_BatMark.f k a0_0 a0_1 l0_2 a0_3 l0_4 l0_5).bind fun t1294 => (impl_BatSigned.l0 k a1 a2 t1294 l0_4 (l0_4.length : Int) 0)) = some r := h
  clear h
  replace H := Option.bind_eq_some_iff.mp H
  obtain ⟨t1294, A40, H⟩ := H
  replace H : (impl_BatSigned.l0 k a1 a2 t1294 l0_4 (l0_4.length : Int) 0) = some r := H
  have A4 := Aside0.mk A40
  clear A40
  have H' := Aside0.mk H
  clear H
  go_enter Try.func15, Try.ntmps15
  go_wp2_with (first | ((with_reducible refine gate_dst (N := 3) rfl ?_); refine box_event ?hg (N := 3) ?hd (cs := #[.int .i64 a0_0, .int .i64 a0_1, .slice A0_2 l0_2.length c0_2, .int .i64 a0_3, .slice A0_4 l0_4.length c0_4, .slice A0_5 l0_5.length c0_5]) (t := 27) ?hr ?_; (case hd => rfl); (case hg => rfl); (case hr => first | (go_simp; done) | (go_simp; rfl)); intro gb1293 hg w5 hbox hb; have n0_ := Aside0.mk (below_step (by repeat (first | (with_reducible first | exact HB.out | apply below_alloc | apply pw_below_drewN | apply below_drew1) | exact HB.out)) hb); have n1_ := Aside0.mk (hbox); have n2_ := Aside0.mk ((by rw [hg]; exact (below_size (by repeat (first | (with_reducible first | exact HB.out | apply below_alloc | apply pw_below_drewN | apply below_drew1) | exact HB.out))) : w.heap.size ≤ gb1293)); have n3_ := Aside0.mk ((by rw [hg]; exact (below_size (by repeat (first | (with_reducible first | exact HB.out | apply below_alloc | apply pw_below_drewN | apply below_drew1) | exact HB.out))) : w.heap.size ≤ gb1293)); clear HB; have HB := n0_; have BK1293 := n1_; have GW1293 := n2_; have GE1293 := n3_; clear n0_ n1_ n2_ n3_; clear hb hbox hg; have hcz6_0 : w5.cell? ⟨gb1293, 0, none⟩ = some (.int .i64 a0_0) := (blk_cell BK1293.out 0).trans rfl; have hcz6_1 : w5.cell? ⟨gb1293, 1, none⟩ = some (.int .i64 a0_1) := (blk_cell BK1293.out 1).trans rfl; have hcz6_2 : w5.cell? ⟨gb1293, 2, none⟩ = some (.slice A0_2 l0_2.length c0_2) := (blk_cell BK1293.out 2).trans rfl; have hcz6_3 : w5.cell? ⟨gb1293, 3, none⟩ = some (.int .i64 a0_3) := (blk_cell BK1293.out 3).trans rfl; have hcz6_4 : w5.cell? ⟨gb1293, 4, none⟩ = some (.slice A0_4 l0_4.length c0_4) := (blk_cell BK1293.out 4).trans rfl; have hcz6_5 : w5.cell? ⟨gb1293, 5, none⟩ = some (.slice A0_5 l0_5.length c0_5) := (blk_cell BK1293.out 5).trans rfl; have hfz6_0 := blk_frozen BK1293.out 0; have hfz6_1 := blk_frozen BK1293.out 1; have hfz6_2 := blk_frozen BK1293.out 2; have hfz6_3 := blk_frozen BK1293.out 3; have hfz6_4 := blk_frozen BK1293.out 4; have hfz6_5 := blk_frozen BK1293.out 5) | ((with_reducible refine gate_callee (f := 7) rfl ?_); refine goesL_ (some 11) rfl rfl Try.func7 (by kernel_rfl) rfl #[.agg #[.int .i64 a0_0, .int .i64 a0_1, .slice A0_2 l0_2.length c0_2, .int .i64 a0_3, .slice A0_4 l0_4.length c0_4, .slice A0_5 l0_5.length c0_5]] rfl (by (try simp only [List.map_toArray, List.map_cons, List.map_nil]); first | done | rfl | (simp only [List.length_drop, List.length_take]; rfl)) ?_; (with_reducible refine (impl_BatMark.calls k a0_0 a0_1 _ _ l0_2 a0_3 _ _ l0_4 _ _ l0_5 t1294 _ ?side1 ?side2 ?side3 ?side4 ?side5 ?side6 A4.out).mono ?_); (case side1 => repeat (first | exact (Kd.C_below HR0_2.out HB.out) | (with_reducible refine Kd.C_alloc ?_ _) | (with_reducible refine Kd.C_drewN ?_ _) | (with_reducible refine Kd.C_drew ?_))); (case side2 => exact HC0_2.out); (case side3 => repeat (first | exact (Kd.C_below HR0_4.out HB.out) | (with_reducible refine Kd.C_alloc ?_ _) | (with_reducible refine Kd.C_drewN ?_ _) | (with_reducible refine Kd.C_drew ?_))); (case side4 => exact HC0_4.out); (case side5 => repeat (first | exact (Kd.C_below HR0_5.out HB.out) | (with_reducible refine Kd.C_alloc ?_ _) | (with_reducible refine Kd.C_drewN ?_ _) | (with_reducible refine Kd.C_drew ?_))); (case side6 => exact HC0_5.out); rintro e w7 ⟨rfl, hb⟩; refine ⟨_, rfl, ?_⟩; have n0_ := Aside0.mk (blk_below (g := gb1293) (o := .cells #[.int .i64 a0_0, .int .i64 a0_1, .slice A0_2 l0_2.length c0_2, .int .i64 a0_3, .slice A0_4 l0_4.length c0_4, .slice A0_5 l0_5.length c0_5] 27 (0, 0)) (by (with_reducible repeat (first | refine blk_drewN ?_ _ | refine blk_drew ?_ | refine blk_alloc ?_ _)); exact BK1293.out) hb); have n1_ := Aside0.mk (below_step (by repeat (first | (with_reducible first | exact HB.out | apply below_alloc | apply pw_below_drewN | apply below_drew1 | refine below_set ?_ GE1293.out) | exact HB.out)) hb); clear BK1293; clear HB; have BK1293 := n0_; have HB := n1_; clear n0_ n1_; (try clear hb); (try clear hb2); (try clear hk); (try clear hi); have hcz8_0 : w7.cell? ⟨gb1293, 0, none⟩ = some (.int .i64 a0_0) := (blk_cell BK1293.out 0).trans rfl; have hcz8_1 : w7.cell? ⟨gb1293, 1, none⟩ = some (.int .i64 a0_1) := (blk_cell BK1293.out 1).trans rfl; have hcz8_2 : w7.cell? ⟨gb1293, 2, none⟩ = some (.slice A0_2 l0_2.length c0_2) := (blk_cell BK1293.out 2).trans rfl; have hcz8_3 : w7.cell? ⟨gb1293, 3, none⟩ = some (.int .i64 a0_3) := (blk_cell BK1293.out 3).trans rfl; have hcz8_4 : w7.cell? ⟨gb1293, 4, none⟩ = some (.slice A0_4 l0_4.length c0_4) := (blk_cell BK1293.out 4).trans rfl; have hcz8_5 : w7.cell? ⟨gb1293, 5, none⟩ = some (.slice A0_5 l0_5.length c0_5) := (blk_cell BK1293.out 5).trans rfl; have hfz8_0 := blk_frozen BK1293.out 0; have hfz8_1 := blk_frozen BK1293.out 1; have hfz8_2 := blk_frozen BK1293.out 2; have hfz8_3 := blk_frozen BK1293.out 3; have hfz8_4 := blk_frozen BK1293.out 4; have hfz8_5 := blk_frozen BK1293.out 5))
  go_loopg [15] k (fun kq v15 w' => ∃ (x15_1 : Int), v15 = .int .i64 x15_1 ∧ Aside0 (impl_BatSigned.l0 kq a1 a2 t1294 l0_4 (l0_4.length : Int) x15_1 = some r) ∧ Aside0 (kq ≤ k) ∧ Aside0 (w'.heap[gb1293]? = some (.cells #[.int .i64 a0_0, .int .i64 a0_1, (.slice A0_2 l0_2.length c0_2), .int .i64 a0_3, (.slice A0_4 l0_4.length c0_4), (.slice A0_5 l0_5.length c0_5)] 27 (0, 0))) ∧ Aside0 (Below w.heap.size w w'))
  case atStart => exact ⟨(0), (by first | rfl | (simp; done) | (simp [*]; done)), H', ⟨Nat.le_refl _⟩, ⟨by (with_reducible repeat (first | refine blk_drewN ?_ _ | refine blk_drew ?_ | refine blk_alloc ?_ _)); exact BK1293.out⟩, ⟨by repeat (first | (with_reducible first | exact HB.out | apply below_alloc | apply pw_below_drewN | apply below_drew1 | refine below_set ?_ GE1293.out) | exact HB.out)⟩⟩
  case round =>
    clear H'
    try clear c1
    try clear p2
    try clear c7
    try clear hcz6_0
    try clear hcz6_1
    try clear hcz6_2
    try clear hcz6_3
    try clear hcz6_4
    try clear hcz6_5
    try clear hcz8_0
    try clear hcz8_1
    try clear hcz8_2
    try clear hcz8_3
    try clear hcz8_4
    try clear hcz8_5
    try clear hfz6_0
    try clear hfz6_1
    try clear hfz6_2
    try clear hfz6_3
    try clear hfz6_4
    try clear hfz6_5
    try clear hfz8_0
    try clear hfz8_1
    try clear hfz8_2
    try clear hfz8_3
    try clear hfz8_4
    try clear hfz8_5
    obtain ⟨x15_1, rfl, HA, HK1, BK1293, HB⟩ := hrel
    cases gk with
    | zero => exact absurd HA.out (by simp [impl_BatSigned.l0])
    | succ k1 =>
      have H := HA.out
      clear HA
      simp only [impl_BatSigned.l0] at H
      by_cases c9 : x15_1 < (l0_4.length : Int)
      · rw [if_pos c9] at H
        have c9b0 : decide (x15_1 < (l0_4.length : Int)) = true := decide_eq_true c9
        clear c9
        by_cases c10 : 0 ≤ x15_1
        · rw [if_pos c10] at H
          have c10b0 : decide (0 ≤ x15_1) = true := decide_eq_true c10
          clear c10
          by_cases c11 : x15_1 < (l0_4.length : Int)
          · rw [if_pos c11] at H
            have c11b0 : decide (x15_1 < (l0_4.length : Int)) = true := decide_eq_true c11
            clear c11
            have HC12 := Aside0.mk H
            clear H
            have p1295 : 0 ≤ (x15_1 : Int) := of_decide_eq_true (by first | (with_reducible assumption) | assumption)
            have q1295 : x15_1 < (l0_4.length : Int) := of_decide_eq_true (by first | (with_reducible assumption) | assumption)
            obtain ⟨ad1295, e1295, hx1295_0, hx1295_1, hx1295_2⟩ := at_T41 HR0_4.out x15_1 p1295 q1295
            cases e1295
            replace hx1295_0 := (HB.out.cell (World.block_lt_of_cell? w _ hx1295_0)).trans hx1295_0
            replace hx1295_1 := (HB.out.cell (World.block_lt_of_cell? w _ hx1295_1)).trans hx1295_1
            replace hx1295_2 := (HB.out.cell (World.block_lt_of_cell? w _ hx1295_2)).trans hx1295_2
            replace p1295 := eq_true p1295
            replace q1295 := eq_true q1295
            go_upto_region 5 with (first | ((with_reducible refine gate_dst (N := 9) rfl ?_); refine box_event ?hg (N := 9) ?hd (cs := #[.int .i64 0, .int .i64 0, .int .i64 0]) (t := 41) ?hr ?_; (case hd => rfl); (case hg => rfl); (case hr => first | (go_simp; done) | (go_simp; rfl)); intro gb1296 hg w13 hbox hb; have n0_ := Aside0.mk (blk_below (g := gb1293) (o := .cells #[.int .i64 a0_0, .int .i64 a0_1, .slice A0_2 l0_2.length c0_2, .int .i64 a0_3, .slice (some ad1295) l0_4.length c0_4, .slice A0_5 l0_5.length c0_5] 27 (0, 0)) (by (with_reducible repeat (first | refine blk_drewN ?_ _ | refine blk_drew ?_ | refine blk_alloc ?_ _)); exact BK1293.out) hb); have n1_ := Aside0.mk (below_step (by repeat (first | (with_reducible first | exact HB.out | apply below_alloc | apply pw_below_drewN | apply below_drew1 | refine below_set ?_ GE1293.out) | exact HB.out)) hb); have n2_ := Aside0.mk (hbox); have n3_ := Aside0.mk ((by rw [hg]; exact (below_size (by repeat (first | (with_reducible first | exact HB.out | apply below_alloc | apply pw_below_drewN | apply below_drew1 | refine below_set ?_ GE1293.out) | exact HB.out))) : w.heap.size ≤ gb1296)); have n4_ := Aside0.mk ((by rw [hg]; exact (below_size (by repeat (first | (with_reducible first | exact HB.out | apply below_alloc | apply pw_below_drewN | apply below_drew1 | refine below_set ?_ GE1293.out) | exact HB.out))) : w.heap.size ≤ gb1296)); have n5_ := Aside0.mk ((by rw [hg]; exact Nat.ne_of_lt (blk_lt (g := gb1293) (o := .cells #[.int .i64 a0_0, .int .i64 a0_1, .slice A0_2 l0_2.length c0_2, .int .i64 a0_3, .slice (some ad1295) l0_4.length c0_4, .slice A0_5 l0_5.length c0_5] 27 (0, 0)) (by (with_reducible repeat (first | refine blk_drewN ?_ _ | refine blk_drew ?_ | refine blk_alloc ?_ _)); exact BK1293.out)) : gb1293 ≠ gb1296)); have n6_ := Aside0.mk ((by rw [hg]; exact Nat.ne_of_gt (blk_lt (g := gb1293) (o := .cells #[.int .i64 a0_0, .int .i64 a0_1, .slice A0_2 l0_2.length c0_2, .int .i64 a0_3, .slice (some ad1295) l0_4.length c0_4, .slice A0_5 l0_5.length c0_5] 27 (0, 0)) (by (with_reducible repeat (first | refine blk_drewN ?_ _ | refine blk_drew ?_ | refine blk_alloc ?_ _)); exact BK1293.out)) : gb1296 ≠ gb1293)); clear BK1293; clear HB; have BK1293 := n0_; have HB := n1_; have BK1296 := n2_; have GW1296 := n3_; have GE1296 := n4_; have NB1293_1296 := n5_; have NB1296_1293 := n6_; clear n0_ n1_ n2_ n3_ n4_ n5_ n6_; clear hb hbox hg; have hnb14 := NB1296_1293.out; have hnc14 := NB1293_1296.out; have hcz15_0 : w13.cell? ⟨gb1296, 0, none⟩ = some (.int .i64 0) := (blk_cell BK1296.out 0).trans rfl; have hcz15_1 : w13.cell? ⟨gb1296, 1, none⟩ = some (.int .i64 0) := (blk_cell BK1296.out 1).trans rfl; have hcz15_2 : w13.cell? ⟨gb1296, 2, none⟩ = some (.int .i64 0) := (blk_cell BK1296.out 2).trans rfl; have hfz15_0 := blk_frozen BK1296.out 0; have hfz15_1 := blk_frozen BK1296.out 1; have hfz15_2 := blk_frozen BK1296.out 2))
            (try simp only [Act.put, List.setIfInBounds_toArray, List.set_cons_zero, List.set_cons_succ])
            go_cut [34] (fun v34 wc => ∃ (kq : Nat) (x34_11 : Bool), v34 = .bool x34_11 ∧ Aside0 (impl_BatSigned.j1 kq a1 a2 t1294 l0_4 (l0_4.length : Int) x15_1 x34_11 ((rd_T41 l0_4 x15_1).f0) ((rd_T41 l0_4 x15_1).f1) ((rd_T41 l0_4 x15_1).f2) = some r) ∧ Aside0 (kq ≤ k1) ∧ Aside0 (wc.heap[gb1293]? = some (.cells #[.int .i64 a0_0, .int .i64 a0_1, (.slice A0_2 l0_2.length c0_2), .int .i64 a0_3, (.slice (some ad1295) l0_4.length c0_4), (.slice A0_5 l0_5.length c0_5)] 27 (0, 0))) ∧ Aside0 (wc.heap[gb1296]? = some (.cells #[.int .i64 ((rd_T41 l0_4 x15_1).f0), .int .i64 ((rd_T41 l0_4 x15_1).f1), .int .i64 ((rd_T41 l0_4 x15_1).f2)] 41 (0, 0))) ∧ Aside0 (Below w.heap.size w wc))
            case first =>
              have H := HC12.out
              clear HC12
              by_cases c16 : ((rd_T41 l0_4 x15_1).f1) = a1
              · rw [if_pos c16] at H
                have c16b0 : (((rd_T41 l0_4 x15_1).f1) == a1) = true := beq_iff_eq.mpr c16
                have c16b1 : (((rd_T41 l0_4 x15_1).f1) != a1) = false := bne_eq_false_iff_eq.mpr c16
                clear c16
                (first | rw [c16b0] | (simp only [i64_w, i32_w]; rw [c16b0]) | skip)
                by_cases c17 : ((rd_T41 l0_4 x15_1).f2) = t1294
                · rw [if_pos c17] at H
                  have c17b0 : (((rd_T41 l0_4 x15_1).f2) == t1294) = true := beq_iff_eq.mpr c17
                  have c17b1 : (((rd_T41 l0_4 x15_1).f2) != t1294) = false := bne_eq_false_iff_eq.mpr c17
                  clear c17
                  have H' := Aside0.mk H
                  clear H
                  have hnb18 := NB1296_1293.out
                  have hnc18 := NB1293_1296.out
                  have hcz19_0 : w13.cell? ⟨gb1296, 0, none⟩ = some (.int .i64 0) := (blk_cell BK1296.out 0).trans rfl
                  have hcz19_1 : w13.cell? ⟨gb1296, 1, none⟩ = some (.int .i64 0) := (blk_cell BK1296.out 1).trans rfl
                  have hcz19_2 : w13.cell? ⟨gb1296, 2, none⟩ = some (.int .i64 0) := (blk_cell BK1296.out 2).trans rfl
                  have hfz19_0 := blk_frozen BK1296.out 0
                  have hfz19_1 := blk_frozen BK1296.out 1
                  have hfz19_2 := blk_frozen BK1296.out 2
                  go_wp2
                  go_meet
                  case rel => exact ⟨_, ((((rd_T41 l0_4 x15_1).f0) != a2)), (by first | rfl | (simp; done) | (simp [*]; done)), H', ⟨by have := HK1.out; first | omega | exact Nat.le_refl _⟩, ⟨by (with_reducible repeat (first | refine blk_drewN ?_ _ | refine blk_drew ?_ | refine blk_alloc ?_ _)); refine blk_far ?_ NB1293_1296.out _; (with_reducible repeat (first | refine blk_drewN ?_ _ | refine blk_drew ?_ | refine blk_alloc ?_ _)); refine blk_far ?_ NB1293_1296.out _; (with_reducible repeat (first | refine blk_drewN ?_ _ | refine blk_drew ?_ | refine blk_alloc ?_ _)); refine blk_far ?_ NB1293_1296.out _; (with_reducible repeat (first | refine blk_drewN ?_ _ | refine blk_drew ?_ | refine blk_alloc ?_ _)); exact BK1293.out⟩, ⟨by (with_reducible repeat (first | refine blk_drewN ?_ _ | refine blk_drew ?_ | refine blk_alloc ?_ _)); refine blk_put (cs := #[.int .i64 ((rd_T41 l0_4 x15_1).f0), .int .i64 ((rd_T41 l0_4 x15_1).f1), .int .i64 0]) ?_ 2 _ rfl; (with_reducible repeat (first | refine blk_drewN ?_ _ | refine blk_drew ?_ | refine blk_alloc ?_ _)); refine blk_put (cs := #[.int .i64 ((rd_T41 l0_4 x15_1).f0), .int .i64 0, .int .i64 0]) ?_ 1 _ rfl; (with_reducible repeat (first | refine blk_drewN ?_ _ | refine blk_drew ?_ | refine blk_alloc ?_ _)); refine blk_put (cs := #[.int .i64 0, .int .i64 0, .int .i64 0]) ?_ 0 _ rfl; (with_reducible repeat (first | refine blk_drewN ?_ _ | refine blk_drew ?_ | refine blk_alloc ?_ _)); exact BK1296.out⟩, ⟨by repeat (first | (with_reducible first | exact HB.out | apply below_alloc | apply pw_below_drewN | apply below_drew1 | refine below_set ?_ GE1293.out | refine below_set ?_ GE1296.out) | exact HB.out)⟩⟩
                · rw [if_neg c17] at H
                  have c17b0 : (((rd_T41 l0_4 x15_1).f2) == t1294) = false := beq_eq_false_iff_ne.mpr c17
                  have c17b1 : (((rd_T41 l0_4 x15_1).f2) != t1294) = true := bne_iff_ne.mpr c17
                  have H' := Aside0.mk H
                  clear H
                  have hnb20 := NB1296_1293.out
                  have hnc20 := NB1293_1296.out
                  have hcz21_0 : w13.cell? ⟨gb1296, 0, none⟩ = some (.int .i64 0) := (blk_cell BK1296.out 0).trans rfl
                  have hcz21_1 : w13.cell? ⟨gb1296, 1, none⟩ = some (.int .i64 0) := (blk_cell BK1296.out 1).trans rfl
                  have hcz21_2 : w13.cell? ⟨gb1296, 2, none⟩ = some (.int .i64 0) := (blk_cell BK1296.out 2).trans rfl
                  have hfz21_0 := blk_frozen BK1296.out 0
                  have hfz21_1 := blk_frozen BK1296.out 1
                  have hfz21_2 := blk_frozen BK1296.out 2
                  go_wp2
                  go_meet
                  case rel => exact ⟨_, (false), (by first | rfl | (simp; done) | (simp [*]; done)), H', ⟨by have := HK1.out; first | omega | exact Nat.le_refl _⟩, ⟨by (with_reducible repeat (first | refine blk_drewN ?_ _ | refine blk_drew ?_ | refine blk_alloc ?_ _)); refine blk_far ?_ NB1293_1296.out _; (with_reducible repeat (first | refine blk_drewN ?_ _ | refine blk_drew ?_ | refine blk_alloc ?_ _)); refine blk_far ?_ NB1293_1296.out _; (with_reducible repeat (first | refine blk_drewN ?_ _ | refine blk_drew ?_ | refine blk_alloc ?_ _)); refine blk_far ?_ NB1293_1296.out _; (with_reducible repeat (first | refine blk_drewN ?_ _ | refine blk_drew ?_ | refine blk_alloc ?_ _)); exact BK1293.out⟩, ⟨by (with_reducible repeat (first | refine blk_drewN ?_ _ | refine blk_drew ?_ | refine blk_alloc ?_ _)); refine blk_put (cs := #[.int .i64 ((rd_T41 l0_4 x15_1).f0), .int .i64 ((rd_T41 l0_4 x15_1).f1), .int .i64 0]) ?_ 2 _ rfl; (with_reducible repeat (first | refine blk_drewN ?_ _ | refine blk_drew ?_ | refine blk_alloc ?_ _)); refine blk_put (cs := #[.int .i64 ((rd_T41 l0_4 x15_1).f0), .int .i64 0, .int .i64 0]) ?_ 1 _ rfl; (with_reducible repeat (first | refine blk_drewN ?_ _ | refine blk_drew ?_ | refine blk_alloc ?_ _)); refine blk_put (cs := #[.int .i64 0, .int .i64 0, .int .i64 0]) ?_ 0 _ rfl; (with_reducible repeat (first | refine blk_drewN ?_ _ | refine blk_drew ?_ | refine blk_alloc ?_ _)); exact BK1296.out⟩, ⟨by repeat (first | (with_reducible first | exact HB.out | apply below_alloc | apply pw_below_drewN | apply below_drew1 | refine below_set ?_ GE1293.out | refine below_set ?_ GE1296.out) | exact HB.out)⟩⟩
              · rw [if_neg c16] at H
                have c16b0 : (((rd_T41 l0_4 x15_1).f1) == a1) = false := beq_eq_false_iff_ne.mpr c16
                have c16b1 : (((rd_T41 l0_4 x15_1).f1) != a1) = true := bne_iff_ne.mpr c16
                (first | rw [c16b0] | (simp only [i64_w, i32_w]; rw [c16b0]) | skip)
                have H' := Aside0.mk H
                clear H
                have hnb22 := NB1296_1293.out
                have hnc22 := NB1293_1296.out
                have hcz23_0 : w13.cell? ⟨gb1296, 0, none⟩ = some (.int .i64 0) := (blk_cell BK1296.out 0).trans rfl
                have hcz23_1 : w13.cell? ⟨gb1296, 1, none⟩ = some (.int .i64 0) := (blk_cell BK1296.out 1).trans rfl
                have hcz23_2 : w13.cell? ⟨gb1296, 2, none⟩ = some (.int .i64 0) := (blk_cell BK1296.out 2).trans rfl
                have hfz23_0 := blk_frozen BK1296.out 0
                have hfz23_1 := blk_frozen BK1296.out 1
                have hfz23_2 := blk_frozen BK1296.out 2
                go_wp2
                go_meet
                case rel => exact ⟨_, (false), (by first | rfl | (simp; done) | (simp [*]; done)), H', ⟨by have := HK1.out; first | omega | exact Nat.le_refl _⟩, ⟨by (with_reducible repeat (first | refine blk_drewN ?_ _ | refine blk_drew ?_ | refine blk_alloc ?_ _)); refine blk_far ?_ NB1293_1296.out _; (with_reducible repeat (first | refine blk_drewN ?_ _ | refine blk_drew ?_ | refine blk_alloc ?_ _)); refine blk_far ?_ NB1293_1296.out _; (with_reducible repeat (first | refine blk_drewN ?_ _ | refine blk_drew ?_ | refine blk_alloc ?_ _)); refine blk_far ?_ NB1293_1296.out _; (with_reducible repeat (first | refine blk_drewN ?_ _ | refine blk_drew ?_ | refine blk_alloc ?_ _)); exact BK1293.out⟩, ⟨by (with_reducible repeat (first | refine blk_drewN ?_ _ | refine blk_drew ?_ | refine blk_alloc ?_ _)); refine blk_put (cs := #[.int .i64 ((rd_T41 l0_4 x15_1).f0), .int .i64 ((rd_T41 l0_4 x15_1).f1), .int .i64 0]) ?_ 2 _ rfl; (with_reducible repeat (first | refine blk_drewN ?_ _ | refine blk_drew ?_ | refine blk_alloc ?_ _)); refine blk_put (cs := #[.int .i64 ((rd_T41 l0_4 x15_1).f0), .int .i64 0, .int .i64 0]) ?_ 1 _ rfl; (with_reducible repeat (first | refine blk_drewN ?_ _ | refine blk_drew ?_ | refine blk_alloc ?_ _)); refine blk_put (cs := #[.int .i64 0, .int .i64 0, .int .i64 0]) ?_ 0 _ rfl; (with_reducible repeat (first | refine blk_drewN ?_ _ | refine blk_drew ?_ | refine blk_alloc ?_ _)); exact BK1296.out⟩, ⟨by repeat (first | (with_reducible first | exact HB.out | apply below_alloc | apply pw_below_drewN | apply below_drew1 | refine below_set ?_ GE1293.out | refine below_set ?_ GE1296.out) | exact HB.out)⟩⟩
            case rest =>
              clear HC12
              try clear c1
              try clear p1
              try clear q1
              try clear hx1
              try clear c2
              try clear p2
              try clear c7
              try clear c9
              try clear c9b0
              try clear c10
              try clear c10b0
              try clear c11
              try clear c11b0
              try clear p12
              try clear q12
              try clear hx12
              try clear c14
              try clear c15
              try clear c16
              try clear c16b0
              try clear c16b1
              try clear c17
              try clear c17b0
              try clear c17b1
              try clear c18
              try clear c20
              try clear c22
              try clear hcz15_0
              try clear hcz15_1
              try clear hcz15_2
              try clear hcz19_0
              try clear hcz19_1
              try clear hcz19_2
              try clear hcz21_0
              try clear hcz21_1
              try clear hcz21_2
              try clear hcz23_0
              try clear hcz23_1
              try clear hcz23_2
              try clear hcz6_0
              try clear hcz6_1
              try clear hcz6_2
              try clear hcz6_3
              try clear hcz6_4
              try clear hcz6_5
              try clear hcz8_0
              try clear hcz8_1
              try clear hcz8_2
              try clear hcz8_3
              try clear hcz8_4
              try clear hcz8_5
              try clear hfz15_0
              try clear hfz15_1
              try clear hfz15_2
              try clear hfz19_0
              try clear hfz19_1
              try clear hfz19_2
              try clear hfz21_0
              try clear hfz21_1
              try clear hfz21_2
              try clear hfz23_0
              try clear hfz23_1
              try clear hfz23_2
              try clear hfz6_0
              try clear hfz6_1
              try clear hfz6_2
              try clear hfz6_3
              try clear hfz6_4
              try clear hfz6_5
              try clear hfz8_0
              try clear hfz8_1
              try clear hfz8_2
              try clear hfz8_3
              try clear hfz8_4
              try clear hfz8_5
              try clear hx1295_0
              try clear hx1295_1
              try clear hx1295_2
              try clear p1295
              try clear p2
              try clear q1295
              obtain ⟨kq, x34_11, rfl, HA, HJ11, BK1293, BK1296, HB⟩ := hcut
              cases kq with
              | zero => exact absurd HA.out (by simp [impl_BatSigned.j1])
              | succ kj11 =>
                have H := HA.out
                clear HA
                simp only [impl_BatSigned.j1] at H
                by_cases c24 : x34_11 = true
                · subst c24
                  have H1 : (some ((rd_T41 l0_4 x15_1).f0)) = some r := by rw [if_pos rfl] at H; exact H
                  clear H
                  have H := H1
                  clear H1
                  obtain rfl := Option.some.inj H
                  have hnb25 := NB1296_1293.out
                  have hnc25 := NB1293_1296.out
                  have hcz26_0 : wc.cell? ⟨gb1296, 0, none⟩ = some (.int .i64 ((rd_T41 l0_4 x15_1).f0)) := (blk_cell BK1296.out 0).trans rfl
                  have hcz26_1 : wc.cell? ⟨gb1296, 1, none⟩ = some (.int .i64 ((rd_T41 l0_4 x15_1).f1)) := (blk_cell BK1296.out 1).trans rfl
                  have hcz26_2 : wc.cell? ⟨gb1296, 2, none⟩ = some (.int .i64 ((rd_T41 l0_4 x15_1).f2)) := (blk_cell BK1296.out 2).trans rfl
                  have hfz26_0 := blk_frozen BK1296.out 0
                  have hfz26_1 := blk_frozen BK1296.out 1
                  have hfz26_2 := blk_frozen BK1296.out 2
                  go_wp2
                  go_ret
                  exact ⟨by first | rfl | (simp [errW_none, errW_some] <;> rfl) | (simp [*, errW_none, errW_some] <;> rfl), by repeat (first | (with_reducible first | exact HB.out | apply below_alloc | apply pw_below_drewN | apply below_drew1 | refine below_set ?_ GE1293.out | refine below_set ?_ GE1296.out) | exact HB.out)⟩
                · replace c24 := Bool.eq_false_iff.mpr c24
                  subst c24
                  have H1 : (impl_BatSigned.l0 kj11 a1 a2 t1294 l0_4 (l0_4.length : Int) (wrap64 (x15_1 + 1))) = some r := by rw [if_neg (show ¬ (false = true) by decide)] at H; exact H
                  clear H
                  have H := H1
                  clear H1
                  have H' := Aside0.mk H
                  clear H
                  go_wp2
                  go_roundg kj11
                  case measure => have := HK1.out; have := HJ11.out; omega
                  case rel => exact ⟨(wrap64 (x15_1 + 1)), (by first | rfl | (simp; done) | (simp [*]; done)), H', ⟨by have := HK1.out; have := HJ11.out; omega⟩, ⟨by (with_reducible repeat (first | refine blk_drewN ?_ _ | refine blk_drew ?_ | refine blk_alloc ?_ _)); exact BK1293.out⟩, ⟨by repeat (first | (with_reducible first | exact HB.out | apply below_alloc | apply pw_below_drewN | apply below_drew1 | refine below_set ?_ GE1293.out | refine below_set ?_ GE1296.out) | exact HB.out)⟩⟩
          · rw [if_neg c11] at H
            exact absurd H (by simp)
        · rw [if_neg c10] at H
          exact absurd H (by simp)
      · rw [if_neg c9] at H
        have c9b0 : decide (x15_1 < (l0_4.length : Int)) = false := decide_eq_false c9
        clear c9
        obtain rfl := Option.some.inj H
        go_wp2
        go_ret
        exact ⟨by first | rfl | (simp [errW_none, errW_some] <;> rfl) | (simp [*, errW_none, errW_some] <;> rfl), by repeat (first | (with_reducible first | exact HB.out | apply below_alloc | apply pw_below_drewN | apply below_drew1 | refine below_set ?_ GE1293.out) | exact HB.out)⟩

end Go.Proofs.Ytipfdcmjcelbiaa.All
