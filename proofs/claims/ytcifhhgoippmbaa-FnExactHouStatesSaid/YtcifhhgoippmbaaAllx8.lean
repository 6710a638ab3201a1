-- Written by the session's own program wip/allprint.py, which drives the kit's print; Lean checks it.
import Derived.Test.YtcifhhgoippmbaaAllx0
import Derived.Test.YtcifhhgoippmbaaAllx7
namespace Go.Proofs.Ytcifhhgoippmbaa.All
open Go.RowKit Go.Proofs.YtcifhhgoippmbaaW.PrintWords Go.Proofs.YtcifhhgoippmbaaW.PrintLast Go.Proofs.YtcifhhgoippmbaaW.PrintMore
attribute [local go_sem] max2_int min2_int max_two min_two max_three min_three max_four min_four   -- for this text's walks alone
set_option linter.unusedVariables false
set_option linter.unusedSimpArgs false

/-! ### laws_eqTstTestS: function 42 -/
def laws_eqTstTestS.l0 : Nat → List (S90) → List (S90) → Int → Option (Bool)
 | 0, _, _, _ => none
 | k + 1, x0, x1, x5 => if x5 < (x0.length : Int) then (if 0 ≤ x5 then (if x5 < (x1.length : Int) then ((laws_eqTstTest.f k ((rd_T90 x0 x5).f0.f0) ((rd_T90 x0 x5).f0.f1.f0) ((rd_T90 x0 x5).f0.f1.f1) ((rd_T90 x0 x5).f0.f2.f0) ((rd_T90 x0 x5).f0.f2.f1) ((rd_T90 x0 x5).f0.f3) ((rd_T90 x0 x5).f1) ((rd_T90 x0 x5).f2.f0) ((rd_T90 x0 x5).f2.f1) ((rd_T90 x0 x5).f3) ((rd_T90 x0 x5).f4) ((rd_T90 x1 x5).f0.f0) ((rd_T90 x1 x5).f0.f1.f0) ((rd_T90 x1 x5).f0.f1.f1) ((rd_T90 x1 x5).f0.f2.f0) ((rd_T90 x1 x5).f0.f2.f1) ((rd_T90 x1 x5).f0.f3) ((rd_T90 x1 x5).f1) ((rd_T90 x1 x5).f2.f0) ((rd_T90 x1 x5).f2.f1) ((rd_T90 x1 x5).f3) ((rd_T90 x1 x5).f4)).bind fun t297 => (if t297 = true then (laws_eqTstTestS.l0 k x0 x1 (wrap64 (x5 + 1))) else (some false))) else (none)) else (none)) else (some true)
def laws_eqTstTestS.f (k : Nat) (l0 : List (S90)) (l1 : List (S90)) : Option (Bool) := if (l0.length : Int) = (l1.length : Int) then (laws_eqTstTestS.l0 k l0 l1 0) else (some false)
theorem laws_eqTstTestS.mono_l : ∀ k, (∀ y0 y1 y2, LeO (laws_eqTstTestS.l0 k y0 y1 y2) (laws_eqTstTestS.l0 (k + 1) y0 y1 y2))
 | 0 => fun _ _ _ r h => by simp [laws_eqTstTestS.l0] at h
 | k + 1 => by
  have ih0 := laws_eqTstTestS.mono_l k
  ·intro y0 y1 y2
   unfold laws_eqTstTestS.l0
   repeat' first
   | (with_reducible exact ih0 _ _ _)
   | (with_reducible exact laws_eqTstTest.mono _ _ _ _ _ _ _ _ _ _ _ _ _ _ _ _ _ _ _ _ _ _ _)
   | (with_reducible exact LeO.refl _)
   | (with_reducible exact LeO.none _)
   | (with_reducible refine LeO.ite ?_ ?_)
   | (with_reducible refine LeO.bind ?_ (fun _ => ?_))
   | exact ih0 _ _ _
   | exact laws_eqTstTest.mono _ _ _ _ _ _ _ _ _ _ _ _ _ _ _ _ _ _ _ _ _ _ _
   | exact LeO.none _
   | refine LeO.ite ?_ ?_
   | refine LeO.bind ?_ (fun _ => ?_)
theorem laws_eqTstTestS.mono : ∀ a0 a1 k, LeO (laws_eqTstTestS.f k a0 a1) (laws_eqTstTestS.f (k + 1) a0 a1) := by
 intro a0 a1 k
 have ih0 := laws_eqTstTestS.mono_l k
 unfold laws_eqTstTestS.f
 repeat' first
   | (with_reducible exact ih0 _ _ _)
   | (with_reducible exact laws_eqTstTest.mono _ _ _ _ _ _ _ _ _ _ _ _ _ _ _ _ _ _ _ _ _ _ _)
   | (with_reducible exact LeO.refl _)
   | (with_reducible exact LeO.none _)
   | (with_reducible refine LeO.ite ?_ ?_)
   | (with_reducible refine LeO.bind ?_ (fun _ => ?_))
   | exact ih0 _ _ _
   | exact laws_eqTstTest.mono _ _ _ _ _ _ _ _ _ _ _ _ _ _ _ _ _ _ _ _ _ _ _
   | exact LeO.none _
   | refine LeO.ite ?_ ?_
   | refine LeO.bind ?_ (fun _ => ?_)
def laws_eqTstTestS.T6 : Bool × List (List Nat × List Nat) := (true, [([], []), ([], []), ([0, 1], [0, 1]), ([2], [2]), ([], []), ([], []), ([4, 5], [4, 5]), ([6], [6]), ([3, 7], [3, 7]), ([8], [8])])
def laws_eqTstTestS.B6 : List Nat := [0, 0, 3, 7, 0, 0, 48, 112, 255, 511]
theorem laws_eqTstTestS.tab6 : rtab .any (opsOf Try.f42 6) = laws_eqTstTestS.T6 := by kernel_rfl
theorem laws_eqTstTestS.bits6 : waitsOk laws_eqTstTestS.T6.2 laws_eqTstTestS.B6 = true := by kernel_rfl
set_option maxHeartbeats 8000000 in
set_option maxRecDepth 100000 in
theorem laws_eqTstTestS.calls (k : Nat) (A0 : Option Addr) (c0 : Nat) (l0 : List (S90)) (A1 : Option Addr) (c1 : Nat) (l1 : List (S90)) (r : Bool) (w : World) (hr0 : Kd.C k90 w A0 l0.length l0) (hc0 : l0.length ≤ c0) (hr1 : Kd.C k90 w A1 l1.length l1) (hc1 : l1.length ≤ c1) (h : laws_eqTstTestS.f k l0 l1 = some r) :
  Calls Try.prog 42 #[.slice A0 l0.length c0, .slice A1 l1.length c1] w fun e w' => e = .returned (.bool r) ∧ Below w.heap.size w w' := by
 have hu90 := Try.underlying90
 have HR0 := Aside0.mk hr0
 have HC0 := Aside0.mk hc0
 clear hr0 hc0
 have HR1 := Aside0.mk hr1
 have HC1 := Aside0.mk hc1
 clear hr1 hc1
 have HB := Aside0.mk (Below.refl w.heap.size w)
 have H : (if (l0.length : Int) = (l1.length : Int) then (laws_eqTstTestS.l0 k l0 l1 0) else (some false)) = some r := h
 clear h
 by_cases c3 : (l0.length : Int) = (l1.length : Int)
 ·rw [if_pos c3] at H
  have c3b0 : ((l0.length : Int) == (l1.length : Int)) = true := beq_iff_eq.mpr c3
  have c3b1 : ((l0.length : Int) != (l1.length : Int)) = false := bne_eq_false_iff_eq.mpr c3
  have c3b2 : (l0.length == l1.length) = true := by first | simpa using c3 | (simp at c3 ⊢; omega)
  clear c3
  have H' := Aside0.mk H
  clear H
  go_enter Try.func42, Try.ntmps42
  go_wp2
  go_loopg [5] k (fun kq v5 w' => ∃ (x5_1 : Int), v5 = .int .i64 x5_1 ∧ Aside0 (laws_eqTstTestS.l0 kq l0 l1 x5_1 = some r) ∧ Aside0 (kq ≤ k) ∧ Aside0 (Below w.heap.size w w'))
  case atStart => exact ⟨(0), (by first | rfl | (simp; done) | (simp [*]; done)), H', ⟨Nat.le_refl _⟩, ⟨by repeat (first | (with_reducible first | exact HB.out | apply below_alloc | apply pw_below_drewN | apply below_drew1) | exact HB.out)⟩⟩
  case round =>
   clear H'
   try clear c1
   try clear p2
   try clear c3
   try clear c3b0
   try clear c3b1
   try clear c3b2
   obtain ⟨x5_1, rfl, HA, HK1, HB⟩ := hrel
   cases gk with
   | zero => exact absurd HA.out (by simp [laws_eqTstTestS.l0])
   | succ k1 =>
    have H := HA.out
    clear HA
    simp only [laws_eqTstTestS.l0] at H
    by_cases c4 : x5_1 < (l0.length : Int)
    ·rw [if_pos c4] at H
     have c4b0 : decide (x5_1 < (l0.length : Int)) = true := decide_eq_true c4
     clear c4
     by_cases c5 : 0 ≤ x5_1
     ·rw [if_pos c5] at H
      have c5b0 : decide (0 ≤ x5_1) = true := decide_eq_true c5
      clear c5
      by_cases c6 : x5_1 < (l1.length : Int)
      ·rw [if_pos c6] at H
       have c6b0 : decide (x5_1 < (l1.length : Int)) = true := decide_eq_true c6
       clear c6
       replace H := Option.bind_eq_some_iff.mp H
       obtain ⟨t297, A70, H⟩ := H
       replace H : (if t297 = true then (laws_eqTstTestS.l0 k1 l0 l1 (wrap64 (x5_1 + 1))) else (some false)) = some r := H
       have A7 := Aside0.mk A70
       clear A70
       by_cases c8 : t297 = true
       ·subst c8
        have H1 : (laws_eqTstTestS.l0 k1 l0 l1 (wrap64 (x5_1 + 1))) = some r := by rw [if_pos rfl] at H; exact H
        clear H
        have H := H1
        clear H1
        have H' := Aside0.mk H
        clear H
        try go_wp2
        have n0_ := Aside0.mk (below_drew1 HB.out)
        clear HB
        have HB := n0_
        clear n0_
        have p295 : 0 ≤ (x5_1 : Int) := of_decide_eq_true (by first | (with_reducible assumption) | assumption)
        have q295 : x5_1 < (l0.length : Int) := of_decide_eq_true (by first | (with_reducible assumption) | assumption)
        obtain ⟨ad295, A295_10, c295_10, e295, hx295_0, hx295_1, hx295_2, hx295_3, hx295_4, hx295_5, hx295_6, hx295_7, hx295_8, hx295_9, hx295_10, hl295_10, hi295_10⟩ := at_T90 HR0.out x5_1 p295 q295
        have hw295_10 := hx295_10
        have hw295_9 := hx295_9
        have hw295_8 := hx295_8
        have hw295_7 := hx295_7
        have hw295_6 := hx295_6
        have hw295_5 := hx295_5
        have hw295_4 := hx295_4
        have hw295_3 := hx295_3
        have hw295_2 := hx295_2
        have hw295_1 := hx295_1
        have hw295_0 := hx295_0
        cases e295
        replace hx295_0 := (HB.out.cell (World.block_lt_of_cell? w _ hx295_0)).trans hx295_0
        replace hx295_1 := (HB.out.cell (World.block_lt_of_cell? w _ hx295_1)).trans hx295_1
        replace hx295_2 := (HB.out.cell (World.block_lt_of_cell? w _ hx295_2)).trans hx295_2
        replace hx295_3 := (HB.out.cell (World.block_lt_of_cell? w _ hx295_3)).trans hx295_3
        replace hx295_4 := (HB.out.cell (World.block_lt_of_cell? w _ hx295_4)).trans hx295_4
        replace hx295_5 := (HB.out.cell (World.block_lt_of_cell? w _ hx295_5)).trans hx295_5
        replace hx295_6 := (HB.out.cell (World.block_lt_of_cell? w _ hx295_6)).trans hx295_6
        replace hx295_7 := (HB.out.cell (World.block_lt_of_cell? w _ hx295_7)).trans hx295_7
        replace hx295_8 := (HB.out.cell (World.block_lt_of_cell? w _ hx295_8)).trans hx295_8
        replace hx295_9 := (HB.out.cell (World.block_lt_of_cell? w _ hx295_9)).trans hx295_9
        replace hx295_10 := (HB.out.cell (World.block_lt_of_cell? w _ hx295_10)).trans hx295_10
        have HR295_10 := Aside0.mk hi295_10
        have HC295_10 := Aside0.mk hl295_10
        clear hi295_10 hl295_10
        replace p295 := eq_true p295
        replace q295 := eq_true q295
        have p296 : 0 ≤ (x5_1 : Int) := of_decide_eq_true (by first | (with_reducible assumption) | assumption)
        have q296 : x5_1 < (l1.length : Int) := of_decide_eq_true (by first | (with_reducible assumption) | assumption)
        obtain ⟨ad296, A296_10, c296_10, e296, hx296_0, hx296_1, hx296_2, hx296_3, hx296_4, hx296_5, hx296_6, hx296_7, hx296_8, hx296_9, hx296_10, hl296_10, hi296_10⟩ := at_T90 HR1.out x5_1 p296 q296
        have hw296_10 := hx296_10
        have hw296_9 := hx296_9
        have hw296_8 := hx296_8
        have hw296_7 := hx296_7
        have hw296_6 := hx296_6
        have hw296_5 := hx296_5
        have hw296_4 := hx296_4
        have hw296_3 := hx296_3
        have hw296_2 := hx296_2
        have hw296_1 := hx296_1
        have hw296_0 := hx296_0
        cases e296
        replace hx296_0 := (HB.out.cell (World.block_lt_of_cell? w _ hx296_0)).trans hx296_0
        replace hx296_1 := (HB.out.cell (World.block_lt_of_cell? w _ hx296_1)).trans hx296_1
        replace hx296_2 := (HB.out.cell (World.block_lt_of_cell? w _ hx296_2)).trans hx296_2
        replace hx296_3 := (HB.out.cell (World.block_lt_of_cell? w _ hx296_3)).trans hx296_3
        replace hx296_4 := (HB.out.cell (World.block_lt_of_cell? w _ hx296_4)).trans hx296_4
        replace hx296_5 := (HB.out.cell (World.block_lt_of_cell? w _ hx296_5)).trans hx296_5
        replace hx296_6 := (HB.out.cell (World.block_lt_of_cell? w _ hx296_6)).trans hx296_6
        replace hx296_7 := (HB.out.cell (World.block_lt_of_cell? w _ hx296_7)).trans hx296_7
        replace hx296_8 := (HB.out.cell (World.block_lt_of_cell? w _ hx296_8)).trans hx296_8
        replace hx296_9 := (HB.out.cell (World.block_lt_of_cell? w _ hx296_9)).trans hx296_9
        replace hx296_10 := (HB.out.cell (World.block_lt_of_cell? w _ hx296_10)).trans hx296_10
        have HR296_10 := Aside0.mk hi296_10
        have HC296_10 := Aside0.mk hl296_10
        clear hi296_10 hl296_10
        replace p296 := eq_true p296
        replace q296 := eq_true q296
        refine start_ (n := 10) (S := fun w' => w'.cell? (ad295.add ((x5_1).toNat * 11)) = some (.int .i64 ((rd_T90 l0 x5_1).f0.f0)) ∧ w'.cell? ⟨(ad295.add ((x5_1).toNat * 11)).block, (ad295.add ((x5_1).toNat * 11)).off + 1, none⟩ = some (.int .i64 ((rd_T90 l0 x5_1).f0.f1.f0)) ∧ w'.cell? ⟨(ad295.add ((x5_1).toNat * 11)).block, (ad295.add ((x5_1).toNat * 11)).off + 2, none⟩ = some (.int .i64 ((rd_T90 l0 x5_1).f0.f1.f1)) ∧ w'.cell? ⟨(ad295.add ((x5_1).toNat * 11)).block, (ad295.add ((x5_1).toNat * 11)).off + 3, none⟩ = some (.int .i64 ((rd_T90 l0 x5_1).f0.f2.f0)) ∧ w'.cell? ⟨(ad295.add ((x5_1).toNat * 11)).block, (ad295.add ((x5_1).toNat * 11)).off + 4, none⟩ = some (.int .i64 ((rd_T90 l0 x5_1).f0.f2.f1)) ∧ w'.cell? ⟨(ad295.add ((x5_1).toNat * 11)).block, (ad295.add ((x5_1).toNat * 11)).off + 5, none⟩ = some (.int .i64 ((rd_T90 l0 x5_1).f0.f3)) ∧ w'.cell? ⟨(ad295.add ((x5_1).toNat * 11)).block, (ad295.add ((x5_1).toNat * 11)).off + 6, none⟩ = some (.int .i64 ((rd_T90 l0 x5_1).f1)) ∧ w'.cell? ⟨(ad295.add ((x5_1).toNat * 11)).block, (ad295.add ((x5_1).toNat * 11)).off + 7, none⟩ = some (.int .i64 ((rd_T90 l0 x5_1).f2.f0)) ∧ w'.cell? ⟨(ad295.add ((x5_1).toNat * 11)).block, (ad295.add ((x5_1).toNat * 11)).off + 8, none⟩ = some (.int .i64 ((rd_T90 l0 x5_1).f2.f1)) ∧ w'.cell? ⟨(ad295.add ((x5_1).toNat * 11)).block, (ad295.add ((x5_1).toNat * 11)).off + 9, none⟩ = some (.int .i64 ((rd_T90 l0 x5_1).f3)) ∧ w'.cell? ⟨(ad295.add ((x5_1).toNat * 11)).block, (ad295.add ((x5_1).toNat * 11)).off + 10, none⟩ = some (.slice A295_10 ((rd_T90 l0 x5_1).f4).length c295_10) ∧ w'.cell? (ad296.add ((x5_1).toNat * 11)) = some (.int .i64 ((rd_T90 l1 x5_1).f0.f0)) ∧ w'.cell? ⟨(ad296.add ((x5_1).toNat * 11)).block, (ad296.add ((x5_1).toNat * 11)).off + 1, none⟩ = some (.int .i64 ((rd_T90 l1 x5_1).f0.f1.f0)) ∧ w'.cell? ⟨(ad296.add ((x5_1).toNat * 11)).block, (ad296.add ((x5_1).toNat * 11)).off + 2, none⟩ = some (.int .i64 ((rd_T90 l1 x5_1).f0.f1.f1)) ∧ w'.cell? ⟨(ad296.add ((x5_1).toNat * 11)).block, (ad296.add ((x5_1).toNat * 11)).off + 3, none⟩ = some (.int .i64 ((rd_T90 l1 x5_1).f0.f2.f0)) ∧ w'.cell? ⟨(ad296.add ((x5_1).toNat * 11)).block, (ad296.add ((x5_1).toNat * 11)).off + 4, none⟩ = some (.int .i64 ((rd_T90 l1 x5_1).f0.f2.f1)) ∧ w'.cell? ⟨(ad296.add ((x5_1).toNat * 11)).block, (ad296.add ((x5_1).toNat * 11)).off + 5, none⟩ = some (.int .i64 ((rd_T90 l1 x5_1).f0.f3)) ∧ w'.cell? ⟨(ad296.add ((x5_1).toNat * 11)).block, (ad296.add ((x5_1).toNat * 11)).off + 6, none⟩ = some (.int .i64 ((rd_T90 l1 x5_1).f1)) ∧ w'.cell? ⟨(ad296.add ((x5_1).toNat * 11)).block, (ad296.add ((x5_1).toNat * 11)).off + 7, none⟩ = some (.int .i64 ((rd_T90 l1 x5_1).f2.f0)) ∧ w'.cell? ⟨(ad296.add ((x5_1).toNat * 11)).block, (ad296.add ((x5_1).toNat * 11)).off + 8, none⟩ = some (.int .i64 ((rd_T90 l1 x5_1).f2.f1)) ∧ w'.cell? ⟨(ad296.add ((x5_1).toNat * 11)).block, (ad296.add ((x5_1).toNat * 11)).off + 9, none⟩ = some (.int .i64 ((rd_T90 l1 x5_1).f3)) ∧ w'.cell? ⟨(ad296.add ((x5_1).toNat * 11)).block, (ad296.add ((x5_1).toNat * 11)).off + 10, none⟩ = some (.slice A296_10 ((rd_T90 l1 x5_1).f4).length c296_10)) (ds := []) #[false, false, false, false, false, false, false, false, false, false] (by kernel_rfl) rfl rfl ⟨((HB.out.cell (World.block_lt_of_cell? w _ hw295_0)).trans hw295_0), ((HB.out.cell (World.block_lt_of_cell? w _ hw295_1)).trans hw295_1), ((HB.out.cell (World.block_lt_of_cell? w _ hw295_2)).trans hw295_2), ((HB.out.cell (World.block_lt_of_cell? w _ hw295_3)).trans hw295_3), ((HB.out.cell (World.block_lt_of_cell? w _ hw295_4)).trans hw295_4), ((HB.out.cell (World.block_lt_of_cell? w _ hw295_5)).trans hw295_5), ((HB.out.cell (World.block_lt_of_cell? w _ hw295_6)).trans hw295_6), ((HB.out.cell (World.block_lt_of_cell? w _ hw295_7)).trans hw295_7), ((HB.out.cell (World.block_lt_of_cell? w _ hw295_8)).trans hw295_8), ((HB.out.cell (World.block_lt_of_cell? w _ hw295_9)).trans hw295_9), ((HB.out.cell (World.block_lt_of_cell? w _ hw295_10)).trans hw295_10), ((HB.out.cell (World.block_lt_of_cell? w _ hw296_0)).trans hw296_0), ((HB.out.cell (World.block_lt_of_cell? w _ hw296_1)).trans hw296_1), ((HB.out.cell (World.block_lt_of_cell? w _ hw296_2)).trans hw296_2), ((HB.out.cell (World.block_lt_of_cell? w _ hw296_3)).trans hw296_3), ((HB.out.cell (World.block_lt_of_cell? w _ hw296_4)).trans hw296_4), ((HB.out.cell (World.block_lt_of_cell? w _ hw296_5)).trans hw296_5), ((HB.out.cell (World.block_lt_of_cell? w _ hw296_6)).trans hw296_6), ((HB.out.cell (World.block_lt_of_cell? w _ hw296_7)).trans hw296_7), ((HB.out.cell (World.block_lt_of_cell? w _ hw296_8)).trans hw296_8), ((HB.out.cell (World.block_lt_of_cell? w _ hw296_9)).trans hw296_9), ((HB.out.cell (World.block_lt_of_cell? w _ hw296_10)).trans hw296_10)⟩ (fun hHeld => ?_); refine with_tabW laws_eqTstTestS.tab6 laws_eqTstTestS.bits6 (fun HT_ HW_ => ?_)
        generalize wr.drew = w9 at HB HR295_10 HR296_10 hx295_0 hx295_1 hx295_10 hx295_2 hx295_3 hx295_4 hx295_5 hx295_6 hx295_7 hx295_8 hx295_9 hx296_0 hx296_1 hx296_10 hx296_2 hx296_3 hx296_4 hx296_5 hx296_6 hx296_7 hx296_8 hx296_9 hHeld ⊢
        refine pure_ (i := 0) (N := some 17) (v := ?_) (a' := ?_) #[true, false, false, false, false, false, false, false, false, false] rfl rfl (any_of HT_.out (by kernel_rfl)) (fun _ _ _ h => h) (Or.inl ⟨by rfl, ?_⟩) ?_ ?_
        rotate_left
        ·intro w'
         go_simp
         with_reducible rfl
        rotate_left
        ·simp only [Act.put, List.setIfInBounds_toArray, List.set_cons_zero, List.set_cons_succ, i64_w, i32_w]
         rfl
        refine pure_ (i := 1) (N := some 18) (v := ?_) (a' := ?_) #[true, true, false, false, false, false, false, false, false, false] rfl rfl (any_of HT_.out (by kernel_rfl)) (fun _ _ _ h => h) (Or.inl ⟨by rfl, ?_⟩) ?_ ?_
        rotate_left
        ·intro w'
         go_simp
         with_reducible rfl
        rotate_left
        ·simp only [Act.put, List.setIfInBounds_toArray, List.set_cons_zero, List.set_cons_succ, i64_w, i32_w]
         rfl
        refine pure_ (i := 2) (N := some 19) (v := ?_) (a' := ?_) #[true, true, true, false, false, false, false, false, false, false] rfl rfl (any_of HT_.out (by kernel_rfl)) (fun _ _ _ h => h) (Or.inl ⟨by rfl, ?_⟩) ?_ ?_
        rotate_left
        ·intro w'
         go_simp
         with_reducible rfl
        rotate_left
        ·simp only [Act.put, List.setIfInBounds_toArray, List.set_cons_zero, List.set_cons_succ, i64_w, i32_w]
         rfl
        refine pure_ (i := 4) (N := some 21) (v := ?_) (a' := ?_) #[true, true, true, false, true, false, false, false, false, false] rfl rfl (any_of HT_.out (by kernel_rfl)) (fun _ _ _ h => h) (Or.inl ⟨by rfl, ?_⟩) ?_ ?_
        rotate_left
        ·intro w'
         go_simp
         with_reducible rfl
        rotate_left
        ·simp only [Act.put, List.setIfInBounds_toArray, List.set_cons_zero, List.set_cons_succ, i64_w, i32_w]
         rfl
        refine pure_ (i := 5) (N := some 22) (v := ?_) (a' := ?_) #[true, true, true, false, true, true, false, false, false, false] rfl rfl (any_of HT_.out (by kernel_rfl)) (fun _ _ _ h => h) (Or.inl ⟨by rfl, ?_⟩) ?_ ?_
        rotate_left
        ·intro w'
         go_simp
         with_reducible rfl
        rotate_left
        ·simp only [Act.put, List.setIfInBounds_toArray, List.set_cons_zero, List.set_cons_succ, i64_w, i32_w]
         rfl
        refine pure_ (i := 6) (N := some 23) (v := ?_) (a' := ?_) #[true, true, true, false, true, true, true, false, false, false] rfl rfl (any_of HT_.out (by kernel_rfl)) (fun _ _ _ h => h) (Or.inl ⟨by rfl, ?_⟩) ?_ ?_
        rotate_left
        ·intro w'
         go_simp
         with_reducible rfl
        rotate_left
        ·simp only [Act.put, List.setIfInBounds_toArray, List.set_cons_zero, List.set_cons_succ, i64_w, i32_w]
         rfl
        refine take_ (i := 3) (N := some 20) (v := ?_) (a' := ?_) #[true, true, true, true, true, true, true, false, false, false] rfl rfl (take_ofW HT_.out HW_.out (by kernel_rfl)) (fun _ _ _ h => h) (Or.inl ⟨by rfl, ?_⟩) hHeld ?_ ?_
        rotate_left
        ·rintro w' ⟨s0, s1, s2, s3, s4, s5, s6, s7, s8, s9, s10, s11, s12, s13, s14, s15, s16, s17, s18, s19, s20, s21⟩
         go_simp
         with_reducible rfl
        rotate_left
        ·simp only [Act.put, List.setIfInBounds_toArray, List.set_cons_zero, List.set_cons_succ, i64_w, i32_w]
         rfl
        refine take_ (i := 7) (N := some 24) (v := ?_) (a' := ?_) #[true, true, true, true, true, true, true, true, false, false] rfl rfl (take_ofW HT_.out HW_.out (by kernel_rfl)) (fun _ _ _ h => h) (Or.inl ⟨by rfl, ?_⟩) hHeld ?_ ?_
        rotate_left
        ·rintro w' ⟨s0, s1, s2, s3, s4, s5, s6, s7, s8, s9, s10, s11, s12, s13, s14, s15, s16, s17, s18, s19, s20, s21⟩
         go_simp
         with_reducible rfl
        rotate_left
        ·simp only [Act.put, List.setIfInBounds_toArray, List.set_cons_zero, List.set_cons_succ, i64_w, i32_w]
         rfl
        refine one_ (i := 8) (N := some 25) #[true, true, true, true, true, true, true, true, true, false] rfl rfl (one_of HT_.out (by kernel_rfl)) (by decide) (fun K hK => ?_)
        refine goes_ Try.func51 (by kernel_rfl) rfl #[.agg #[.int .i64 ((rd_T90 l0 x5_1).f0.f0), .int .i64 ((rd_T90 l0 x5_1).f0.f1.f0), .int .i64 ((rd_T90 l0 x5_1).f0.f1.f1), .int .i64 ((rd_T90 l0 x5_1).f0.f2.f0), .int .i64 ((rd_T90 l0 x5_1).f0.f2.f1), .int .i64 ((rd_T90 l0 x5_1).f0.f3), .int .i64 ((rd_T90 l0 x5_1).f1), .int .i64 ((rd_T90 l0 x5_1).f2.f0), .int .i64 ((rd_T90 l0 x5_1).f2.f1), .int .i64 ((rd_T90 l0 x5_1).f3), .slice A295_10 ((rd_T90 l0 x5_1).f4).length c295_10], .agg #[.int .i64 ((rd_T90 l1 x5_1).f0.f0), .int .i64 ((rd_T90 l1 x5_1).f0.f1.f0), .int .i64 ((rd_T90 l1 x5_1).f0.f1.f1), .int .i64 ((rd_T90 l1 x5_1).f0.f2.f0), .int .i64 ((rd_T90 l1 x5_1).f0.f2.f1), .int .i64 ((rd_T90 l1 x5_1).f0.f3), .int .i64 ((rd_T90 l1 x5_1).f1), .int .i64 ((rd_T90 l1 x5_1).f2.f0), .int .i64 ((rd_T90 l1 x5_1).f2.f1), .int .i64 ((rd_T90 l1 x5_1).f3), .slice A296_10 ((rd_T90 l1 x5_1).f4).length c296_10]] (by rfl) rfl rfl vL ?_
        with_reducible refine (laws_eqTstTest.calls k1 ((rd_T90 l0 x5_1).f0.f0) ((rd_T90 l0 x5_1).f0.f1.f0) ((rd_T90 l0 x5_1).f0.f1.f1) ((rd_T90 l0 x5_1).f0.f2.f0) ((rd_T90 l0 x5_1).f0.f2.f1) ((rd_T90 l0 x5_1).f0.f3) ((rd_T90 l0 x5_1).f1) ((rd_T90 l0 x5_1).f2.f0) ((rd_T90 l0 x5_1).f2.f1) ((rd_T90 l0 x5_1).f3) _ _ ((rd_T90 l0 x5_1).f4) ((rd_T90 l1 x5_1).f0.f0) ((rd_T90 l1 x5_1).f0.f1.f0) ((rd_T90 l1 x5_1).f0.f1.f1) ((rd_T90 l1 x5_1).f0.f2.f0) ((rd_T90 l1 x5_1).f0.f2.f1) ((rd_T90 l1 x5_1).f0.f3) ((rd_T90 l1 x5_1).f1) ((rd_T90 l1 x5_1).f2.f0) ((rd_T90 l1 x5_1).f2.f1) ((rd_T90 l1 x5_1).f3) _ _ ((rd_T90 l1 x5_1).f4) true _ ?side1 ?side2 ?side3 ?side4 A7.out).mono ?_
        (case side1 => repeat (first | exact (Kd.C_below HR295_10.out HB.out) | (with_reducible refine Kd.C_alloc ?_ _) | (with_reducible refine Kd.C_drewN ?_ _) | (with_reducible refine Kd.C_drew ?_)))
        (case side2 => exact HC295_10.out)
        (case side3 => repeat (first | exact (Kd.C_below HR296_10.out HB.out) | (with_reducible refine Kd.C_alloc ?_ _) | (with_reducible refine Kd.C_drewN ?_ _) | (with_reducible refine Kd.C_drew ?_)))
        (case side4 => exact HC296_10.out)
        rintro e w10 ⟨rfl, hb⟩
        refine ⟨_, rfl, ?_⟩
        have n0_ := Aside0.mk (below_step (vW0 HB.out) hb)
        clear HB
        have HB := n0_
        clear n0_
        (try clear hb)
        (try clear hb2)
        (try clear hk)
        (try clear hi)
        refine hK.out _ _ ⟨((HB.out.cell (World.block_lt_of_cell? w _ hw295_0)).trans hw295_0), ((HB.out.cell (World.block_lt_of_cell? w _ hw295_1)).trans hw295_1), ((HB.out.cell (World.block_lt_of_cell? w _ hw295_2)).trans hw295_2), ((HB.out.cell (World.block_lt_of_cell? w _ hw295_3)).trans hw295_3), ((HB.out.cell (World.block_lt_of_cell? w _ hw295_4)).trans hw295_4), ((HB.out.cell (World.block_lt_of_cell? w _ hw295_5)).trans hw295_5), ((HB.out.cell (World.block_lt_of_cell? w _ hw295_6)).trans hw295_6), ((HB.out.cell (World.block_lt_of_cell? w _ hw295_7)).trans hw295_7), ((HB.out.cell (World.block_lt_of_cell? w _ hw295_8)).trans hw295_8), ((HB.out.cell (World.block_lt_of_cell? w _ hw295_9)).trans hw295_9), ((HB.out.cell (World.block_lt_of_cell? w _ hw295_10)).trans hw295_10), ((HB.out.cell (World.block_lt_of_cell? w _ hw296_0)).trans hw296_0), ((HB.out.cell (World.block_lt_of_cell? w _ hw296_1)).trans hw296_1), ((HB.out.cell (World.block_lt_of_cell? w _ hw296_2)).trans hw296_2), ((HB.out.cell (World.block_lt_of_cell? w _ hw296_3)).trans hw296_3), ((HB.out.cell (World.block_lt_of_cell? w _ hw296_4)).trans hw296_4), ((HB.out.cell (World.block_lt_of_cell? w _ hw296_5)).trans hw296_5), ((HB.out.cell (World.block_lt_of_cell? w _ hw296_6)).trans hw296_6), ((HB.out.cell (World.block_lt_of_cell? w _ hw296_7)).trans hw296_7), ((HB.out.cell (World.block_lt_of_cell? w _ hw296_8)).trans hw296_8), ((HB.out.cell (World.block_lt_of_cell? w _ hw296_9)).trans hw296_9), ((HB.out.cell (World.block_lt_of_cell? w _ hw296_10)).trans hw296_10)⟩ (fun hHeld => ?_)
        clear hK K
        refine norm_ (a' := ?_) ?_ ?_
        rotate_left
        ·show Act.put _ (some 25) _ = _
         simp only [Act.put, List.setIfInBounds_toArray, List.set_cons_zero, List.set_cons_succ, i64_w, i32_w]
         rfl
        refine pure_ (i := 9) (N := some 26) (v := ?_) (a' := ?_) #[true, true, true, true, true, true, true, true, true, true] rfl rfl (any_of HT_.out (by kernel_rfl)) (fun _ _ _ h => h) (Or.inl ⟨by rfl, ?_⟩) ?_ ?_
        rotate_left
        ·intro w'
         go_simp
         with_reducible rfl
        rotate_left
        ·simp only [Act.put, List.setIfInBounds_toArray, List.set_cons_zero, List.set_cons_succ, i64_w, i32_w]
         rfl
        refine done_ (done_of HT_.out (by kernel_rfl)) ?_
        try go_wp2
        go_roundg k1
        case measure => have := HK1.out; omega
        case rel => exact ⟨(wrap64 (x5_1 + 1)), (by first | rfl | (simp; done) | (simp [*]; done)), H', ⟨by have := HK1.out; omega⟩, ⟨by repeat (first | (with_reducible first | exact HB.out | apply below_alloc | apply pw_below_drewN | apply below_drew1) | exact HB.out)⟩⟩
       ·replace c8 := Bool.eq_false_iff.mpr c8
        subst c8
        have H1 : (some false) = some r := by rw [if_neg (show ¬ (false = true) by decide)] at H; exact H
        clear H
        have H := H1
        clear H1
        obtain rfl := Option.some.inj H
        try go_wp2
        have n0_ := Aside0.mk (below_drew1 HB.out)
        clear HB
        have HB := n0_
        clear n0_
        have p295 : 0 ≤ (x5_1 : Int) := of_decide_eq_true (by first | (with_reducible assumption) | assumption)
        have q295 : x5_1 < (l0.length : Int) := of_decide_eq_true (by first | (with_reducible assumption) | assumption)
        obtain ⟨ad295, A295_10, c295_10, e295, hx295_0, hx295_1, hx295_2, hx295_3, hx295_4, hx295_5, hx295_6, hx295_7, hx295_8, hx295_9, hx295_10, hl295_10, hi295_10⟩ := at_T90 HR0.out x5_1 p295 q295
        have hw295_10 := hx295_10
        have hw295_9 := hx295_9
        have hw295_8 := hx295_8
        have hw295_7 := hx295_7
        have hw295_6 := hx295_6
        have hw295_5 := hx295_5
        have hw295_4 := hx295_4
        have hw295_3 := hx295_3
        have hw295_2 := hx295_2
        have hw295_1 := hx295_1
        have hw295_0 := hx295_0
        cases e295
        replace hx295_0 := (HB.out.cell (World.block_lt_of_cell? w _ hx295_0)).trans hx295_0
        replace hx295_1 := (HB.out.cell (World.block_lt_of_cell? w _ hx295_1)).trans hx295_1
        replace hx295_2 := (HB.out.cell (World.block_lt_of_cell? w _ hx295_2)).trans hx295_2
        replace hx295_3 := (HB.out.cell (World.block_lt_of_cell? w _ hx295_3)).trans hx295_3
        replace hx295_4 := (HB.out.cell (World.block_lt_of_cell? w _ hx295_4)).trans hx295_4
        replace hx295_5 := (HB.out.cell (World.block_lt_of_cell? w _ hx295_5)).trans hx295_5
        replace hx295_6 := (HB.out.cell (World.block_lt_of_cell? w _ hx295_6)).trans hx295_6
        replace hx295_7 := (HB.out.cell (World.block_lt_of_cell? w _ hx295_7)).trans hx295_7
        replace hx295_8 := (HB.out.cell (World.block_lt_of_cell? w _ hx295_8)).trans hx295_8
        replace hx295_9 := (HB.out.cell (World.block_lt_of_cell? w _ hx295_9)).trans hx295_9
        replace hx295_10 := (HB.out.cell (World.block_lt_of_cell? w _ hx295_10)).trans hx295_10
        have HR295_10 := Aside0.mk hi295_10
        have HC295_10 := Aside0.mk hl295_10
        clear hi295_10 hl295_10
        replace p295 := eq_true p295
        replace q295 := eq_true q295
        have p296 : 0 ≤ (x5_1 : Int) := of_decide_eq_true (by first | (with_reducible assumption) | assumption)
        have q296 : x5_1 < (l1.length : Int) := of_decide_eq_true (by first | (with_reducible assumption) | assumption)
        obtain ⟨ad296, A296_10, c296_10, e296, hx296_0, hx296_1, hx296_2, hx296_3, hx296_4, hx296_5, hx296_6, hx296_7, hx296_8, hx296_9, hx296_10, hl296_10, hi296_10⟩ := at_T90 HR1.out x5_1 p296 q296
        have hw296_10 := hx296_10
        have hw296_9 := hx296_9
        have hw296_8 := hx296_8
        have hw296_7 := hx296_7
        have hw296_6 := hx296_6
        have hw296_5 := hx296_5
        have hw296_4 := hx296_4
        have hw296_3 := hx296_3
        have hw296_2 := hx296_2
        have hw296_1 := hx296_1
        have hw296_0 := hx296_0
        cases e296
        replace hx296_0 := (HB.out.cell (World.block_lt_of_cell? w _ hx296_0)).trans hx296_0
        replace hx296_1 := (HB.out.cell (World.block_lt_of_cell? w _ hx296_1)).trans hx296_1
        replace hx296_2 := (HB.out.cell (World.block_lt_of_cell? w _ hx296_2)).trans hx296_2
        replace hx296_3 := (HB.out.cell (World.block_lt_of_cell? w _ hx296_3)).trans hx296_3
        replace hx296_4 := (HB.out.cell (World.block_lt_of_cell? w _ hx296_4)).trans hx296_4
        replace hx296_5 := (HB.out.cell (World.block_lt_of_cell? w _ hx296_5)).trans hx296_5
        replace hx296_6 := (HB.out.cell (World.block_lt_of_cell? w _ hx296_6)).trans hx296_6
        replace hx296_7 := (HB.out.cell (World.block_lt_of_cell? w _ hx296_7)).trans hx296_7
        replace hx296_8 := (HB.out.cell (World.block_lt_of_cell? w _ hx296_8)).trans hx296_8
        replace hx296_9 := (HB.out.cell (World.block_lt_of_cell? w _ hx296_9)).trans hx296_9
        replace hx296_10 := (HB.out.cell (World.block_lt_of_cell? w _ hx296_10)).trans hx296_10
        have HR296_10 := Aside0.mk hi296_10
        have HC296_10 := Aside0.mk hl296_10
        clear hi296_10 hl296_10
        replace p296 := eq_true p296
        replace q296 := eq_true q296
        refine start_ (n := 10) (S := fun w' => w'.cell? (ad295.add ((x5_1).toNat * 11)) = some (.int .i64 ((rd_T90 l0 x5_1).f0.f0)) ∧ w'.cell? ⟨(ad295.add ((x5_1).toNat * 11)).block, (ad295.add ((x5_1).toNat * 11)).off + 1, none⟩ = some (.int .i64 ((rd_T90 l0 x5_1).f0.f1.f0)) ∧ w'.cell? ⟨(ad295.add ((x5_1).toNat * 11)).block, (ad295.add ((x5_1).toNat * 11)).off + 2, none⟩ = some (.int .i64 ((rd_T90 l0 x5_1).f0.f1.f1)) ∧ w'.cell? ⟨(ad295.add ((x5_1).toNat * 11)).block, (ad295.add ((x5_1).toNat * 11)).off + 3, none⟩ = some (.int .i64 ((rd_T90 l0 x5_1).f0.f2.f0)) ∧ w'.cell? ⟨(ad295.add ((x5_1).toNat * 11)).block, (ad295.add ((x5_1).toNat * 11)).off + 4, none⟩ = some (.int .i64 ((rd_T90 l0 x5_1).f0.f2.f1)) ∧ w'.cell? ⟨(ad295.add ((x5_1).toNat * 11)).block, (ad295.add ((x5_1).toNat * 11)).off + 5, none⟩ = some (.int .i64 ((rd_T90 l0 x5_1).f0.f3)) ∧ w'.cell? ⟨(ad295.add ((x5_1).toNat * 11)).block, (ad295.add ((x5_1).toNat * 11)).off + 6, none⟩ = some (.int .i64 ((rd_T90 l0 x5_1).f1)) ∧ w'.cell? ⟨(ad295.add ((x5_1).toNat * 11)).block, (ad295.add ((x5_1).toNat * 11)).off + 7, none⟩ = some (.int .i64 ((rd_T90 l0 x5_1).f2.f0)) ∧ w'.cell? ⟨(ad295.add ((x5_1).toNat * 11)).block, (ad295.add ((x5_1).toNat * 11)).off + 8, none⟩ = some (.int .i64 ((rd_T90 l0 x5_1).f2.f1)) ∧ w'.cell? ⟨(ad295.add ((x5_1).toNat * 11)).block, (ad295.add ((x5_1).toNat * 11)).off + 9, none⟩ = some (.int .i64 ((rd_T90 l0 x5_1).f3)) ∧ w'.cell? ⟨(ad295.add ((x5_1).toNat * 11)).block, (ad295.add ((x5_1).toNat * 11)).off + 10, none⟩ = some (.slice A295_10 ((rd_T90 l0 x5_1).f4).length c295_10) ∧ w'.cell? (ad296.add ((x5_1).toNat * 11)) = some (.int .i64 ((rd_T90 l1 x5_1).f0.f0)) ∧ w'.cell? ⟨(ad296.add ((x5_1).toNat * 11)).block, (ad296.add ((x5_1).toNat * 11)).off + 1, none⟩ = some (.int .i64 ((rd_T90 l1 x5_1).f0.f1.f0)) ∧ w'.cell? ⟨(ad296.add ((x5_1).toNat * 11)).block, (ad296.add ((x5_1).toNat * 11)).off + 2, none⟩ = some (.int .i64 ((rd_T90 l1 x5_1).f0.f1.f1)) ∧ w'.cell? ⟨(ad296.add ((x5_1).toNat * 11)).block, (ad296.add ((x5_1).toNat * 11)).off + 3, none⟩ = some (.int .i64 ((rd_T90 l1 x5_1).f0.f2.f0)) ∧ w'.cell? ⟨(ad296.add ((x5_1).toNat * 11)).block, (ad296.add ((x5_1).toNat * 11)).off + 4, none⟩ = some (.int .i64 ((rd_T90 l1 x5_1).f0.f2.f1)) ∧ w'.cell? ⟨(ad296.add ((x5_1).toNat * 11)).block, (ad296.add ((x5_1).toNat * 11)).off + 5, none⟩ = some (.int .i64 ((rd_T90 l1 x5_1).f0.f3)) ∧ w'.cell? ⟨(ad296.add ((x5_1).toNat * 11)).block, (ad296.add ((x5_1).toNat * 11)).off + 6, none⟩ = some (.int .i64 ((rd_T90 l1 x5_1).f1)) ∧ w'.cell? ⟨(ad296.add ((x5_1).toNat * 11)).block, (ad296.add ((x5_1).toNat * 11)).off + 7, none⟩ = some (.int .i64 ((rd_T90 l1 x5_1).f2.f0)) ∧ w'.cell? ⟨(ad296.add ((x5_1).toNat * 11)).block, (ad296.add ((x5_1).toNat * 11)).off + 8, none⟩ = some (.int .i64 ((rd_T90 l1 x5_1).f2.f1)) ∧ w'.cell? ⟨(ad296.add ((x5_1).toNat * 11)).block, (ad296.add ((x5_1).toNat * 11)).off + 9, none⟩ = some (.int .i64 ((rd_T90 l1 x5_1).f3)) ∧ w'.cell? ⟨(ad296.add ((x5_1).toNat * 11)).block, (ad296.add ((x5_1).toNat * 11)).off + 10, none⟩ = some (.slice A296_10 ((rd_T90 l1 x5_1).f4).length c296_10)) (ds := []) #[false, false, false, false, false, false, false, false, false, false] (by kernel_rfl) rfl rfl ⟨((HB.out.cell (World.block_lt_of_cell? w _ hw295_0)).trans hw295_0), ((HB.out.cell (World.block_lt_of_cell? w _ hw295_1)).trans hw295_1), ((HB.out.cell (World.block_lt_of_cell? w _ hw295_2)).trans hw295_2), ((HB.out.cell (World.block_lt_of_cell? w _ hw295_3)).trans hw295_3), ((HB.out.cell (World.block_lt_of_cell? w _ hw295_4)).trans hw295_4), ((HB.out.cell (World.block_lt_of_cell? w _ hw295_5)).trans hw295_5), ((HB.out.cell (World.block_lt_of_cell? w _ hw295_6)).trans hw295_6), ((HB.out.cell (World.block_lt_of_cell? w _ hw295_7)).trans hw295_7), ((HB.out.cell (World.block_lt_of_cell? w _ hw295_8)).trans hw295_8), ((HB.out.cell (World.block_lt_of_cell? w _ hw295_9)).trans hw295_9), ((HB.out.cell (World.block_lt_of_cell? w _ hw295_10)).trans hw295_10), ((HB.out.cell (World.block_lt_of_cell? w _ hw296_0)).trans hw296_0), ((HB.out.cell (World.block_lt_of_cell? w _ hw296_1)).trans hw296_1), ((HB.out.cell (World.block_lt_of_cell? w _ hw296_2)).trans hw296_2), ((HB.out.cell (World.block_lt_of_cell? w _ hw296_3)).trans hw296_3), ((HB.out.cell (World.block_lt_of_cell? w _ hw296_4)).trans hw296_4), ((HB.out.cell (World.block_lt_of_cell? w _ hw296_5)).trans hw296_5), ((HB.out.cell (World.block_lt_of_cell? w _ hw296_6)).trans hw296_6), ((HB.out.cell (World.block_lt_of_cell? w _ hw296_7)).trans hw296_7), ((HB.out.cell (World.block_lt_of_cell? w _ hw296_8)).trans hw296_8), ((HB.out.cell (World.block_lt_of_cell? w _ hw296_9)).trans hw296_9), ((HB.out.cell (World.block_lt_of_cell? w _ hw296_10)).trans hw296_10)⟩ (fun hHeld => ?_); refine with_tabW laws_eqTstTestS.tab6 laws_eqTstTestS.bits6 (fun HT_ HW_ => ?_)
        generalize wr.drew = w11 at HB HR295_10 HR296_10 hx295_0 hx295_1 hx295_10 hx295_2 hx295_3 hx295_4 hx295_5 hx295_6 hx295_7 hx295_8 hx295_9 hx296_0 hx296_1 hx296_10 hx296_2 hx296_3 hx296_4 hx296_5 hx296_6 hx296_7 hx296_8 hx296_9 hHeld ⊢
        refine pure_ (i := 0) (N := some 17) (v := ?_) (a' := ?_) #[true, false, false, false, false, false, false, false, false, false] rfl rfl (any_of HT_.out (by kernel_rfl)) (fun _ _ _ h => h) (Or.inl ⟨by rfl, ?_⟩) ?_ ?_
        rotate_left
        ·intro w'
         go_simp
         with_reducible rfl
        rotate_left
        ·simp only [Act.put, List.setIfInBounds_toArray, List.set_cons_zero, List.set_cons_succ, i64_w, i32_w]
         rfl
        refine pure_ (i := 1) (N := some 18) (v := ?_) (a' := ?_) #[true, true, false, false, false, false, false, false, false, false] rfl rfl (any_of HT_.out (by kernel_rfl)) (fun _ _ _ h => h) (Or.inl ⟨by rfl, ?_⟩) ?_ ?_
        rotate_left
        ·intro w'
         go_simp
         with_reducible rfl
        rotate_left
        ·simp only [Act.put, List.setIfInBounds_toArray, List.set_cons_zero, List.set_cons_succ, i64_w, i32_w]
         rfl
        refine pure_ (i := 2) (N := some 19) (v := ?_) (a' := ?_) #[true, true, true, false, false, false, false, false, false, false] rfl rfl (any_of HT_.out (by kernel_rfl)) (fun _ _ _ h => h) (Or.inl ⟨by rfl, ?_⟩) ?_ ?_
        rotate_left
        ·intro w'
         go_simp
         with_reducible rfl
        rotate_left
        ·simp only [Act.put, List.setIfInBounds_toArray, List.set_cons_zero, List.set_cons_succ, i64_w, i32_w]
         rfl
        refine pure_ (i := 4) (N := some 21) (v := ?_) (a' := ?_) #[true, true, true, false, true, false, false, false, false, false] rfl rfl (any_of HT_.out (by kernel_rfl)) (fun _ _ _ h => h) (Or.inl ⟨by rfl, ?_⟩) ?_ ?_
        rotate_left
        ·intro w'
         go_simp
         with_reducible rfl
        rotate_left
        ·simp only [Act.put, List.setIfInBounds_toArray, List.set_cons_zero, List.set_cons_succ, i64_w, i32_w]
         rfl
        refine pure_ (i := 5) (N := some 22) (v := ?_) (a' := ?_) #[true, true, true, false, true, true, false, false, false, false] rfl rfl (any_of HT_.out (by kernel_rfl)) (fun _ _ _ h => h) (Or.inl ⟨by rfl, ?_⟩) ?_ ?_
        rotate_left
        ·intro w'
         go_simp
         with_reducible rfl
        rotate_left
        ·simp only [Act.put, List.setIfInBounds_toArray, List.set_cons_zero, List.set_cons_succ, i64_w, i32_w]
         rfl
        refine pure_ (i := 6) (N := some 23) (v := ?_) (a' := ?_) #[true, true, true, false, true, true, true, false, false, false] rfl rfl (any_of HT_.out (by kernel_rfl)) (fun _ _ _ h => h) (Or.inl ⟨by rfl, ?_⟩) ?_ ?_
        rotate_left
        ·intro w'
         go_simp
         with_reducible rfl
        rotate_left
        ·simp only [Act.put, List.setIfInBounds_toArray, List.set_cons_zero, List.set_cons_succ, i64_w, i32_w]
         rfl
        refine take_ (i := 3) (N := some 20) (v := ?_) (a' := ?_) #[true, true, true, true, true, true, true, false, false, false] rfl rfl (take_ofW HT_.out HW_.out (by kernel_rfl)) (fun _ _ _ h => h) (Or.inl ⟨by rfl, ?_⟩) hHeld ?_ ?_
        rotate_left
        ·rintro w' ⟨s0, s1, s2, s3, s4, s5, s6, s7, s8, s9, s10, s11, s12, s13, s14, s15, s16, s17, s18, s19, s20, s21⟩
         go_simp
         with_reducible rfl
        rotate_left
        ·simp only [Act.put, List.setIfInBounds_toArray, List.set_cons_zero, List.set_cons_succ, i64_w, i32_w]
         rfl
        refine take_ (i := 7) (N := some 24) (v := ?_) (a' := ?_) #[true, true, true, true, true, true, true, true, false, false] rfl rfl (take_ofW HT_.out HW_.out (by kernel_rfl)) (fun _ _ _ h => h) (Or.inl ⟨by rfl, ?_⟩) hHeld ?_ ?_
        rotate_left
        ·rintro w' ⟨s0, s1, s2, s3, s4, s5, s6, s7, s8, s9, s10, s11, s12, s13, s14, s15, s16, s17, s18, s19, s20, s21⟩
         go_simp
         with_reducible rfl
        rotate_left
        ·simp only [Act.put, List.setIfInBounds_toArray, List.set_cons_zero, List.set_cons_succ, i64_w, i32_w]
         rfl
        refine one_ (i := 8) (N := some 25) #[true, true, true, true, true, true, true, true, true, false] rfl rfl (one_of HT_.out (by kernel_rfl)) (by decide) (fun K hK => ?_)
        refine goes_ Try.func51 (by kernel_rfl) rfl #[.agg #[.int .i64 ((rd_T90 l0 x5_1).f0.f0), .int .i64 ((rd_T90 l0 x5_1).f0.f1.f0), .int .i64 ((rd_T90 l0 x5_1).f0.f1.f1), .int .i64 ((rd_T90 l0 x5_1).f0.f2.f0), .int .i64 ((rd_T90 l0 x5_1).f0.f2.f1), .int .i64 ((rd_T90 l0 x5_1).f0.f3), .int .i64 ((rd_T90 l0 x5_1).f1), .int .i64 ((rd_T90 l0 x5_1).f2.f0), .int .i64 ((rd_T90 l0 x5_1).f2.f1), .int .i64 ((rd_T90 l0 x5_1).f3), .slice A295_10 ((rd_T90 l0 x5_1).f4).length c295_10], .agg #[.int .i64 ((rd_T90 l1 x5_1).f0.f0), .int .i64 ((rd_T90 l1 x5_1).f0.f1.f0), .int .i64 ((rd_T90 l1 x5_1).f0.f1.f1), .int .i64 ((rd_T90 l1 x5_1).f0.f2.f0), .int .i64 ((rd_T90 l1 x5_1).f0.f2.f1), .int .i64 ((rd_T90 l1 x5_1).f0.f3), .int .i64 ((rd_T90 l1 x5_1).f1), .int .i64 ((rd_T90 l1 x5_1).f2.f0), .int .i64 ((rd_T90 l1 x5_1).f2.f1), .int .i64 ((rd_T90 l1 x5_1).f3), .slice A296_10 ((rd_T90 l1 x5_1).f4).length c296_10]] (by rfl) rfl rfl vL ?_
        with_reducible refine (laws_eqTstTest.calls k1 ((rd_T90 l0 x5_1).f0.f0) ((rd_T90 l0 x5_1).f0.f1.f0) ((rd_T90 l0 x5_1).f0.f1.f1) ((rd_T90 l0 x5_1).f0.f2.f0) ((rd_T90 l0 x5_1).f0.f2.f1) ((rd_T90 l0 x5_1).f0.f3) ((rd_T90 l0 x5_1).f1) ((rd_T90 l0 x5_1).f2.f0) ((rd_T90 l0 x5_1).f2.f1) ((rd_T90 l0 x5_1).f3) _ _ ((rd_T90 l0 x5_1).f4) ((rd_T90 l1 x5_1).f0.f0) ((rd_T90 l1 x5_1).f0.f1.f0) ((rd_T90 l1 x5_1).f0.f1.f1) ((rd_T90 l1 x5_1).f0.f2.f0) ((rd_T90 l1 x5_1).f0.f2.f1) ((rd_T90 l1 x5_1).f0.f3) ((rd_T90 l1 x5_1).f1) ((rd_T90 l1 x5_1).f2.f0) ((rd_T90 l1 x5_1).f2.f1) ((rd_T90 l1 x5_1).f3) _ _ ((rd_T90 l1 x5_1).f4) false _ ?side1 ?side2 ?side3 ?side4 A7.out).mono ?_
        (case side1 => repeat (first | exact (Kd.C_below HR295_10.out HB.out) | (with_reducible refine Kd.C_alloc ?_ _) | (with_reducible refine Kd.C_drewN ?_ _) | (with_reducible refine Kd.C_drew ?_)))
        (case side2 => exact HC295_10.out)
        (case side3 => repeat (first | exact (Kd.C_below HR296_10.out HB.out) | (with_reducible refine Kd.C_alloc ?_ _) | (with_reducible refine Kd.C_drewN ?_ _) | (with_reducible refine Kd.C_drew ?_)))
        (case side4 => exact HC296_10.out)
        rintro e w12 ⟨rfl, hb⟩
        refine ⟨_, rfl, ?_⟩
        have n0_ := Aside0.mk (below_step (vW0 HB.out) hb)
        clear HB
        have HB := n0_
        clear n0_
        (try clear hb)
        (try clear hb2)
        (try clear hk)
        (try clear hi)
        refine hK.out _ _ ⟨((HB.out.cell (World.block_lt_of_cell? w _ hw295_0)).trans hw295_0), ((HB.out.cell (World.block_lt_of_cell? w _ hw295_1)).trans hw295_1), ((HB.out.cell (World.block_lt_of_cell? w _ hw295_2)).trans hw295_2), ((HB.out.cell (World.block_lt_of_cell? w _ hw295_3)).trans hw295_3), ((HB.out.cell (World.block_lt_of_cell? w _ hw295_4)).trans hw295_4), ((HB.out.cell (World.block_lt_of_cell? w _ hw295_5)).trans hw295_5), ((HB.out.cell (World.block_lt_of_cell? w _ hw295_6)).trans hw295_6), ((HB.out.cell (World.block_lt_of_cell? w _ hw295_7)).trans hw295_7), ((HB.out.cell (World.block_lt_of_cell? w _ hw295_8)).trans hw295_8), ((HB.out.cell (World.block_lt_of_cell? w _ hw295_9)).trans hw295_9), ((HB.out.cell (World.block_lt_of_cell? w _ hw295_10)).trans hw295_10), ((HB.out.cell (World.block_lt_of_cell? w _ hw296_0)).trans hw296_0), ((HB.out.cell (World.block_lt_of_cell? w _ hw296_1)).trans hw296_1), ((HB.out.cell (World.block_lt_of_cell? w _ hw296_2)).trans hw296_2), ((HB.out.cell (World.block_lt_of_cell? w _ hw296_3)).trans hw296_3), ((HB.out.cell (World.block_lt_of_cell? w _ hw296_4)).trans hw296_4), ((HB.out.cell (World.block_lt_of_cell? w _ hw296_5)).trans hw296_5), ((HB.out.cell (World.block_lt_of_cell? w _ hw296_6)).trans hw296_6), ((HB.out.cell (World.block_lt_of_cell? w _ hw296_7)).trans hw296_7), ((HB.out.cell (World.block_lt_of_cell? w _ hw296_8)).trans hw296_8), ((HB.out.cell (World.block_lt_of_cell? w _ hw296_9)).trans hw296_9), ((HB.out.cell (World.block_lt_of_cell? w _ hw296_10)).trans hw296_10)⟩ (fun hHeld => ?_)
        clear hK K
        refine norm_ (a' := ?_) ?_ ?_
        rotate_left
        ·show Act.put _ (some 25) _ = _
         simp only [Act.put, List.setIfInBounds_toArray, List.set_cons_zero, List.set_cons_succ, i64_w, i32_w]
         rfl
        refine pure_ (i := 9) (N := some 26) (v := ?_) (a' := ?_) #[true, true, true, true, true, true, true, true, true, true] rfl rfl (any_of HT_.out (by kernel_rfl)) (fun _ _ _ h => h) (Or.inl ⟨by rfl, ?_⟩) ?_ ?_
        rotate_left
        ·intro w'
         go_simp
         with_reducible rfl
        rotate_left
        ·simp only [Act.put, List.setIfInBounds_toArray, List.set_cons_zero, List.set_cons_succ, i64_w, i32_w]
         rfl
        refine done_ (done_of HT_.out (by kernel_rfl)) ?_
        try go_wp2
        go_ret
        exact ⟨by first | rfl | (simp [errW_none, errW_some] <;> rfl) | (simp [*, errW_none, errW_some] <;> rfl), by repeat (first | (with_reducible first | exact HB.out | apply below_alloc | apply pw_below_drewN | apply below_drew1) | exact HB.out)⟩
      ·rw [if_neg c6] at H
       exact absurd H (by simp)
     ·rw [if_neg c5] at H
      exact absurd H (by simp)
    ·rw [if_neg c4] at H
     have c4b0 : decide (x5_1 < (l0.length : Int)) = false := decide_eq_false c4
     clear c4
     obtain rfl := Option.some.inj H
     go_wp2
     go_ret
     exact ⟨by first | rfl | (simp [errW_none, errW_some] <;> rfl) | (simp [*, errW_none, errW_some] <;> rfl), by repeat (first | (with_reducible first | exact HB.out | apply below_alloc | apply pw_below_drewN | apply below_drew1) | exact HB.out)⟩
 ·rw [if_neg c3] at H
  have c3b0 : ((l0.length : Int) == (l1.length : Int)) = false := beq_eq_false_iff_ne.mpr c3
  have c3b1 : ((l0.length : Int) != (l1.length : Int)) = true := bne_iff_ne.mpr c3
  have c3b2 : (l0.length == l1.length) = false := by first | simpa using c3 | (simp at c3 ⊢; omega)
  obtain rfl := Option.some.inj H
  go_enter Try.func42, Try.ntmps42
  go_wp2
  go_ret
  exact ⟨by first | rfl | (simp [errW_none, errW_some] <;> rfl) | (simp [*, errW_none, errW_some] <;> rfl), by repeat (first | (with_reducible first | exact HB.out | apply below_alloc | apply pw_below_drewN | apply below_drew1) | exact HB.out)⟩

/-! ### laws_eqBatSig: function 52 -/
def laws_eqBatSig.f (a0_0 : Int) (a0_1 : Int) (a0_2 : Int) (a1_0 : Int) (a1_1 : Int) (a1_2 : Int) : Option (Bool) := if a0_0 = a1_0 then (if a0_1 = a1_1 then (if a0_2 = a1_2 then (some true) else (some false)) else (some false)) else (some false)
set_option maxHeartbeats 8000000 in
set_option maxRecDepth 100000 in
theorem laws_eqBatSig.calls (a0_0 : Int) (a0_1 : Int) (a0_2 : Int) (a1_0 : Int) (a1_1 : Int) (a1_2 : Int) (r : Bool) (w : World) (h : laws_eqBatSig.f a0_0 a0_1 a0_2 a1_0 a1_1 a1_2 = some r) :
  Calls Try.prog 52 #[.agg #[.int .i64 a0_0, .int .i64 a0_1, .int .i64 a0_2], .agg #[.int .i64 a1_0, .int .i64 a1_1, .int .i64 a1_2]] w fun e w' => e = .returned (.bool r) ∧ Below w.heap.size w w' := by
 have hu93 := Try.underlying93
 have HB := Aside0.mk (Below.refl w.heap.size w)
 have H : (if a0_0 = a1_0 then (if a0_1 = a1_1 then (if a0_2 = a1_2 then (some true) else (some false)) else (some false)) else (some false)) = some r := h
 clear h
 by_cases c3 : a0_0 = a1_0
 ·rw [if_pos c3] at H
  have c3b0 : (a0_0 == a1_0) = true := beq_iff_eq.mpr c3
  have c3b1 : (a0_0 != a1_0) = false := bne_eq_false_iff_eq.mpr c3
  clear c3
  by_cases c4 : a0_1 = a1_1
  ·rw [if_pos c4] at H
   have c4b0 : (a0_1 == a1_1) = true := beq_iff_eq.mpr c4
   have c4b1 : (a0_1 != a1_1) = false := bne_eq_false_iff_eq.mpr c4
   clear c4
   by_cases c5 : a0_2 = a1_2
   ·rw [if_pos c5] at H
    have c5b0 : (a0_2 == a1_2) = true := beq_iff_eq.mpr c5
    have c5b1 : (a0_2 != a1_2) = false := bne_eq_false_iff_eq.mpr c5
    clear c5
    obtain rfl := Option.some.inj H
    go_enter Try.func52, Try.ntmps52
    go_wp2_with (first | ((with_reducible refine gate_dst (N := 2) rfl ?_); refine box_event ?hg (N := 2) ?hd (cs := #[.int .i64 a0_0, .int .i64 a0_1, .int .i64 a0_2]) (t := 93) ?hr ?_; (case hd => rfl); (case hg => rfl); (case hr => first | (go_simp; done) | (go_simp; rfl)); intro gb298 hg w6 hbox hb; have n0_ := Aside0.mk (below_step (vW0 HB.out) hb); have n1_ := Aside0.mk (hbox); have n2_ := Aside0.mk ((by rw [hg]; exact (below_size (vW0 HB.out)) : w.heap.size ≤ gb298)); have n3_ := Aside0.mk ((by rw [hg]; exact (below_size (vW0 HB.out)) : w.heap.size ≤ gb298)); clear HB; have HB := n0_; have BK298 := n1_; have GW298 := n2_; have GE298 := n3_; clear n0_ n1_ n2_ n3_; clear hb hbox hg) | ((with_reducible refine gate_dst (N := 3) rfl ?_); refine box_event ?hg (N := 3) ?hd (cs := #[.int .i64 a1_0, .int .i64 a1_1, .int .i64 a1_2]) (t := 93) ?hr ?_; (case hd => rfl); (case hg => rfl); (case hr => first | (go_simp; done) | (go_simp; rfl)); intro gb299 hg w7 hbox hb; have n0_ := Aside0.mk (blk_below (g := gb298) (o := .cells #[.int .i64 a0_0, .int .i64 a0_1, .int .i64 a0_2] 93 (0, 0)) (vB BK298.out) hb); have n1_ := Aside0.mk (below_step (vW1 HB.out GE298.out) hb); have n2_ := Aside0.mk (hbox); have n3_ := Aside0.mk ((by rw [hg]; exact (below_size (vW1 HB.out GE298.out)) : w.heap.size ≤ gb299)); have n4_ := Aside0.mk ((by rw [hg]; exact (below_size (vW1 HB.out GE298.out)) : w.heap.size ≤ gb299)); have n5_ := Aside0.mk ((by rw [hg]; exact Nat.ne_of_lt (blk_lt (g := gb298) (o := .cells #[.int .i64 a0_0, .int .i64 a0_1, .int .i64 a0_2] 93 (0, 0)) (vB BK298.out)) : gb298 ≠ gb299)); have n6_ := Aside0.mk ((by rw [hg]; exact Nat.ne_of_gt (blk_lt (g := gb298) (o := .cells #[.int .i64 a0_0, .int .i64 a0_1, .int .i64 a0_2] 93 (0, 0)) (vB BK298.out)) : gb299 ≠ gb298)); clear BK298; clear HB; have BK298 := n0_; have HB := n1_; have BK299 := n2_; have GW299 := n3_; have GE299 := n4_; have NB298_299 := n5_; have NB299_298 := n6_; clear n0_ n1_ n2_ n3_ n4_ n5_ n6_; clear hb hbox hg; have hnb8 := NB298_299.out; have hnc8 := NB299_298.out; have hcz9_0 : w7.cell? ⟨gb298, 0, none⟩ = some (.int .i64 a0_0) := (blk_cell BK298.out 0).trans rfl; have hcz9_1 : w7.cell? ⟨gb298, 1, none⟩ = some (.int .i64 a0_1) := (blk_cell BK298.out 1).trans rfl; have hcz9_2 : w7.cell? ⟨gb298, 2, none⟩ = some (.int .i64 a0_2) := (blk_cell BK298.out 2).trans rfl; have hfz9_0 := blk_frozen BK298.out 0; have hfz9_1 := blk_frozen BK298.out 1; have hfz9_2 := blk_frozen BK298.out 2; have hcz10_0 : w7.cell? ⟨gb299, 0, none⟩ = some (.int .i64 a1_0) := (blk_cell BK299.out 0).trans rfl; have hcz10_1 : w7.cell? ⟨gb299, 1, none⟩ = some (.int .i64 a1_1) := (blk_cell BK299.out 1).trans rfl; have hcz10_2 : w7.cell? ⟨gb299, 2, none⟩ = some (.int .i64 a1_2) := (blk_cell BK299.out 2).trans rfl; have hfz10_0 := blk_frozen BK299.out 0; have hfz10_1 := blk_frozen BK299.out 1; have hfz10_2 := blk_frozen BK299.out 2))
    go_ret
    exact ⟨by first | rfl | (simp [errW_none, errW_some] <;> rfl) | (simp [*, errW_none, errW_some] <;> rfl), by repeat (first | (with_reducible first | exact HB.out | apply below_alloc | apply pw_below_drewN | apply below_drew1 | refine below_set ?_ GE298.out | refine below_set ?_ GE299.out) | exact HB.out)⟩
   ·rw [if_neg c5] at H
    have c5b0 : (a0_2 == a1_2) = false := beq_eq_false_iff_ne.mpr c5
    have c5b1 : (a0_2 != a1_2) = true := bne_iff_ne.mpr c5
    obtain rfl := Option.some.inj H
    go_enter Try.func52, Try.ntmps52
    go_wp2_with (first | ((with_reducible refine gate_dst (N := 2) rfl ?_); refine box_event ?hg (N := 2) ?hd (cs := #[.int .i64 a0_0, .int .i64 a0_1, .int .i64 a0_2]) (t := 93) ?hr ?_; (case hd => rfl); (case hg => rfl); (case hr => first | (go_simp; done) | (go_simp; rfl)); intro gb298 hg w11 hbox hb; have n0_ := Aside0.mk (below_step (vW0 HB.out) hb); have n1_ := Aside0.mk (hbox); have n2_ := Aside0.mk ((by rw [hg]; exact (below_size (vW0 HB.out)) : w.heap.size ≤ gb298)); have n3_ := Aside0.mk ((by rw [hg]; exact (below_size (vW0 HB.out)) : w.heap.size ≤ gb298)); clear HB; have HB := n0_; have BK298 := n1_; have GW298 := n2_; have GE298 := n3_; clear n0_ n1_ n2_ n3_; clear hb hbox hg) | ((with_reducible refine gate_dst (N := 3) rfl ?_); refine box_event ?hg (N := 3) ?hd (cs := #[.int .i64 a1_0, .int .i64 a1_1, .int .i64 a1_2]) (t := 93) ?hr ?_; (case hd => rfl); (case hg => rfl); (case hr => first | (go_simp; done) | (go_simp; rfl)); intro gb299 hg w12 hbox hb; have n0_ := Aside0.mk (blk_below (g := gb298) (o := .cells #[.int .i64 a0_0, .int .i64 a0_1, .int .i64 a0_2] 93 (0, 0)) (vB BK298.out) hb); have n1_ := Aside0.mk (below_step (vW1 HB.out GE298.out) hb); have n2_ := Aside0.mk (hbox); have n3_ := Aside0.mk ((by rw [hg]; exact (below_size (vW1 HB.out GE298.out)) : w.heap.size ≤ gb299)); have n4_ := Aside0.mk ((by rw [hg]; exact (below_size (vW1 HB.out GE298.out)) : w.heap.size ≤ gb299)); have n5_ := Aside0.mk ((by rw [hg]; exact Nat.ne_of_lt (blk_lt (g := gb298) (o := .cells #[.int .i64 a0_0, .int .i64 a0_1, .int .i64 a0_2] 93 (0, 0)) (vB BK298.out)) : gb298 ≠ gb299)); have n6_ := Aside0.mk ((by rw [hg]; exact Nat.ne_of_gt (blk_lt (g := gb298) (o := .cells #[.int .i64 a0_0, .int .i64 a0_1, .int .i64 a0_2] 93 (0, 0)) (vB BK298.out)) : gb299 ≠ gb298)); clear BK298; clear HB; have BK298 := n0_; have HB := n1_; have BK299 := n2_; have GW299 := n3_; have GE299 := n4_; have NB298_299 := n5_; have NB299_298 := n6_; clear n0_ n1_ n2_ n3_ n4_ n5_ n6_; clear hb hbox hg; have hnb13 := NB298_299.out; have hnc13 := NB299_298.out; have hcz14_0 : w12.cell? ⟨gb298, 0, none⟩ = some (.int .i64 a0_0) := (blk_cell BK298.out 0).trans rfl; have hcz14_1 : w12.cell? ⟨gb298, 1, none⟩ = some (.int .i64 a0_1) := (blk_cell BK298.out 1).trans rfl; have hcz14_2 : w12.cell? ⟨gb298, 2, none⟩ = some (.int .i64 a0_2) := (blk_cell BK298.out 2).trans rfl; have hfz14_0 := blk_frozen BK298.out 0; have hfz14_1 := blk_frozen BK298.out 1; have hfz14_2 := blk_frozen BK298.out 2; have hcz15_0 : w12.cell? ⟨gb299, 0, none⟩ = some (.int .i64 a1_0) := (blk_cell BK299.out 0).trans rfl; have hcz15_1 : w12.cell? ⟨gb299, 1, none⟩ = some (.int .i64 a1_1) := (blk_cell BK299.out 1).trans rfl; have hcz15_2 : w12.cell? ⟨gb299, 2, none⟩ = some (.int .i64 a1_2) := (blk_cell BK299.out 2).trans rfl; have hfz15_0 := blk_frozen BK299.out 0; have hfz15_1 := blk_frozen BK299.out 1; have hfz15_2 := blk_frozen BK299.out 2))
    go_ret
    exact ⟨by first | rfl | (simp [errW_none, errW_some] <;> rfl) | (simp [*, errW_none, errW_some] <;> rfl), by repeat (first | (with_reducible first | exact HB.out | apply below_alloc | apply pw_below_drewN | apply below_drew1 | refine below_set ?_ GE298.out | refine below_set ?_ GE299.out) | exact HB.out)⟩
  ·rw [if_neg c4] at H
   have c4b0 : (a0_1 == a1_1) = false := beq_eq_false_iff_ne.mpr c4
   have c4b1 : (a0_1 != a1_1) = true := bne_iff_ne.mpr c4
   obtain rfl := Option.some.inj H
   go_enter Try.func52, Try.ntmps52
   go_wp2_with (first | ((with_reducible refine gate_dst (N := 2) rfl ?_); refine box_event ?hg (N := 2) ?hd (cs := #[.int .i64 a0_0, .int .i64 a0_1, .int .i64 a0_2]) (t := 93) ?hr ?_; (case hd => rfl); (case hg => rfl); (case hr => first | (go_simp; done) | (go_simp; rfl)); intro gb298 hg w16 hbox hb; have n0_ := Aside0.mk (below_step (vW0 HB.out) hb); have n1_ := Aside0.mk (hbox); have n2_ := Aside0.mk ((by rw [hg]; exact (below_size (vW0 HB.out)) : w.heap.size ≤ gb298)); have n3_ := Aside0.mk ((by rw [hg]; exact (below_size (vW0 HB.out)) : w.heap.size ≤ gb298)); clear HB; have HB := n0_; have BK298 := n1_; have GW298 := n2_; have GE298 := n3_; clear n0_ n1_ n2_ n3_; clear hb hbox hg) | ((with_reducible refine gate_dst (N := 3) rfl ?_); refine box_event ?hg (N := 3) ?hd (cs := #[.int .i64 a1_0, .int .i64 a1_1, .int .i64 a1_2]) (t := 93) ?hr ?_; (case hd => rfl); (case hg => rfl); (case hr => first | (go_simp; done) | (go_simp; rfl)); intro gb299 hg w17 hbox hb; have n0_ := Aside0.mk (blk_below (g := gb298) (o := .cells #[.int .i64 a0_0, .int .i64 a0_1, .int .i64 a0_2] 93 (0, 0)) (vB BK298.out) hb); have n1_ := Aside0.mk (below_step (vW1 HB.out GE298.out) hb); have n2_ := Aside0.mk (hbox); have n3_ := Aside0.mk ((by rw [hg]; exact (below_size (vW1 HB.out GE298.out)) : w.heap.size ≤ gb299)); have n4_ := Aside0.mk ((by rw [hg]; exact (below_size (vW1 HB.out GE298.out)) : w.heap.size ≤ gb299)); have n5_ := Aside0.mk ((by rw [hg]; exact Nat.ne_of_lt (blk_lt (g := gb298) (o := .cells #[.int .i64 a0_0, .int .i64 a0_1, .int .i64 a0_2] 93 (0, 0)) (vB BK298.out)) : gb298 ≠ gb299)); have n6_ := Aside0.mk ((by rw [hg]; exact Nat.ne_of_gt (blk_lt (g := gb298) (o := .cells #[.int .i64 a0_0, .int .i64 a0_1, .int .i64 a0_2] 93 (0, 0)) (vB BK298.out)) : gb299 ≠ gb298)); clear BK298; clear HB; have BK298 := n0_; have HB := n1_; have BK299 := n2_; have GW299 := n3_; have GE299 := n4_; have NB298_299 := n5_; have NB299_298 := n6_; clear n0_ n1_ n2_ n3_ n4_ n5_ n6_; clear hb hbox hg; have hnb18 := NB298_299.out; have hnc18 := NB299_298.out; have hcz19_0 : w17.cell? ⟨gb298, 0, none⟩ = some (.int .i64 a0_0) := (blk_cell BK298.out 0).trans rfl; have hcz19_1 : w17.cell? ⟨gb298, 1, none⟩ = some (.int .i64 a0_1) := (blk_cell BK298.out 1).trans rfl; have hcz19_2 : w17.cell? ⟨gb298, 2, none⟩ = some (.int .i64 a0_2) := (blk_cell BK298.out 2).trans rfl; have hfz19_0 := blk_frozen BK298.out 0; have hfz19_1 := blk_frozen BK298.out 1; have hfz19_2 := blk_frozen BK298.out 2; have hcz20_0 : w17.cell? ⟨gb299, 0, none⟩ = some (.int .i64 a1_0) := (blk_cell BK299.out 0).trans rfl; have hcz20_1 : w17.cell? ⟨gb299, 1, none⟩ = some (.int .i64 a1_1) := (blk_cell BK299.out 1).trans rfl; have hcz20_2 : w17.cell? ⟨gb299, 2, none⟩ = some (.int .i64 a1_2) := (blk_cell BK299.out 2).trans rfl; have hfz20_0 := blk_frozen BK299.out 0; have hfz20_1 := blk_frozen BK299.out 1; have hfz20_2 := blk_frozen BK299.out 2))
   go_ret
   exact ⟨by first | rfl | (simp [errW_none, errW_some] <;> rfl) | (simp [*, errW_none, errW_some] <;> rfl), by repeat (first | (with_reducible first | exact HB.out | apply below_alloc | apply pw_below_drewN | apply below_drew1 | refine below_set ?_ GE298.out | refine below_set ?_ GE299.out) | exact HB.out)⟩
 ·rw [if_neg c3] at H
  have c3b0 : (a0_0 == a1_0) = false := beq_eq_false_iff_ne.mpr c3
  have c3b1 : (a0_0 != a1_0) = true := bne_iff_ne.mpr c3
  obtain rfl := Option.some.inj H
  go_enter Try.func52, Try.ntmps52
  go_wp2_with (first | ((with_reducible refine gate_dst (N := 2) rfl ?_); refine box_event ?hg (N := 2) ?hd (cs := #[.int .i64 a0_0, .int .i64 a0_1, .int .i64 a0_2]) (t := 93) ?hr ?_; (case hd => rfl); (case hg => rfl); (case hr => first | (go_simp; done) | (go_simp; rfl)); intro gb298 hg w21 hbox hb; have n0_ := Aside0.mk (below_step (vW0 HB.out) hb); have n1_ := Aside0.mk (hbox); have n2_ := Aside0.mk ((by rw [hg]; exact (below_size (vW0 HB.out)) : w.heap.size ≤ gb298)); have n3_ := Aside0.mk ((by rw [hg]; exact (below_size (vW0 HB.out)) : w.heap.size ≤ gb298)); clear HB; have HB := n0_; have BK298 := n1_; have GW298 := n2_; have GE298 := n3_; clear n0_ n1_ n2_ n3_; clear hb hbox hg) | ((with_reducible refine gate_dst (N := 3) rfl ?_); refine box_event ?hg (N := 3) ?hd (cs := #[.int .i64 a1_0, .int .i64 a1_1, .int .i64 a1_2]) (t := 93) ?hr ?_; (case hd => rfl); (case hg => rfl); (case hr => first | (go_simp; done) | (go_simp; rfl)); intro gb299 hg w22 hbox hb; have n0_ := Aside0.mk (blk_below (g := gb298) (o := .cells #[.int .i64 a0_0, .int .i64 a0_1, .int .i64 a0_2] 93 (0, 0)) (vB BK298.out) hb); have n1_ := Aside0.mk (below_step (vW1 HB.out GE298.out) hb); have n2_ := Aside0.mk (hbox); have n3_ := Aside0.mk ((by rw [hg]; exact (below_size (vW1 HB.out GE298.out)) : w.heap.size ≤ gb299)); have n4_ := Aside0.mk ((by rw [hg]; exact (below_size (vW1 HB.out GE298.out)) : w.heap.size ≤ gb299)); have n5_ := Aside0.mk ((by rw [hg]; exact Nat.ne_of_lt (blk_lt (g := gb298) (o := .cells #[.int .i64 a0_0, .int .i64 a0_1, .int .i64 a0_2] 93 (0, 0)) (vB BK298.out)) : gb298 ≠ gb299)); have n6_ := Aside0.mk ((by rw [hg]; exact Nat.ne_of_gt (blk_lt (g := gb298) (o := .cells #[.int .i64 a0_0, .int .i64 a0_1, .int .i64 a0_2] 93 (0, 0)) (vB BK298.out)) : gb299 ≠ gb298)); clear BK298; clear HB; have BK298 := n0_; have HB := n1_; have BK299 := n2_; have GW299 := n3_; have GE299 := n4_; have NB298_299 := n5_; have NB299_298 := n6_; clear n0_ n1_ n2_ n3_ n4_ n5_ n6_; clear hb hbox hg; have hnb23 := NB298_299.out; have hnc23 := NB299_298.out; have hcz24_0 : w22.cell? ⟨gb298, 0, none⟩ = some (.int .i64 a0_0) := (blk_cell BK298.out 0).trans rfl; have hcz24_1 : w22.cell? ⟨gb298, 1, none⟩ = some (.int .i64 a0_1) := (blk_cell BK298.out 1).trans rfl; have hcz24_2 : w22.cell? ⟨gb298, 2, none⟩ = some (.int .i64 a0_2) := (blk_cell BK298.out 2).trans rfl; have hfz24_0 := blk_frozen BK298.out 0; have hfz24_1 := blk_frozen BK298.out 1; have hfz24_2 := blk_frozen BK298.out 2; have hcz25_0 : w22.cell? ⟨gb299, 0, none⟩ = some (.int .i64 a1_0) := (blk_cell BK299.out 0).trans rfl; have hcz25_1 : w22.cell? ⟨gb299, 1, none⟩ = some (.int .i64 a1_1) := (blk_cell BK299.out 1).trans rfl; have hcz25_2 : w22.cell? ⟨gb299, 2, none⟩ = some (.int .i64 a1_2) := (blk_cell BK299.out 2).trans rfl; have hfz25_0 := blk_frozen BK299.out 0; have hfz25_1 := blk_frozen BK299.out 1; have hfz25_2 := blk_frozen BK299.out 2))
  go_ret
  exact ⟨by first | rfl | (simp [errW_none, errW_some] <;> rfl) | (simp [*, errW_none, errW_some] <;> rfl), by repeat (first | (with_reducible first | exact HB.out | apply below_alloc | apply pw_below_drewN | apply below_drew1 | refine below_set ?_ GE298.out | refine below_set ?_ GE299.out) | exact HB.out)⟩

end Go.Proofs.Ytcifhhgoippmbaa.All
