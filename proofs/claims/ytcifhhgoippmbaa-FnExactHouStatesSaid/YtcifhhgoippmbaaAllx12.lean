-- Written by the session's own program wip/allprint.py, which drives the kit's print; Lean checks it.
import Derived.Test.YtcifhhgoippmbaaAllx0
import Derived.Test.YtcifhhgoippmbaaAllx2
import Derived.Test.YtcifhhgoippmbaaAllx4
import Derived.Test.YtcifhhgoippmbaaAllx5
import Derived.Test.YtcifhhgoippmbaaAllx10
import Derived.Test.YtcifhhgoippmbaaAllx11
namespace Go.Proofs.Ytcifhhgoippmbaa.All
open Go.RowKit Go.Proofs.YtcifhhgoippmbaaW.PrintWords Go.Proofs.YtcifhhgoippmbaaW.PrintLast Go.Proofs.YtcifhhgoippmbaaW.PrintMore
attribute [local go_sem] max2_int min2_int max_two min_two max_three min_three max_four min_four   -- for this text's walks alone
set_option linter.unusedVariables false
set_option linter.unusedSimpArgs false

/-! ### laws_heldIntS: function 12 -/
def laws_heldIntS.l0 : Nat → List Int → Int → Int → Option (Int)
 | 0, _, _, _ => none
 | k + 1, x0, x1, x5 => if x5 < (x0.length : Int) then (if 0 ≤ x5 then (if (rd x0 x5) = x1 then (laws_heldIntS.l0 k x0 (wrap64 (x1 + 1)) (wrap64 (x5 + 1))) else (some (-1))) else (none)) else (some x1)
def laws_heldIntS.f (k : Nat) (l0 : List Int) (a1 : Int) : Option (Int) := laws_heldIntS.l0 k l0 a1 0
theorem laws_heldIntS.mono_l : ∀ k, (∀ y0 y1 y2, LeO (laws_heldIntS.l0 k y0 y1 y2) (laws_heldIntS.l0 (k + 1) y0 y1 y2))
 | 0 => fun _ _ _ r h => by simp [laws_heldIntS.l0] at h
 | k + 1 => by
  have ih0 := laws_heldIntS.mono_l k
  ·intro y0 y1 y2
   unfold laws_heldIntS.l0
   repeat' first
   | (with_reducible exact ih0 _ _ _)
   | (with_reducible exact LeO.refl _)
   | (with_reducible exact LeO.none _)
   | (with_reducible refine LeO.ite ?_ ?_)
   | (with_reducible refine LeO.bind ?_ (fun _ => ?_))
   | exact ih0 _ _ _
   | exact LeO.none _
   | refine LeO.ite ?_ ?_
   | refine LeO.bind ?_ (fun _ => ?_)
theorem laws_heldIntS.mono : ∀ a0 a1 k, LeO (laws_heldIntS.f k a0 a1) (laws_heldIntS.f (k + 1) a0 a1) := by
 intro a0 a1 k
 have ih0 := laws_heldIntS.mono_l k
 unfold laws_heldIntS.f
 repeat' first
   | (with_reducible exact ih0 _ _ _)
   | (with_reducible exact LeO.refl _)
   | (with_reducible exact LeO.none _)
   | (with_reducible refine LeO.ite ?_ ?_)
   | (with_reducible refine LeO.bind ?_ (fun _ => ?_))
   | exact ih0 _ _ _
   | exact LeO.none _
   | refine LeO.ite ?_ ?_
   | refine LeO.bind ?_ (fun _ => ?_)
set_option maxHeartbeats 8000000 in
set_option maxRecDepth 100000 in
theorem laws_heldIntS.calls (k : Nat) (A0 : Option Addr) (c0 : Nat) (l0 : List Int) (a1 : Int) (r : Int) (w : World) (hr0 : Kd.C (Kd.int .i64) w A0 l0.length l0) (hc0 : l0.length ≤ c0) (h : laws_heldIntS.f k l0 a1 = some r) :
  Calls Try.prog 12 #[.slice A0 l0.length c0, .int .i64 a1] w fun e w' => e = .returned (.int .i64 r) ∧ Drawn0 w w' := by
 have HR0 := Aside0.mk hr0
 have HC0 := Aside0.mk hc0
 clear hr0 hc0
 have H : (laws_heldIntS.l0 k l0 a1 0) = some r := h
 clear h
 have H' := Aside0.mk H
 clear H
 go_enter Try.func12, Try.ntmps12
 go_wp2
 go_loopg [1, 5] k (fun kq v1 v5 w' => ∃ (x1_1 : Int) (x5_1 : Int), v1 = .int .i64 x1_1 ∧ v5 = .int .i64 x5_1 ∧ Aside0 (laws_heldIntS.l0 kq l0 x1_1 x5_1 = some r) ∧ Aside0 (kq ≤ k) ∧ Drawn0 w w')
 case atStart => exact ⟨(a1), (0), (by first | rfl | (simp; done) | (simp [*]; done)), (by first | rfl | (simp; done) | (simp [*]; done)), H', ⟨Nat.le_refl _⟩, by repeat (first | exact Drawn0.refl _ | apply Drawn0.step)⟩
 case round =>
  clear H'
  try clear c1
  try clear p2
  obtain ⟨x1_1, x5_1, rfl, rfl, HA, HK1, ⟨m1, rfl⟩⟩ := hrel
  cases gk with
  | zero => exact absurd HA.out (by simp [laws_heldIntS.l0])
  | succ k1 =>
   have H := HA.out
   clear HA
   simp only [laws_heldIntS.l0] at H
   by_cases c3 : x5_1 < (l0.length : Int)
   ·rw [if_pos c3] at H
    have c3b0 : decide (x5_1 < (l0.length : Int)) = true := decide_eq_true c3
    clear c3
    by_cases c4 : 0 ≤ x5_1
    ·rw [if_pos c4] at H
     have c4b0 : decide (0 ≤ x5_1) = true := decide_eq_true c4
     clear c4
     by_cases c5 : (rd l0 x5_1) = x1_1
     ·rw [if_pos c5] at H
      have c5b0 : ((rd l0 x5_1) == x1_1) = true := beq_iff_eq.mpr c5
      have c5b1 : ((rd l0 x5_1) != x1_1) = false := bne_eq_false_iff_eq.mpr c5
      clear c5
      have H' := Aside0.mk H
      clear H
      have p329 : 0 ≤ (x5_1 : Int) := of_decide_eq_true (by first | (with_reducible assumption) | assumption)
      have q329 : x5_1 < (l0.length : Int) := of_decide_eq_true (by first | (with_reducible assumption) | assumption)
      obtain ⟨ad329, e329, hx329_0⟩ := Kd.at_int HR0.out x5_1 p329 q329
      cases e329
      replace p329 := eq_true p329
      replace q329 := eq_true q329
      go_wp2
      go_roundg k1
      case measure => have := HK1.out; omega
      case rel => exact ⟨(wrap64 (x1_1 + 1)), (wrap64 (x5_1 + 1)), (by first | rfl | (simp; done) | (simp [*]; done)), (by first | rfl | (simp; done) | (simp [*]; done)), H', ⟨by have := HK1.out; omega⟩, by repeat (first | exact Drawn0.refl _ | apply Drawn0.step)⟩
     ·rw [if_neg c5] at H
      have c5b0 : ((rd l0 x5_1) == x1_1) = false := beq_eq_false_iff_ne.mpr c5
      have c5b1 : ((rd l0 x5_1) != x1_1) = true := bne_iff_ne.mpr c5
      obtain rfl := Option.some.inj H
      have p329 : 0 ≤ (x5_1 : Int) := of_decide_eq_true (by first | (with_reducible assumption) | assumption)
      have q329 : x5_1 < (l0.length : Int) := of_decide_eq_true (by first | (with_reducible assumption) | assumption)
      obtain ⟨ad329, e329, hx329_0⟩ := Kd.at_int HR0.out x5_1 p329 q329
      cases e329
      replace p329 := eq_true p329
      replace q329 := eq_true q329
      go_wp2
      go_ret
      exact ⟨by first | rfl | (simp; done) | (simp [*]; done), by repeat (first | exact Drawn0.refl _ | apply Drawn0.step)⟩
    ·rw [if_neg c4] at H
     exact absurd H (by simp)
   ·rw [if_neg c3] at H
    have c3b0 : decide (x5_1 < (l0.length : Int)) = false := decide_eq_false c3
    clear c3
    obtain rfl := Option.some.inj H
    go_wp2
    go_ret
    exact ⟨by first | rfl | (simp; done) | (simp [*]; done), by repeat (first | exact Drawn0.refl _ | apply Drawn0.step)⟩

/-! ### laws_FnExactHouStates: function 3 -/
def laws_FnExactHouStates.j0 : Nat → List Int → List Int → Bool → List Int → List (S56) → List (S61) → Option (Bool)
 | 0, _, _, _, _, _, _ => none
 | k + 1, x4, x6, x42, x331000, x331001, x331002 => if x42 = true then (some false) else ((laws_markIntS.f k x6 1).bind fun bt371 => ((laws_heldIntS.f k bt371.2 1).bind fun t373 => (if t373 < 0 then (some false) else (if t373 = bt371.1 then ((laws_toHouHouse.f k x331000 x331001 x331002).bind fun bt374 => ((impl_HouStates.f k bt374.1 bt374.2.1 bt374.2.2).bind fun t383 => ((laws_eqIntS.f k t383 x4).bind fun t386 => (if t386 = true then ((laws_heldIntS.f k bt371.2 1).bind fun t387 => (if t387 < 0 then (some false) else (if t387 = bt371.1 then (some true) else (some false)))) else (some false))))) else (some false)))))
def laws_FnExactHouStates.f (k : Nat) (l0_0 : List Int) (l0_1 : List (S56)) (l0_2 : List (S61)) : Option (Bool) := (laws_szHouHouse.f k l0_0 l0_1 l0_2 1048576).bind fun t331 => (if t331 < 0 then (some true) else ((laws_toHouHouse.f k l0_0 l0_1 l0_2).bind fun bt332 => ((spec_HouStates.f k bt332.1 bt332.2.1 bt332.2.2).bind fun t341 => ((laws_toHouHouse.f k l0_0 l0_1 l0_2).bind fun bt344 => ((impl_HouStates.f k bt344.1 bt344.2.1 bt344.2.2).bind fun t354 => ((laws_eqIntS.f k t354 t341).bind fun t357 => (if t357 = true then ((laws_toHouHouse.f k l0_0 l0_1 l0_2).bind fun bt358 => ((laws_eqHouHouse.f k bt344.1 bt344.2.1 bt344.2.2 bt358.1 bt358.2.1 bt358.2.2).bind fun t367 => (if t367 = true then ((laws_markHouHouse.f k bt344.1 bt344.2.1 bt344.2.2 1).bind fun bt368 => (if bt368.1 < 0 then (laws_FnExactHouStates.j0 k t341 t354 true l0_0 l0_1 l0_2) else ((laws_eqIntS.f k t354 t341).bind fun t370 => (laws_FnExactHouStates.j0 k t341 t354 (!t370) l0_0 l0_1 l0_2)))) else (some false)))) else (some false))))))))
theorem laws_FnExactHouStates.mono_l : ∀ k, (∀ y0 y1 y2 y3 y4 y5, LeO (laws_FnExactHouStates.j0 k y0 y1 y2 y3 y4 y5) (laws_FnExactHouStates.j0 (k + 1) y0 y1 y2 y3 y4 y5))
 | 0 => fun _ _ _ _ _ _ r h => by simp [laws_FnExactHouStates.j0] at h
 | k + 1 => by
  have ih0 := laws_FnExactHouStates.mono_l k
  ·intro y0 y1 y2 y3 y4 y5
   unfold laws_FnExactHouStates.j0
   repeat' first
   | (with_reducible exact ih0 _ _ _ _ _ _)
   | (with_reducible exact impl_HouStates.mono _ _ _ _)
   | (with_reducible exact laws_eqHouHouse.mono _ _ _ _ _ _ _)
   | (with_reducible exact laws_eqIntS.mono _ _ _)
   | (with_reducible exact laws_heldIntS.mono _ _ _)
   | (with_reducible exact laws_markHouHouse.mono _ _ _ _ _)
   | (with_reducible exact laws_markIntS.mono _ _ _)
   | (with_reducible exact laws_szHouHouse.mono _ _ _ _ _)
   | (with_reducible exact laws_toHouHouse.mono _ _ _ _)
   | (with_reducible exact spec_HouStates.mono _ _ _ _)
   | (with_reducible exact LeO.refl _)
   | (with_reducible exact LeO.none _)
   | (with_reducible refine LeO.ite ?_ ?_)
   | (with_reducible refine LeO.bind ?_ (fun _ => ?_))
   | exact ih0 _ _ _ _ _ _
   | exact impl_HouStates.mono _ _ _ _
   | exact laws_eqHouHouse.mono _ _ _ _ _ _ _
   | exact laws_eqIntS.mono _ _ _
   | exact laws_heldIntS.mono _ _ _
   | exact laws_markHouHouse.mono _ _ _ _ _
   | exact laws_markIntS.mono _ _ _
   | exact laws_szHouHouse.mono _ _ _ _ _
   | exact laws_toHouHouse.mono _ _ _ _
   | exact spec_HouStates.mono _ _ _ _
   | exact LeO.none _
   | refine LeO.ite ?_ ?_
   | refine LeO.bind ?_ (fun _ => ?_)
theorem laws_FnExactHouStates.mono : ∀ a0 a1 a2 k, LeO (laws_FnExactHouStates.f k a0 a1 a2) (laws_FnExactHouStates.f (k + 1) a0 a1 a2) := by
 intro a0 a1 a2 k
 have ih0 := laws_FnExactHouStates.mono_l k
 unfold laws_FnExactHouStates.f
 repeat' first
   | (with_reducible exact ih0 _ _ _ _ _ _)
   | (with_reducible exact impl_HouStates.mono _ _ _ _)
   | (with_reducible exact laws_eqHouHouse.mono _ _ _ _ _ _ _)
   | (with_reducible exact laws_eqIntS.mono _ _ _)
   | (with_reducible exact laws_heldIntS.mono _ _ _)
   | (with_reducible exact laws_markHouHouse.mono _ _ _ _ _)
   | (with_reducible exact laws_markIntS.mono _ _ _)
   | (with_reducible exact laws_szHouHouse.mono _ _ _ _ _)
   | (with_reducible exact laws_toHouHouse.mono _ _ _ _)
   | (with_reducible exact spec_HouStates.mono _ _ _ _)
   | (with_reducible exact LeO.refl _)
   | (with_reducible exact LeO.none _)
   | (with_reducible refine LeO.ite ?_ ?_)
   | (with_reducible refine LeO.bind ?_ (fun _ => ?_))
   | exact ih0 _ _ _ _ _ _
   | exact impl_HouStates.mono _ _ _ _
   | exact laws_eqHouHouse.mono _ _ _ _ _ _ _
   | exact laws_eqIntS.mono _ _ _
   | exact laws_heldIntS.mono _ _ _
   | exact laws_markHouHouse.mono _ _ _ _ _
   | exact laws_markIntS.mono _ _ _
   | exact laws_szHouHouse.mono _ _ _ _ _
   | exact laws_toHouHouse.mono _ _ _ _
   | exact spec_HouStates.mono _ _ _ _
   | exact LeO.none _
   | refine LeO.ite ?_ ?_
   | refine LeO.bind ?_ (fun _ => ?_)
set_option maxHeartbeats 8000000 in
set_option maxRecDepth 100000 in
theorem laws_FnExactHouStates.calls (k : Nat) (A0_0 : Option Addr) (c0_0 : Nat) (l0_0 : List Int) (A0_1 : Option Addr) (c0_1 : Nat) (l0_1 : List (S56)) (A0_2 : Option Addr) (c0_2 : Nat) (l0_2 : List (S61)) (r : Bool) (w : World) (hr0_0 : Kd.C (Kd.int .i64) w A0_0 l0_0.length l0_0) (hc0_0 : l0_0.length ≤ c0_0) (hr0_1 : Kd.C k56 w A0_1 l0_1.length l0_1) (hc0_1 : l0_1.length ≤ c0_1) (hr0_2 : Kd.C k61 w A0_2 l0_2.length l0_2) (hc0_2 : l0_2.length ≤ c0_2) (h : laws_FnExactHouStates.f k l0_0 l0_1 l0_2 = some r) (hr_ : r = true := by first | rfl | assumption) :
  Calls Try.prog 3 #[.agg #[.slice A0_0 l0_0.length c0_0, .slice A0_1 l0_1.length c0_1, .slice A0_2 l0_2.length c0_2]] w fun e w' => e = .returned (.bool r) ∧ Below w.heap.size w w' := by
 have HRT := Aside0.mk hr_
 clear hr_
 have hu26 := Try.underlying26
 have hu32 := Try.underlying32
 have HR0_0 := Aside0.mk hr0_0
 have HC0_0 := Aside0.mk hc0_0
 clear hr0_0 hc0_0
 have HR0_1 := Aside0.mk hr0_1
 have HC0_1 := Aside0.mk hc0_1
 clear hr0_1 hc0_1
 have HR0_2 := Aside0.mk hr0_2
 have HC0_2 := Aside0.mk hc0_2
 clear hr0_2 hc0_2
 have HB := Aside0.mk (Below.refl w.heap.size w)
 have H : ((laws_szHouHouse.f k l0_0 l0_1 l0_2 1048576).bind fun t331 => (if t331 < 0 then (some true) else ((laws_toHouHouse.f k l0_0 l0_1 l0_2).bind fun bt332 => ((spec_HouStates.f k bt332.1 bt332.2.1 bt332.2.2).bind fun t341 => ((laws_toHouHouse.f k l0_0 l0_1 l0_2).bind fun bt344 => ((impl_HouStates.f k bt344.1 bt344.2.1 bt344.2.2).bind fun t354 => ((laws_eqIntS.f k t354 t341).bind fun t357 => (if t357 = true then ((laws_toHouHouse.f k l0_0 l0_1 l0_2).bind fun bt358 => ((laws_eqHouHouse.f k bt344.1 bt344.2.1 bt344.2.2 bt358.1 bt358.2.1 bt358.2.2).bind fun t367 => (if t367 = true then ((laws_markHouHouse.f k bt344.1 bt344.2.1 bt344.2.2 1).bind fun bt368 => (if bt368.1 < 0 then (laws_FnExactHouStates.j0 k t341 t354 true l0_0 l0_1 l0_2) else ((laws_eqIntS.f k t354 t341).bind fun t370 => (laws_FnExactHouStates.j0 k t341 t354 (!t370) l0_0 l0_1 l0_2)))) else (some false)))) else (some false))))))))) = some r := h
 clear h
 replace H := Option.bind_eq_some_iff.mp H
 obtain ⟨t331, A20, H⟩ := H
 replace H : (if t331 < 0 then (some true) else ((laws_toHouHouse.f k l0_0 l0_1 l0_2).bind fun bt332 => ((spec_HouStates.f k bt332.1 bt332.2.1 bt332.2.2).bind fun t341 => ((laws_toHouHouse.f k l0_0 l0_1 l0_2).bind fun bt344 => ((impl_HouStates.f k bt344.1 bt344.2.1 bt344.2.2).bind fun t354 => ((laws_eqIntS.f k t354 t341).bind fun t357 => (if t357 = true then ((laws_toHouHouse.f k l0_0 l0_1 l0_2).bind fun bt358 => ((laws_eqHouHouse.f k bt344.1 bt344.2.1 bt344.2.2 bt358.1 bt358.2.1 bt358.2.2).bind fun t367 => (if t367 = true then ((laws_markHouHouse.f k bt344.1 bt344.2.1 bt344.2.2 1).bind fun bt368 => (if bt368.1 < 0 then (laws_FnExactHouStates.j0 k t341 t354 true l0_0 l0_1 l0_2) else ((laws_eqIntS.f k t354 t341).bind fun t370 => (laws_FnExactHouStates.j0 k t341 t354 (!t370) l0_0 l0_1 l0_2)))) else (some false)))) else (some false)))))))) = some r := H
 have A2 := Aside0.mk A20
 clear A20
 by_cases c3 : t331 < 0
 ·rw [if_pos c3] at H
  have c3b0 : decide (t331 < 0) = true := decide_eq_true c3
  clear c3
  obtain rfl := Option.some.inj H
  go_enter Try.func3, Try.ntmps3
  go_wp2_with (first | ((with_reducible refine gate_dst (N := 1) rfl ?_); refine box_event ?hg (N := 1) ?hd (cs := #[.slice A0_0 l0_0.length c0_0, .slice A0_1 l0_1.length c0_1, .slice A0_2 l0_2.length c0_2]) (t := 26) ?hr ?_; (case hd => rfl); (case hg => rfl); (case hr => first | (go_simp; done) | (go_simp; rfl)); intro gb330 hg w4 hbox hb; have n0_ := Aside0.mk (below_step (vW0 HB.out) hb); have n1_ := Aside0.mk (hbox); have n2_ := Aside0.mk ((by rw [hg]; exact (below_size (vW0 HB.out)) : w.heap.size ≤ gb330)); have n3_ := Aside0.mk ((by rw [hg]; exact (below_size (vW0 HB.out)) : w.heap.size ≤ gb330)); clear HB; have HB := n0_; have BK330 := n1_; have GW330 := n2_; have GE330 := n3_; clear n0_ n1_ n2_ n3_; clear hb hbox hg; have hcz5_0 : w4.cell? ⟨gb330, 0, none⟩ = some (.slice A0_0 l0_0.length c0_0) := (blk_cell BK330.out 0).trans rfl; have hcz5_1 : w4.cell? ⟨gb330, 1, none⟩ = some (.slice A0_1 l0_1.length c0_1) := (blk_cell BK330.out 1).trans rfl; have hcz5_2 : w4.cell? ⟨gb330, 2, none⟩ = some (.slice A0_2 l0_2.length c0_2) := (blk_cell BK330.out 2).trans rfl; have hfz5_0 := blk_frozen BK330.out 0; have hfz5_1 := blk_frozen BK330.out 1; have hfz5_2 := blk_frozen BK330.out 2) | ((with_reducible refine gate_callee (f := 4) rfl ?_); refine goesL_ (some 13) rfl rfl Try.func4 (by kernel_rfl) rfl #[.agg #[.slice A0_0 l0_0.length c0_0, .slice A0_1 l0_1.length c0_1, .slice A0_2 l0_2.length c0_2], .int .i64 1048576] rfl vL ?_; (with_reducible refine (laws_szHouHouse.calls k _ _ l0_0 _ _ l0_1 _ _ l0_2 1048576 t331 _ ?side1 ?side2 ?side3 ?side4 ?side5 ?side6 A2.out).mono ?_); (case side1 => repeat (first | exact (Kd.C_below HR0_0.out HB.out) | (with_reducible refine Kd.C_alloc ?_ _) | (with_reducible refine Kd.C_drewN ?_ _) | (with_reducible refine Kd.C_drew ?_))); (case side2 => exact HC0_0.out); (case side3 => repeat (first | exact (Kd.C_below HR0_1.out HB.out) | (with_reducible refine Kd.C_alloc ?_ _) | (with_reducible refine Kd.C_drewN ?_ _) | (with_reducible refine Kd.C_drew ?_))); (case side4 => exact HC0_1.out); (case side5 => repeat (first | exact (Kd.C_below HR0_2.out HB.out) | (with_reducible refine Kd.C_alloc ?_ _) | (with_reducible refine Kd.C_drewN ?_ _) | (with_reducible refine Kd.C_drew ?_))); (case side6 => exact HC0_2.out); rintro e w6 ⟨rfl, hb⟩; refine ⟨_, rfl, ?_⟩; have n0_ := Aside0.mk (blk_below (g := gb330) (o := .cells #[.slice A0_0 l0_0.length c0_0, .slice A0_1 l0_1.length c0_1, .slice A0_2 l0_2.length c0_2] 26 (0, 0)) (vB BK330.out) hb); have n1_ := Aside0.mk (below_step (vW1 HB.out GE330.out) hb); clear BK330; clear HB; have BK330 := n0_; have HB := n1_; clear n0_ n1_; (try clear hb); (try clear hb2); (try clear hk); (try clear hi)))
  go_ret
  exact ⟨by first | rfl | (simp [errW_none, errW_some] <;> rfl) | (simp [*, errW_none, errW_some] <;> rfl), by repeat (first | (with_reducible first | exact HB.out | apply below_alloc | apply pw_below_drewN | apply below_drew1 | refine below_set ?_ GE330.out) | exact HB.out)⟩
 ·rw [if_neg c3] at H
  have c3b0 : decide (t331 < 0) = false := decide_eq_false c3
  clear c3
  replace H := Option.bind_eq_some_iff.mp H
  obtain ⟨⟨t332, t335, t338⟩, A70, H⟩ := H
  replace H : ((spec_HouStates.f k t332 t335 t338).bind fun t341 => ((laws_toHouHouse.f k l0_0 l0_1 l0_2).bind fun bt344 => ((impl_HouStates.f k bt344.1 bt344.2.1 bt344.2.2).bind fun t354 => ((laws_eqIntS.f k t354 t341).bind fun t357 => (if t357 = true then ((laws_toHouHouse.f k l0_0 l0_1 l0_2).bind fun bt358 => ((laws_eqHouHouse.f k bt344.1 bt344.2.1 bt344.2.2 bt358.1 bt358.2.1 bt358.2.2).bind fun t367 => (if t367 = true then ((laws_markHouHouse.f k bt344.1 bt344.2.1 bt344.2.2 1).bind fun bt368 => (if bt368.1 < 0 then (laws_FnExactHouStates.j0 k t341 t354 true l0_0 l0_1 l0_2) else ((laws_eqIntS.f k t354 t341).bind fun t370 => (laws_FnExactHouStates.j0 k t341 t354 (!t370) l0_0 l0_1 l0_2)))) else (some false)))) else (some false)))))) = some r := H
  have A7 := Aside0.mk A70
  clear A70
  replace H := Option.bind_eq_some_iff.mp H
  obtain ⟨t341, A80, H⟩ := H
  replace H : ((laws_toHouHouse.f k l0_0 l0_1 l0_2).bind fun bt344 => ((impl_HouStates.f k bt344.1 bt344.2.1 bt344.2.2).bind fun t354 => ((laws_eqIntS.f k t354 t341).bind fun t357 => (if t357 = true then ((laws_toHouHouse.f k l0_0 l0_1 l0_2).bind fun bt358 => ((laws_eqHouHouse.f k bt344.1 bt344.2.1 bt344.2.2 bt358.1 bt358.2.1 bt358.2.2).bind fun t367 => (if t367 = true then ((laws_markHouHouse.f k bt344.1 bt344.2.1 bt344.2.2 1).bind fun bt368 => (if bt368.1 < 0 then (laws_FnExactHouStates.j0 k t341 t354 true l0_0 l0_1 l0_2) else ((laws_eqIntS.f k t354 t341).bind fun t370 => (laws_FnExactHouStates.j0 k t341 t354 (!t370) l0_0 l0_1 l0_2)))) else (some false)))) else (some false))))) = some r := H
  have A8 := Aside0.mk A80
  clear A80
  replace H := Option.bind_eq_some_iff.mp H
  obtain ⟨⟨t344, t347, t350⟩, A90, H⟩ := H
  replace H : ((impl_HouStates.f k t344 t347 t350).bind fun t354 => ((laws_eqIntS.f k t354 t341).bind fun t357 => (if t357 = true then ((laws_toHouHouse.f k l0_0 l0_1 l0_2).bind fun bt358 => ((laws_eqHouHouse.f k t344 t347 t350 bt358.1 bt358.2.1 bt358.2.2).bind fun t367 => (if t367 = true then ((laws_markHouHouse.f k t344 t347 t350 1).bind fun bt368 => (if bt368.1 < 0 then (laws_FnExactHouStates.j0 k t341 t354 true l0_0 l0_1 l0_2) else ((laws_eqIntS.f k t354 t341).bind fun t370 => (laws_FnExactHouStates.j0 k t341 t354 (!t370) l0_0 l0_1 l0_2)))) else (some false)))) else (some false)))) = some r := H
  have A9 := Aside0.mk A90
  clear A90
  replace H := Option.bind_eq_some_iff.mp H
  obtain ⟨t354, A100, H⟩ := H
  replace H : ((laws_eqIntS.f k t354 t341).bind fun t357 => (if t357 = true then ((laws_toHouHouse.f k l0_0 l0_1 l0_2).bind fun bt358 => ((laws_eqHouHouse.f k t344 t347 t350 bt358.1 bt358.2.1 bt358.2.2).bind fun t367 => (if t367 = true then ((laws_markHouHouse.f k t344 t347 t350 1).bind fun bt368 => (if bt368.1 < 0 then (laws_FnExactHouStates.j0 k t341 t354 true l0_0 l0_1 l0_2) else ((laws_eqIntS.f k t354 t341).bind fun t370 => (laws_FnExactHouStates.j0 k t341 t354 (!t370) l0_0 l0_1 l0_2)))) else (some false)))) else (some false))) = some r := H
  have A10 := Aside0.mk A100
  clear A100
  replace H := Option.bind_eq_some_iff.mp H
  obtain ⟨t357, A110, H⟩ := H
  replace H : (if t357 = true then ((laws_toHouHouse.f k l0_0 l0_1 l0_2).bind fun bt358 => ((laws_eqHouHouse.f k t344 t347 t350 bt358.1 bt358.2.1 bt358.2.2).bind fun t367 => (if t367 = true then ((laws_markHouHouse.f k t344 t347 t350 1).bind fun bt368 => (if bt368.1 < 0 then (laws_FnExactHouStates.j0 k t341 t354 true l0_0 l0_1 l0_2) else ((laws_eqIntS.f k t354 t341).bind fun t370 => (laws_FnExactHouStates.j0 k t341 t354 (!t370) l0_0 l0_1 l0_2)))) else (some false)))) else (some false)) = some r := H
  have A11 := Aside0.mk A110
  clear A110
  by_cases c12 : t357 = true
  ·subst c12
   have H1 : ((laws_toHouHouse.f k l0_0 l0_1 l0_2).bind fun bt358 => ((laws_eqHouHouse.f k t344 t347 t350 bt358.1 bt358.2.1 bt358.2.2).bind fun t367 => (if t367 = true then ((laws_markHouHouse.f k t344 t347 t350 1).bind fun bt368 => (if bt368.1 < 0 then (laws_FnExactHouStates.j0 k t341 t354 true l0_0 l0_1 l0_2) else ((laws_eqIntS.f k t354 t341).bind fun t370 => (laws_FnExactHouStates.j0 k t341 t354 (!t370) l0_0 l0_1 l0_2)))) else (some false)))) = some r := by rw [if_pos rfl] at H; exact H
   clear H
   have H := H1
   clear H1
   replace H := Option.bind_eq_some_iff.mp H
   obtain ⟨⟨t358, t361, t364⟩, A130, H⟩ := H
   replace H : ((laws_eqHouHouse.f k t344 t347 t350 t358 t361 t364).bind fun t367 => (if t367 = true then ((laws_markHouHouse.f k t344 t347 t350 1).bind fun bt368 => (if bt368.1 < 0 then (laws_FnExactHouStates.j0 k t341 t354 true l0_0 l0_1 l0_2) else ((laws_eqIntS.f k t354 t341).bind fun t370 => (laws_FnExactHouStates.j0 k t341 t354 (!t370) l0_0 l0_1 l0_2)))) else (some false))) = some r := H
   have A13 := Aside0.mk A130
   clear A130
   replace H := Option.bind_eq_some_iff.mp H
   obtain ⟨t367, A140, H⟩ := H
   replace H : (if t367 = true then ((laws_markHouHouse.f k t344 t347 t350 1).bind fun bt368 => (if bt368.1 < 0 then (laws_FnExactHouStates.j0 k t341 t354 true l0_0 l0_1 l0_2) else ((laws_eqIntS.f k t354 t341).bind fun t370 => (laws_FnExactHouStates.j0 k t341 t354 (!t370) l0_0 l0_1 l0_2)))) else (some false)) = some r := H
   have A14 := Aside0.mk A140
   clear A140
   by_cases c15 : t367 = true
   ·subst c15
    have H1 : ((laws_markHouHouse.f k t344 t347 t350 1).bind fun bt368 => (if bt368.1 < 0 then (laws_FnExactHouStates.j0 k t341 t354 true l0_0 l0_1 l0_2) else ((laws_eqIntS.f k t354 t341).bind fun t370 => (laws_FnExactHouStates.j0 k t341 t354 (!t370) l0_0 l0_1 l0_2)))) = some r := by rw [if_pos rfl] at H; exact H
    clear H
    have H := H1
    clear H1
    replace H := Option.bind_eq_some_iff.mp H
    obtain ⟨⟨t368, t369⟩, A160, H⟩ := H
    replace H : (if t368 < 0 then (laws_FnExactHouStates.j0 k t341 t354 true l0_0 l0_1 l0_2) else ((laws_eqIntS.f k t354 t341).bind fun t370 => (laws_FnExactHouStates.j0 k t341 t354 (!t370) l0_0 l0_1 l0_2))) = some r := H
    have A16 := Aside0.mk A160
    clear A160
    have HC17 := Aside0.mk H
    clear H
    go_enter Try.func3, Try.ntmps3
    try go_wp2_with (first | ((with_reducible refine gate_dst (N := 1) rfl ?_); refine box_event ?hg (N := 1) ?hd (cs := #[.slice A0_0 l0_0.length c0_0, .slice A0_1 l0_1.length c0_1, .slice A0_2 l0_2.length c0_2]) (t := 26) ?hr ?_; (case hd => rfl); (case hg => rfl); (case hr => first | (go_simp; done) | (go_simp; rfl)); intro gb330 hg w18 hbox hb; have n0_ := Aside0.mk (below_step (vW0 HB.out) hb); have n1_ := Aside0.mk (hbox); have n2_ := Aside0.mk ((by rw [hg]; exact (below_size (vW0 HB.out)) : w.heap.size ≤ gb330)); have n3_ := Aside0.mk ((by rw [hg]; exact (below_size (vW0 HB.out)) : w.heap.size ≤ gb330)); clear HB; have HB := n0_; have BK330 := n1_; have GW330 := n2_; have GE330 := n3_; clear n0_ n1_ n2_ n3_; clear hb hbox hg; have hcz19_0 : w18.cell? ⟨gb330, 0, none⟩ = some (.slice A0_0 l0_0.length c0_0) := (blk_cell BK330.out 0).trans rfl; have hcz19_1 : w18.cell? ⟨gb330, 1, none⟩ = some (.slice A0_1 l0_1.length c0_1) := (blk_cell BK330.out 1).trans rfl; have hcz19_2 : w18.cell? ⟨gb330, 2, none⟩ = some (.slice A0_2 l0_2.length c0_2) := (blk_cell BK330.out 2).trans rfl; have hfz19_0 := blk_frozen BK330.out 0; have hfz19_1 := blk_frozen BK330.out 1; have hfz19_2 := blk_frozen BK330.out 2) | ((with_reducible refine gate_callee (f := 4) rfl ?_); refine goesL_ (some 13) rfl rfl Try.func4 (by kernel_rfl) rfl #[.agg #[.slice A0_0 l0_0.length c0_0, .slice A0_1 l0_1.length c0_1, .slice A0_2 l0_2.length c0_2], .int .i64 1048576] rfl vL ?_; (with_reducible refine (laws_szHouHouse.calls k _ _ l0_0 _ _ l0_1 _ _ l0_2 1048576 t331 _ ?side1 ?side2 ?side3 ?side4 ?side5 ?side6 A2.out).mono ?_); (case side1 => repeat (first | exact (Kd.C_below HR0_0.out HB.out) | (with_reducible refine Kd.C_alloc ?_ _) | (with_reducible refine Kd.C_drewN ?_ _) | (with_reducible refine Kd.C_drew ?_))); (case side2 => exact HC0_0.out); (case side3 => repeat (first | exact (Kd.C_below HR0_1.out HB.out) | (with_reducible refine Kd.C_alloc ?_ _) | (with_reducible refine Kd.C_drewN ?_ _) | (with_reducible refine Kd.C_drew ?_))); (case side4 => exact HC0_1.out); (case side5 => repeat (first | exact (Kd.C_below HR0_2.out HB.out) | (with_reducible refine Kd.C_alloc ?_ _) | (with_reducible refine Kd.C_drewN ?_ _) | (with_reducible refine Kd.C_drew ?_))); (case side6 => exact HC0_2.out); rintro e w20 ⟨rfl, hb⟩; refine ⟨_, rfl, ?_⟩; have n0_ := Aside0.mk (blk_below (g := gb330) (o := .cells #[.slice A0_0 l0_0.length c0_0, .slice A0_1 l0_1.length c0_1, .slice A0_2 l0_2.length c0_2] 26 (0, 0)) (vB BK330.out) hb); have n1_ := Aside0.mk (below_step (vW1 HB.out GE330.out) hb); clear BK330; clear HB; have BK330 := n0_; have HB := n1_; clear n0_ n1_; (try clear hb); (try clear hb2); (try clear hk); (try clear hi); have hcz21_0 : w20.cell? ⟨gb330, 0, none⟩ = some (.slice A0_0 l0_0.length c0_0) := (blk_cell BK330.out 0).trans rfl; have hcz21_1 : w20.cell? ⟨gb330, 1, none⟩ = some (.slice A0_1 l0_1.length c0_1) := (blk_cell BK330.out 1).trans rfl; have hcz21_2 : w20.cell? ⟨gb330, 2, none⟩ = some (.slice A0_2 l0_2.length c0_2) := (blk_cell BK330.out 2).trans rfl; have hfz21_0 := blk_frozen BK330.out 0; have hfz21_1 := blk_frozen BK330.out 1; have hfz21_2 := blk_frozen BK330.out 2) | ((with_reducible refine gate_callee (f := 6) rfl ?_); refine goesL_ (some 17) rfl rfl Try.func6 (by kernel_rfl) rfl #[.agg #[.slice A0_0 l0_0.length c0_0, .slice A0_1 l0_1.length c0_1, .slice A0_2 l0_2.length c0_2]] rfl vL ?_; (with_reducible refine (laws_toHouHouse.calls k _ _ l0_0 _ _ l0_1 _ _ l0_2 t332 t335 t338 _ ?side1 ?side2 ?side3 ?side4 ?side5 ?side6 A7.out).mono ?_); (case side1 => repeat (first | exact (Kd.C_below HR0_0.out HB.out) | (with_reducible refine Kd.C_alloc ?_ _) | (with_reducible refine Kd.C_drewN ?_ _) | (with_reducible refine Kd.C_drew ?_))); (case side2 => exact HC0_0.out); (case side3 => repeat (first | exact (Kd.C_below HR0_1.out HB.out) | (with_reducible refine Kd.C_alloc ?_ _) | (with_reducible refine Kd.C_drewN ?_ _) | (with_reducible refine Kd.C_drew ?_))); (case side4 => exact HC0_1.out); (case side5 => repeat (first | exact (Kd.C_below HR0_2.out HB.out) | (with_reducible refine Kd.C_alloc ?_ _) | (with_reducible refine Kd.C_drewN ?_ _) | (with_reducible refine Kd.C_drew ?_))); (case side6 => exact HC0_2.out); rintro e w22 ⟨v333, v336, v339, rfl, ho0, ho1, ho2, hb⟩; refine ⟨_, rfl, ?_⟩; have n0_ := Aside0.mk (Kd.R_lower ho0 (below_size (vW1 HB.out GE330.out))); have n1_ := Aside0.mk (Kd.S_lower ho1 (below_size (vW1 HB.out GE330.out))); have n2_ := Aside0.mk (Kd.R_lower ho2 (below_size (vW1 HB.out GE330.out))); have n3_ := Aside0.mk (blk_below (g := gb330) (o := .cells #[.slice A0_0 l0_0.length c0_0, .slice A0_1 l0_1.length c0_1, .slice A0_2 l0_2.length c0_2] 26 (0, 0)) (vB BK330.out) hb); have n4_ := Aside0.mk (below_step (vW1 HB.out GE330.out) hb); clear BK330; clear HB; have HO334 := n0_; have HO337 := n1_; have HO340 := n2_; have BK330 := n3_; have HB := n4_; clear n0_ n1_ n2_ n3_ n4_; (try clear hb); (try clear hb2); (try clear hk); (try clear hi); (try clear ho0); (try clear ho1); (try clear ho2); obtain ⟨Ao23, co23, eo23⟩ := Kd.R_slice HO334.out; subst eo23; obtain ⟨Ao24, co24, eo24⟩ := Kd.S_slice HO337.out; subst eo24; obtain ⟨Ao25, co25, eo25⟩ := Kd.R_slice HO340.out; subst eo25) | ((with_reducible refine gate_callee (f := 5) rfl ?_); refine goesL_ (some 18) rfl rfl Try.func5 (by kernel_rfl) rfl #[.agg #[.slice Ao23 t332.length co23, .slice Ao24 t335.length co24, .slice Ao25 t338.length co25]] rfl vL ?_; (with_reducible refine (spec_HouStates.calls k _ _ t332 _ _ t335 _ _ t338 t341 _ ?side1 ?side2 ?side3 ?side4 ?side5 ?side6 A8.out).mono ?_); (case side1 => repeat (first | exact (Kd.R_reads' HO334.out).2.2 | (with_reducible refine Kd.C_alloc ?_ _) | (with_reducible refine Kd.C_drewN ?_ _) | (with_reducible refine Kd.C_drew ?_))); (case side2 => exact (Kd.R_reads' HO334.out).2.1); (case side3 => repeat (first | exact (Kd.S_reads' HO337.out).2.2 | (with_reducible refine Kd.C_alloc ?_ _) | (with_reducible refine Kd.C_drewN ?_ _) | (with_reducible refine Kd.C_drew ?_))); (case side4 => exact (Kd.S_reads' HO337.out).2.1); (case side5 => repeat (first | exact (Kd.R_reads' HO340.out).2.2 | (with_reducible refine Kd.C_alloc ?_ _) | (with_reducible refine Kd.C_drewN ?_ _) | (with_reducible refine Kd.C_drew ?_))); (case side6 => exact (Kd.R_reads' HO340.out).2.1); rintro e w26 ⟨v342, rfl, ho0, hb⟩; refine ⟨_, rfl, ?_⟩; have n0_ := Aside0.mk (Kd.R_elder' (vR HO334.out) (Kd.R_base ho0) hb); have n1_ := Aside0.mk (Kd.S_below (vS HO337.out) hb); have n2_ := Aside0.mk (Kd.R_below (vR HO340.out) hb); have n3_ := Aside0.mk (Kd.R_lower (Kd.R_new' ho0 (Kd.R_lt (vR HO334.out))) (below_size (vW1 HB.out GE330.out))); have n4_ := Aside0.mk (blk_below (g := gb330) (o := .cells #[.slice A0_0 l0_0.length c0_0, .slice A0_1 l0_1.length c0_1, .slice A0_2 l0_2.length c0_2] 26 (0, 0)) (vB BK330.out) hb); have n5_ := Aside0.mk (below_step (vW1 HB.out GE330.out) hb); clear HO334; clear HO337; clear HO340; clear BK330; clear HB; have HO334 := n0_; have HO337 := n1_; have HO340 := n2_; have HO343 := n3_; have BK330 := n4_; have HB := n5_; clear n0_ n1_ n2_ n3_ n4_ n5_; (try clear hb); (try clear hb2); (try clear hk); (try clear hi); (try clear ho0); have hcz27_0 : w26.cell? ⟨gb330, 0, none⟩ = some (.slice A0_0 l0_0.length c0_0) := (blk_cell BK330.out 0).trans rfl; have hcz27_1 : w26.cell? ⟨gb330, 1, none⟩ = some (.slice A0_1 l0_1.length c0_1) := (blk_cell BK330.out 1).trans rfl; have hcz27_2 : w26.cell? ⟨gb330, 2, none⟩ = some (.slice A0_2 l0_2.length c0_2) := (blk_cell BK330.out 2).trans rfl; have hfz27_0 := blk_frozen BK330.out 0; have hfz27_1 := blk_frozen BK330.out 1; have hfz27_2 := blk_frozen BK330.out 2) | ((with_reducible refine gate_callee (f := 6) rfl ?_); refine goesL_ (some 20) rfl rfl Try.func6 (by kernel_rfl) rfl #[.agg #[.slice A0_0 l0_0.length c0_0, .slice A0_1 l0_1.length c0_1, .slice A0_2 l0_2.length c0_2]] rfl vL ?_; (with_reducible refine (laws_toHouHouse.calls k _ _ l0_0 _ _ l0_1 _ _ l0_2 t344 t347 t350 _ ?side1 ?side2 ?side3 ?side4 ?side5 ?side6 A9.out).mono ?_); (case side1 => repeat (first | exact (Kd.C_below HR0_0.out HB.out) | (with_reducible refine Kd.C_alloc ?_ _) | (with_reducible refine Kd.C_drewN ?_ _) | (with_reducible refine Kd.C_drew ?_))); (case side2 => exact HC0_0.out); (case side3 => repeat (first | exact (Kd.C_below HR0_1.out HB.out) | (with_reducible refine Kd.C_alloc ?_ _) | (with_reducible refine Kd.C_drewN ?_ _) | (with_reducible refine Kd.C_drew ?_))); (case side4 => exact HC0_1.out); (case side5 => repeat (first | exact (Kd.C_below HR0_2.out HB.out) | (with_reducible refine Kd.C_alloc ?_ _) | (with_reducible refine Kd.C_drewN ?_ _) | (with_reducible refine Kd.C_drew ?_))); (case side6 => exact HC0_2.out); rintro e w28 ⟨v345, v348, v351, rfl, ho0, ho1, ho2, hb⟩; refine ⟨_, rfl, ?_⟩; have n0_ := Aside0.mk (Kd.R_elder' (vR HO334.out) (Kd.R_base ho0) hb); have n1_ := Aside0.mk (Kd.S_elder' (vS HO337.out) (Kd.S_base ho1) hb); have n2_ := Aside0.mk (Kd.R_elder' (vR HO340.out) (Kd.R_base ho2) hb); have n3_ := Aside0.mk (Kd.R_elder' (vR HO343.out) (Kd.R_base ho0) hb); have n4_ := Aside0.mk (Kd.R_lower (Kd.R_new' (Kd.R_new' ho0 (Kd.R_lt (vR HO334.out))) (Kd.R_lt (vR HO343.out))) (below_size (vW1 HB.out GE330.out))); have n5_ := Aside0.mk (Kd.S_lower (Kd.S_new' ho1 (Kd.S_lt (vS HO337.out))) (below_size (vW1 HB.out GE330.out))); have n6_ := Aside0.mk (Kd.R_lower (Kd.R_new' ho2 (Kd.R_lt (vR HO340.out))) (below_size (vW1 HB.out GE330.out))); have n7_ := Aside0.mk (blk_below (g := gb330) (o := .cells #[.slice A0_0 l0_0.length c0_0, .slice A0_1 l0_1.length c0_1, .slice A0_2 l0_2.length c0_2] 26 (0, 0)) (vB BK330.out) hb); have n8_ := Aside0.mk (below_step (vW1 HB.out GE330.out) hb); clear HO334; clear HO337; clear HO340; clear HO343; clear BK330; clear HB; have HO334 := n0_; have HO337 := n1_; have HO340 := n2_; have HO343 := n3_; have HO346 := n4_; have HO349 := n5_; have HO352 := n6_; have BK330 := n7_; have HB := n8_; clear n0_ n1_ n2_ n3_ n4_ n5_ n6_ n7_ n8_; (try clear hb); (try clear hb2); (try clear hk); (try clear hi); (try clear ho0); (try clear ho1); (try clear ho2)) | ((with_reducible refine gate_dst (N := 5) rfl ?_); refine box_event ?hg (N := 5) ?hd (cs := #[.slice none 0 0, .slice none 0 0, .slice none 0 0]) (t := 32) ?hr ?_; (case hd => rfl); (case hg => rfl); (case hr => first | (go_simp; done) | (go_simp; rfl)); intro gb353 hg w29 hbox hb; have n0_ := Aside0.mk (Kd.R_below (vR HO334.out) hb); have n1_ := Aside0.mk (Kd.S_below (vS HO337.out) hb); have n2_ := Aside0.mk (Kd.R_below (vR HO340.out) hb); have n3_ := Aside0.mk (Kd.R_below (vR HO343.out) hb); have n4_ := Aside0.mk (Kd.R_below (vR HO346.out) hb); have n5_ := Aside0.mk (Kd.S_below (vS HO349.out) hb); have n6_ := Aside0.mk (Kd.R_below (vR HO352.out) hb); have n7_ := Aside0.mk (blk_below (g := gb330) (o := .cells #[.slice A0_0 l0_0.length c0_0, .slice A0_1 l0_1.length c0_1, .slice A0_2 l0_2.length c0_2] 26 (0, 0)) (vB BK330.out) hb); have n8_ := Aside0.mk (below_step (vW1 HB.out GE330.out) hb); have n9_ := Aside0.mk (hbox); have n10_ := Aside0.mk ((by rw [hg]; exact (below_size (vW1 HB.out GE330.out)) : w.heap.size ≤ gb353)); have n11_ := Aside0.mk ((by rw [hg]; exact (below_size (vW1 HB.out GE330.out)) : w.heap.size ≤ gb353)); have n12_ := Aside0.mk ((by rw [hg]; exact Nat.ne_of_lt (blk_lt (g := gb330) (o := .cells #[.slice A0_0 l0_0.length c0_0, .slice A0_1 l0_1.length c0_1, .slice A0_2 l0_2.length c0_2] 26 (0, 0)) (vB BK330.out)) : gb330 ≠ gb353)); have n13_ := Aside0.mk ((by rw [hg]; exact Nat.ne_of_gt (blk_lt (g := gb330) (o := .cells #[.slice A0_0 l0_0.length c0_0, .slice A0_1 l0_1.length c0_1, .slice A0_2 l0_2.length c0_2] 26 (0, 0)) (vB BK330.out)) : gb353 ≠ gb330)); clear HO334; clear HO337; clear HO340; clear HO343; clear HO346; clear HO349; clear HO352; clear BK330; clear HB; have HO334 := n0_; have HO337 := n1_; have HO340 := n2_; have HO343 := n3_; have HO346 := n4_; have HO349 := n5_; have HO352 := n6_; have BK330 := n7_; have HB := n8_; have BK353 := n9_; have GW353 := n10_; have GE353 := n11_; have NB330_353 := n12_; have NB353_330 := n13_; clear n0_ n1_ n2_ n3_ n4_ n5_ n6_ n7_ n8_ n9_ n10_ n11_ n12_ n13_; clear hb hbox hg; obtain ⟨Ao30, co30, eo30⟩ := Kd.R_slice HO346.out; subst eo30; have hnb31 := NB353_330.out; have hnc31 := NB330_353.out; have hcz32_0 : w29.cell? ⟨gb353, 0, none⟩ = some (.slice none 0 0) := (blk_cell BK353.out 0).trans rfl; have hcz32_1 : w29.cell? ⟨gb353, 1, none⟩ = some (.slice none 0 0) := (blk_cell BK353.out 1).trans rfl; have hcz32_2 : w29.cell? ⟨gb353, 2, none⟩ = some (.slice none 0 0) := (blk_cell BK353.out 2).trans rfl; have hfz32_0 := blk_frozen BK353.out 0; have hfz32_1 := blk_frozen BK353.out 1; have hfz32_2 := blk_frozen BK353.out 2; obtain ⟨Ao33, co33, eo33⟩ := Kd.S_slice HO349.out; subst eo33; obtain ⟨Ao34, co34, eo34⟩ := Kd.R_slice HO352.out; subst eo34) | ((with_reducible refine gate_callee (f := 7) rfl ?_); refine goesL_ (some 22) rfl rfl Try.func7 (by kernel_rfl) rfl #[.agg #[.slice Ao30 t344.length co30, .slice Ao33 t347.length co33, .slice Ao34 t350.length co34]] rfl vL ?_; (with_reducible refine (impl_HouStates.calls k _ _ t344 _ _ t347 _ _ t350 t354 _ ?side1 ?side2 ?side3 ?side4 ?side5 ?side6 A10.out).mono ?_); (case side1 => refine (Kd.R_reads' (e := 3) (base := w.heap.size) (ok := fun k_ => ((True ∧ some k_ ≠ (.slice Ao23 t332.length co23 : Value).ownBlock) ∧ some k_ ≠ (v342 : Value).ownBlock)) (n := t344.length) (c := co30) ?_).2.2; exact (by (with_reducible repeat (first | apply Kd.R_alloc | apply Kd.R_drewN | apply Kd.R_drew)); exact (Kd.R_mono (Kd.R_far (p := ⟨gb353, 2, none⟩) (Kd.R_far (p := ⟨gb353, 1, none⟩) (Kd.R_far (p := ⟨gb353, 0, none⟩) (Kd.R_types HO346.out BK353.out (by decide)) (fun _ hk => hk.2) (.slice Ao30 t344.length co30)) (fun _ hk => hk.2) (.slice Ao33 t347.length co33)) (fun _ hk => hk.2) (.slice Ao34 t350.length co34)) (fun _ h_ => h_.1)))); (case side2 => exact (Kd.R_reads' HO346.out).2.1); (case side3 => refine (Kd.S_reads' (e := 64) (base := w.heap.size) (ok := fun k_ => (True ∧ some k_ ≠ (.slice Ao24 t335.length co24 : Value).ownBlock)) (n := t347.length) (c := co33) ?_).2.2; exact (by (with_reducible repeat (first | apply Kd.S_alloc | apply Kd.S_drewN | apply Kd.S_drew)); exact (Kd.S_mono (Kd.S_far (p := ⟨gb353, 2, none⟩) (Kd.S_far (p := ⟨gb353, 1, none⟩) (Kd.S_far (p := ⟨gb353, 0, none⟩) (Kd.S_types HO349.out BK353.out (by decide)) (fun _ hk => hk.2) (.slice Ao30 t344.length co30)) (fun _ hk => hk.2) (.slice Ao33 t347.length co33)) (fun _ hk => hk.2) (.slice Ao34 t350.length co34)) (fun _ h_ => h_.1)))); (case side4 => exact (Kd.S_reads' HO349.out).2.1); (case side5 => refine (Kd.R_reads' (e := 45) (base := w.heap.size) (ok := fun k_ => (True ∧ some k_ ≠ (.slice Ao25 t338.length co25 : Value).ownBlock)) (n := t350.length) (c := co34) ?_).2.2; exact (by (with_reducible repeat (first | apply Kd.R_alloc | apply Kd.R_drewN | apply Kd.R_drew)); exact (Kd.R_mono (Kd.R_far (p := ⟨gb353, 2, none⟩) (Kd.R_far (p := ⟨gb353, 1, none⟩) (Kd.R_far (p := ⟨gb353, 0, none⟩) (Kd.R_types HO352.out BK353.out (by decide)) (fun _ hk => hk.2) (.slice Ao30 t344.length co30)) (fun _ hk => hk.2) (.slice Ao33 t347.length co33)) (fun _ hk => hk.2) (.slice Ao34 t350.length co34)) (fun _ h_ => h_.1)))); (case side6 => exact (Kd.R_reads' HO352.out).2.1); rintro e w35 ⟨v355, rfl, ho0, hb⟩; refine ⟨_, rfl, ?_⟩; have n0_ := Aside0.mk (Kd.R_elder' (by (with_reducible repeat (first | apply Kd.R_alloc | apply Kd.R_drewN | apply Kd.R_drew)); exact (Kd.R_mono (Kd.R_far (p := ⟨gb353, 2, none⟩) (Kd.R_far (p := ⟨gb353, 1, none⟩) (Kd.R_far (p := ⟨gb353, 0, none⟩) (Kd.R_types HO334.out BK353.out (by decide)) (fun _ hk => hk.2) (.slice Ao30 t344.length co30)) (fun _ hk => hk.2) (.slice Ao33 t347.length co33)) (fun _ hk => hk.2) (.slice Ao34 t350.length co34)) (fun _ h_ => h_.1))) (Kd.R_base ho0) hb); have n1_ := Aside0.mk (Kd.S_below (by (with_reducible repeat (first | apply Kd.S_alloc | apply Kd.S_drewN | apply Kd.S_drew)); exact (Kd.S_mono (Kd.S_far (p := ⟨gb353, 2, none⟩) (Kd.S_far (p := ⟨gb353, 1, none⟩) (Kd.S_far (p := ⟨gb353, 0, none⟩) (Kd.S_types HO337.out BK353.out (by decide)) (fun _ hk => hk.2) (.slice Ao30 t344.length co30)) (fun _ hk => hk.2) (.slice Ao33 t347.length co33)) (fun _ hk => hk.2) (.slice Ao34 t350.length co34)) (fun _ h_ => h_.1))) hb); have n2_ := Aside0.mk (Kd.R_below (by (with_reducible repeat (first | apply Kd.R_alloc | apply Kd.R_drewN | apply Kd.R_drew)); exact (Kd.R_mono (Kd.R_far (p := ⟨gb353, 2, none⟩) (Kd.R_far (p := ⟨gb353, 1, none⟩) (Kd.R_far (p := ⟨gb353, 0, none⟩) (Kd.R_types HO340.out BK353.out (by decide)) (fun _ hk => hk.2) (.slice Ao30 t344.length co30)) (fun _ hk => hk.2) (.slice Ao33 t347.length co33)) (fun _ hk => hk.2) (.slice Ao34 t350.length co34)) (fun _ h_ => h_.1))) hb); have n3_ := Aside0.mk (Kd.R_elder' (by (with_reducible repeat (first | apply Kd.R_alloc | apply Kd.R_drewN | apply Kd.R_drew)); exact (Kd.R_mono (Kd.R_far (p := ⟨gb353, 2, none⟩) (Kd.R_far (p := ⟨gb353, 1, none⟩) (Kd.R_far (p := ⟨gb353, 0, none⟩) (Kd.R_types HO343.out BK353.out (by decide)) (fun _ hk => hk.2) (.slice Ao30 t344.length co30)) (fun _ hk => hk.2) (.slice Ao33 t347.length co33)) (fun _ hk => hk.2) (.slice Ao34 t350.length co34)) (fun _ h_ => h_.1))) (Kd.R_base ho0) hb); have n4_ := Aside0.mk (Kd.R_elder' (by (with_reducible repeat (first | apply Kd.R_alloc | apply Kd.R_drewN | apply Kd.R_drew)); exact (Kd.R_mono (Kd.R_far (p := ⟨gb353, 2, none⟩) (Kd.R_far (p := ⟨gb353, 1, none⟩) (Kd.R_far (p := ⟨gb353, 0, none⟩) (Kd.R_types HO346.out BK353.out (by decide)) (fun _ hk => hk.2) (.slice Ao30 t344.length co30)) (fun _ hk => hk.2) (.slice Ao33 t347.length co33)) (fun _ hk => hk.2) (.slice Ao34 t350.length co34)) (fun _ h_ => h_.1))) (Kd.R_base ho0) hb); have n5_ := Aside0.mk (Kd.S_below (by (with_reducible repeat (first | apply Kd.S_alloc | apply Kd.S_drewN | apply Kd.S_drew)); exact (Kd.S_mono (Kd.S_far (p := ⟨gb353, 2, none⟩) (Kd.S_far (p := ⟨gb353, 1, none⟩) (Kd.S_far (p := ⟨gb353, 0, none⟩) (Kd.S_types HO349.out BK353.out (by decide)) (fun _ hk => hk.2) (.slice Ao30 t344.length co30)) (fun _ hk => hk.2) (.slice Ao33 t347.length co33)) (fun _ hk => hk.2) (.slice Ao34 t350.length co34)) (fun _ h_ => h_.1))) hb); have n6_ := Aside0.mk (Kd.R_below (by (with_reducible repeat (first | apply Kd.R_alloc | apply Kd.R_drewN | apply Kd.R_drew)); exact (Kd.R_mono (Kd.R_far (p := ⟨gb353, 2, none⟩) (Kd.R_far (p := ⟨gb353, 1, none⟩) (Kd.R_far (p := ⟨gb353, 0, none⟩) (Kd.R_types HO352.out BK353.out (by decide)) (fun _ hk => hk.2) (.slice Ao30 t344.length co30)) (fun _ hk => hk.2) (.slice Ao33 t347.length co33)) (fun _ hk => hk.2) (.slice Ao34 t350.length co34)) (fun _ h_ => h_.1))) hb); have n7_ := Aside0.mk (Kd.R_lower (Kd.R_new' (Kd.R_new' (Kd.R_new' ho0 (Kd.R_lt (by (with_reducible repeat (first | apply Kd.R_alloc | apply Kd.R_drewN | apply Kd.R_drew)); exact (Kd.R_mono (Kd.R_far (p := ⟨gb353, 2, none⟩) (Kd.R_far (p := ⟨gb353, 1, none⟩) (Kd.R_far (p := ⟨gb353, 0, none⟩) (Kd.R_types HO334.out BK353.out (by decide)) (fun _ hk => hk.2) (.slice Ao30 t344.length co30)) (fun _ hk => hk.2) (.slice Ao33 t347.length co33)) (fun _ hk => hk.2) (.slice Ao34 t350.length co34)) (fun _ h_ => h_.1))))) (Kd.R_lt (by (with_reducible repeat (first | apply Kd.R_alloc | apply Kd.R_drewN | apply Kd.R_drew)); exact (Kd.R_mono (Kd.R_far (p := ⟨gb353, 2, none⟩) (Kd.R_far (p := ⟨gb353, 1, none⟩) (Kd.R_far (p := ⟨gb353, 0, none⟩) (Kd.R_types HO343.out BK353.out (by decide)) (fun _ hk => hk.2) (.slice Ao30 t344.length co30)) (fun _ hk => hk.2) (.slice Ao33 t347.length co33)) (fun _ hk => hk.2) (.slice Ao34 t350.length co34)) (fun _ h_ => h_.1))))) (Kd.R_lt (by (with_reducible repeat (first | apply Kd.R_alloc | apply Kd.R_drewN | apply Kd.R_drew)); exact (Kd.R_mono (Kd.R_far (p := ⟨gb353, 2, none⟩) (Kd.R_far (p := ⟨gb353, 1, none⟩) (Kd.R_far (p := ⟨gb353, 0, none⟩) (Kd.R_types HO346.out BK353.out (by decide)) (fun _ hk => hk.2) (.slice Ao30 t344.length co30)) (fun _ hk => hk.2) (.slice Ao33 t347.length co33)) (fun _ hk => hk.2) (.slice Ao34 t350.length co34)) (fun _ h_ => h_.1))))) (below_size (vW2 HB.out GE330.out GE353.out))); have n8_ := Aside0.mk (blk_below (g := gb330) (o := .cells #[.slice A0_0 l0_0.length c0_0, .slice A0_1 l0_1.length c0_1, .slice A0_2 l0_2.length c0_2] 26 (0, 0)) (by (with_reducible repeat (first | refine blk_drewN ?_ _ | refine blk_drew ?_ | refine blk_alloc ?_ _)); refine blk_far ?_ NB330_353.out _; (with_reducible repeat (first | refine blk_drewN ?_ _ | refine blk_drew ?_ | refine blk_alloc ?_ _)); refine blk_far ?_ NB330_353.out _; (with_reducible repeat (first | refine blk_drewN ?_ _ | refine blk_drew ?_ | refine blk_alloc ?_ _)); refine blk_far ?_ NB330_353.out _; (with_reducible repeat (first | refine blk_drewN ?_ _ | refine blk_drew ?_ | refine blk_alloc ?_ _)); exact BK330.out) hb); have n9_ := Aside0.mk (blk_below (g := gb353) (o := .cells #[.slice Ao30 t344.length co30, .slice Ao33 t347.length co33, .slice Ao34 t350.length co34] 32 (0, 0)) (by (with_reducible repeat (first | refine blk_drewN ?_ _ | refine blk_drew ?_ | refine blk_alloc ?_ _)); refine blk_put (cs := #[.slice Ao30 t344.length co30, .slice Ao33 t347.length co33, .slice none 0 0]) ?_ 2 _ rfl; (with_reducible repeat (first | refine blk_drewN ?_ _ | refine blk_drew ?_ | refine blk_alloc ?_ _)); refine blk_put (cs := #[.slice Ao30 t344.length co30, .slice none 0 0, .slice none 0 0]) ?_ 1 _ rfl; (with_reducible repeat (first | refine blk_drewN ?_ _ | refine blk_drew ?_ | refine blk_alloc ?_ _)); refine blk_put (cs := #[.slice none 0 0, .slice none 0 0, .slice none 0 0]) ?_ 0 _ rfl; (with_reducible repeat (first | refine blk_drewN ?_ _ | refine blk_drew ?_ | refine blk_alloc ?_ _)); exact BK353.out) hb); have n10_ := Aside0.mk (below_step (vW2 HB.out GE330.out GE353.out) hb); clear HO334; clear HO337; clear HO340; clear HO343; clear HO346; clear HO349; clear HO352; clear BK330; clear BK353; clear HB; have HO334 := n0_; have HO337 := n1_; have HO340 := n2_; have HO343 := n3_; have HO346 := n4_; have HO349 := n5_; have HO352 := n6_; have HO356 := n7_; have BK330 := n8_; have BK353 := n9_; have HB := n10_; clear n0_ n1_ n2_ n3_ n4_ n5_ n6_ n7_ n8_ n9_ n10_; (try clear hb); (try clear hb2); (try clear hk); (try clear hi); (try clear ho0); obtain ⟨Ao36, co36, eo36⟩ := Kd.R_slice HO356.out; subst eo36; obtain ⟨Ao37, co37, eo37⟩ := Kd.R_slice HO343.out; subst eo37) | ((with_reducible refine gate_callee (f := 8) rfl ?_); refine goesL_ (some 25) rfl rfl Try.func8 (by kernel_rfl) rfl #[.slice Ao36 t354.length co36, .slice Ao37 t341.length co37] rfl vL ?_; (with_reducible refine (laws_eqIntS.calls k _ _ t354 _ _ t341 true _ ?side1 ?side2 ?side3 ?side4 A11.out).mono ?_); (case side1 => repeat (first | exact (Kd.R_reads' HO356.out).2.2 | (with_reducible refine Kd.C_alloc ?_ _) | (with_reducible refine Kd.C_drewN ?_ _) | (with_reducible refine Kd.C_drew ?_))); (case side2 => exact (Kd.R_reads' HO356.out).2.1); (case side3 => repeat (first | exact (Kd.R_reads' HO343.out).2.2 | (with_reducible refine Kd.C_alloc ?_ _) | (with_reducible refine Kd.C_drewN ?_ _) | (with_reducible refine Kd.C_drew ?_))); (case side4 => exact (Kd.R_reads' HO343.out).2.1); rintro e w' ⟨rfl, ⟨nd, rfl⟩⟩; refine ⟨_, rfl, ?_⟩))
    (try (rw [drewN_self w35]; generalize hq_ : World.drewN w35 _ = w35; have n0_ : Aside0 (Kd.R (Kd.int .i64) 3 w35 w.heap.size (fun k_ => some k_ ≠ (.slice Ao37 t341.length co37 : Value).ownBlock ∧ some k_ ≠ (.slice Ao30 t344.length co30 : Value).ownBlock ∧ some k_ ≠ (.slice Ao36 t354.length co36 : Value).ownBlock) (.slice Ao23 t332.length co23) t332) := ⟨by rw [← hq_]; exact (by (with_reducible repeat (first | apply Kd.R_alloc | apply Kd.R_drewN | apply Kd.R_drew)); exact Kd.R_mono HO334.out (fun _ hk => ⟨hk.1.1.2, ⟨hk.1.2, hk.2⟩⟩))⟩; have n1_ : Aside0 (Kd.S k64 64 w35 w.heap.size (fun k_ => some k_ ≠ (.slice Ao33 t347.length co33 : Value).ownBlock) (.slice Ao24 t335.length co24) t335) := ⟨by rw [← hq_]; exact (by (with_reducible repeat (first | apply Kd.S_alloc | apply Kd.S_drewN | apply Kd.S_drew)); exact Kd.S_mono HO337.out (fun _ hk => hk.2))⟩; have n2_ : Aside0 (Kd.R k45 45 w35 w.heap.size (fun k_ => some k_ ≠ (.slice Ao34 t350.length co34 : Value).ownBlock) (.slice Ao25 t338.length co25) t338) := ⟨by rw [← hq_]; exact (by (with_reducible repeat (first | apply Kd.R_alloc | apply Kd.R_drewN | apply Kd.R_drew)); exact Kd.R_mono HO340.out (fun _ hk => hk.2))⟩; have n3_ : Aside0 (Kd.R (Kd.int .i64) 3 w35 w.heap.size (fun k_ => some k_ ≠ (.slice Ao23 t332.length co23 : Value).ownBlock ∧ some k_ ≠ (.slice Ao30 t344.length co30 : Value).ownBlock ∧ some k_ ≠ (.slice Ao36 t354.length co36 : Value).ownBlock) (.slice Ao37 t341.length co37) t341) := ⟨by rw [← hq_]; exact (by (with_reducible repeat (first | apply Kd.R_alloc | apply Kd.R_drewN | apply Kd.R_drew)); exact Kd.R_mono HO343.out (fun _ hk => ⟨hk.1.1.2, ⟨hk.1.2, hk.2⟩⟩))⟩; have n4_ : Aside0 (Kd.R (Kd.int .i64) 3 w35 w.heap.size (fun k_ => some k_ ≠ (.slice Ao23 t332.length co23 : Value).ownBlock ∧ some k_ ≠ (.slice Ao37 t341.length co37 : Value).ownBlock ∧ some k_ ≠ (.slice Ao36 t354.length co36 : Value).ownBlock) (.slice Ao30 t344.length co30) t344) := ⟨by rw [← hq_]; exact (by (with_reducible repeat (first | apply Kd.R_alloc | apply Kd.R_drewN | apply Kd.R_drew)); exact Kd.R_mono HO346.out (fun _ hk => ⟨hk.1.1.2, ⟨hk.1.2, hk.2⟩⟩))⟩; have n5_ : Aside0 (Kd.S k64 64 w35 w.heap.size (fun k_ => some k_ ≠ (.slice Ao24 t335.length co24 : Value).ownBlock) (.slice Ao33 t347.length co33) t347) := ⟨by rw [← hq_]; exact (by (with_reducible repeat (first | apply Kd.S_alloc | apply Kd.S_drewN | apply Kd.S_drew)); exact Kd.S_mono HO349.out (fun _ hk => hk.2))⟩; have n6_ : Aside0 (Kd.R k45 45 w35 w.heap.size (fun k_ => some k_ ≠ (.slice Ao25 t338.length co25 : Value).ownBlock) (.slice Ao34 t350.length co34) t350) := ⟨by rw [← hq_]; exact (by (with_reducible repeat (first | apply Kd.R_alloc | apply Kd.R_drewN | apply Kd.R_drew)); exact Kd.R_mono HO352.out (fun _ hk => hk.2))⟩; have n7_ : Aside0 (Kd.R (Kd.int .i64) 3 w35 w.heap.size (fun k_ => some k_ ≠ (.slice Ao23 t332.length co23 : Value).ownBlock ∧ some k_ ≠ (.slice Ao37 t341.length co37 : Value).ownBlock ∧ some k_ ≠ (.slice Ao30 t344.length co30 : Value).ownBlock) (.slice Ao36 t354.length co36) t354) := ⟨by rw [← hq_]; exact (by (with_reducible repeat (first | apply Kd.R_alloc | apply Kd.R_drewN | apply Kd.R_drew)); exact Kd.R_mono HO356.out (fun _ hk => ⟨hk.1.1.2, ⟨hk.1.2, hk.2⟩⟩))⟩; have n8_ : Aside0 (w35.heap[gb330]? = some (.cells #[.slice A0_0 l0_0.length c0_0, .slice A0_1 l0_1.length c0_1, .slice A0_2 l0_2.length c0_2] 26 (0, 0))) := ⟨by rw [← hq_]; exact (vB BK330.out)⟩; have n9_ : Aside0 (w35.heap[gb353]? = some (.cells #[.slice Ao30 t344.length co30, .slice Ao33 t347.length co33, .slice Ao34 t350.length co34] 32 (0, 0))) := ⟨by rw [← hq_]; exact (vB BK353.out)⟩; have n10_ : Aside0 (Below w.heap.size w w35) := ⟨by rw [← hq_]; exact (vW2 HB.out GE330.out GE353.out)⟩; clear HO334 HO337 HO340 HO343 HO346 HO349 HO352 HO356 BK330 BK353 HB hq_; have HO334 := n0_; have HO337 := n1_; have HO340 := n2_; have HO343 := n3_; have HO346 := n4_; have HO349 := n5_; have HO352 := n6_; have HO356 := n7_; have BK330 := n8_; have BK353 := n9_; have HB := n10_; clear n0_ n1_ n2_ n3_ n4_ n5_ n6_ n7_ n8_ n9_ n10_))
    have n0_ := Aside0.mk (Kd.R_drew HO334.out)
    have n1_ := Aside0.mk (Kd.S_drew HO337.out)
    have n2_ := Aside0.mk (Kd.R_drew HO340.out)
    have n3_ := Aside0.mk (Kd.R_drew HO343.out)
    have n4_ := Aside0.mk (Kd.R_drew HO346.out)
    have n5_ := Aside0.mk (Kd.S_drew HO349.out)
    have n6_ := Aside0.mk (Kd.R_drew HO352.out)
    have n7_ := Aside0.mk (Kd.R_drew HO356.out)
    have n8_ := Aside0.mk (blk_drew BK330.out)
    have n9_ := Aside0.mk (blk_drew BK353.out)
    have n10_ := Aside0.mk (below_drew1 HB.out)
    clear HO334
    clear HO337
    clear HO340
    clear HO343
    clear HO346
    clear HO349
    clear HO352
    clear HO356
    clear BK330
    clear BK353
    clear HB
    have HO334 := n0_
    have HO337 := n1_
    have HO340 := n2_
    have HO343 := n3_
    have HO346 := n4_
    have HO349 := n5_
    have HO352 := n6_
    have HO356 := n7_
    have BK330 := n8_
    have BK353 := n9_
    have HB := n10_
    clear n0_ n1_ n2_ n3_ n4_ n5_ n6_ n7_ n8_ n9_ n10_
    refine start_ (n := 5) (S := fun w' => w'.cell? ⟨gb353, 0, none⟩ = some (.slice Ao30 t344.length co30) ∧ w'.cell? ⟨gb353, 1, none⟩ = some (.slice Ao33 t347.length co33) ∧ w'.cell? ⟨gb353, 2, none⟩ = some (.slice Ao34 t350.length co34) ∧ w'.cell? ⟨gb330, 0, none⟩ = some (.slice A0_0 l0_0.length c0_0) ∧ w'.cell? ⟨gb330, 1, none⟩ = some (.slice A0_1 l0_1.length c0_1) ∧ w'.cell? ⟨gb330, 2, none⟩ = some (.slice A0_2 l0_2.length c0_2)) (ds := []) #[false, false, false, false, false] (by kernel_rfl) rfl rfl ⟨(blk_cell BK353.out 0).trans rfl, (blk_cell BK353.out 1).trans rfl, (blk_cell BK353.out 2).trans rfl, (blk_cell BK330.out 0).trans rfl, (blk_cell BK330.out 1).trans rfl, (blk_cell BK330.out 2).trans rfl⟩ (fun hHeld => ?_)
    generalize w35.drew = w38 at HO334 HO337 HO340 HO343 HO346 HO349 HO352 HO356 BK330 BK353 HB hHeld ⊢
    refine take_ (i := 0) (N := some 27) (v := ?_) (a' := ?_) #[true, false, false, false, false] rfl rfl (by kernel_rfl) (fun _ _ _ h => h) (Or.inl ⟨by rfl, ?_⟩) hHeld ?_ ?_
    rotate_left
    ·rintro w' ⟨s0, s1, s2, s3, s4, s5⟩
     go_simp
     with_reducible rfl
    rotate_left
    ·simp only [Act.put, List.setIfInBounds_toArray, List.set_cons_zero, List.set_cons_succ, i64_w, i32_w]
     rfl
    refine take_ (i := 1) (N := some 28) (v := ?_) (a' := ?_) #[true, true, false, false, false] rfl rfl (by kernel_rfl) (fun _ _ _ h => h) (Or.inl ⟨by rfl, ?_⟩) hHeld ?_ ?_
    rotate_left
    ·rintro w' ⟨s0, s1, s2, s3, s4, s5⟩
     go_simp
     with_reducible rfl
    rotate_left
    ·simp only [Act.put, List.setIfInBounds_toArray, List.set_cons_zero, List.set_cons_succ, i64_w, i32_w]
     rfl
    refine one_ (i := 2) (N := some 29) #[true, true, true, false, false] rfl rfl (by kernel_rfl) (by decide) (fun K hK => ?_)
    refine goes_ Try.func6 (by kernel_rfl) rfl #[.agg #[.slice A0_0 l0_0.length c0_0, .slice A0_1 l0_1.length c0_1, .slice A0_2 l0_2.length c0_2]] (by rfl) rfl rfl vL ?_
    with_reducible refine (laws_toHouHouse.calls k _ _ l0_0 _ _ l0_1 _ _ l0_2 t358 t361 t364 _ ?side1 ?side2 ?side3 ?side4 ?side5 ?side6 A13.out).mono ?_
    (case side1 => repeat (first | exact (Kd.C_below HR0_0.out HB.out) | (with_reducible refine Kd.C_alloc ?_ _) | (with_reducible refine Kd.C_drewN ?_ _) | (with_reducible refine Kd.C_drew ?_)))
    (case side2 => exact HC0_0.out)
    (case side3 => repeat (first | exact (Kd.C_below HR0_1.out HB.out) | (with_reducible refine Kd.C_alloc ?_ _) | (with_reducible refine Kd.C_drewN ?_ _) | (with_reducible refine Kd.C_drew ?_)))
    (case side4 => exact HC0_1.out)
    (case side5 => repeat (first | exact (Kd.C_below HR0_2.out HB.out) | (with_reducible refine Kd.C_alloc ?_ _) | (with_reducible refine Kd.C_drewN ?_ _) | (with_reducible refine Kd.C_drew ?_)))
    (case side6 => exact HC0_2.out)
    rintro e w39 ⟨v359, v362, v365, rfl, ho0, ho1, ho2, hb⟩
    refine ⟨_, rfl, ?_⟩
    have n0_ := Aside0.mk (Kd.R_elder' (vR HO334.out) (Kd.R_base ho0) hb)
    have n1_ := Aside0.mk (Kd.S_elder' (vS HO337.out) (Kd.S_base ho1) hb)
    have n2_ := Aside0.mk (Kd.R_elder' (vR HO340.out) (Kd.R_base ho2) hb)
    have n3_ := Aside0.mk (Kd.R_elder' (vR HO343.out) (Kd.R_base ho0) hb)
    have n4_ := Aside0.mk (Kd.R_elder' (vR HO346.out) (Kd.R_base ho0) hb)
    have n5_ := Aside0.mk (Kd.S_elder' (vS HO349.out) (Kd.S_base ho1) hb)
    have n6_ := Aside0.mk (Kd.R_elder' (vR HO352.out) (Kd.R_base ho2) hb)
    have n7_ := Aside0.mk (Kd.R_elder' (vR HO356.out) (Kd.R_base ho0) hb)
    have n8_ := Aside0.mk (Kd.R_lower (Kd.R_new' (Kd.R_new' (Kd.R_new' (Kd.R_new' ho0 (Kd.R_lt (vR HO334.out))) (Kd.R_lt (vR HO343.out))) (Kd.R_lt (vR HO346.out))) (Kd.R_lt (vR HO356.out))) (below_size (vW2 HB.out GE330.out GE353.out)))
    have n9_ := Aside0.mk (Kd.S_lower (Kd.S_new' (Kd.S_new' ho1 (Kd.S_lt (vS HO337.out))) (Kd.S_lt (vS HO349.out))) (below_size (vW2 HB.out GE330.out GE353.out)))
    have n10_ := Aside0.mk (Kd.R_lower (Kd.R_new' (Kd.R_new' ho2 (Kd.R_lt (vR HO340.out))) (Kd.R_lt (vR HO352.out))) (below_size (vW2 HB.out GE330.out GE353.out)))
    have n11_ := Aside0.mk (blk_below (g := gb330) (o := .cells #[.slice A0_0 l0_0.length c0_0, .slice A0_1 l0_1.length c0_1, .slice A0_2 l0_2.length c0_2] 26 (0, 0)) (vB BK330.out) hb)
    have n12_ := Aside0.mk (blk_below (g := gb353) (o := .cells #[.slice Ao30 t344.length co30, .slice Ao33 t347.length co33, .slice Ao34 t350.length co34] 32 (0, 0)) (vB BK353.out) hb)
    have n13_ := Aside0.mk (below_step (vW2 HB.out GE330.out GE353.out) hb)
    clear HO334
    clear HO337
    clear HO340
    clear HO343
    clear HO346
    clear HO349
    clear HO352
    clear HO356
    clear BK330
    clear BK353
    clear HB
    have HO334 := n0_
    have HO337 := n1_
    have HO340 := n2_
    have HO343 := n3_
    have HO346 := n4_
    have HO349 := n5_
    have HO352 := n6_
    have HO356 := n7_
    have HO360 := n8_
    have HO363 := n9_
    have HO366 := n10_
    have BK330 := n11_
    have BK353 := n12_
    have HB := n13_
    clear n0_ n1_ n2_ n3_ n4_ n5_ n6_ n7_ n8_ n9_ n10_ n11_ n12_ n13_
    (try clear hb)
    (try clear hb2)
    (try clear hk)
    (try clear hi)
    (try clear ho0)
    (try clear ho1)
    (try clear ho2)
    obtain ⟨Ao40, co40, eo40⟩ := Kd.R_slice HO360.out
    (first | subst eo40 | (injection eo40 with f1_ f2_ f3_; have f4_ := f1_.symm; have f5_ := f3_.symm; clear f1_ f2_ f3_; subst f4_; subst f5_))
    obtain ⟨Ao41, co41, eo41⟩ := Kd.S_slice HO363.out
    (first | subst eo41 | (injection eo41 with f1_ f2_ f3_; have f4_ := f1_.symm; have f5_ := f3_.symm; clear f1_ f2_ f3_; subst f4_; subst f5_))
    obtain ⟨Ao42, co42, eo42⟩ := Kd.R_slice HO366.out
    (first | subst eo42 | (injection eo42 with f1_ f2_ f3_; have f4_ := f1_.symm; have f5_ := f3_.symm; clear f1_ f2_ f3_; subst f4_; subst f5_))
    refine hK.out _ _ ⟨(blk_cell BK353.out 0).trans rfl, (blk_cell BK353.out 1).trans rfl, (blk_cell BK353.out 2).trans rfl, (blk_cell BK330.out 0).trans rfl, (blk_cell BK330.out 1).trans rfl, (blk_cell BK330.out 2).trans rfl⟩ (fun hHeld => ?_)
    clear hK K
    refine norm_ (a' := ?_) ?_ ?_
    rotate_left
    ·show Act.put _ (some 29) _ = _
     simp only [Act.put, List.setIfInBounds_toArray, List.set_cons_zero, List.set_cons_succ, i64_w, i32_w]
     rfl
    refine one_ (i := 3) (N := some 30) #[true, true, true, true, false] rfl rfl (by kernel_rfl) (by decide) (fun K hK => ?_)
    refine goes_ Try.func9 (by kernel_rfl) rfl #[.agg #[.slice Ao30 t344.length co30, .slice Ao33 t347.length co33, .slice Ao34 t350.length co34], .agg #[.slice Ao40 t358.length co40, .slice Ao41 t361.length co41, .slice Ao42 t364.length co42]] (by rfl) rfl rfl vL ?_
    with_reducible refine (laws_eqHouHouse.calls k _ _ t344 _ _ t347 _ _ t350 _ _ t358 _ _ t361 _ _ t364 true _ ?side1 ?side2 ?side3 ?side4 ?side5 ?side6 ?side7 ?side8 ?side9 ?side10 ?side11 ?side12 A14.out).mono ?_
    (case side1 => repeat (first | exact (Kd.R_reads' HO346.out).2.2 | (with_reducible refine Kd.C_alloc ?_ _) | (with_reducible refine Kd.C_drewN ?_ _) | (with_reducible refine Kd.C_drew ?_)))
    (case side2 => exact (Kd.R_reads' HO346.out).2.1)
    (case side3 => repeat (first | exact (Kd.S_reads' HO349.out).2.2 | (with_reducible refine Kd.C_alloc ?_ _) | (with_reducible refine Kd.C_drewN ?_ _) | (with_reducible refine Kd.C_drew ?_)))
    (case side4 => exact (Kd.S_reads' HO349.out).2.1)
    (case side5 => repeat (first | exact (Kd.R_reads' HO352.out).2.2 | (with_reducible refine Kd.C_alloc ?_ _) | (with_reducible refine Kd.C_drewN ?_ _) | (with_reducible refine Kd.C_drew ?_)))
    (case side6 => exact (Kd.R_reads' HO352.out).2.1)
    (case side7 => repeat (first | exact (Kd.R_reads' HO360.out).2.2 | (with_reducible refine Kd.C_alloc ?_ _) | (with_reducible refine Kd.C_drewN ?_ _) | (with_reducible refine Kd.C_drew ?_)))
    (case side8 => exact (Kd.R_reads' HO360.out).2.1)
    (case side9 => repeat (first | exact (Kd.S_reads' HO363.out).2.2 | (with_reducible refine Kd.C_alloc ?_ _) | (with_reducible refine Kd.C_drewN ?_ _) | (with_reducible refine Kd.C_drew ?_)))
    (case side10 => exact (Kd.S_reads' HO363.out).2.1)
    (case side11 => repeat (first | exact (Kd.R_reads' HO366.out).2.2 | (with_reducible refine Kd.C_alloc ?_ _) | (with_reducible refine Kd.C_drewN ?_ _) | (with_reducible refine Kd.C_drew ?_)))
    (case side12 => exact (Kd.R_reads' HO366.out).2.1)
    rintro e w43 ⟨rfl, hb⟩
    refine ⟨_, rfl, ?_⟩
    have n0_ := Aside0.mk (Kd.R_below (vR HO334.out) hb)
    have n1_ := Aside0.mk (Kd.S_below (vS HO337.out) hb)
    have n2_ := Aside0.mk (Kd.R_below (vR HO340.out) hb)
    have n3_ := Aside0.mk (Kd.R_below (vR HO343.out) hb)
    have n4_ := Aside0.mk (Kd.R_below (vR HO346.out) hb)
    have n5_ := Aside0.mk (Kd.S_below (vS HO349.out) hb)
    have n6_ := Aside0.mk (Kd.R_below (vR HO352.out) hb)
    have n7_ := Aside0.mk (Kd.R_below (vR HO356.out) hb)
    have n8_ := Aside0.mk (Kd.R_below (vR HO360.out) hb)
    have n9_ := Aside0.mk (Kd.S_below (vS HO363.out) hb)
    have n10_ := Aside0.mk (Kd.R_below (vR HO366.out) hb)
    have n11_ := Aside0.mk (blk_below (g := gb330) (o := .cells #[.slice A0_0 l0_0.length c0_0, .slice A0_1 l0_1.length c0_1, .slice A0_2 l0_2.length c0_2] 26 (0, 0)) (vB BK330.out) hb)
    have n12_ := Aside0.mk (blk_below (g := gb353) (o := .cells #[.slice Ao30 t344.length co30, .slice Ao33 t347.length co33, .slice Ao34 t350.length co34] 32 (0, 0)) (vB BK353.out) hb)
    have n13_ := Aside0.mk (below_step (vW2 HB.out GE330.out GE353.out) hb)
    clear HO334
    clear HO337
    clear HO340
    clear HO343
    clear HO346
    clear HO349
    clear HO352
    clear HO356
    clear HO360
    clear HO363
    clear HO366
    clear BK330
    clear BK353
    clear HB
    have HO334 := n0_
    have HO337 := n1_
    have HO340 := n2_
    have HO343 := n3_
    have HO346 := n4_
    have HO349 := n5_
    have HO352 := n6_
    have HO356 := n7_
    have HO360 := n8_
    have HO363 := n9_
    have HO366 := n10_
    have BK330 := n11_
    have BK353 := n12_
    have HB := n13_
    clear n0_ n1_ n2_ n3_ n4_ n5_ n6_ n7_ n8_ n9_ n10_ n11_ n12_ n13_
    (try clear hb)
    (try clear hb2)
    (try clear hk)
    (try clear hi)
    refine hK.out _ _ ⟨(blk_cell BK353.out 0).trans rfl, (blk_cell BK353.out 1).trans rfl, (blk_cell BK353.out 2).trans rfl, (blk_cell BK330.out 0).trans rfl, (blk_cell BK330.out 1).trans rfl, (blk_cell BK330.out 2).trans rfl⟩ (fun hHeld => ?_)
    clear hK K
    refine norm_ (a' := ?_) ?_ ?_
    rotate_left
    ·show Act.put _ (some 30) _ = _
     simp only [Act.put, List.setIfInBounds_toArray, List.set_cons_zero, List.set_cons_succ, i64_w, i32_w]
     rfl
    refine pure_ (i := 4) (N := some 31) (v := ?_) (a' := ?_) #[true, true, true, true, true] rfl rfl (by kernel_rfl) (fun _ _ _ h => h) (Or.inl ⟨by rfl, ?_⟩) ?_ ?_
    rotate_left
    ·intro w'
     go_simp
     with_reducible rfl
    rotate_left
    ·simp only [Act.put, List.setIfInBounds_toArray, List.set_cons_zero, List.set_cons_succ, i64_w, i32_w]
     rfl
    refine done_ (by kernel_rfl) ?_
    have hcz44_0 : w43.cell? ⟨gb353, 0, none⟩ = some (.slice Ao30 t344.length co30) := (blk_cell BK353.out 0).trans rfl
    have hcz44_1 : w43.cell? ⟨gb353, 1, none⟩ = some (.slice Ao33 t347.length co33) := (blk_cell BK353.out 1).trans rfl
    have hcz44_2 : w43.cell? ⟨gb353, 2, none⟩ = some (.slice Ao34 t350.length co34) := (blk_cell BK353.out 2).trans rfl
    have hfz44_0 := blk_frozen BK353.out 0
    have hfz44_1 := blk_frozen BK353.out 1
    have hfz44_2 := blk_frozen BK353.out 2
    go_upto_region 14 with (first | ((with_reducible refine gate_callee (f := 10) rfl ?_); refine goesL_ (some 34) rfl rfl Try.func10 (by kernel_rfl) rfl #[.agg #[.slice Ao30 t344.length co30, .slice Ao33 t347.length co33, .slice Ao34 t350.length co34], .int .i64 1] rfl vL ?_; (with_reducible refine (laws_markHouHouse.calls k (fun k_ => some k_ = (.slice Ao30 t344.length co30 : Value).ownBlock) (.slice Ao30 t344.length co30) t344 _ _ t347 _ _ t350 1 t368 t369 w _ ?side1 ?side2 ?side3 ?side4 ?side5 ?side6 A16.out).mono ?_); (case side1 => repeat (first | (with_reducible first | exact HB.out | apply below_alloc | apply pw_below_drewN | apply below_drew1 | refine below_set ?_ GE330.out | refine below_set ?_ GE353.out) | exact HB.out)); (case side2 => exact Kd.R_tight rfl HO346.out); (case side3 => exact fun W' hk_ => Row.of_A (Kd.R_kept ((Kd.S_R (Kd.S_apart' HO349.out (Kd.R_typed HO346.out) (by decide)))) hk_ (fun k_ hk_ hs_ => (hk_.2) hs_)) _ z64 (fun _ _ _ _ _ h c => E64.of h c)); (case side4 => exact (Kd.S_reads' HO349.out).2.1); (case side5 => exact fun W' hk_ => Row.of_A (Kd.R_kept ((Kd.R_apart' HO352.out (Kd.R_typed HO346.out) (by decide))) hk_ (fun k_ hk_ hs_ => (hk_.2) hs_)) _ z45 (fun _ _ _ _ _ h c => E45.of h c)); (case side6 => exact (Kd.R_reads' HO352.out).2.1); rintro e w45 ⟨rfl, hy0, hb, hkp⟩; refine ⟨_, rfl, ?_⟩; have n0_ := Aside0.mk (blk_kept (vB BK330.out) hkp (fun hs_ => hs_.elim (fun e_ => (Kd.R_ne HO346.out BK330.out (by decide)) e_) (noMk_blk (vB BK330.out) (by unfold mkT; omega)))); have n1_ := Aside0.mk (Kd.R_mono (ok' := fun k_ => some k_ ≠ (.slice Ao37 t341.length co37 : Value).ownBlock ∧ some k_ ≠ (.slice Ao30 t344.length co30 : Value).ownBlock ∧ some k_ ≠ (.slice Ao36 t354.length co36 : Value).ownBlock ∧ some k_ ≠ (.slice Ao40 t358.length co40 : Value).ownBlock) (R_keptM (HO334.out) hkp (fun k_ hk_ hs_ => by grind)) (fun k_ hk_ => by grind)); have n2_ := Aside0.mk trivial; have n3_ := Aside0.mk trivial; have n4_ := Aside0.mk (Kd.R_mono (ok' := fun k_ => some k_ ≠ (.slice Ao23 t332.length co23 : Value).ownBlock ∧ some k_ ≠ (.slice Ao30 t344.length co30 : Value).ownBlock ∧ some k_ ≠ (.slice Ao36 t354.length co36 : Value).ownBlock ∧ some k_ ≠ (.slice Ao40 t358.length co40 : Value).ownBlock) (R_keptM (HO343.out) hkp (fun k_ hk_ hs_ => by grind)) (fun k_ hk_ => by grind)); have n5_ := Aside0.mk (Kd.R_reok rfl hy0 (fun k_ e_ => HO346.out.1 k_ e_)); have n6_ := Aside0.mk trivial; have n7_ := Aside0.mk trivial; have n8_ := Aside0.mk (blk_kept (vB BK353.out) hkp (fun hs_ => hs_.elim (fun e_ => (Kd.R_ne HO346.out BK353.out (by decide)) e_) (noMk_blk (vB BK353.out) (by unfold mkT; omega)))); have n9_ := Aside0.mk (Kd.R_mono (ok' := fun k_ => some k_ ≠ (.slice Ao23 t332.length co23 : Value).ownBlock ∧ some k_ ≠ (.slice Ao37 t341.length co37 : Value).ownBlock ∧ some k_ ≠ (.slice Ao30 t344.length co30 : Value).ownBlock ∧ some k_ ≠ (.slice Ao40 t358.length co40 : Value).ownBlock) (R_keptM (HO356.out) hkp (fun k_ hk_ hs_ => by grind)) (fun k_ hk_ => by grind)); have n10_ := Aside0.mk (Kd.R_mono (ok' := fun k_ => some k_ ≠ (.slice Ao23 t332.length co23 : Value).ownBlock ∧ some k_ ≠ (.slice Ao37 t341.length co37 : Value).ownBlock ∧ some k_ ≠ (.slice Ao30 t344.length co30 : Value).ownBlock ∧ some k_ ≠ (.slice Ao36 t354.length co36 : Value).ownBlock) (R_keptM (HO360.out) hkp (fun k_ hk_ hs_ => by grind)) (fun k_ hk_ => by grind)); have n11_ := Aside0.mk trivial; have n12_ := Aside0.mk trivial; have n13_ := Aside0.mk (hb); clear BK330; clear HO334; clear HO337; clear HO340; clear HO343; clear HO346; clear HO349; clear HO352; clear BK353; clear HO356; clear HO360; clear HO363; clear HO366; clear HB; have BK330 := n0_; have HO334 := n1_; have HO337 := n2_; have HO340 := n3_; have HO343 := n4_; have HO346 := n5_; have HO349 := n6_; have HO352 := n7_; have BK353 := n8_; have HO356 := n9_; have HO360 := n10_; have HO363 := n11_; have HO366 := n12_; have HB := n13_; clear n0_ n1_ n2_ n3_ n4_ n5_ n6_ n7_ n8_ n9_ n10_ n11_ n12_ n13_; (try clear hb); (try clear hkp); (try clear hy0)))
    (try simp only [Act.put, List.setIfInBounds_toArray, List.set_cons_zero, List.set_cons_succ])
    go_cut [42] (fun v42 wc => ∃ (kq : Nat) (x42_16 : Bool), v42 = .bool x42_16 ∧ Aside0 (laws_FnExactHouStates.j0 kq t341 t354 x42_16 l0_0 l0_1 l0_2 = some r) ∧ Aside0 (kq ≤ k) ∧ Aside0 (Kd.R (Kd.int .i64) 3 wc w.heap.size (fun k_ => some k_ ≠ ((.slice Ao36 t354.length co36) : Value).ownBlock ∧ some k_ ≠ ((.slice Ao30 t344.length co30) : Value).ownBlock) (.slice Ao37 t341.length co37) t341) ∧ Aside0 (Kd.R (Kd.int .i64) 3 wc w.heap.size (fun k_ => some k_ ≠ ((.slice Ao37 t341.length co37) : Value).ownBlock ∧ some k_ ≠ ((.slice Ao30 t344.length co30) : Value).ownBlock) (.slice Ao36 t354.length co36) t354) ∧ Aside0 (Kd.R (Kd.int .i64) 3 wc w.heap.size (fun k_ => some k_ ≠ ((.slice Ao37 t341.length co37) : Value).ownBlock ∧ some k_ ≠ ((.slice Ao36 t354.length co36) : Value).ownBlock) (.slice Ao30 t344.length co30) t369) ∧ Aside0 True ∧ Aside0 True ∧ Aside0 (wc.heap[gb330]? = some (.cells #[(.slice A0_0 l0_0.length c0_0), (.slice A0_1 l0_1.length c0_1), (.slice A0_2 l0_2.length c0_2)] 26 (0, 0))) ∧ Aside0 (wc.heap[gb353]? = some (.cells #[(.slice Ao30 t344.length co30), (.slice Ao33 t347.length co33), (.slice Ao34 t350.length co34)] 32 (0, 0))) ∧ Aside0 (Below w.heap.size w wc))
    case first =>
     have H := HC17.out
     clear HC17
     by_cases c46 : t368 < 0
     ·rw [if_pos c46] at H
      have c46b0 : decide (t368 < 0) = true := decide_eq_true c46
      clear c46
      (first | rw [c46b0] | (simp only [i64_w, i32_w]; rw [c46b0]) | skip)
      have H' := Aside0.mk H
      clear H
      go_wp2
      go_meet
      case rel => exact ⟨_, (true), (by first | rfl | (simp; done) | (simp [*]; done)), H', ⟨by first | omega | exact Nat.le_refl _⟩, ⟨by (with_reducible repeat (first | apply Kd.R_alloc | apply Kd.R_drewN | apply Kd.R_drew)); exact Kd.R_mono HO343.out (fun _ hk => by grind)⟩, ⟨by (with_reducible repeat (first | apply Kd.R_alloc | apply Kd.R_drewN | apply Kd.R_drew)); exact Kd.R_mono HO356.out (fun _ hk => by grind)⟩, ⟨by (with_reducible repeat (first | apply Kd.R_alloc | apply Kd.R_drewN | apply Kd.R_drew)); exact Kd.R_mono HO346.out (fun _ hk => by grind)⟩, ⟨trivial⟩, ⟨trivial⟩, ⟨by (with_reducible repeat (first | refine blk_drewN ?_ _ | refine blk_drew ?_ | refine blk_alloc ?_ _)); exact BK330.out⟩, ⟨by (with_reducible repeat (first | refine blk_drewN ?_ _ | refine blk_drew ?_ | refine blk_alloc ?_ _)); exact BK353.out⟩, ⟨by repeat (first | (with_reducible first | exact HB.out | apply below_alloc | apply pw_below_drewN | apply below_drew1 | refine below_set ?_ GE330.out | refine below_set ?_ GE353.out) | exact HB.out)⟩⟩
     ·rw [if_neg c46] at H
      have c46b0 : decide (t368 < 0) = false := decide_eq_false c46
      clear c46
      (first | rw [c46b0] | (simp only [i64_w, i32_w]; rw [c46b0]) | skip)
      replace H := Option.bind_eq_some_iff.mp H
      obtain ⟨t370, A470, H⟩ := H
      replace H : (laws_FnExactHouStates.j0 k t341 t354 (!t370) l0_0 l0_1 l0_2) = some r := H
      have A47 := Aside0.mk A470
      clear A470
      have H' := Aside0.mk H
      clear H
      go_wp2_with (first | (go_at_call 8; (with_reducible refine (laws_eqIntS.calls k _ _ t354 _ _ t341 t370 _ ?side1 ?side2 ?side3 ?side4 A47.out).mono ?_); (case side1 => repeat (first | exact (Kd.R_reads' HO356.out).2.2 | (with_reducible refine Kd.C_alloc ?_ _) | (with_reducible refine Kd.C_drewN ?_ _) | (with_reducible refine Kd.C_drew ?_))); (case side2 => exact (Kd.R_reads' HO356.out).2.1); (case side3 => repeat (first | exact (Kd.R_reads' HO343.out).2.2 | (with_reducible refine Kd.C_alloc ?_ _) | (with_reducible refine Kd.C_drewN ?_ _) | (with_reducible refine Kd.C_drew ?_))); (case side4 => exact (Kd.R_reads' HO343.out).2.1); rintro e w' ⟨rfl, ⟨nd, rfl⟩⟩))
      go_meet
      case rel => exact ⟨_, (!t370), (by first | rfl | (simp; done) | (simp [*]; done)), H', ⟨by first | omega | exact Nat.le_refl _⟩, ⟨by (with_reducible repeat (first | apply Kd.R_alloc | apply Kd.R_drewN | apply Kd.R_drew)); exact Kd.R_mono HO343.out (fun _ hk => by grind)⟩, ⟨by (with_reducible repeat (first | apply Kd.R_alloc | apply Kd.R_drewN | apply Kd.R_drew)); exact Kd.R_mono HO356.out (fun _ hk => by grind)⟩, ⟨by (with_reducible repeat (first | apply Kd.R_alloc | apply Kd.R_drewN | apply Kd.R_drew)); exact Kd.R_mono HO346.out (fun _ hk => by grind)⟩, ⟨trivial⟩, ⟨trivial⟩, ⟨by (with_reducible repeat (first | refine blk_drewN ?_ _ | refine blk_drew ?_ | refine blk_alloc ?_ _)); exact BK330.out⟩, ⟨by (with_reducible repeat (first | refine blk_drewN ?_ _ | refine blk_drew ?_ | refine blk_alloc ?_ _)); exact BK353.out⟩, ⟨by repeat (first | (with_reducible first | exact HB.out | apply below_alloc | apply pw_below_drewN | apply below_drew1 | refine below_set ?_ GE330.out | refine below_set ?_ GE353.out) | exact HB.out)⟩⟩
    case rest =>
     clear HC17
     try clear c1
     try clear p2
     try clear c3
     try clear c3b0
     try clear c4
     try clear c5
     try clear c6
     try clear c7
     try clear c8
     try clear c9
     try clear c10
     try clear c12
     try clear c15
     try clear c31
     try clear c46
     try clear c46b0
     try clear hcz19_0
     try clear hcz19_1
     try clear hcz19_2
     try clear hcz21_0
     try clear hcz21_1
     try clear hcz21_2
     try clear hcz27_0
     try clear hcz27_1
     try clear hcz27_2
     try clear hcz32_0
     try clear hcz32_1
     try clear hcz32_2
     try clear hcz44_0
     try clear hcz44_1
     try clear hcz44_2
     try clear hcz5_0
     try clear hcz5_1
     try clear hcz5_2
     try clear hfz19_0
     try clear hfz19_1
     try clear hfz19_2
     try clear hfz21_0
     try clear hfz21_1
     try clear hfz21_2
     try clear hfz27_0
     try clear hfz27_1
     try clear hfz27_2
     try clear hfz32_0
     try clear hfz32_1
     try clear hfz32_2
     try clear hfz44_0
     try clear hfz44_1
     try clear hfz44_2
     try clear hfz5_0
     try clear hfz5_1
     try clear hfz5_2
     obtain ⟨kq, x42_16, rfl, HA, HJ16, HO_4, HO_6, HO_354000, HO_354001, HO_354002, BK330, BK353, HB⟩ := hcut
     have hl354000_16 := (Kd.R_reads' HO_354000.out).1
     rw [hl354000_16] at HO_354000
     (try simp only [hl354000_16])
     (try simp only [hl354000_16] at BK330)
     (try simp only [hl354000_16] at BK353)
     (try simp only [hl354000_16] at HO_4)
     (try simp only [hl354000_16] at HO_6)
     (try simp only [hl354000_16] at HO_354001)
     (try simp only [hl354000_16] at HO_354002)
     cases kq with
     | zero => exact absurd HA.out (by simp [laws_FnExactHouStates.j0])
     | succ kj16 =>
      have H := HA.out
      clear HA
      simp only [laws_FnExactHouStates.j0] at H
      by_cases c48 : x42_16 = true
      ·subst c48
       have H1 : (some false) = some r := by rw [if_pos rfl] at H; exact H
       clear H
       have H := H1
       clear H1
       exact absurd ((Option.some.inj H).trans HRT.out) (by decide)
      ·replace c48 := Bool.eq_false_iff.mpr c48
       subst c48
       have H1 : ((laws_markIntS.f kj16 t354 1).bind fun bt371 => ((laws_heldIntS.f kj16 bt371.2 1).bind fun t373 => (if t373 < 0 then (some false) else (if t373 = bt371.1 then ((laws_toHouHouse.f kj16 l0_0 l0_1 l0_2).bind fun bt374 => ((impl_HouStates.f kj16 bt374.1 bt374.2.1 bt374.2.2).bind fun t383 => ((laws_eqIntS.f kj16 t383 t341).bind fun t386 => (if t386 = true then ((laws_heldIntS.f kj16 bt371.2 1).bind fun t387 => (if t387 < 0 then (some false) else (if t387 = bt371.1 then (some true) else (some false)))) else (some false))))) else (some false))))) = some r := by rw [if_neg (show ¬ (false = true) by decide)] at H; exact H
       clear H
       have H := H1
       clear H1
       replace H := Option.bind_eq_some_iff.mp H
       obtain ⟨⟨t371, t372⟩, A490, H⟩ := H
       replace H : ((laws_heldIntS.f kj16 t372 1).bind fun t373 => (if t373 < 0 then (some false) else (if t373 = t371 then ((laws_toHouHouse.f kj16 l0_0 l0_1 l0_2).bind fun bt374 => ((impl_HouStates.f kj16 bt374.1 bt374.2.1 bt374.2.2).bind fun t383 => ((laws_eqIntS.f kj16 t383 t341).bind fun t386 => (if t386 = true then ((laws_heldIntS.f kj16 t372 1).bind fun t387 => (if t387 < 0 then (some false) else (if t387 = t371 then (some true) else (some false)))) else (some false))))) else (some false)))) = some r := H
       have A49 := Aside0.mk A490
       clear A490
       replace H := Option.bind_eq_some_iff.mp H
       obtain ⟨t373, A500, H⟩ := H
       replace H : (if t373 < 0 then (some false) else (if t373 = t371 then ((laws_toHouHouse.f kj16 l0_0 l0_1 l0_2).bind fun bt374 => ((impl_HouStates.f kj16 bt374.1 bt374.2.1 bt374.2.2).bind fun t383 => ((laws_eqIntS.f kj16 t383 t341).bind fun t386 => (if t386 = true then ((laws_heldIntS.f kj16 t372 1).bind fun t387 => (if t387 < 0 then (some false) else (if t387 = t371 then (some true) else (some false)))) else (some false))))) else (some false))) = some r := H
       have A50 := Aside0.mk A500
       clear A500
       by_cases c51 : t373 < 0
       ·rw [if_pos c51] at H
        have c51b0 : decide (t373 < 0) = true := decide_eq_true c51
        clear c51
        exact absurd ((Option.some.inj H).trans HRT.out) (by decide)
       ·rw [if_neg c51] at H
        have c51b0 : decide (t373 < 0) = false := decide_eq_false c51
        clear c51
        by_cases c53 : t373 = t371
        ·rw [if_pos c53] at H
         have c53b0 : (t373 == t371) = true := beq_iff_eq.mpr c53
         have c53b1 : (t373 != t371) = false := bne_eq_false_iff_eq.mpr c53
         clear c53
         replace H := Option.bind_eq_some_iff.mp H
         obtain ⟨⟨t374, t377, t380⟩, A540, H⟩ := H
         replace H : ((impl_HouStates.f kj16 t374 t377 t380).bind fun t383 => ((laws_eqIntS.f kj16 t383 t341).bind fun t386 => (if t386 = true then ((laws_heldIntS.f kj16 t372 1).bind fun t387 => (if t387 < 0 then (some false) else (if t387 = t371 then (some true) else (some false)))) else (some false)))) = some r := H
         have A54 := Aside0.mk A540
         clear A540
         replace H := Option.bind_eq_some_iff.mp H
         obtain ⟨t383, A550, H⟩ := H
         replace H : ((laws_eqIntS.f kj16 t383 t341).bind fun t386 => (if t386 = true then ((laws_heldIntS.f kj16 t372 1).bind fun t387 => (if t387 < 0 then (some false) else (if t387 = t371 then (some true) else (some false)))) else (some false))) = some r := H
         have A55 := Aside0.mk A550
         clear A550
         replace H := Option.bind_eq_some_iff.mp H
         obtain ⟨t386, A560, H⟩ := H
         replace H : (if t386 = true then ((laws_heldIntS.f kj16 t372 1).bind fun t387 => (if t387 < 0 then (some false) else (if t387 = t371 then (some true) else (some false)))) else (some false)) = some r := H
         have A56 := Aside0.mk A560
         clear A560
         by_cases c57 : t386 = true
         ·subst c57
          have H1 : ((laws_heldIntS.f kj16 t372 1).bind fun t387 => (if t387 < 0 then (some false) else (if t387 = t371 then (some true) else (some false)))) = some r := by rw [if_pos rfl] at H; exact H
          clear H
          have H := H1
          clear H1
          replace H := Option.bind_eq_some_iff.mp H
          obtain ⟨t387, A580, H⟩ := H
          replace H : (if t387 < 0 then (some false) else (if t387 = t371 then (some true) else (some false))) = some r := H
          have A58 := Aside0.mk A580
          clear A580
          by_cases c59 : t387 < 0
          ·rw [if_pos c59] at H
           have c59b0 : decide (t387 < 0) = true := decide_eq_true c59
           clear c59
           exact absurd ((Option.some.inj H).trans HRT.out) (by decide)
          ·rw [if_neg c59] at H
           have c59b0 : decide (t387 < 0) = false := decide_eq_false c59
           clear c59
           by_cases c69 : t387 = t371
           ·rw [if_pos c69] at H
            have c69b0 : (t387 == t371) = true := beq_iff_eq.mpr c69
            have c69b1 : (t387 != t371) = false := bne_eq_false_iff_eq.mpr c69
            clear c69
            obtain rfl := Option.some.inj H
            go_wp2_with (first | ((with_reducible refine gate_callee (f := 11) rfl ?_); refine goesL_ (some 45) rfl rfl Try.func11 (by kernel_rfl) rfl #[.slice Ao36 t354.length co36, .int .i64 1] rfl vL ?_; (with_reducible refine (laws_markIntS.calls kj16 (fun k_ => some k_ = (.slice Ao36 t354.length co36 : Value).ownBlock) (.slice Ao36 t354.length co36) t354 1 t371 t372 w _ ?side1 ?side2 A49.out).mono ?_); (case side1 => repeat (first | (with_reducible first | exact HB.out | apply below_alloc | apply pw_below_drewN | apply below_drew1 | refine below_set ?_ GE330.out | refine below_set ?_ GE353.out) | exact HB.out)); (case side2 => exact Kd.R_tight rfl HO_6.out); rintro e w70 ⟨rfl, hy0, hb, hkp⟩; refine ⟨_, rfl, ?_⟩; have n0_ := Aside0.mk (Kd.R_mono (ok' := fun k_ => some k_ ≠ (.slice Ao36 t354.length co36 : Value).ownBlock ∧ some k_ ≠ (.slice Ao30 t369.length co30 : Value).ownBlock) (Kd.R_keptB (HO_4.out) hkp (fun k_ hk_ hs_ => (hk_.1) hs_)) (fun k_ hk_ => ⟨hk_.1.1, hk_.1.2⟩)); have n1_ := Aside0.mk (Kd.R_reok rfl hy0 (fun k_ e_ => HO_6.out.1 k_ e_)); have n2_ := Aside0.mk (Kd.R_mono (ok' := fun k_ => some k_ ≠ (.slice Ao37 t341.length co37 : Value).ownBlock ∧ some k_ ≠ (.slice Ao36 t354.length co36 : Value).ownBlock) (Kd.R_keptB (HO_354000.out) hkp (fun k_ hk_ hs_ => (hk_.2) hs_)) (fun k_ hk_ => ⟨hk_.1.1, hk_.1.2⟩)); have n3_ := Aside0.mk trivial; have n4_ := Aside0.mk trivial; have n5_ := Aside0.mk (blk_kept (vB BK330.out) hkp (fun hs_ => (fun e_ => (Kd.R_ne HO_6.out BK330.out (by decide)) e_) hs_)); have n6_ := Aside0.mk (blk_kept (vB BK353.out) hkp (fun hs_ => (fun e_ => (Kd.R_ne HO_6.out BK353.out (by decide)) e_) hs_)); have n7_ := Aside0.mk (hb); clear HO_4; clear HO_6; clear HO_354000; clear HO_354001; clear HO_354002; clear BK330; clear BK353; clear HB; have HO_4 := n0_; have HO_6 := n1_; have HO_354000 := n2_; have HO_354001 := n3_; have HO_354002 := n4_; have BK330 := n5_; have BK353 := n6_; have HB := n7_; clear n0_ n1_ n2_ n3_ n4_ n5_ n6_ n7_; (try clear hb); (try clear hkp); (try clear hy0)) | ((with_reducible refine gate_callee (f := 12) rfl ?_); refine goesL_ (some 48) rfl rfl Try.func12 (by kernel_rfl) rfl #[.slice Ao36 t372.length co36, .int .i64 1] rfl (by (try simp only [List.map_toArray, List.map_cons, List.map_nil]); first | done | (rw [show t372.length = t354.length from (Kd.R_reads' HO_6.out).1.symm] <;> rfl) | rfl | (simp only [List.length_drop, List.length_take]; rfl)) ?_; (with_reducible refine (laws_heldIntS.calls kj16 _ _ t372 1 t373 _ ?side1 ?side2 A50.out).mono ?_); (case side1 => repeat (first | exact (Kd.R_reads' HO_6.out).2.2 | (with_reducible refine Kd.C_alloc ?_ _) | (with_reducible refine Kd.C_drewN ?_ _) | (with_reducible refine Kd.C_drew ?_))); (case side2 => rw [show t372.length = t354.length from (Kd.R_reads' HO_6.out).1.symm]; exact (Kd.R_reads' HO_6.out).2.1); rintro e w' ⟨rfl, ⟨nd, rfl⟩⟩; refine ⟨_, rfl, ?_⟩; have hnb71 := NB330_353.out; have hnc71 := NB353_330.out; have hcz72_0 : w70.cell? ⟨gb330, 0, none⟩ = some (.slice A0_0 l0_0.length c0_0) := (blk_cell BK330.out 0).trans rfl; have hcz72_1 : w70.cell? ⟨gb330, 1, none⟩ = some (.slice A0_1 l0_1.length c0_1) := (blk_cell BK330.out 1).trans rfl; have hcz72_2 : w70.cell? ⟨gb330, 2, none⟩ = some (.slice A0_2 l0_2.length c0_2) := (blk_cell BK330.out 2).trans rfl; have hfz72_0 := blk_frozen BK330.out 0; have hfz72_1 := blk_frozen BK330.out 1; have hfz72_2 := blk_frozen BK330.out 2) | ((with_reducible refine gate_callee (f := 6) rfl ?_); refine goesL_ (some 55) rfl rfl Try.func6 (by kernel_rfl) rfl #[.agg #[.slice A0_0 l0_0.length c0_0, .slice A0_1 l0_1.length c0_1, .slice A0_2 l0_2.length c0_2]] rfl vL ?_; (with_reducible refine (laws_toHouHouse.calls kj16 _ _ l0_0 _ _ l0_1 _ _ l0_2 t374 t377 t380 _ ?side1 ?side2 ?side3 ?side4 ?side5 ?side6 A54.out).mono ?_); (case side1 => repeat (first | exact (Kd.C_below HR0_0.out (vW2 HB.out GE330.out GE353.out)) | (with_reducible refine Kd.C_alloc ?_ _) | (with_reducible refine Kd.C_drewN ?_ _) | (with_reducible refine Kd.C_drew ?_))); (case side2 => exact HC0_0.out); (case side3 => repeat (first | exact (Kd.C_below HR0_1.out (vW2 HB.out GE330.out GE353.out)) | (with_reducible refine Kd.C_alloc ?_ _) | (with_reducible refine Kd.C_drewN ?_ _) | (with_reducible refine Kd.C_drew ?_))); (case side4 => exact HC0_1.out); (case side5 => repeat (first | exact (Kd.C_below HR0_2.out (vW2 HB.out GE330.out GE353.out)) | (with_reducible refine Kd.C_alloc ?_ _) | (with_reducible refine Kd.C_drewN ?_ _) | (with_reducible refine Kd.C_drew ?_))); (case side6 => exact HC0_2.out); rintro e w73 ⟨v375, v378, v381, rfl, ho0, ho1, ho2, hb⟩; refine ⟨_, rfl, ?_⟩; have n0_ := Aside0.mk (Kd.R_elder' (vR HO_4.out) (Kd.R_base ho0) hb); have n1_ := Aside0.mk (Kd.R_elder' (vR HO_6.out) (Kd.R_base ho0) hb); have n2_ := Aside0.mk (Kd.R_elder' (vR HO_354000.out) (Kd.R_base ho0) hb); have n3_ := Aside0.mk trivial; have n4_ := Aside0.mk trivial; have n5_ := Aside0.mk (Kd.R_lower (Kd.R_new' (Kd.R_new' (Kd.R_new' ho0 (Kd.R_lt (vR HO_4.out))) (Kd.R_lt (vR HO_6.out))) (Kd.R_lt (vR HO_354000.out))) (below_size (vW2 HB.out GE330.out GE353.out))); have n6_ := Aside0.mk (Kd.S_lower (ho1) (below_size (vW2 HB.out GE330.out GE353.out))); have n7_ := Aside0.mk (Kd.R_lower (ho2) (below_size (vW2 HB.out GE330.out GE353.out))); have n8_ := Aside0.mk (blk_below (g := gb330) (o := .cells #[.slice A0_0 l0_0.length c0_0, .slice A0_1 l0_1.length c0_1, .slice A0_2 l0_2.length c0_2] 26 (0, 0)) (vB BK330.out) hb); have n9_ := Aside0.mk (blk_below (g := gb353) (o := .cells #[.slice Ao30 t369.length co30, .slice Ao33 t347.length co33, .slice Ao34 t350.length co34] 32 (0, 0)) (vB BK353.out) hb); have n10_ := Aside0.mk (below_step (vW2 HB.out GE330.out GE353.out) hb); clear HO_4; clear HO_6; clear HO_354000; clear HO_354001; clear HO_354002; clear BK330; clear BK353; clear HB; have HO_4 := n0_; have HO_6 := n1_; have HO_354000 := n2_; have HO_354001 := n3_; have HO_354002 := n4_; have HO376 := n5_; have HO379 := n6_; have HO382 := n7_; have BK330 := n8_; have BK353 := n9_; have HB := n10_; clear n0_ n1_ n2_ n3_ n4_ n5_ n6_ n7_ n8_ n9_ n10_; (try clear hb); (try clear hb2); (try clear hk); (try clear hi); (try clear ho0); (try clear ho1); (try clear ho2); obtain ⟨Ao74, co74, eo74⟩ := Kd.R_slice HO376.out; subst eo74; obtain ⟨Ao75, co75, eo75⟩ := Kd.S_slice HO379.out; subst eo75; obtain ⟨Ao76, co76, eo76⟩ := Kd.R_slice HO382.out; subst eo76) | ((with_reducible refine gate_callee (f := 7) rfl ?_); refine goesL_ (some 56) rfl rfl Try.func7 (by kernel_rfl) rfl #[.agg #[.slice Ao74 t374.length co74, .slice Ao75 t377.length co75, .slice Ao76 t380.length co76]] rfl vL ?_; (with_reducible refine (impl_HouStates.calls kj16 _ _ t374 _ _ t377 _ _ t380 t383 _ ?side1 ?side2 ?side3 ?side4 ?side5 ?side6 A55.out).mono ?_); (case side1 => repeat (first | exact (Kd.R_reads' HO376.out).2.2 | (with_reducible refine Kd.C_alloc ?_ _) | (with_reducible refine Kd.C_drewN ?_ _) | (with_reducible refine Kd.C_drew ?_))); (case side2 => exact (Kd.R_reads' HO376.out).2.1); (case side3 => repeat (first | exact (Kd.S_reads' HO379.out).2.2 | (with_reducible refine Kd.C_alloc ?_ _) | (with_reducible refine Kd.C_drewN ?_ _) | (with_reducible refine Kd.C_drew ?_))); (case side4 => exact (Kd.S_reads' HO379.out).2.1); (case side5 => repeat (first | exact (Kd.R_reads' HO382.out).2.2 | (with_reducible refine Kd.C_alloc ?_ _) | (with_reducible refine Kd.C_drewN ?_ _) | (with_reducible refine Kd.C_drew ?_))); (case side6 => exact (Kd.R_reads' HO382.out).2.1); rintro e w77 ⟨v384, rfl, ho0, hb⟩; refine ⟨_, rfl, ?_⟩; have n0_ := Aside0.mk (Kd.R_elder' (vR HO_4.out) (Kd.R_base ho0) hb); have n1_ := Aside0.mk (Kd.R_elder' (vR HO_6.out) (Kd.R_base ho0) hb); have n2_ := Aside0.mk (Kd.R_elder' (vR HO_354000.out) (Kd.R_base ho0) hb); have n3_ := Aside0.mk trivial; have n4_ := Aside0.mk trivial; have n5_ := Aside0.mk (Kd.R_elder' (vR HO376.out) (Kd.R_base ho0) hb); have n6_ := Aside0.mk (Kd.S_below (vS HO379.out) hb); have n7_ := Aside0.mk (Kd.R_below (vR HO382.out) hb); have n8_ := Aside0.mk (Kd.R_lower (Kd.R_new' (Kd.R_new' (Kd.R_new' (Kd.R_new' ho0 (Kd.R_lt (vR HO_4.out))) (Kd.R_lt (vR HO_6.out))) (Kd.R_lt (vR HO_354000.out))) (Kd.R_lt (vR HO376.out))) (below_size (vW2 HB.out GE330.out GE353.out))); have n9_ := Aside0.mk (blk_below (g := gb330) (o := .cells #[.slice A0_0 l0_0.length c0_0, .slice A0_1 l0_1.length c0_1, .slice A0_2 l0_2.length c0_2] 26 (0, 0)) (vB BK330.out) hb); have n10_ := Aside0.mk (blk_below (g := gb353) (o := .cells #[.slice Ao30 t369.length co30, .slice Ao33 t347.length co33, .slice Ao34 t350.length co34] 32 (0, 0)) (vB BK353.out) hb); have n11_ := Aside0.mk (below_step (vW2 HB.out GE330.out GE353.out) hb); clear HO_4; clear HO_6; clear HO_354000; clear HO_354001; clear HO_354002; clear HO376; clear HO379; clear HO382; clear BK330; clear BK353; clear HB; have HO_4 := n0_; have HO_6 := n1_; have HO_354000 := n2_; have HO_354001 := n3_; have HO_354002 := n4_; have HO376 := n5_; have HO379 := n6_; have HO382 := n7_; have HO385 := n8_; have BK330 := n9_; have BK353 := n10_; have HB := n11_; clear n0_ n1_ n2_ n3_ n4_ n5_ n6_ n7_ n8_ n9_ n10_ n11_; (try clear hb); (try clear hb2); (try clear hk); (try clear hi); (try clear ho0); obtain ⟨Ao78, co78, eo78⟩ := Kd.R_slice HO385.out; subst eo78) | ((with_reducible refine gate_callee (f := 8) rfl ?_); refine goesL_ (some 59) rfl rfl Try.func8 (by kernel_rfl) rfl #[.slice Ao78 t383.length co78, .slice Ao37 t341.length co37] rfl vL ?_; (with_reducible refine (laws_eqIntS.calls kj16 _ _ t383 _ _ t341 true _ ?side1 ?side2 ?side3 ?side4 A56.out).mono ?_); (case side1 => repeat (first | exact (Kd.R_reads' HO385.out).2.2 | (with_reducible refine Kd.C_alloc ?_ _) | (with_reducible refine Kd.C_drewN ?_ _) | (with_reducible refine Kd.C_drew ?_))); (case side2 => exact (Kd.R_reads' HO385.out).2.1); (case side3 => repeat (first | exact (Kd.R_reads' HO_4.out).2.2 | (with_reducible refine Kd.C_alloc ?_ _) | (with_reducible refine Kd.C_drewN ?_ _) | (with_reducible refine Kd.C_drew ?_))); (case side4 => exact (Kd.R_reads' HO_4.out).2.1); rintro e w' ⟨rfl, ⟨nd, rfl⟩⟩; refine ⟨_, rfl, ?_⟩) | ((with_reducible refine gate_callee (f := 12) rfl ?_); refine goesL_ (some 63) rfl rfl Try.func12 (by kernel_rfl) rfl #[.slice Ao36 t372.length co36, .int .i64 1] rfl (by (try simp only [List.map_toArray, List.map_cons, List.map_nil]); first | done | (rw [show t372.length = t354.length from (Kd.R_reads' HO_6.out).1.symm] <;> rfl) | rfl | (simp only [List.length_drop, List.length_take]; rfl)) ?_; (with_reducible refine (laws_heldIntS.calls kj16 _ _ t372 1 t387 _ ?side1 ?side2 A58.out).mono ?_); (case side1 => repeat (first | exact (Kd.R_reads' HO_6.out).2.2 | (with_reducible refine Kd.C_alloc ?_ _) | (with_reducible refine Kd.C_drewN ?_ _) | (with_reducible refine Kd.C_drew ?_))); (case side2 => rw [show t372.length = t354.length from (Kd.R_reads' HO_6.out).1.symm]; exact (Kd.R_reads' HO_6.out).2.1); rintro e w' ⟨rfl, ⟨nd, rfl⟩⟩; refine ⟨_, rfl, ?_⟩))
            go_ret
            exact ⟨by first | rfl | (simp [errW_none, errW_some] <;> rfl) | (simp [*, errW_none, errW_some] <;> rfl), by repeat (first | (with_reducible first | exact HB.out | apply below_alloc | apply pw_below_drewN | apply below_drew1 | refine below_set ?_ GE330.out | refine below_set ?_ GE353.out) | exact HB.out)⟩
           ·rw [if_neg c69] at H
            have c69b0 : (t387 == t371) = false := beq_eq_false_iff_ne.mpr c69
            have c69b1 : (t387 != t371) = true := bne_iff_ne.mpr c69
            obtain rfl := Option.some.inj H
            go_wp2_with (first | ((with_reducible refine gate_callee (f := 11) rfl ?_); refine goesL_ (some 45) rfl rfl Try.func11 (by kernel_rfl) rfl #[.slice Ao36 t354.length co36, .int .i64 1] rfl vL ?_; (with_reducible refine (laws_markIntS.calls kj16 (fun k_ => some k_ = (.slice Ao36 t354.length co36 : Value).ownBlock) (.slice Ao36 t354.length co36) t354 1 t371 t372 w _ ?side1 ?side2 A49.out).mono ?_); (case side1 => repeat (first | (with_reducible first | exact HB.out | apply below_alloc | apply pw_below_drewN | apply below_drew1 | refine below_set ?_ GE330.out | refine below_set ?_ GE353.out) | exact HB.out)); (case side2 => exact Kd.R_tight rfl HO_6.out); rintro e w79 ⟨rfl, hy0, hb, hkp⟩; refine ⟨_, rfl, ?_⟩; have n0_ := Aside0.mk (Kd.R_mono (ok' := fun k_ => some k_ ≠ (.slice Ao36 t354.length co36 : Value).ownBlock ∧ some k_ ≠ (.slice Ao30 t369.length co30 : Value).ownBlock) (Kd.R_keptB (HO_4.out) hkp (fun k_ hk_ hs_ => (hk_.1) hs_)) (fun k_ hk_ => ⟨hk_.1.1, hk_.1.2⟩)); have n1_ := Aside0.mk (Kd.R_reok rfl hy0 (fun k_ e_ => HO_6.out.1 k_ e_)); have n2_ := Aside0.mk (Kd.R_mono (ok' := fun k_ => some k_ ≠ (.slice Ao37 t341.length co37 : Value).ownBlock ∧ some k_ ≠ (.slice Ao36 t354.length co36 : Value).ownBlock) (Kd.R_keptB (HO_354000.out) hkp (fun k_ hk_ hs_ => (hk_.2) hs_)) (fun k_ hk_ => ⟨hk_.1.1, hk_.1.2⟩)); have n3_ := Aside0.mk trivial; have n4_ := Aside0.mk trivial; have n5_ := Aside0.mk (blk_kept (vB BK330.out) hkp (fun hs_ => (fun e_ => (Kd.R_ne HO_6.out BK330.out (by decide)) e_) hs_)); have n6_ := Aside0.mk (blk_kept (vB BK353.out) hkp (fun hs_ => (fun e_ => (Kd.R_ne HO_6.out BK353.out (by decide)) e_) hs_)); have n7_ := Aside0.mk (hb); clear HO_4; clear HO_6; clear HO_354000; clear HO_354001; clear HO_354002; clear BK330; clear BK353; clear HB; have HO_4 := n0_; have HO_6 := n1_; have HO_354000 := n2_; have HO_354001 := n3_; have HO_354002 := n4_; have BK330 := n5_; have BK353 := n6_; have HB := n7_; clear n0_ n1_ n2_ n3_ n4_ n5_ n6_ n7_; (try clear hb); (try clear hkp); (try clear hy0)) | ((with_reducible refine gate_callee (f := 12) rfl ?_); refine goesL_ (some 48) rfl rfl Try.func12 (by kernel_rfl) rfl #[.slice Ao36 t372.length co36, .int .i64 1] rfl (by (try simp only [List.map_toArray, List.map_cons, List.map_nil]); first | done | (rw [show t372.length = t354.length from (Kd.R_reads' HO_6.out).1.symm] <;> rfl) | rfl | (simp only [List.length_drop, List.length_take]; rfl)) ?_; (with_reducible refine (laws_heldIntS.calls kj16 _ _ t372 1 t373 _ ?side1 ?side2 A50.out).mono ?_); (case side1 => repeat (first | exact (Kd.R_reads' HO_6.out).2.2 | (with_reducible refine Kd.C_alloc ?_ _) | (with_reducible refine Kd.C_drewN ?_ _) | (with_reducible refine Kd.C_drew ?_))); (case side2 => rw [show t372.length = t354.length from (Kd.R_reads' HO_6.out).1.symm]; exact (Kd.R_reads' HO_6.out).2.1); rintro e w' ⟨rfl, ⟨nd, rfl⟩⟩; refine ⟨_, rfl, ?_⟩; have hnb80 := NB330_353.out; have hnc80 := NB353_330.out; have hcz81_0 : w79.cell? ⟨gb330, 0, none⟩ = some (.slice A0_0 l0_0.length c0_0) := (blk_cell BK330.out 0).trans rfl; have hcz81_1 : w79.cell? ⟨gb330, 1, none⟩ = some (.slice A0_1 l0_1.length c0_1) := (blk_cell BK330.out 1).trans rfl; have hcz81_2 : w79.cell? ⟨gb330, 2, none⟩ = some (.slice A0_2 l0_2.length c0_2) := (blk_cell BK330.out 2).trans rfl; have hfz81_0 := blk_frozen BK330.out 0; have hfz81_1 := blk_frozen BK330.out 1; have hfz81_2 := blk_frozen BK330.out 2) | ((with_reducible refine gate_callee (f := 6) rfl ?_); refine goesL_ (some 55) rfl rfl Try.func6 (by kernel_rfl) rfl #[.agg #[.slice A0_0 l0_0.length c0_0, .slice A0_1 l0_1.length c0_1, .slice A0_2 l0_2.length c0_2]] rfl vL ?_; (with_reducible refine (laws_toHouHouse.calls kj16 _ _ l0_0 _ _ l0_1 _ _ l0_2 t374 t377 t380 _ ?side1 ?side2 ?side3 ?side4 ?side5 ?side6 A54.out).mono ?_); (case side1 => repeat (first | exact (Kd.C_below HR0_0.out (vW2 HB.out GE330.out GE353.out)) | (with_reducible refine Kd.C_alloc ?_ _) | (with_reducible refine Kd.C_drewN ?_ _) | (with_reducible refine Kd.C_drew ?_))); (case side2 => exact HC0_0.out); (case side3 => repeat (first | exact (Kd.C_below HR0_1.out (vW2 HB.out GE330.out GE353.out)) | (with_reducible refine Kd.C_alloc ?_ _) | (with_reducible refine Kd.C_drewN ?_ _) | (with_reducible refine Kd.C_drew ?_))); (case side4 => exact HC0_1.out); (case side5 => repeat (first | exact (Kd.C_below HR0_2.out (vW2 HB.out GE330.out GE353.out)) | (with_reducible refine Kd.C_alloc ?_ _) | (with_reducible refine Kd.C_drewN ?_ _) | (with_reducible refine Kd.C_drew ?_))); (case side6 => exact HC0_2.out); rintro e w82 ⟨v375, v378, v381, rfl, ho0, ho1, ho2, hb⟩; refine ⟨_, rfl, ?_⟩; have n0_ := Aside0.mk (Kd.R_elder' (vR HO_4.out) (Kd.R_base ho0) hb); have n1_ := Aside0.mk (Kd.R_elder' (vR HO_6.out) (Kd.R_base ho0) hb); have n2_ := Aside0.mk (Kd.R_elder' (vR HO_354000.out) (Kd.R_base ho0) hb); have n3_ := Aside0.mk trivial; have n4_ := Aside0.mk trivial; have n5_ := Aside0.mk (Kd.R_lower (Kd.R_new' (Kd.R_new' (Kd.R_new' ho0 (Kd.R_lt (vR HO_4.out))) (Kd.R_lt (vR HO_6.out))) (Kd.R_lt (vR HO_354000.out))) (below_size (vW2 HB.out GE330.out GE353.out))); have n6_ := Aside0.mk (Kd.S_lower (ho1) (below_size (vW2 HB.out GE330.out GE353.out))); have n7_ := Aside0.mk (Kd.R_lower (ho2) (below_size (vW2 HB.out GE330.out GE353.out))); have n8_ := Aside0.mk (blk_below (g := gb330) (o := .cells #[.slice A0_0 l0_0.length c0_0, .slice A0_1 l0_1.length c0_1, .slice A0_2 l0_2.length c0_2] 26 (0, 0)) (vB BK330.out) hb); have n9_ := Aside0.mk (blk_below (g := gb353) (o := .cells #[.slice Ao30 t369.length co30, .slice Ao33 t347.length co33, .slice Ao34 t350.length co34] 32 (0, 0)) (vB BK353.out) hb); have n10_ := Aside0.mk (below_step (vW2 HB.out GE330.out GE353.out) hb); clear HO_4; clear HO_6; clear HO_354000; clear HO_354001; clear HO_354002; clear BK330; clear BK353; clear HB; have HO_4 := n0_; have HO_6 := n1_; have HO_354000 := n2_; have HO_354001 := n3_; have HO_354002 := n4_; have HO376 := n5_; have HO379 := n6_; have HO382 := n7_; have BK330 := n8_; have BK353 := n9_; have HB := n10_; clear n0_ n1_ n2_ n3_ n4_ n5_ n6_ n7_ n8_ n9_ n10_; (try clear hb); (try clear hb2); (try clear hk); (try clear hi); (try clear ho0); (try clear ho1); (try clear ho2); obtain ⟨Ao83, co83, eo83⟩ := Kd.R_slice HO376.out; subst eo83; obtain ⟨Ao84, co84, eo84⟩ := Kd.S_slice HO379.out; subst eo84; obtain ⟨Ao85, co85, eo85⟩ := Kd.R_slice HO382.out; subst eo85) | ((with_reducible refine gate_callee (f := 7) rfl ?_); refine goesL_ (some 56) rfl rfl Try.func7 (by kernel_rfl) rfl #[.agg #[.slice Ao83 t374.length co83, .slice Ao84 t377.length co84, .slice Ao85 t380.length co85]] rfl vL ?_; (with_reducible refine (impl_HouStates.calls kj16 _ _ t374 _ _ t377 _ _ t380 t383 _ ?side1 ?side2 ?side3 ?side4 ?side5 ?side6 A55.out).mono ?_); (case side1 => repeat (first | exact (Kd.R_reads' HO376.out).2.2 | (with_reducible refine Kd.C_alloc ?_ _) | (with_reducible refine Kd.C_drewN ?_ _) | (with_reducible refine Kd.C_drew ?_))); (case side2 => exact (Kd.R_reads' HO376.out).2.1); (case side3 => repeat (first | exact (Kd.S_reads' HO379.out).2.2 | (with_reducible refine Kd.C_alloc ?_ _) | (with_reducible refine Kd.C_drewN ?_ _) | (with_reducible refine Kd.C_drew ?_))); (case side4 => exact (Kd.S_reads' HO379.out).2.1); (case side5 => repeat (first | exact (Kd.R_reads' HO382.out).2.2 | (with_reducible refine Kd.C_alloc ?_ _) | (with_reducible refine Kd.C_drewN ?_ _) | (with_reducible refine Kd.C_drew ?_))); (case side6 => exact (Kd.R_reads' HO382.out).2.1); rintro e w86 ⟨v384, rfl, ho0, hb⟩; refine ⟨_, rfl, ?_⟩; have n0_ := Aside0.mk (Kd.R_elder' (vR HO_4.out) (Kd.R_base ho0) hb); have n1_ := Aside0.mk (Kd.R_elder' (vR HO_6.out) (Kd.R_base ho0) hb); have n2_ := Aside0.mk (Kd.R_elder' (vR HO_354000.out) (Kd.R_base ho0) hb); have n3_ := Aside0.mk trivial; have n4_ := Aside0.mk trivial; have n5_ := Aside0.mk (Kd.R_elder' (vR HO376.out) (Kd.R_base ho0) hb); have n6_ := Aside0.mk (Kd.S_below (vS HO379.out) hb); have n7_ := Aside0.mk (Kd.R_below (vR HO382.out) hb); have n8_ := Aside0.mk (Kd.R_lower (Kd.R_new' (Kd.R_new' (Kd.R_new' (Kd.R_new' ho0 (Kd.R_lt (vR HO_4.out))) (Kd.R_lt (vR HO_6.out))) (Kd.R_lt (vR HO_354000.out))) (Kd.R_lt (vR HO376.out))) (below_size (vW2 HB.out GE330.out GE353.out))); have n9_ := Aside0.mk (blk_below (g := gb330) (o := .cells #[.slice A0_0 l0_0.length c0_0, .slice A0_1 l0_1.length c0_1, .slice A0_2 l0_2.length c0_2] 26 (0, 0)) (vB BK330.out) hb); have n10_ := Aside0.mk (blk_below (g := gb353) (o := .cells #[.slice Ao30 t369.length co30, .slice Ao33 t347.length co33, .slice Ao34 t350.length co34] 32 (0, 0)) (vB BK353.out) hb); have n11_ := Aside0.mk (below_step (vW2 HB.out GE330.out GE353.out) hb); clear HO_4; clear HO_6; clear HO_354000; clear HO_354001; clear HO_354002; clear HO376; clear HO379; clear HO382; clear BK330; clear BK353; clear HB; have HO_4 := n0_; have HO_6 := n1_; have HO_354000 := n2_; have HO_354001 := n3_; have HO_354002 := n4_; have HO376 := n5_; have HO379 := n6_; have HO382 := n7_; have HO385 := n8_; have BK330 := n9_; have BK353 := n10_; have HB := n11_; clear n0_ n1_ n2_ n3_ n4_ n5_ n6_ n7_ n8_ n9_ n10_ n11_; (try clear hb); (try clear hb2); (try clear hk); (try clear hi); (try clear ho0); obtain ⟨Ao87, co87, eo87⟩ := Kd.R_slice HO385.out; subst eo87) | ((with_reducible refine gate_callee (f := 8) rfl ?_); refine goesL_ (some 59) rfl rfl Try.func8 (by kernel_rfl) rfl #[.slice Ao87 t383.length co87, .slice Ao37 t341.length co37] rfl vL ?_; (with_reducible refine (laws_eqIntS.calls kj16 _ _ t383 _ _ t341 true _ ?side1 ?side2 ?side3 ?side4 A56.out).mono ?_); (case side1 => repeat (first | exact (Kd.R_reads' HO385.out).2.2 | (with_reducible refine Kd.C_alloc ?_ _) | (with_reducible refine Kd.C_drewN ?_ _) | (with_reducible refine Kd.C_drew ?_))); (case side2 => exact (Kd.R_reads' HO385.out).2.1); (case side3 => repeat (first | exact (Kd.R_reads' HO_4.out).2.2 | (with_reducible refine Kd.C_alloc ?_ _) | (with_reducible refine Kd.C_drewN ?_ _) | (with_reducible refine Kd.C_drew ?_))); (case side4 => exact (Kd.R_reads' HO_4.out).2.1); rintro e w' ⟨rfl, ⟨nd, rfl⟩⟩; refine ⟨_, rfl, ?_⟩) | ((with_reducible refine gate_callee (f := 12) rfl ?_); refine goesL_ (some 63) rfl rfl Try.func12 (by kernel_rfl) rfl #[.slice Ao36 t372.length co36, .int .i64 1] rfl (by (try simp only [List.map_toArray, List.map_cons, List.map_nil]); first | done | (rw [show t372.length = t354.length from (Kd.R_reads' HO_6.out).1.symm] <;> rfl) | rfl | (simp only [List.length_drop, List.length_take]; rfl)) ?_; (with_reducible refine (laws_heldIntS.calls kj16 _ _ t372 1 t387 _ ?side1 ?side2 A58.out).mono ?_); (case side1 => repeat (first | exact (Kd.R_reads' HO_6.out).2.2 | (with_reducible refine Kd.C_alloc ?_ _) | (with_reducible refine Kd.C_drewN ?_ _) | (with_reducible refine Kd.C_drew ?_))); (case side2 => rw [show t372.length = t354.length from (Kd.R_reads' HO_6.out).1.symm]; exact (Kd.R_reads' HO_6.out).2.1); rintro e w' ⟨rfl, ⟨nd, rfl⟩⟩; refine ⟨_, rfl, ?_⟩))
            go_ret
            exact ⟨by first | rfl | (simp [errW_none, errW_some] <;> rfl) | (simp [*, errW_none, errW_some] <;> rfl), by repeat (first | (with_reducible first | exact HB.out | apply below_alloc | apply pw_below_drewN | apply below_drew1 | refine below_set ?_ GE330.out | refine below_set ?_ GE353.out) | exact HB.out)⟩
         ·replace c57 := Bool.eq_false_iff.mpr c57
          subst c57
          have H1 : (some false) = some r := by rw [if_neg (show ¬ (false = true) by decide)] at H; exact H
          clear H
          have H := H1
          clear H1
          exact absurd ((Option.some.inj H).trans HRT.out) (by decide)
        ·rw [if_neg c53] at H
         have c53b0 : (t373 == t371) = false := beq_eq_false_iff_ne.mpr c53
         have c53b1 : (t373 != t371) = true := bne_iff_ne.mpr c53
         exact absurd ((Option.some.inj H).trans HRT.out) (by decide)
   ·replace c15 := Bool.eq_false_iff.mpr c15
    subst c15
    have H1 : (some false) = some r := by rw [if_neg (show ¬ (false = true) by decide)] at H; exact H
    clear H
    have H := H1
    clear H1
    exact absurd ((Option.some.inj H).trans HRT.out) (by decide)
  ·replace c12 := Bool.eq_false_iff.mpr c12
   subst c12
   have H1 : (some false) = some r := by rw [if_neg (show ¬ (false = true) by decide)] at H; exact H
   clear H
   have H := H1
   clear H1
   exact absurd ((Option.some.inj H).trans HRT.out) (by decide)

end Go.Proofs.Ytcifhhgoippmbaa.All
