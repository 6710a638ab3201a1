-- Written by the session's own program wip/allprint.py, which drives the kit's print; Lean checks it.
import Derived.Test.YthebfdgnahfhgaaAllx0
import Derived.Test.YthebfdgnahfhgaaAllx6
namespace Go.Proofs.Ythebfdgnahfhgaa.All
open Go.RowKit Go.Proofs.YthebfdgnahfhgaaW.PrintWords Go.Proofs.YthebfdgnahfhgaaW.PrintLast Go.Proofs.YthebfdgnahfhgaaW.PrintMore
attribute [local go_sem] max2_int min2_int max_two min_two max_three min_three max_four min_four   -- for this text's walks alone
set_option linter.unusedVariables false
set_option linter.unusedSimpArgs false

/-! ### laws_toTstTestS: function 59 -/
def laws_toTstTestS.l0 : Nat → List (S153) → List (S86) → Int → Option ((List (S86)))
  | 0, _, _, _ => none
  | k + 1, x0, x3, x4 => if x4 < (x0.length : Int) then (if 0 ≤ x4 then ((laws_toTstTest.f k ((rd_T153 x0 x4).f0.f0) ((rd_T153 x0 x4).f0.f1.f0) ((rd_T153 x0 x4).f0.f1.f1) ((rd_T153 x0 x4).f0.f2.f0) ((rd_T153 x0 x4).f0.f2.f1) ((rd_T153 x0 x4).f0.f3) ((rd_T153 x0 x4).f1) ((rd_T153 x0 x4).f2.f0) ((rd_T153 x0 x4).f2.f1) ((rd_T153 x0 x4).f3) ((rd_T153 x0 x4).f4)).bind fun bt1428 => (if x4 < (x3.length : Int) then (laws_toTstTestS.l0 k x0 (x3.set (x4 : Int).toNat (⟨(⟨bt1428.1, (⟨bt1428.2.1, bt1428.2.2.1⟩ : S81), (⟨bt1428.2.2.2.1, bt1428.2.2.2.2.1⟩ : S81), bt1428.2.2.2.2.2.1⟩ : S83), bt1428.2.2.2.2.2.2.1, (⟨bt1428.2.2.2.2.2.2.2.1, bt1428.2.2.2.2.2.2.2.2.1⟩ : S81), bt1428.2.2.2.2.2.2.2.2.2.1, bt1428.2.2.2.2.2.2.2.2.2.2⟩ : S86)) (wrap64 (x4 + 1))) else (none))) else (none)) else (some x3)
def laws_toTstTestS.f (k : Nat) (l0 : List (S153)) : Option ((List (S86))) := if 0 ≤ (l0.length : Int) then (if ((l0.length : Int) : Int).toNat ≤ 2706490160679 then (laws_toTstTestS.l0 k l0 (List.replicate ((l0.length : Int) : Int).toNat z86) 0) else (none)) else (none)
theorem laws_toTstTestS.mono_l : ∀ k, (∀ y0 y1 y2, LeO (laws_toTstTestS.l0 k y0 y1 y2) (laws_toTstTestS.l0 (k + 1) y0 y1 y2))
  | 0 => fun _ _ _ r h => by simp [laws_toTstTestS.l0] at h
  | k + 1 => by
    have ih0 := laws_toTstTestS.mono_l k
    · intro y0 y1 y2
      unfold laws_toTstTestS.l0
      repeat' first
      | (with_reducible exact ih0 _ _ _)
      | (with_reducible exact laws_toTstTest.mono _ _ _ _ _ _ _ _ _ _ _ _)
      | (with_reducible exact LeO.refl _)
      | (with_reducible exact LeO.none _)
      | (with_reducible refine LeO.ite ?_ ?_)
      | (with_reducible refine LeO.bind ?_ (fun _ => ?_))
      | exact ih0 _ _ _
      | exact laws_toTstTest.mono _ _ _ _ _ _ _ _ _ _ _ _
      | exact LeO.none _
      | refine LeO.ite ?_ ?_
      | refine LeO.bind ?_ (fun _ => ?_)
theorem laws_toTstTestS.mono : ∀ a0 k, LeO (laws_toTstTestS.f k a0) (laws_toTstTestS.f (k + 1) a0) := by
  intro a0 k
  have ih0 := laws_toTstTestS.mono_l k
  unfold laws_toTstTestS.f
  repeat' first
      | (with_reducible exact ih0 _ _ _)
      | (with_reducible exact laws_toTstTest.mono _ _ _ _ _ _ _ _ _ _ _ _)
      | (with_reducible exact LeO.refl _)
      | (with_reducible exact LeO.none _)
      | (with_reducible refine LeO.ite ?_ ?_)
      | (with_reducible refine LeO.bind ?_ (fun _ => ?_))
      | exact ih0 _ _ _
      | exact laws_toTstTest.mono _ _ _ _ _ _ _ _ _ _ _ _
      | exact LeO.none _
      | refine LeO.ite ?_ ?_
      | refine LeO.bind ?_ (fun _ => ?_)
set_option maxHeartbeats 8000000 in
set_option maxRecDepth 100000 in
theorem laws_toTstTestS.calls (k : Nat) (A0 : Option Addr) (c0 : Nat) (l0 : List (S153)) (r : List (S86)) (w : World) (hr0 : Kd.C k153 w A0 l0.length l0) (hc0 : l0.length ≤ c0) (h : laws_toTstTestS.f k l0 = some r) :
    Calls Try.prog 59 #[.slice A0 l0.length c0] w fun e w' => ∃ v0_ : Value, e = .returned (v0_) ∧ Kd.S k86 86 w' w.heap.size (fun _ => True) v0_ r ∧ Below w.heap.size w w' := by
  have hu153 := Try.underlying153
  have hu86 := Try.underlying86
  have HR0 := Aside0.mk hr0
  have HC0 := Aside0.mk hc0
  clear hr0 hc0
  have HB := Aside0.mk (Below.refl w.heap.size w)
  have H : (if 0 ≤ (l0.length : Int) then (if ((l0.length : Int) : Int).toNat ≤ 2706490160679 then (laws_toTstTestS.l0 k l0 (List.replicate ((l0.length : Int) : Int).toNat z86) 0) else (none)) else (none)) = some r := h
  clear h
  by_cases c2 : 0 ≤ (l0.length : Int)
  · rw [if_pos c2] at H
    have c2b0 := eq_true c2
    have c2b1 : decide (0 ≤ (l0.length : Int)) = true := decide_eq_true c2
    clear c2
    by_cases c3 : ((l0.length : Int) : Int).toNat ≤ 2706490160679
    · rw [if_pos c3] at H
      have c3b0 := eq_true c3
      have c3b1 : decide (((l0.length : Int) : Int).toNat ≤ 2706490160679) = true := decide_eq_true c3
      clear c3
      obtain ⟨y1424, hy1424⟩ : ∃ y_ : List (S86), y_ = (List.replicate ((l0.length : Int) : Int).toNat z86) := ⟨_, rfl⟩
      replace H : (laws_toTstTestS.l0 k l0 y1424 0) = some r := by first | (rw [hy1424]; with_reducible exact H) | (have H2_ := (Option.bind_some _ _).symm.trans H; rw [hy1424]; with_reducible exact H2_) | (have H2_ := (Option.bind_some _ _).symm.trans H; with_reducible exact H2_) | with_reducible exact H | (rw [hy1424]; exact H) | exact H
      have Ny1424 := Aside0.mk hy1424
      clear hy1424
      have H' := Aside0.mk H
      clear H
      go_enter Try.func59, Try.ntmps59
      go_wp2_with (first | ((with_reducible refine gate_dst (N := 7) rfl ?_); refine Kd.S_make k86 _ 86 rfl (N := 7) rfl 23 _ _ rfl (l0.length : Int) rfl rfl Try.underlying23 (.agg #[(.int .i64 0), (.int .i64 0), (.int .i64 0), (.int .i64 0), (.int .i64 0), (.int .i64 0), (.int .i64 0), (.int .i64 0), (.int .i64 0), (.int .i64 0), (.slice none 0 0)]) 104 info86 rfl (by decide) (by omega) z86 (ok := fun _ => True) (okp := fun _ => True) (k86_mkM _ _ _ z86 (Kd.R_nil _ _ _ _ _)) (fun _ hk => hk) trivial (of_decide_eq_true (by first | (with_reducible assumption) | assumption)) (Nat.le_trans (Nat.mul_le_mul_right _ (of_decide_eq_true (by first | (with_reducible assumption) | assumption) : (l0.length : Int).toNat ≤ 2706490160679)) (by omega)) (Below.refl _ _) (Nat.le_refl _) ?_; intro v1425 w4 ho5 hb hg_ hnew_; clear hg_ hnew_; (first | rw [← Ny1424.out] at ho5 | (simp only [Int.reduceToNat] at ho5; rw [← Ny1424.out] at ho5)); have n0_ := Aside0.mk (Kd.S_lower ho5 (below_size (by repeat (first | (with_reducible first | exact HB.out | apply below_alloc | apply pw_below_drewN | apply below_drew1) | exact HB.out)))); have n1_ := Aside0.mk (below_step (by repeat (first | (with_reducible first | exact HB.out | apply below_alloc | apply pw_below_drewN | apply below_drew1) | exact HB.out)) hb); clear HB; have HO1426 := n0_; have HB := n1_; clear n0_ n1_; clear hb ho5))
      go_loopg [4] k (fun kq v4 w' => ∃ (x3_1 : List (S86)) (x4_1 : Int), v4 = .int .i64 x4_1 ∧ Aside0 (laws_toTstTestS.l0 kq l0 x3_1 x4_1 = some r) ∧ Aside0 (kq ≤ k) ∧ Aside0 (Kd.S k86 86 w' w.heap.size (fun _ => True) v1425 x3_1) ∧ Aside0 (Below w.heap.size w w'))
      case atStart => exact ⟨(y1424), (0), (by first | rfl | (simp; done) | (simp [*]; done)), H', ⟨Nat.le_refl _⟩, ⟨by (with_reducible repeat (first | apply Kd.S_alloc | apply Kd.S_drewN | apply Kd.S_drew)); exact HO1426.out⟩, ⟨by repeat (first | (with_reducible first | exact HB.out | apply below_alloc | apply pw_below_drewN | apply below_drew1) | exact HB.out)⟩⟩
      case round =>
        clear H'
        try clear c2
        try clear c2b0
        try clear c2b1
        try clear p2
        try clear c3
        try clear c3b0
        try clear c3b1
        try clear c5
        obtain ⟨x3_1, x4_1, rfl, HA, HK1, HO_3, HB⟩ := hrel
        cases gk with
        | zero => exact absurd HA.out (by simp [laws_toTstTestS.l0])
        | succ k1 =>
          have H := HA.out
          clear HA
          simp only [laws_toTstTestS.l0] at H
          by_cases c6 : x4_1 < (l0.length : Int)
          · rw [if_pos c6] at H
            have c6b0 : decide (x4_1 < (l0.length : Int)) = true := decide_eq_true c6
            clear c6
            by_cases c7 : 0 ≤ x4_1
            · rw [if_pos c7] at H
              have c7b0 : decide (0 ≤ x4_1) = true := decide_eq_true c7
              clear c7
              replace H := Option.bind_eq_some_iff.mp H
              obtain ⟨⟨t1428, t1429, t1430, t1431, t1432, t1433, t1434, t1435, t1436, t1437, t1438⟩, A80, H⟩ := H
              replace H : (if x4_1 < (x3_1.length : Int) then (laws_toTstTestS.l0 k1 l0 (x3_1.set (x4_1 : Int).toNat (⟨(⟨t1428, (⟨t1429, t1430⟩ : S81), (⟨t1431, t1432⟩ : S81), t1433⟩ : S83), t1434, (⟨t1435, t1436⟩ : S81), t1437, t1438⟩ : S86)) (wrap64 (x4_1 + 1))) else (none)) = some r := H
              have A8 := Aside0.mk A80
              clear A80
              by_cases c9 : x4_1 < (x3_1.length : Int)
              · rw [if_pos c9] at H
                have c9b0 : decide (x4_1 < (x3_1.length : Int)) = true := decide_eq_true c9
                clear c9
                obtain ⟨y1441, hy1441⟩ : ∃ y_ : List (S86), y_ = (x3_1.set (x4_1 : Int).toNat (⟨(⟨t1428, (⟨t1429, t1430⟩ : S81), (⟨t1431, t1432⟩ : S81), t1433⟩ : S83), t1434, (⟨t1435, t1436⟩ : S81), t1437, t1438⟩ : S86)) := ⟨_, rfl⟩
                replace H : (laws_toTstTestS.l0 k1 l0 y1441 (wrap64 (x4_1 + 1))) = some r := by first | (rw [hy1441]; with_reducible exact H) | (have H2_ := (Option.bind_some _ _).symm.trans H; rw [hy1441]; with_reducible exact H2_) | (have H2_ := (Option.bind_some _ _).symm.trans H; with_reducible exact H2_) | with_reducible exact H | (rw [hy1441]; exact H) | exact H
                have Ny1441 := Aside0.mk hy1441
                clear hy1441
                have H' := Aside0.mk H
                clear H
                have p1427 : 0 ≤ (x4_1 : Int) := of_decide_eq_true (by first | (with_reducible assumption) | assumption)
                have q1427 : x4_1 < (l0.length : Int) := of_decide_eq_true (by first | (with_reducible assumption) | assumption)
                obtain ⟨ad1427, A1427_10, c1427_10, e1427, hx1427_0, hx1427_1, hx1427_2, hx1427_3, hx1427_4, hx1427_5, hx1427_6, hx1427_7, hx1427_8, hx1427_9, hx1427_10, hl1427_10, hi1427_10⟩ := at_T153 HR0.out x4_1 p1427 q1427
                cases e1427
                replace hx1427_0 := (HB.out.cell (World.block_lt_of_cell? w _ hx1427_0)).trans hx1427_0
                replace hx1427_1 := (HB.out.cell (World.block_lt_of_cell? w _ hx1427_1)).trans hx1427_1
                replace hx1427_2 := (HB.out.cell (World.block_lt_of_cell? w _ hx1427_2)).trans hx1427_2
                replace hx1427_3 := (HB.out.cell (World.block_lt_of_cell? w _ hx1427_3)).trans hx1427_3
                replace hx1427_4 := (HB.out.cell (World.block_lt_of_cell? w _ hx1427_4)).trans hx1427_4
                replace hx1427_5 := (HB.out.cell (World.block_lt_of_cell? w _ hx1427_5)).trans hx1427_5
                replace hx1427_6 := (HB.out.cell (World.block_lt_of_cell? w _ hx1427_6)).trans hx1427_6
                replace hx1427_7 := (HB.out.cell (World.block_lt_of_cell? w _ hx1427_7)).trans hx1427_7
                replace hx1427_8 := (HB.out.cell (World.block_lt_of_cell? w _ hx1427_8)).trans hx1427_8
                replace hx1427_9 := (HB.out.cell (World.block_lt_of_cell? w _ hx1427_9)).trans hx1427_9
                replace hx1427_10 := (HB.out.cell (World.block_lt_of_cell? w _ hx1427_10)).trans hx1427_10
                have HR1427_10 := Aside0.mk hi1427_10
                have HC1427_10 := Aside0.mk hl1427_10
                clear hi1427_10 hl1427_10
                replace p1427 := eq_true p1427
                replace q1427 := eq_true q1427
                go_wp2_with (first | ((with_reducible refine gate_callee (f := 97) rfl ?_); refine goesL_ (some 20) rfl rfl Try.func97 (by kernel_rfl) rfl #[.agg #[.int .i64 ((rd_T153 l0 x4_1).f0.f0), .int .i64 ((rd_T153 l0 x4_1).f0.f1.f0), .int .i64 ((rd_T153 l0 x4_1).f0.f1.f1), .int .i64 ((rd_T153 l0 x4_1).f0.f2.f0), .int .i64 ((rd_T153 l0 x4_1).f0.f2.f1), .int .i64 ((rd_T153 l0 x4_1).f0.f3), .int .i64 ((rd_T153 l0 x4_1).f1), .int .i64 ((rd_T153 l0 x4_1).f2.f0), .int .i64 ((rd_T153 l0 x4_1).f2.f1), .int .i64 ((rd_T153 l0 x4_1).f3), .slice A1427_10 ((rd_T153 l0 x4_1).f4).length c1427_10]] rfl (by (try simp only [List.map_toArray, List.map_cons, List.map_nil]); first | done | rfl | (simp only [List.length_drop, List.length_take]; rfl)) ?_; (with_reducible refine (laws_toTstTest.calls k1 ((rd_T153 l0 x4_1).f0.f0) ((rd_T153 l0 x4_1).f0.f1.f0) ((rd_T153 l0 x4_1).f0.f1.f1) ((rd_T153 l0 x4_1).f0.f2.f0) ((rd_T153 l0 x4_1).f0.f2.f1) ((rd_T153 l0 x4_1).f0.f3) ((rd_T153 l0 x4_1).f1) ((rd_T153 l0 x4_1).f2.f0) ((rd_T153 l0 x4_1).f2.f1) ((rd_T153 l0 x4_1).f3) _ _ ((rd_T153 l0 x4_1).f4) t1428 t1429 t1430 t1431 t1432 t1433 t1434 t1435 t1436 t1437 t1438 _ ?side1 ?side2 A8.out).mono ?_); (case side1 => repeat (first | exact (Kd.C_below HR1427_10.out HB.out) | (with_reducible refine Kd.C_alloc ?_ _) | (with_reducible refine Kd.C_drewN ?_ _) | (with_reducible refine Kd.C_drew ?_))); (case side2 => exact HC1427_10.out); rintro e w11 ⟨v1439, rfl, ho0, hb⟩; refine ⟨_, rfl, ?_⟩; obtain ⟨Ao1439, co1439, eo1439⟩ := Kd.R_slice ho0; subst eo1439; have n0_ := Aside0.mk (Kd.S_elder' (by (with_reducible repeat (first | apply Kd.S_alloc | apply Kd.S_drewN | apply Kd.S_drew)); exact HO_3.out) (Kd.R_base ho0) hb); have n1_ := Aside0.mk (Kd.R_lower ho0 (below_size (by repeat (first | (with_reducible first | exact HB.out | apply below_alloc | apply pw_below_drewN | apply below_drew1) | exact HB.out)))); have n2_ := Aside0.mk (below_step (by repeat (first | (with_reducible first | exact HB.out | apply below_alloc | apply pw_below_drewN | apply below_drew1) | exact HB.out)) hb); clear HO_3; clear HB; have HO_3 := n0_; have HO1440 := n1_; have HB := n2_; clear n0_ n1_ n2_; (try clear hb); (try clear hb2); (try clear hk); (try clear hi); (try clear ho0); have p10 : 0 ≤ (x4_1 : Int) := of_decide_eq_true (by first | (with_reducible assumption) | assumption); have q10 : (x4_1 : Int) < ((x3_1.length : Int) : Int) := of_decide_eq_true (by first | (with_reducible assumption) | assumption); obtain ⟨go10, co10, eo10, gb10, gl10, cl10, HG10⟩ := Kd.S_form HO_3.out (by omega); (first | cases eo10 | (injection eo10 with ea_ en_ ec_; (first | subst ea_ | (injection ea_ with ea_; subst ea_)); subst ec_; clear en_)); have GB10 := Aside0.mk gb10; have GG10 := Aside0.mk HG10; clear gb10 gl10 HG10; obtain ⟨_, ce10, hcl10, hM10, hcc10, hfr10, _, _⟩ := Kd.S_elem HO_3.out z86 (x4_1 : Int) p10 q10; obtain ⟨ve10_10, rfl, ge10_10⟩ := k86_openM hM10; have hx10_0 : w11.cell? ⟨go10, (x4_1 : Int).toNat * 11, none⟩ = some (.int .i64 ((rd_T86 x3_1 x4_1).f0.f0)) := hcc10 0 _ rfl; have hx10_1 : w11.cell? ⟨go10, (x4_1 : Int).toNat * 11 + 1, none⟩ = some (.int .i64 ((rd_T86 x3_1 x4_1).f0.f1.f0)) := hcc10 1 _ rfl; have hx10_2 : w11.cell? ⟨go10, (x4_1 : Int).toNat * 11 + 2, none⟩ = some (.int .i64 ((rd_T86 x3_1 x4_1).f0.f1.f1)) := hcc10 2 _ rfl; have hx10_3 : w11.cell? ⟨go10, (x4_1 : Int).toNat * 11 + 3, none⟩ = some (.int .i64 ((rd_T86 x3_1 x4_1).f0.f2.f0)) := hcc10 3 _ rfl; have hx10_4 : w11.cell? ⟨go10, (x4_1 : Int).toNat * 11 + 4, none⟩ = some (.int .i64 ((rd_T86 x3_1 x4_1).f0.f2.f1)) := hcc10 4 _ rfl; have hx10_5 : w11.cell? ⟨go10, (x4_1 : Int).toNat * 11 + 5, none⟩ = some (.int .i64 ((rd_T86 x3_1 x4_1).f0.f3)) := hcc10 5 _ rfl; have hx10_6 : w11.cell? ⟨go10, (x4_1 : Int).toNat * 11 + 6, none⟩ = some (.int .i64 ((rd_T86 x3_1 x4_1).f1)) := hcc10 6 _ rfl; have hx10_7 : w11.cell? ⟨go10, (x4_1 : Int).toNat * 11 + 7, none⟩ = some (.int .i64 ((rd_T86 x3_1 x4_1).f2.f0)) := hcc10 7 _ rfl; have hx10_8 : w11.cell? ⟨go10, (x4_1 : Int).toNat * 11 + 8, none⟩ = some (.int .i64 ((rd_T86 x3_1 x4_1).f2.f1)) := hcc10 8 _ rfl; have hx10_9 : w11.cell? ⟨go10, (x4_1 : Int).toNat * 11 + 9, none⟩ = some (.int .i64 ((rd_T86 x3_1 x4_1).f3)) := hcc10 9 _ rfl; have hx10_10 : w11.cell? ⟨go10, (x4_1 : Int).toNat * 11 + 10, none⟩ = some (ve10_10) := hcc10 10 _ rfl; have hf10_0 : w11.frozen? ⟨go10, (x4_1 : Int).toNat * 11, none⟩ = false := hfr10 0; have hf10_1 : w11.frozen? ⟨go10, (x4_1 : Int).toNat * 11 + 1, none⟩ = false := hfr10 1; have hf10_2 : w11.frozen? ⟨go10, (x4_1 : Int).toNat * 11 + 2, none⟩ = false := hfr10 2; have hf10_3 : w11.frozen? ⟨go10, (x4_1 : Int).toNat * 11 + 3, none⟩ = false := hfr10 3; have hf10_4 : w11.frozen? ⟨go10, (x4_1 : Int).toNat * 11 + 4, none⟩ = false := hfr10 4; have hf10_5 : w11.frozen? ⟨go10, (x4_1 : Int).toNat * 11 + 5, none⟩ = false := hfr10 5; have hf10_6 : w11.frozen? ⟨go10, (x4_1 : Int).toNat * 11 + 6, none⟩ = false := hfr10 6; have hf10_7 : w11.frozen? ⟨go10, (x4_1 : Int).toNat * 11 + 7, none⟩ = false := hfr10 7; have hf10_8 : w11.frozen? ⟨go10, (x4_1 : Int).toNat * 11 + 8, none⟩ = false := hfr10 8; have hf10_9 : w11.frozen? ⟨go10, (x4_1 : Int).toNat * 11 + 9, none⟩ = false := hfr10 9; have hf10_10 : w11.frozen? ⟨go10, (x4_1 : Int).toNat * 11 + 10, none⟩ = false := hfr10 10; clear hcl10 hcc10 hfr10 hM10; replace p10 := eq_true p10; replace q10 := eq_true q10; have n_ := Aside0.mk (Kd.S_mono (ok' := (fun k_ => some k_ ≠ (Value.slice Ao1439 t1438.length co1439).ownBlock)) HO_3.out (fun k_ hk => hk.2)); clear HO_3; have HO_3 := n_; clear n_; have HX12 := Aside0.mk (show Kd.S k86 86 w11 w.heap.size (fun k_ => ((fun _ => True)) k_ ∧ ¬ ((fun k_ => some k_ = (Value.slice Ao1439 t1438.length co1439).ownBlock)) k_) (.slice (some ⟨go10, 0, none⟩) x3_1.length co10) x3_1 from (by (with_reducible repeat (first | apply Kd.S_alloc | apply Kd.S_drewN | apply Kd.S_drew)); exact Kd.S_mono HO_3.out (fun k_ hk => ⟨trivial, fun e_ => hk e_⟩))); obtain ⟨oki12, ce12, hcl12, hM12, hcc12, hfr12, hoki12, hH12⟩ := Kd.S_elem HX12.out z86 (x4_1 : Int) (of_decide_eq_true (by first | (with_reducible assumption) | assumption)) (by have h_ : (x4_1 : Int) < ((x3_1.length : Int) : Int) := of_decide_eq_true (by first | (with_reducible assumption) | assumption); first | exact h_ | (have e_ := (Kd.S_reads' HO_3.out).1; omega) | simpa using h_); obtain ⟨ve12_10, rfl, ge12_10⟩ := k86_openM hM12; have HP12 := Kd.S_seg hH12 (of_decide_eq_true (by first | (with_reducible assumption) | assumption)) (by have h_ : (x4_1 : Int) < ((x3_1.length : Int) : Int) := of_decide_eq_true (by first | (with_reducible assumption) | assumption); first | exact h_ | (have e_ := (Kd.S_reads' HO_3.out).1; omega) | simpa using h_) (seg := [.int .i64 t1428, .int .i64 t1429, .int .i64 t1430, .int .i64 t1431, .int .i64 t1432, .int .i64 t1433, .int .i64 t1434, .int .i64 t1435, .int .i64 t1436, .int .i64 t1437, (Value.slice Ao1439 t1438.length co1439)]) (j := 0) (show 11 ≤ 11 from by decide) (x' := (⟨(⟨t1428, (⟨t1429, t1430⟩ : S81), (⟨t1431, t1432⟩ : S81), t1433⟩ : S83), t1434, (⟨t1435, t1436⟩ : S81), t1437, t1438⟩ : S86)) (k86_mkM _ _ _ (⟨(⟨t1428, (⟨t1429, t1430⟩ : S81), (⟨t1431, t1432⟩ : S81), t1433⟩ : S83), t1434, (⟨t1435, t1436⟩ : S81), t1437, t1438⟩ : S86) (Kd.R_mono (Kd.R_tight rfl (Kd.R_mono (ok' := fun k_ => ((fun _ => True)) k_ ∧ k_ ≠ go10) (Kd.R_apart' (HO1440.out) (Kd.S_typed HO_3.out) (by decide)) (fun k_ hk => ⟨trivial, fun e_ => (hk.2) (by rw [e_]; rfl)⟩))) (fun _ h_ => Or.inr (h_)))) (fun _ hk => hk) (fun k_ hk_ => ((Kd.R_mono (ok' := fun k_ => ((fun _ => True)) k_ ∧ k_ ≠ go10) (Kd.R_apart' (HO1440.out) (Kd.S_typed HO_3.out) (by decide)) (fun k_ hk => ⟨trivial, fun e_ => (hk.2) (by rw [e_]; rfl)⟩))).1 k_ hk_.symm); have hx12_0 := hcc12 0 _ rfl; (try simp only [show (k86).sz = 11 from rfl, Nat.mul_one, Nat.add_zero] at hx12_0); have hf12_0 := hfr12 0; (try simp only [show (k86).sz = 11 from rfl, Nat.mul_one, Nat.add_zero] at hf12_0); have hx12_1 := hcc12 1 _ rfl; (try simp only [show (k86).sz = 11 from rfl, Nat.mul_one, Nat.add_zero] at hx12_1); have hf12_1 := hfr12 1; (try simp only [show (k86).sz = 11 from rfl, Nat.mul_one, Nat.add_zero] at hf12_1); have hx12_2 := hcc12 2 _ rfl; (try simp only [show (k86).sz = 11 from rfl, Nat.mul_one, Nat.add_zero] at hx12_2); have hf12_2 := hfr12 2; (try simp only [show (k86).sz = 11 from rfl, Nat.mul_one, Nat.add_zero] at hf12_2); have hx12_3 := hcc12 3 _ rfl; (try simp only [show (k86).sz = 11 from rfl, Nat.mul_one, Nat.add_zero] at hx12_3); have hf12_3 := hfr12 3; (try simp only [show (k86).sz = 11 from rfl, Nat.mul_one, Nat.add_zero] at hf12_3); have hx12_4 := hcc12 4 _ rfl; (try simp only [show (k86).sz = 11 from rfl, Nat.mul_one, Nat.add_zero] at hx12_4); have hf12_4 := hfr12 4; (try simp only [show (k86).sz = 11 from rfl, Nat.mul_one, Nat.add_zero] at hf12_4); have hx12_5 := hcc12 5 _ rfl; (try simp only [show (k86).sz = 11 from rfl, Nat.mul_one, Nat.add_zero] at hx12_5); have hf12_5 := hfr12 5; (try simp only [show (k86).sz = 11 from rfl, Nat.mul_one, Nat.add_zero] at hf12_5); have hx12_6 := hcc12 6 _ rfl; (try simp only [show (k86).sz = 11 from rfl, Nat.mul_one, Nat.add_zero] at hx12_6); have hf12_6 := hfr12 6; (try simp only [show (k86).sz = 11 from rfl, Nat.mul_one, Nat.add_zero] at hf12_6); have hx12_7 := hcc12 7 _ rfl; (try simp only [show (k86).sz = 11 from rfl, Nat.mul_one, Nat.add_zero] at hx12_7); have hf12_7 := hfr12 7; (try simp only [show (k86).sz = 11 from rfl, Nat.mul_one, Nat.add_zero] at hf12_7); have hx12_8 := hcc12 8 _ rfl; (try simp only [show (k86).sz = 11 from rfl, Nat.mul_one, Nat.add_zero] at hx12_8); have hf12_8 := hfr12 8; (try simp only [show (k86).sz = 11 from rfl, Nat.mul_one, Nat.add_zero] at hf12_8); have hx12_9 := hcc12 9 _ rfl; (try simp only [show (k86).sz = 11 from rfl, Nat.mul_one, Nat.add_zero] at hx12_9); have hf12_9 := hfr12 9; (try simp only [show (k86).sz = 11 from rfl, Nat.mul_one, Nat.add_zero] at hf12_9); have hx12_10 := hcc12 10 _ rfl; (try simp only [show (k86).sz = 11 from rfl, Nat.mul_one, Nat.add_zero] at hx12_10); have hf12_10 := hfr12 10; (try simp only [show (k86).sz = 11 from rfl, Nat.mul_one, Nat.add_zero] at hf12_10); clear hcl12 hcc12 hfr12 hM12 hoki12 hH12) | ((with_reducible refine gate_store (t := 86) (p := 21) rfl ?_); refine store_event (t := 86) (p := 21) (v := ?vo_w13) (w1 := (((((((((((w11.setCell ⟨go10, (x4_1 : Int).toNat * 11, none⟩ (.int .i64 t1428)).setCell ⟨go10, (x4_1 : Int).toNat * 11 + 1, none⟩ (.int .i64 t1429)).setCell ⟨go10, (x4_1 : Int).toNat * 11 + 2, none⟩ (.int .i64 t1430)).setCell ⟨go10, (x4_1 : Int).toNat * 11 + 3, none⟩ (.int .i64 t1431)).setCell ⟨go10, (x4_1 : Int).toNat * 11 + 4, none⟩ (.int .i64 t1432)).setCell ⟨go10, (x4_1 : Int).toNat * 11 + 5, none⟩ (.int .i64 t1433)).setCell ⟨go10, (x4_1 : Int).toNat * 11 + 6, none⟩ (.int .i64 t1434)).setCell ⟨go10, (x4_1 : Int).toNat * 11 + 7, none⟩ (.int .i64 t1435)).setCell ⟨go10, (x4_1 : Int).toNat * 11 + 8, none⟩ (.int .i64 t1436)).setCell ⟨go10, (x4_1 : Int).toNat * 11 + 9, none⟩ (.int .i64 t1437)).setCell ⟨go10, (x4_1 : Int).toNat * 11 + 10, none⟩ ((Value.slice Ao1439 t1438.length co1439)))) ?hg ?ho ?hn ?hr ?_; (case ho => rfl); (case hg => rfl); (case hn => rfl); (case hr => first | (go_simp; done) | (go_simp; rfl)); intro w13 hw; have hg : w11.grownBy w13 (some go10) := (by rw [hw]; exact HP12.2); have hp_ : Kd.S k86 86 w13 w.heap.size (fun _ => True) (.slice (some ⟨go10, 0, none⟩) x3_1.length co10) y1441 := (by rw [hw, Ny1441.out]; exact HP12.1); clear HP12; have n0_ := Aside0.mk (hp_); have n1_ := Aside0.mk ((by rw [hw]; exact below_set (below_set (below_set (below_set (below_set (below_set (below_set (below_set (below_set (below_set (below_set (HB.out) GB10.out) GB10.out) GB10.out) GB10.out) GB10.out) GB10.out) GB10.out) GB10.out) GB10.out) GB10.out) GB10.out : Below w.heap.size w w13)); clear HO_3; clear HB; clear HO1440; have HO_3 := n0_; have HB := n1_; clear n0_ n1_; clear hg hw hp_))
                go_roundg k1
                case measure => have := HK1.out; omega
                case rel => exact ⟨(y1441), (wrap64 (x4_1 + 1)), (by first | rfl | (simp; done) | (simp [*]; done)), H', ⟨by have := HK1.out; omega⟩, ⟨by (with_reducible repeat (first | apply Kd.S_alloc | apply Kd.S_drewN | apply Kd.S_drew)); exact HO_3.out⟩, ⟨by repeat (first | (with_reducible first | exact HB.out | apply below_alloc | apply pw_below_drewN | apply below_drew1) | exact HB.out)⟩⟩
              · rw [if_neg c9] at H
                exact absurd H (by simp)
            · rw [if_neg c7] at H
              exact absurd H (by simp)
          · rw [if_neg c6] at H
            have c6b0 : decide (x4_1 < (l0.length : Int)) = false := decide_eq_false c6
            clear c6
            obtain rfl := Option.some.inj H
            go_wp2
            go_ret
            exact ⟨_, by first | rfl | (simp [errW_none, errW_some] <;> rfl) | (simp [*, errW_none, errW_some] <;> rfl), by (with_reducible repeat (first | apply Kd.S_alloc | apply Kd.S_drewN | apply Kd.S_drew)); exact HO_3.out, by repeat (first | (with_reducible first | exact HB.out | apply below_alloc | apply pw_below_drewN | apply below_drew1) | exact HB.out)⟩
    · rw [if_neg c3] at H
      exact absurd H (by simp)
  · rw [if_neg c2] at H
    exact absurd H (by simp)

/-! ### laws_toBatSig: function 98 -/
def laws_toBatSig.f (a0_0 : Int) (a0_1 : Int) (a0_2 : Int) : Option (Int × Int × Int) := some (a0_0, a0_1, a0_2)
set_option maxHeartbeats 8000000 in
set_option maxRecDepth 100000 in
theorem laws_toBatSig.calls (a0_0 : Int) (a0_1 : Int) (a0_2 : Int) (r1 : Int) (r2 : Int) (r3 : Int) (w : World) (h : laws_toBatSig.f a0_0 a0_1 a0_2 = some (r1, r2, r3)) :
    Calls Try.prog 98 #[.agg #[.int .i64 a0_0, .int .i64 a0_1, .int .i64 a0_2]] w fun e w' => e = .returned (.agg #[.int .i64 r1, .int .i64 r2, .int .i64 r3]) ∧ Below w.heap.size w w' := by
  have hu156 := Try.underlying156
  have hu41 := Try.underlying41
  have HB := Aside0.mk (Below.refl w.heap.size w)
  have H : (some (a0_0, a0_1, a0_2)) = some (r1, r2, r3) := h
  clear h
  simp only [Option.some.injEq, Prod.mk.injEq] at H
  obtain ⟨rfl, rfl, rfl⟩ := H
  go_enter Try.func98, Try.ntmps98
  go_wp2_with (first | ((with_reducible refine gate_dst (N := 1) rfl ?_); refine box_event ?hg (N := 1) ?hd (cs := #[.int .i64 a0_0, .int .i64 a0_1, .int .i64 a0_2]) (t := 156) ?hr ?_; (case hd => rfl); (case hg => rfl); (case hr => first | (go_simp; done) | (go_simp; rfl)); intro gb1442 hg w2 hbox hb; have n0_ := Aside0.mk (below_step (by repeat (first | (with_reducible first | exact HB.out | apply below_alloc | apply pw_below_drewN | apply below_drew1) | exact HB.out)) hb); have n1_ := Aside0.mk (hbox); have n2_ := Aside0.mk ((by rw [hg]; exact (below_size (by repeat (first | (with_reducible first | exact HB.out | apply below_alloc | apply pw_below_drewN | apply below_drew1) | exact HB.out))) : w.heap.size ≤ gb1442)); have n3_ := Aside0.mk ((by rw [hg]; exact (below_size (by repeat (first | (with_reducible first | exact HB.out | apply below_alloc | apply pw_below_drewN | apply below_drew1) | exact HB.out))) : w.heap.size ≤ gb1442)); clear HB; have HB := n0_; have BK1442 := n1_; have GW1442 := n2_; have GE1442 := n3_; clear n0_ n1_ n2_ n3_; clear hb hbox hg) | ((with_reducible refine gate_dst (N := 2) rfl ?_); refine box_event ?hg (N := 2) ?hd (cs := #[.int .i64 0, .int .i64 0, .int .i64 0]) (t := 41) ?hr ?_; (case hd => rfl); (case hg => rfl); (case hr => first | (go_simp; done) | (go_simp; rfl)); intro gb1443 hg w3 hbox hb; have n0_ := Aside0.mk (blk_below (g := gb1442) (o := .cells #[.int .i64 a0_0, .int .i64 a0_1, .int .i64 a0_2] 156 (0, 0)) (by (with_reducible repeat (first | refine blk_drewN ?_ _ | refine blk_drew ?_ | refine blk_alloc ?_ _)); exact BK1442.out) hb); have n1_ := Aside0.mk (below_step (by repeat (first | (with_reducible first | exact HB.out | apply below_alloc | apply pw_below_drewN | apply below_drew1 | refine below_set ?_ GE1442.out) | exact HB.out)) hb); have n2_ := Aside0.mk (hbox); have n3_ := Aside0.mk ((by rw [hg]; exact (below_size (by repeat (first | (with_reducible first | exact HB.out | apply below_alloc | apply pw_below_drewN | apply below_drew1 | refine below_set ?_ GE1442.out) | exact HB.out))) : w.heap.size ≤ gb1443)); have n4_ := Aside0.mk ((by rw [hg]; exact (below_size (by repeat (first | (with_reducible first | exact HB.out | apply below_alloc | apply pw_below_drewN | apply below_drew1 | refine below_set ?_ GE1442.out) | exact HB.out))) : w.heap.size ≤ gb1443)); have n5_ := Aside0.mk ((by rw [hg]; exact Nat.ne_of_lt (blk_lt (g := gb1442) (o := .cells #[.int .i64 a0_0, .int .i64 a0_1, .int .i64 a0_2] 156 (0, 0)) (by (with_reducible repeat (first | refine blk_drewN ?_ _ | refine blk_drew ?_ | refine blk_alloc ?_ _)); exact BK1442.out)) : gb1442 ≠ gb1443)); have n6_ := Aside0.mk ((by rw [hg]; exact Nat.ne_of_gt (blk_lt (g := gb1442) (o := .cells #[.int .i64 a0_0, .int .i64 a0_1, .int .i64 a0_2] 156 (0, 0)) (by (with_reducible repeat (first | refine blk_drewN ?_ _ | refine blk_drew ?_ | refine blk_alloc ?_ _)); exact BK1442.out)) : gb1443 ≠ gb1442)); clear BK1442; clear HB; have BK1442 := n0_; have HB := n1_; have BK1443 := n2_; have GW1443 := n3_; have GE1443 := n4_; have NB1442_1443 := n5_; have NB1443_1442 := n6_; clear n0_ n1_ n2_ n3_ n4_ n5_ n6_; clear hb hbox hg) | ((with_reducible refine gate_dst (N := 3) rfl ?_); refine box_event ?hg (N := 3) ?hd (cs := #[.int .i64 0, .int .i64 0, .int .i64 0]) (t := 41) ?hr ?_; (case hd => rfl); (case hg => rfl); (case hr => first | (go_simp; done) | (go_simp; rfl)); intro gb1444 hg w4 hbox hb; have n0_ := Aside0.mk (blk_below (g := gb1442) (o := .cells #[.int .i64 a0_0, .int .i64 a0_1, .int .i64 a0_2] 156 (0, 0)) (by (with_reducible repeat (first | refine blk_drewN ?_ _ | refine blk_drew ?_ | refine blk_alloc ?_ _)); exact BK1442.out) hb); have n1_ := Aside0.mk (blk_below (g := gb1443) (o := .cells #[.int .i64 0, .int .i64 0, .int .i64 0] 41 (0, 0)) (by (with_reducible repeat (first | refine blk_drewN ?_ _ | refine blk_drew ?_ | refine blk_alloc ?_ _)); exact BK1443.out) hb); have n2_ := Aside0.mk (below_step (by repeat (first | (with_reducible first | exact HB.out | apply below_alloc | apply pw_below_drewN | apply below_drew1 | refine below_set ?_ GE1442.out | refine below_set ?_ GE1443.out) | exact HB.out)) hb); have n3_ := Aside0.mk (hbox); have n4_ := Aside0.mk ((by rw [hg]; exact (below_size (by repeat (first | (with_reducible first | exact HB.out | apply below_alloc | apply pw_below_drewN | apply below_drew1 | refine below_set ?_ GE1442.out | refine below_set ?_ GE1443.out) | exact HB.out))) : w.heap.size ≤ gb1444)); have n5_ := Aside0.mk ((by rw [hg]; exact (below_size (by repeat (first | (with_reducible first | exact HB.out | apply below_alloc | apply pw_below_drewN | apply below_drew1 | refine below_set ?_ GE1442.out | refine below_set ?_ GE1443.out) | exact HB.out))) : w.heap.size ≤ gb1444)); have n6_ := Aside0.mk ((by rw [hg]; exact Nat.ne_of_lt (blk_lt (g := gb1442) (o := .cells #[.int .i64 a0_0, .int .i64 a0_1, .int .i64 a0_2] 156 (0, 0)) (by (with_reducible repeat (first | refine blk_drewN ?_ _ | refine blk_drew ?_ | refine blk_alloc ?_ _)); exact BK1442.out)) : gb1442 ≠ gb1444)); have n7_ := Aside0.mk ((by rw [hg]; exact Nat.ne_of_gt (blk_lt (g := gb1442) (o := .cells #[.int .i64 a0_0, .int .i64 a0_1, .int .i64 a0_2] 156 (0, 0)) (by (with_reducible repeat (first | refine blk_drewN ?_ _ | refine blk_drew ?_ | refine blk_alloc ?_ _)); exact BK1442.out)) : gb1444 ≠ gb1442)); have n8_ := Aside0.mk ((by rw [hg]; exact Nat.ne_of_lt (blk_lt (g := gb1443) (o := .cells #[.int .i64 0, .int .i64 0, .int .i64 0] 41 (0, 0)) (by (with_reducible repeat (first | refine blk_drewN ?_ _ | refine blk_drew ?_ | refine blk_alloc ?_ _)); exact BK1443.out)) : gb1443 ≠ gb1444)); have n9_ := Aside0.mk ((by rw [hg]; exact Nat.ne_of_gt (blk_lt (g := gb1443) (o := .cells #[.int .i64 0, .int .i64 0, .int .i64 0] 41 (0, 0)) (by (with_reducible repeat (first | refine blk_drewN ?_ _ | refine blk_drew ?_ | refine blk_alloc ?_ _)); exact BK1443.out)) : gb1444 ≠ gb1443)); clear BK1442; clear BK1443; clear HB; have BK1442 := n0_; have BK1443 := n1_; have HB := n2_; have BK1444 := n3_; have GW1444 := n4_; have GE1444 := n5_; have NB1442_1444 := n6_; have NB1444_1442 := n7_; have NB1443_1444 := n8_; have NB1444_1443 := n9_; clear n0_ n1_ n2_ n3_ n4_ n5_ n6_ n7_ n8_ n9_; clear hb hbox hg; have hnb5 := NB1442_1443.out; have hnc5 := NB1443_1442.out; have hnb6 := NB1442_1444.out; have hnc6 := NB1444_1442.out; have hcz7_0 : w4.cell? ⟨gb1442, 0, none⟩ = some (.int .i64 a0_0) := (blk_cell BK1442.out 0).trans rfl; have hcz7_1 : w4.cell? ⟨gb1442, 1, none⟩ = some (.int .i64 a0_1) := (blk_cell BK1442.out 1).trans rfl; have hcz7_2 : w4.cell? ⟨gb1442, 2, none⟩ = some (.int .i64 a0_2) := (blk_cell BK1442.out 2).trans rfl; have hfz7_0 := blk_frozen BK1442.out 0; have hfz7_1 := blk_frozen BK1442.out 1; have hfz7_2 := blk_frozen BK1442.out 2; have hnb8 := NB1444_1443.out; have hnc8 := NB1443_1444.out; have hcz9_0 : w4.cell? ⟨gb1444, 0, none⟩ = some (.int .i64 0) := (blk_cell BK1444.out 0).trans rfl; have hcz9_1 : w4.cell? ⟨gb1444, 1, none⟩ = some (.int .i64 0) := (blk_cell BK1444.out 1).trans rfl; have hcz9_2 : w4.cell? ⟨gb1444, 2, none⟩ = some (.int .i64 0) := (blk_cell BK1444.out 2).trans rfl; have hfz9_0 := blk_frozen BK1444.out 0; have hfz9_1 := blk_frozen BK1444.out 1; have hfz9_2 := blk_frozen BK1444.out 2; have hcz10_0 : w4.cell? ⟨gb1443, 0, none⟩ = some (.int .i64 0) := (blk_cell BK1443.out 0).trans rfl; have hcz10_1 : w4.cell? ⟨gb1443, 1, none⟩ = some (.int .i64 0) := (blk_cell BK1443.out 1).trans rfl; have hcz10_2 : w4.cell? ⟨gb1443, 2, none⟩ = some (.int .i64 0) := (blk_cell BK1443.out 2).trans rfl; have hfz10_0 := blk_frozen BK1443.out 0; have hfz10_1 := blk_frozen BK1443.out 1; have hfz10_2 := blk_frozen BK1443.out 2))
  refine bodyPost_ret (results_cell_row rfl _ _ gb1443 41 #[.int .i64 a0_0, .int .i64 a0_1, .int .i64 a0_2] (0, 0) _ rfl (by (with_reducible repeat (first | refine blk_drewN ?_ _ | refine blk_drew ?_ | refine blk_alloc ?_ _)); refine blk_put (cs := #[.int .i64 a0_0, .int .i64 a0_1, .int .i64 0]) ?_ 2 _ rfl; (with_reducible repeat (first | refine blk_drewN ?_ _ | refine blk_drew ?_ | refine blk_alloc ?_ _)); refine blk_put (cs := #[.int .i64 a0_0, .int .i64 0, .int .i64 0]) ?_ 1 _ rfl; (with_reducible repeat (first | refine blk_drewN ?_ _ | refine blk_drew ?_ | refine blk_alloc ?_ _)); refine blk_put (cs := #[.int .i64 0, .int .i64 0, .int .i64 0]) ?_ 0 _ rfl; (with_reducible repeat (first | refine blk_drewN ?_ _ | refine blk_drew ?_ | refine blk_alloc ?_ _)); refine blk_far ?_ NB1443_1444.out _; (with_reducible repeat (first | refine blk_drewN ?_ _ | refine blk_drew ?_ | refine blk_alloc ?_ _)); refine blk_far ?_ NB1443_1444.out _; (with_reducible repeat (first | refine blk_drewN ?_ _ | refine blk_drew ?_ | refine blk_alloc ?_ _)); refine blk_far ?_ NB1443_1444.out _; (with_reducible repeat (first | refine blk_drewN ?_ _ | refine blk_drew ?_ | refine blk_alloc ?_ _)); exact BK1443.out) Try.underlying41 rfl (by kernel_rfl)) rfl ?_
  exact ⟨by first | rfl | (simp [errW_none, errW_some] <;> rfl) | (simp [*, errW_none, errW_some] <;> rfl), by repeat (first | (with_reducible first | exact HB.out | apply below_alloc | apply pw_below_drewN | apply below_drew1 | refine below_set ?_ GE1442.out | refine below_set ?_ GE1443.out | refine below_set ?_ GE1444.out) | exact HB.out)⟩

/-! ### laws_toBatSigS: function 60 -/
def laws_toBatSigS.l0 : Nat → List (S156) → List (S41) → Int → Option ((List (S41)))
  | 0, _, _, _ => none
  | k + 1, x0, x3, x4 => if x4 < (x0.length : Int) then (if 0 ≤ x4 then ((laws_toBatSig.f ((rd_T156 x0 x4).f0) ((rd_T156 x0 x4).f1) ((rd_T156 x0 x4).f2)).bind fun bt1449 => (if x4 < (x3.length : Int) then (laws_toBatSigS.l0 k x0 (x3.set (x4 : Int).toNat (⟨bt1449.1, bt1449.2.1, bt1449.2.2⟩ : S41)) (wrap64 (x4 + 1))) else (none))) else (none)) else (some x3)
def laws_toBatSigS.f (k : Nat) (l0 : List (S156)) : Option ((List (S41))) := if 0 ≤ (l0.length : Int) then (if ((l0.length : Int) : Int).toNat ≤ 11728124029610 then (laws_toBatSigS.l0 k l0 (List.replicate ((l0.length : Int) : Int).toNat z41) 0) else (none)) else (none)
theorem laws_toBatSigS.mono_l : ∀ k, (∀ y0 y1 y2, LeO (laws_toBatSigS.l0 k y0 y1 y2) (laws_toBatSigS.l0 (k + 1) y0 y1 y2))
  | 0 => fun _ _ _ r h => by simp [laws_toBatSigS.l0] at h
  | k + 1 => by
    have ih0 := laws_toBatSigS.mono_l k
    · intro y0 y1 y2
      unfold laws_toBatSigS.l0
      repeat' first
      | (with_reducible exact ih0 _ _ _)
      | (with_reducible exact LeO.refl _)
      | (with_reducible exact LeO.none _)
      | (with_reducible refine LeO.ite ?_ ?_)
      | (with_reducible refine LeO.bind ?_ (fun _ => ?_))
      | exact ih0 _ _ _
      | exact LeO.none _
      | refine LeO.ite ?_ ?_
      | refine LeO.bind ?_ (fun _ => ?_)
theorem laws_toBatSigS.mono : ∀ a0 k, LeO (laws_toBatSigS.f k a0) (laws_toBatSigS.f (k + 1) a0) := by
  intro a0 k
  have ih0 := laws_toBatSigS.mono_l k
  unfold laws_toBatSigS.f
  repeat' first
      | (with_reducible exact ih0 _ _ _)
      | (with_reducible exact LeO.refl _)
      | (with_reducible exact LeO.none _)
      | (with_reducible refine LeO.ite ?_ ?_)
      | (with_reducible refine LeO.bind ?_ (fun _ => ?_))
      | exact ih0 _ _ _
      | exact LeO.none _
      | refine LeO.ite ?_ ?_
      | refine LeO.bind ?_ (fun _ => ?_)
set_option maxHeartbeats 8000000 in
set_option maxRecDepth 100000 in
theorem laws_toBatSigS.calls (k : Nat) (A0 : Option Addr) (c0 : Nat) (l0 : List (S156)) (r : List (S41)) (w : World) (hr0 : Kd.C k156 w A0 l0.length l0) (hc0 : l0.length ≤ c0) (h : laws_toBatSigS.f k l0 = some r) :
    Calls Try.prog 60 #[.slice A0 l0.length c0] w fun e w' => ∃ v0_ : Value, e = .returned (v0_) ∧ Kd.R k41 41 w' w.heap.size (fun _ => True) v0_ r ∧ Below w.heap.size w w' := by
  have hu156 := Try.underlying156
  have hu41 := Try.underlying41
  have HR0 := Aside0.mk hr0
  have HC0 := Aside0.mk hc0
  clear hr0 hc0
  have HB := Aside0.mk (Below.refl w.heap.size w)
  have H : (if 0 ≤ (l0.length : Int) then (if ((l0.length : Int) : Int).toNat ≤ 11728124029610 then (laws_toBatSigS.l0 k l0 (List.replicate ((l0.length : Int) : Int).toNat z41) 0) else (none)) else (none)) = some r := h
  clear h
  by_cases c2 : 0 ≤ (l0.length : Int)
  · rw [if_pos c2] at H
    have c2b0 := eq_true c2
    have c2b1 : decide (0 ≤ (l0.length : Int)) = true := decide_eq_true c2
    clear c2
    by_cases c3 : ((l0.length : Int) : Int).toNat ≤ 11728124029610
    · rw [if_pos c3] at H
      have c3b0 := eq_true c3
      have c3b1 : decide (((l0.length : Int) : Int).toNat ≤ 11728124029610) = true := decide_eq_true c3
      clear c3
      obtain ⟨y1445, hy1445⟩ : ∃ y_ : List (S41), y_ = (List.replicate ((l0.length : Int) : Int).toNat z41) := ⟨_, rfl⟩
      replace H : (laws_toBatSigS.l0 k l0 y1445 0) = some r := by first | (rw [hy1445]; with_reducible exact H) | (have H2_ := (Option.bind_some _ _).symm.trans H; rw [hy1445]; with_reducible exact H2_) | (have H2_ := (Option.bind_some _ _).symm.trans H; with_reducible exact H2_) | with_reducible exact H | (rw [hy1445]; exact H) | exact H
      have Ny1445 := Aside0.mk hy1445
      clear hy1445
      have H' := Aside0.mk H
      clear H
      go_enter Try.func60, Try.ntmps60
      go_wp2_with (first | ((with_reducible refine gate_dst (N := 7) rfl ?_); refine Kd.R_make k41 _ 41 rfl (N := 7) rfl 24 _ _ rfl (l0.length : Int) rfl rfl Try.underlying24 (.agg #[(.int .i64 0), (.int .i64 0), (.int .i64 0)]) 24 info41 rfl (by decide) (by omega) z41 (ok := fun _ => True) (okp := fun _ => True) (k41_mkM _ _ _ z41 ) (fun _ hk => hk) trivial (of_decide_eq_true (by first | (with_reducible assumption) | assumption)) (Nat.le_trans (Nat.mul_le_mul_right _ (of_decide_eq_true (by first | (with_reducible assumption) | assumption) : (l0.length : Int).toNat ≤ 11728124029610)) (by omega)) (Below.refl _ _) (Nat.le_refl _) ?_; intro v1446 w4 ho5 hb hg_ hnew_; clear hg_ hnew_; (first | rw [← Ny1445.out] at ho5 | (simp only [Int.reduceToNat] at ho5; rw [← Ny1445.out] at ho5)); have n0_ := Aside0.mk (Kd.R_lower ho5 (below_size (by repeat (first | (with_reducible first | exact HB.out | apply below_alloc | apply pw_below_drewN | apply below_drew1) | exact HB.out)))); have n1_ := Aside0.mk (below_step (by repeat (first | (with_reducible first | exact HB.out | apply below_alloc | apply pw_below_drewN | apply below_drew1) | exact HB.out)) hb); clear HB; have HO1447 := n0_; have HB := n1_; clear n0_ n1_; clear hb ho5))
      go_loopg [4] k (fun kq v4 w' => ∃ (x3_1 : List (S41)) (x4_1 : Int), v4 = .int .i64 x4_1 ∧ Aside0 (laws_toBatSigS.l0 kq l0 x3_1 x4_1 = some r) ∧ Aside0 (kq ≤ k) ∧ Aside0 (Kd.R k41 41 w' w.heap.size (fun _ => True) v1446 x3_1) ∧ Aside0 (Below w.heap.size w w'))
      case atStart => exact ⟨(y1445), (0), (by first | rfl | (simp; done) | (simp [*]; done)), H', ⟨Nat.le_refl _⟩, ⟨by (with_reducible repeat (first | apply Kd.R_alloc | apply Kd.R_drewN | apply Kd.R_drew)); exact HO1447.out⟩, ⟨by repeat (first | (with_reducible first | exact HB.out | apply below_alloc | apply pw_below_drewN | apply below_drew1) | exact HB.out)⟩⟩
      case round =>
        clear H'
        try clear c2
        try clear c2b0
        try clear c2b1
        try clear p2
        try clear c3
        try clear c3b0
        try clear c3b1
        obtain ⟨x3_1, x4_1, rfl, HA, HK1, HO_3, HB⟩ := hrel
        cases gk with
        | zero => exact absurd HA.out (by simp [laws_toBatSigS.l0])
        | succ k1 =>
          have H := HA.out
          clear HA
          simp only [laws_toBatSigS.l0] at H
          by_cases c6 : x4_1 < (l0.length : Int)
          · rw [if_pos c6] at H
            have c6b0 : decide (x4_1 < (l0.length : Int)) = true := decide_eq_true c6
            clear c6
            by_cases c7 : 0 ≤ x4_1
            · rw [if_pos c7] at H
              have c7b0 : decide (0 ≤ x4_1) = true := decide_eq_true c7
              clear c7
              replace H := Option.bind_eq_some_iff.mp H
              obtain ⟨⟨t1449, t1450, t1451⟩, A80, H⟩ := H
              replace H : (if x4_1 < (x3_1.length : Int) then (laws_toBatSigS.l0 k1 l0 (x3_1.set (x4_1 : Int).toNat (⟨t1449, t1450, t1451⟩ : S41)) (wrap64 (x4_1 + 1))) else (none)) = some r := H
              have A8 := Aside0.mk A80
              clear A80
              by_cases c9 : x4_1 < (x3_1.length : Int)
              · rw [if_pos c9] at H
                have c9b0 : decide (x4_1 < (x3_1.length : Int)) = true := decide_eq_true c9
                clear c9
                obtain ⟨y1452, hy1452⟩ : ∃ y_ : List (S41), y_ = (x3_1.set (x4_1 : Int).toNat (⟨t1449, t1450, t1451⟩ : S41)) := ⟨_, rfl⟩
                replace H : (laws_toBatSigS.l0 k1 l0 y1452 (wrap64 (x4_1 + 1))) = some r := by first | (rw [hy1452]; with_reducible exact H) | (have H2_ := (Option.bind_some _ _).symm.trans H; rw [hy1452]; with_reducible exact H2_) | (have H2_ := (Option.bind_some _ _).symm.trans H; with_reducible exact H2_) | with_reducible exact H | (rw [hy1452]; exact H) | exact H
                have Ny1452 := Aside0.mk hy1452
                clear hy1452
                have H' := Aside0.mk H
                clear H
                have p1448 : 0 ≤ (x4_1 : Int) := of_decide_eq_true (by first | (with_reducible assumption) | assumption)
                have q1448 : x4_1 < (l0.length : Int) := of_decide_eq_true (by first | (with_reducible assumption) | assumption)
                obtain ⟨ad1448, e1448, hx1448_0, hx1448_1, hx1448_2⟩ := at_T156 HR0.out x4_1 p1448 q1448
                cases e1448
                replace hx1448_0 := (HB.out.cell (World.block_lt_of_cell? w _ hx1448_0)).trans hx1448_0
                replace hx1448_1 := (HB.out.cell (World.block_lt_of_cell? w _ hx1448_1)).trans hx1448_1
                replace hx1448_2 := (HB.out.cell (World.block_lt_of_cell? w _ hx1448_2)).trans hx1448_2
                replace p1448 := eq_true p1448
                replace q1448 := eq_true q1448
                go_wp2_with (first | ((with_reducible refine gate_callee (f := 98) rfl ?_); refine goesL_ (some 20) rfl rfl Try.func98 (by kernel_rfl) rfl #[.agg #[.int .i64 ((rd_T156 l0 x4_1).f0), .int .i64 ((rd_T156 l0 x4_1).f1), .int .i64 ((rd_T156 l0 x4_1).f2)]] rfl (by (try simp only [List.map_toArray, List.map_cons, List.map_nil]); first | done | rfl | (simp only [List.length_drop, List.length_take]; rfl)) ?_; (with_reducible refine (laws_toBatSig.calls ((rd_T156 l0 x4_1).f0) ((rd_T156 l0 x4_1).f1) ((rd_T156 l0 x4_1).f2) t1449 t1450 t1451 _ A8.out).mono ?_); rintro e w11 ⟨rfl, hb⟩; refine ⟨_, rfl, ?_⟩; have n0_ := Aside0.mk (Kd.R_below (by (with_reducible repeat (first | apply Kd.R_alloc | apply Kd.R_drewN | apply Kd.R_drew)); exact HO_3.out) hb); have n1_ := Aside0.mk (below_step (by repeat (first | (with_reducible first | exact HB.out | apply below_alloc | apply pw_below_drewN | apply below_drew1) | exact HB.out)) hb); clear HO_3; clear HB; have HO_3 := n0_; have HB := n1_; clear n0_ n1_; (try clear hb); (try clear hb2); (try clear hk); (try clear hi); have p10 : 0 ≤ (x4_1 : Int) := of_decide_eq_true (by first | (with_reducible assumption) | assumption); have q10 : (x4_1 : Int) < ((x3_1.length : Int) : Int) := of_decide_eq_true (by first | (with_reducible assumption) | assumption); obtain ⟨go10, co10, eo10, gb10, gl10, cl10, HG10⟩ := Kd.R_form HO_3.out (by omega); (first | cases eo10 | (injection eo10 with ea_ en_ ec_; (first | subst ea_ | (injection ea_ with ea_; subst ea_)); subst ec_; clear en_)); have GB10 := Aside0.mk gb10; have GG10 := Aside0.mk HG10; clear gb10 gl10 HG10; obtain ⟨ce10, hcl10, hM10, hcc10, hfr10⟩ := Kd.R_elem HO_3.out z41 (x4_1 : Int) p10 q10; obtain rfl := k41_openM hM10; have hx10_0 : w11.cell? ⟨go10, (x4_1 : Int).toNat * 3, none⟩ = some (.int .i64 ((rd_T41 x3_1 x4_1).f0)) := hcc10 0 _ rfl; have hx10_1 : w11.cell? ⟨go10, (x4_1 : Int).toNat * 3 + 1, none⟩ = some (.int .i64 ((rd_T41 x3_1 x4_1).f1)) := hcc10 1 _ rfl; have hx10_2 : w11.cell? ⟨go10, (x4_1 : Int).toNat * 3 + 2, none⟩ = some (.int .i64 ((rd_T41 x3_1 x4_1).f2)) := hcc10 2 _ rfl; have hf10_0 : w11.frozen? ⟨go10, (x4_1 : Int).toNat * 3, none⟩ = false := hfr10 0; have hf10_1 : w11.frozen? ⟨go10, (x4_1 : Int).toNat * 3 + 1, none⟩ = false := hfr10 1; have hf10_2 : w11.frozen? ⟨go10, (x4_1 : Int).toNat * 3 + 2, none⟩ = false := hfr10 2; clear hcl10 hcc10 hfr10 hM10; replace p10 := eq_true p10; replace q10 := eq_true q10; have HX12 := Aside0.mk (show Kd.R k41 41 w11 w.heap.size (fun _ => True) (.slice (some ⟨go10, 0, none⟩) x3_1.length co10) x3_1 from (by (with_reducible repeat (first | apply Kd.R_alloc | apply Kd.R_drewN | apply Kd.R_drew)); exact HO_3.out)); obtain ⟨ce12, hcl12, hM12, hcc12, hfr12⟩ := Kd.R_elem HX12.out z41 (x4_1 : Int) (of_decide_eq_true (by first | (with_reducible assumption) | assumption)) (by have h_ : (x4_1 : Int) < ((x3_1.length : Int) : Int) := of_decide_eq_true (by first | (with_reducible assumption) | assumption); first | exact h_ | (have e_ := (Kd.R_reads' HO_3.out).1; omega) | simpa using h_); obtain rfl := k41_openM hM12; have HP12 := Kd.R_seg HX12.out (x4_1 : Int) (of_decide_eq_true (by first | (with_reducible assumption) | assumption)) (by have h_ : (x4_1 : Int) < ((x3_1.length : Int) : Int) := of_decide_eq_true (by first | (with_reducible assumption) | assumption); first | exact h_ | (have e_ := (Kd.R_reads' HO_3.out).1; omega) | simpa using h_) (seg := [.int .i64 t1449, .int .i64 t1450, .int .i64 t1451]) (j := 0) hcl12 hcc12 (show 3 ≤ 3 from by decide) (x' := (⟨t1449, t1450, t1451⟩ : S41)) (k41_mkM _ _ _ (⟨t1449, t1450, t1451⟩ : S41) ) (fun _ hk => hk); have hx12_0 := hcc12 0 _ rfl; (try simp only [show (k41).sz = 3 from rfl, Nat.mul_one, Nat.add_zero] at hx12_0); have hf12_0 := hfr12 0; (try simp only [show (k41).sz = 3 from rfl, Nat.mul_one, Nat.add_zero] at hf12_0); have hx12_1 := hcc12 1 _ rfl; (try simp only [show (k41).sz = 3 from rfl, Nat.mul_one, Nat.add_zero] at hx12_1); have hf12_1 := hfr12 1; (try simp only [show (k41).sz = 3 from rfl, Nat.mul_one, Nat.add_zero] at hf12_1); have hx12_2 := hcc12 2 _ rfl; (try simp only [show (k41).sz = 3 from rfl, Nat.mul_one, Nat.add_zero] at hx12_2); have hf12_2 := hfr12 2; (try simp only [show (k41).sz = 3 from rfl, Nat.mul_one, Nat.add_zero] at hf12_2); clear hcl12 hcc12 hfr12 hM12) | ((with_reducible refine gate_store (t := 41) (p := 21) rfl ?_); refine store_event (t := 41) (p := 21) (v := ?vo_w13) (w1 := (((w11.setCell ⟨go10, (x4_1 : Int).toNat * 3, none⟩ (.int .i64 t1449)).setCell ⟨go10, (x4_1 : Int).toNat * 3 + 1, none⟩ (.int .i64 t1450)).setCell ⟨go10, (x4_1 : Int).toNat * 3 + 2, none⟩ (.int .i64 t1451))) ?hg ?ho ?hn ?hr ?_; (case ho => rfl); (case hg => rfl); (case hn => rfl); (case hr => first | (go_simp; done) | (go_simp; rfl)); intro w13 hw; have hg : w11.grownBy w13 (some go10) := (by rw [hw]; exact HP12.2); have hp_ : Kd.R k41 41 w13 w.heap.size (fun _ => True) (.slice (some ⟨go10, 0, none⟩) x3_1.length co10) y1452 := (by rw [hw, Ny1452.out]; exact HP12.1); clear HP12; have n0_ := Aside0.mk (hp_); have n1_ := Aside0.mk ((by rw [hw]; exact below_set (below_set (below_set (HB.out) GB10.out) GB10.out) GB10.out : Below w.heap.size w w13)); clear HO_3; clear HB; have HO_3 := n0_; have HB := n1_; clear n0_ n1_; clear hg hw hp_))
                go_roundg k1
                case measure => have := HK1.out; omega
                case rel => exact ⟨(y1452), (wrap64 (x4_1 + 1)), (by first | rfl | (simp; done) | (simp [*]; done)), H', ⟨by have := HK1.out; omega⟩, ⟨by (with_reducible repeat (first | apply Kd.R_alloc | apply Kd.R_drewN | apply Kd.R_drew)); exact HO_3.out⟩, ⟨by repeat (first | (with_reducible first | exact HB.out | apply below_alloc | apply pw_below_drewN | apply below_drew1) | exact HB.out)⟩⟩
              · rw [if_neg c9] at H
                exact absurd H (by simp)
            · rw [if_neg c7] at H
              exact absurd H (by simp)
          · rw [if_neg c6] at H
            have c6b0 : decide (x4_1 < (l0.length : Int)) = false := decide_eq_false c6
            clear c6
            obtain rfl := Option.some.inj H
            go_wp2
            go_ret
            exact ⟨_, by first | rfl | (simp [errW_none, errW_some] <;> rfl) | (simp [*, errW_none, errW_some] <;> rfl), by (with_reducible repeat (first | apply Kd.R_alloc | apply Kd.R_drewN | apply Kd.R_drew)); exact HO_3.out, by repeat (first | (with_reducible first | exact HB.out | apply below_alloc | apply pw_below_drewN | apply below_drew1) | exact HB.out)⟩
    · rw [if_neg c3] at H
      exact absurd H (by simp)
  · rw [if_neg c2] at H
    exact absurd H (by simp)

/-! ### laws_toBoolS: function 61 -/
def laws_toBoolS.l0 : Nat → List Bool → List Bool → Int → Option (List Bool)
  | 0, _, _, _ => none
  | k + 1, x0, x3, x4 => if x4 < (x0.length : Int) then (if 0 ≤ x4 then (if x4 < (x3.length : Int) then (laws_toBoolS.l0 k x0 (x3.set (x4 : Int).toNat (rdOf false x0 x4)) (wrap64 (x4 + 1))) else (none)) else (none)) else (some x3)
def laws_toBoolS.f (k : Nat) (l0 : List Bool) : Option (List Bool) := if 0 ≤ (l0.length : Int) then (if ((l0.length : Int) : Int).toNat ≤ 281474976710656 then (laws_toBoolS.l0 k l0 (List.replicate ((l0.length : Int) : Int).toNat false) 0) else (none)) else (none)
theorem laws_toBoolS.mono_l : ∀ k, (∀ y0 y1 y2, LeO (laws_toBoolS.l0 k y0 y1 y2) (laws_toBoolS.l0 (k + 1) y0 y1 y2))
  | 0 => fun _ _ _ r h => by simp [laws_toBoolS.l0] at h
  | k + 1 => by
    have ih0 := laws_toBoolS.mono_l k
    · intro y0 y1 y2
      unfold laws_toBoolS.l0
      repeat' first
      | (with_reducible exact ih0 _ _ _)
      | (with_reducible exact LeO.refl _)
      | (with_reducible exact LeO.none _)
      | (with_reducible refine LeO.ite ?_ ?_)
      | (with_reducible refine LeO.bind ?_ (fun _ => ?_))
      | exact ih0 _ _ _
      | exact LeO.none _
      | refine LeO.ite ?_ ?_
      | refine LeO.bind ?_ (fun _ => ?_)
theorem laws_toBoolS.mono : ∀ a0 k, LeO (laws_toBoolS.f k a0) (laws_toBoolS.f (k + 1) a0) := by
  intro a0 k
  have ih0 := laws_toBoolS.mono_l k
  unfold laws_toBoolS.f
  repeat' first
      | (with_reducible exact ih0 _ _ _)
      | (with_reducible exact LeO.refl _)
      | (with_reducible exact LeO.none _)
      | (with_reducible refine LeO.ite ?_ ?_)
      | (with_reducible refine LeO.bind ?_ (fun _ => ?_))
      | exact ih0 _ _ _
      | exact LeO.none _
      | refine LeO.ite ?_ ?_
      | refine LeO.bind ?_ (fun _ => ?_)
set_option maxHeartbeats 8000000 in
set_option maxRecDepth 100000 in
theorem laws_toBoolS.calls (k : Nat) (A0 : Option Addr) (c0 : Nat) (l0 : List Bool) (r : List Bool) (w : World) (hr0 : Kd.C Kd.bool w A0 l0.length l0) (hc0 : l0.length ≤ c0) (h : laws_toBoolS.f k l0 = some r) :
    Calls Try.prog 61 #[.slice A0 l0.length c0] w fun e w' => ∃ v0_ : Value, e = .returned (v0_) ∧ Kd.R Kd.bool 4 w' w.heap.size (fun _ => True) v0_ r ∧ Below w.heap.size w w' := by
  have HR0 := Aside0.mk hr0
  have HC0 := Aside0.mk hc0
  clear hr0 hc0
  have HB := Aside0.mk (Below.refl w.heap.size w)
  have H : (if 0 ≤ (l0.length : Int) then (if ((l0.length : Int) : Int).toNat ≤ 281474976710656 then (laws_toBoolS.l0 k l0 (List.replicate ((l0.length : Int) : Int).toNat false) 0) else (none)) else (none)) = some r := h
  clear h
  by_cases c2 : 0 ≤ (l0.length : Int)
  · rw [if_pos c2] at H
    have c2b0 := eq_true c2
    have c2b1 : decide (0 ≤ (l0.length : Int)) = true := decide_eq_true c2
    clear c2
    by_cases c3 : ((l0.length : Int) : Int).toNat ≤ 281474976710656
    · rw [if_pos c3] at H
      have c3b0 := eq_true c3
      have c3b1 : decide (((l0.length : Int) : Int).toNat ≤ 281474976710656) = true := decide_eq_true c3
      clear c3
      obtain ⟨y1453, hy1453⟩ : ∃ y_ : List Bool, y_ = (List.replicate ((l0.length : Int) : Int).toNat false) := ⟨_, rfl⟩
      replace H : (laws_toBoolS.l0 k l0 y1453 0) = some r := by first | (rw [hy1453]; with_reducible exact H) | (have H2_ := (Option.bind_some _ _).symm.trans H; rw [hy1453]; with_reducible exact H2_) | (have H2_ := (Option.bind_some _ _).symm.trans H; with_reducible exact H2_) | with_reducible exact H | (rw [hy1453]; exact H) | exact H
      have Ny1453 := Aside0.mk hy1453
      clear hy1453
      have H' := Aside0.mk H
      clear H
      go_enter Try.func61, Try.ntmps61
      go_wp2_with (first | ((with_reducible refine gate_dst (N := 7) rfl ?_); refine Kd.R_make Kd.bool _ 4 rfl (N := 7) rfl 25 _ _ rfl (l0.length : Int) rfl rfl Try.underlying25 (.bool false) 1 info4 rfl (by decide) (by omega) false (ok := fun _ => True) (okp := fun _ => True) rfl (fun _ hk => hk) trivial (of_decide_eq_true (by first | (with_reducible assumption) | assumption)) (Nat.le_trans (Nat.mul_le_mul_right _ (of_decide_eq_true (by first | (with_reducible assumption) | assumption) : (l0.length : Int).toNat ≤ 281474976710656)) (by omega)) (Below.refl _ _) (Nat.le_refl _) ?_; intro v1454 w4 ho5 hb hg_ hnew_; clear hg_ hnew_; (first | rw [← Ny1453.out] at ho5 | (simp only [Int.reduceToNat] at ho5; rw [← Ny1453.out] at ho5)); have n0_ := Aside0.mk (Kd.R_lower ho5 (below_size (by repeat (first | (with_reducible first | exact HB.out | apply below_alloc | apply pw_below_drewN | apply below_drew1) | exact HB.out)))); have n1_ := Aside0.mk (below_step (by repeat (first | (with_reducible first | exact HB.out | apply below_alloc | apply pw_below_drewN | apply below_drew1) | exact HB.out)) hb); clear HB; have HO1455 := n0_; have HB := n1_; clear n0_ n1_; clear hb ho5))
      go_loopg [4] k (fun kq v4 w' => ∃ (x3_1 : List Bool) (x4_1 : Int), v4 = .int .i64 x4_1 ∧ Aside0 (laws_toBoolS.l0 kq l0 x3_1 x4_1 = some r) ∧ Aside0 (kq ≤ k) ∧ Aside0 (Kd.R Kd.bool 4 w' w.heap.size (fun _ => True) v1454 x3_1) ∧ Aside0 (Below w.heap.size w w'))
      case atStart => exact ⟨(y1453), (0), (by first | rfl | (simp; done) | (simp [*]; done)), H', ⟨Nat.le_refl _⟩, ⟨by (with_reducible repeat (first | apply Kd.R_alloc | apply Kd.R_drewN | apply Kd.R_drew)); exact HO1455.out⟩, ⟨by repeat (first | (with_reducible first | exact HB.out | apply below_alloc | apply pw_below_drewN | apply below_drew1) | exact HB.out)⟩⟩
      case round =>
        clear H'
        try clear c2
        try clear c2b0
        try clear c2b1
        try clear p2
        try clear c3
        try clear c3b0
        try clear c3b1
        obtain ⟨x3_1, x4_1, rfl, HA, HK1, HO_3, HB⟩ := hrel
        cases gk with
        | zero => exact absurd HA.out (by simp [laws_toBoolS.l0])
        | succ k1 =>
          have H := HA.out
          clear HA
          simp only [laws_toBoolS.l0] at H
          by_cases c6 : x4_1 < (l0.length : Int)
          · rw [if_pos c6] at H
            have c6b0 : decide (x4_1 < (l0.length : Int)) = true := decide_eq_true c6
            clear c6
            by_cases c7 : 0 ≤ x4_1
            · rw [if_pos c7] at H
              have c7b0 : decide (0 ≤ x4_1) = true := decide_eq_true c7
              clear c7
              by_cases c8 : x4_1 < (x3_1.length : Int)
              · rw [if_pos c8] at H
                have c8b0 : decide (x4_1 < (x3_1.length : Int)) = true := decide_eq_true c8
                clear c8
                obtain ⟨y1457, hy1457⟩ : ∃ y_ : List Bool, y_ = (x3_1.set (x4_1 : Int).toNat (rdOf false l0 x4_1)) := ⟨_, rfl⟩
                replace H : (laws_toBoolS.l0 k1 l0 y1457 (wrap64 (x4_1 + 1))) = some r := by first | (rw [hy1457]; with_reducible exact H) | (have H2_ := (Option.bind_some _ _).symm.trans H; rw [hy1457]; with_reducible exact H2_) | (have H2_ := (Option.bind_some _ _).symm.trans H; with_reducible exact H2_) | with_reducible exact H | (rw [hy1457]; exact H) | exact H
                have Ny1457 := Aside0.mk hy1457
                clear hy1457
                have H' := Aside0.mk H
                clear H
                have p1456 : 0 ≤ (x4_1 : Int) := of_decide_eq_true (by first | (with_reducible assumption) | assumption)
                have q1456 : x4_1 < (l0.length : Int) := of_decide_eq_true (by first | (with_reducible assumption) | assumption)
                obtain ⟨ad1456, e1456, hx1456_0⟩ := Kd.at_bool HR0.out x4_1 p1456 q1456
                cases e1456
                replace hx1456_0 := (HB.out.cell (World.block_lt_of_cell? w _ hx1456_0)).trans hx1456_0
                replace p1456 := eq_true p1456
                replace q1456 := eq_true q1456
                have p9 : 0 ≤ (x4_1 : Int) := of_decide_eq_true (by first | (with_reducible assumption) | assumption)
                have q9 : (x4_1 : Int) < ((x3_1.length : Int) : Int) := of_decide_eq_true (by first | (with_reducible assumption) | assumption)
                obtain ⟨go9, co9, eo9, gb9, gl9, cl9, HG9⟩ := Kd.R_form HO_3.out (by omega)
                (first | cases eo9 | (injection eo9 with ea_ en_ ec_; (first | subst ea_ | (injection ea_ with ea_; subst ea_)); subst ec_; clear en_))
                have GB9 := Aside0.mk gb9
                have GG9 := Aside0.mk HG9
                clear gb9 gl9 HG9
                obtain ⟨hx9_0, hf9_0⟩ := Kd.R_celln false HO_3.out (x4_1 : Int) p9 q9
                replace p9 := eq_true p9
                replace q9 := eq_true q9
                have HP10 := Kd.R_putg HO_3.out (x4_1 : Int) (rdOf false l0 x4_1)
                go_wp2_with (first | ((with_reducible refine gate_store (t := 4) (p := 20) rfl ?_); refine store_event (t := 4) (p := 20) (v := ?vo_w11) (w1 := (wr.setCell ⟨go9, (x4_1 : Int).toNat, none⟩ (.bool (rdOf false l0 x4_1)))) ?hg ?ho ?hn ?hr ?_; (case ho => rfl); (case hg => rfl); (case hn => rfl); (case hr => first | (go_simp; done) | (go_simp; rfl)); intro w11 hw; have hg : wr.grownBy w11 (some go9) := (by rw [hw]; exact HP10.2); have hp_ : Kd.R Kd.bool 4 w11 w.heap.size (fun _ => True) (.slice (some ⟨go9, 0, none⟩) x3_1.length co9) y1457 := (by rw [hw, Ny1457.out]; exact HP10.1); clear HP10; have n0_ := Aside0.mk (hp_); have n1_ := Aside0.mk ((by rw [hw]; exact below_set (HB.out) GB9.out : Below w.heap.size w w11)); clear HO_3; clear HB; have HO_3 := n0_; have HB := n1_; clear n0_ n1_; clear hg hw hp_))
                go_roundg k1
                case measure => have := HK1.out; omega
                case rel => exact ⟨(y1457), (wrap64 (x4_1 + 1)), (by first | rfl | (simp; done) | (simp [*]; done)), H', ⟨by have := HK1.out; omega⟩, ⟨by (with_reducible repeat (first | apply Kd.R_alloc | apply Kd.R_drewN | apply Kd.R_drew)); exact HO_3.out⟩, ⟨by repeat (first | (with_reducible first | exact HB.out | apply below_alloc | apply pw_below_drewN | apply below_drew1) | exact HB.out)⟩⟩
              · rw [if_neg c8] at H
                exact absurd H (by simp)
            · rw [if_neg c7] at H
              exact absurd H (by simp)
          · rw [if_neg c6] at H
            have c6b0 : decide (x4_1 < (l0.length : Int)) = false := decide_eq_false c6
            clear c6
            obtain rfl := Option.some.inj H
            go_wp2
            go_ret
            exact ⟨_, by first | rfl | (simp [errW_none, errW_some] <;> rfl) | (simp [*, errW_none, errW_some] <;> rfl), by (with_reducible repeat (first | apply Kd.R_alloc | apply Kd.R_drewN | apply Kd.R_drew)); exact HO_3.out, by repeat (first | (with_reducible first | exact HB.out | apply below_alloc | apply pw_below_drewN | apply below_drew1) | exact HB.out)⟩
    · rw [if_neg c3] at H
      exact absurd H (by simp)
  · rw [if_neg c2] at H
    exact absurd H (by simp)

/-! ### laws_toBatBatch: function 26 -/
def laws_toBatBatch.f (k : Nat) (a0_0 : Int) (a0_1 : Int) (l0_2 : List (S153)) (a0_3 : Int) (l0_4 : List (S156)) (l0_5 : List Bool) : Option (Int × Int × (List (S86)) × Int × (List (S41)) × List Bool) := (laws_toTstTestS.f k l0_2).bind fun t1461 => ((laws_toBatSigS.f k l0_4).bind fun t1464 => ((laws_toBoolS.f k l0_5).bind fun t1467 => (some (a0_0, a0_1, t1461, a0_3, t1464, t1467))))
theorem laws_toBatBatch.mono : ∀ a0 a1 a2 a3 a4 a5 k, LeO (laws_toBatBatch.f k a0 a1 a2 a3 a4 a5) (laws_toBatBatch.f (k + 1) a0 a1 a2 a3 a4 a5) := by
  intro a0 a1 a2 a3 a4 a5 k
  unfold laws_toBatBatch.f
  repeat' first
      | (with_reducible exact laws_toBatSigS.mono _ _)
      | (with_reducible exact laws_toBoolS.mono _ _)
      | (with_reducible exact laws_toTstTestS.mono _ _)
      | (with_reducible exact LeO.refl _)
      | (with_reducible exact LeO.none _)
      | (with_reducible refine LeO.ite ?_ ?_)
      | (with_reducible refine LeO.bind ?_ (fun _ => ?_))
      | exact laws_toBatSigS.mono _ _
      | exact laws_toBoolS.mono _ _
      | exact laws_toTstTestS.mono _ _
      | exact LeO.none _
      | refine LeO.ite ?_ ?_
      | refine LeO.bind ?_ (fun _ => ?_)
set_option maxHeartbeats 8000000 in
set_option maxRecDepth 100000 in
theorem laws_toBatBatch.calls (k : Nat) (a0_0 : Int) (a0_1 : Int) (A0_2 : Option Addr) (c0_2 : Nat) (l0_2 : List (S153)) (a0_3 : Int) (A0_4 : Option Addr) (c0_4 : Nat) (l0_4 : List (S156)) (A0_5 : Option Addr) (c0_5 : Nat) (l0_5 : List Bool) (r1 : Int) (r2 : Int) (r3 : List (S86)) (r4 : Int) (r5 : List (S41)) (r6 : List Bool) (w : World) (hr0_2 : Kd.C k153 w A0_2 l0_2.length l0_2) (hc0_2 : l0_2.length ≤ c0_2) (hr0_4 : Kd.C k156 w A0_4 l0_4.length l0_4) (hc0_4 : l0_4.length ≤ c0_4) (hr0_5 : Kd.C Kd.bool w A0_5 l0_5.length l0_5) (hc0_5 : l0_5.length ≤ c0_5) (h : laws_toBatBatch.f k a0_0 a0_1 l0_2 a0_3 l0_4 l0_5 = some (r1, r2, r3, r4, r5, r6)) :
    Calls Try.prog 26 #[.agg #[.int .i64 a0_0, .int .i64 a0_1, .slice A0_2 l0_2.length c0_2, .int .i64 a0_3, .slice A0_4 l0_4.length c0_4, .slice A0_5 l0_5.length c0_5]] w fun e w' => ∃ v2_ v4_ v5_ : Value, e = .returned (.agg #[.int .i64 r1, .int .i64 r2, v2_, .int .i64 r4, v4_, v5_]) ∧ Kd.S k86 86 w' w.heap.size (fun _ => True) v2_ r3 ∧ Kd.R k41 41 w' w.heap.size (fun _ => True) v4_ r5 ∧ Kd.R Kd.bool 4 w' w.heap.size (fun _ => True) v5_ r6 ∧ Below w.heap.size w w' := by
  have hu50 := Try.underlying50
  have hu27 := Try.underlying27
  have HR0_2 := Aside0.mk hr0_2
  have HC0_2 := Aside0.mk hc0_2
  clear hr0_2 hc0_2
  have HR0_4 := Aside0.mk hr0_4
  have HC0_4 := Aside0.mk hc0_4
  clear hr0_4 hc0_4
  have HR0_5 := Aside0.mk hr0_5
  have HC0_5 := Aside0.mk hc0_5
  clear hr0_5 hc0_5
  have HB := Aside0.mk (Below.refl w.heap.size w)
  have H : ((laws_toTstTestS.f k l0_2).bind fun t1461 => ((laws_toBatSigS.f k l0_4).bind fun t1464 => ((laws_toBoolS.f k l0_5).bind fun t1467 => (some (a0_0, a0_1, t1461, a0_3, t1464, t1467))))) = some (r1, r2, r3, r4, r5, r6) := h
  clear h
  replace H := Option.bind_eq_some_iff.mp H
  obtain ⟨t1461, A20, H⟩ := H
  replace H : ((laws_toBatSigS.f k l0_4).bind fun t1464 => ((laws_toBoolS.f k l0_5).bind fun t1467 => (some (a0_0, a0_1, t1461, a0_3, t1464, t1467)))) = some (r1, r2, r3, r4, r5, r6) := H
  have A2 := Aside0.mk A20
  clear A20
  replace H := Option.bind_eq_some_iff.mp H
  obtain ⟨t1464, A30, H⟩ := H
  replace H : ((laws_toBoolS.f k l0_5).bind fun t1467 => (some (a0_0, a0_1, t1461, a0_3, t1464, t1467))) = some (r1, r2, r3, r4, r5, r6) := H
  have A3 := Aside0.mk A30
  clear A30
  replace H := Option.bind_eq_some_iff.mp H
  obtain ⟨t1467, A40, H⟩ := H
  replace H : (some (a0_0, a0_1, t1461, a0_3, t1464, t1467)) = some (r1, r2, r3, r4, r5, r6) := H
  have A4 := Aside0.mk A40
  clear A40
  simp only [Option.some.injEq, Prod.mk.injEq] at H
  obtain ⟨rfl, rfl, rfl, rfl, rfl, rfl⟩ := H
  go_enter Try.func26, Try.ntmps26
  go_wp2_with (first | ((with_reducible refine gate_dst (N := 1) rfl ?_); refine box_event ?hg (N := 1) ?hd (cs := #[.int .i64 a0_0, .int .i64 a0_1, .slice A0_2 l0_2.length c0_2, .int .i64 a0_3, .slice A0_4 l0_4.length c0_4, .slice A0_5 l0_5.length c0_5]) (t := 50) ?hr ?_; (case hd => rfl); (case hg => rfl); (case hr => first | (go_simp; done) | (go_simp; rfl)); intro gb1458 hg w5 hbox hb; have n0_ := Aside0.mk (below_step (by repeat (first | (with_reducible first | exact HB.out | apply below_alloc | apply pw_below_drewN | apply below_drew1) | exact HB.out)) hb); have n1_ := Aside0.mk (hbox); have n2_ := Aside0.mk ((by rw [hg]; exact (below_size (by repeat (first | (with_reducible first | exact HB.out | apply below_alloc | apply pw_below_drewN | apply below_drew1) | exact HB.out))) : w.heap.size ≤ gb1458)); have n3_ := Aside0.mk ((by rw [hg]; exact (below_size (by repeat (first | (with_reducible first | exact HB.out | apply below_alloc | apply pw_below_drewN | apply below_drew1) | exact HB.out))) : w.heap.size ≤ gb1458)); clear HB; have HB := n0_; have BK1458 := n1_; have GW1458 := n2_; have GE1458 := n3_; clear n0_ n1_ n2_ n3_; clear hb hbox hg) | ((with_reducible refine gate_dst (N := 2) rfl ?_); refine box_event ?hg (N := 2) ?hd (cs := #[.int .i64 0, .int .i64 0, .slice none 0 0, .int .i64 0, .slice none 0 0, .slice none 0 0]) (t := 27) ?hr ?_; (case hd => rfl); (case hg => rfl); (case hr => first | (go_simp; done) | (go_simp; rfl)); intro gb1459 hg w6 hbox hb; have n0_ := Aside0.mk (blk_below (g := gb1458) (o := .cells #[.int .i64 a0_0, .int .i64 a0_1, .slice A0_2 l0_2.length c0_2, .int .i64 a0_3, .slice A0_4 l0_4.length c0_4, .slice A0_5 l0_5.length c0_5] 50 (0, 0)) (by (with_reducible repeat (first | refine blk_drewN ?_ _ | refine blk_drew ?_ | refine blk_alloc ?_ _)); exact BK1458.out) hb); have n1_ := Aside0.mk (below_step (by repeat (first | (with_reducible first | exact HB.out | apply below_alloc | apply pw_below_drewN | apply below_drew1 | refine below_set ?_ GE1458.out) | exact HB.out)) hb); have n2_ := Aside0.mk (hbox); have n3_ := Aside0.mk ((by rw [hg]; exact (below_size (by repeat (first | (with_reducible first | exact HB.out | apply below_alloc | apply pw_below_drewN | apply below_drew1 | refine below_set ?_ GE1458.out) | exact HB.out))) : w.heap.size ≤ gb1459)); have n4_ := Aside0.mk ((by rw [hg]; exact (below_size (by repeat (first | (with_reducible first | exact HB.out | apply below_alloc | apply pw_below_drewN | apply below_drew1 | refine below_set ?_ GE1458.out) | exact HB.out))) : w.heap.size ≤ gb1459)); have n5_ := Aside0.mk ((by rw [hg]; exact Nat.ne_of_lt (blk_lt (g := gb1458) (o := .cells #[.int .i64 a0_0, .int .i64 a0_1, .slice A0_2 l0_2.length c0_2, .int .i64 a0_3, .slice A0_4 l0_4.length c0_4, .slice A0_5 l0_5.length c0_5] 50 (0, 0)) (by (with_reducible repeat (first | refine blk_drewN ?_ _ | refine blk_drew ?_ | refine blk_alloc ?_ _)); exact BK1458.out)) : gb1458 ≠ gb1459)); have n6_ := Aside0.mk ((by rw [hg]; exact Nat.ne_of_gt (blk_lt (g := gb1458) (o := .cells #[.int .i64 a0_0, .int .i64 a0_1, .slice A0_2 l0_2.length c0_2, .int .i64 a0_3, .slice A0_4 l0_4.length c0_4, .slice A0_5 l0_5.length c0_5] 50 (0, 0)) (by (with_reducible repeat (first | refine blk_drewN ?_ _ | refine blk_drew ?_ | refine blk_alloc ?_ _)); exact BK1458.out)) : gb1459 ≠ gb1458)); clear BK1458; clear HB; have BK1458 := n0_; have HB := n1_; have BK1459 := n2_; have GW1459 := n3_; have GE1459 := n4_; have NB1458_1459 := n5_; have NB1459_1458 := n6_; clear n0_ n1_ n2_ n3_ n4_ n5_ n6_; clear hb hbox hg) | ((with_reducible refine gate_dst (N := 3) rfl ?_); refine box_event ?hg (N := 3) ?hd (cs := #[.int .i64 0, .int .i64 0, .slice none 0 0, .int .i64 0, .slice none 0 0, .slice none 0 0]) (t := 27) ?hr ?_; (case hd => rfl); (case hg => rfl); (case hr => first | (go_simp; done) | (go_simp; rfl)); intro gb1460 hg w7 hbox hb; have n0_ := Aside0.mk (blk_below (g := gb1458) (o := .cells #[.int .i64 a0_0, .int .i64 a0_1, .slice A0_2 l0_2.length c0_2, .int .i64 a0_3, .slice A0_4 l0_4.length c0_4, .slice A0_5 l0_5.length c0_5] 50 (0, 0)) (by (with_reducible repeat (first | refine blk_drewN ?_ _ | refine blk_drew ?_ | refine blk_alloc ?_ _)); exact BK1458.out) hb); have n1_ := Aside0.mk (blk_below (g := gb1459) (o := .cells #[.int .i64 0, .int .i64 0, .slice none 0 0, .int .i64 0, .slice none 0 0, .slice none 0 0] 27 (0, 0)) (by (with_reducible repeat (first | refine blk_drewN ?_ _ | refine blk_drew ?_ | refine blk_alloc ?_ _)); exact BK1459.out) hb); have n2_ := Aside0.mk (below_step (by repeat (first | (with_reducible first | exact HB.out | apply below_alloc | apply pw_below_drewN | apply below_drew1 | refine below_set ?_ GE1458.out | refine below_set ?_ GE1459.out) | exact HB.out)) hb); have n3_ := Aside0.mk (hbox); have n4_ := Aside0.mk ((by rw [hg]; exact (below_size (by repeat (first | (with_reducible first | exact HB.out | apply below_alloc | apply pw_below_drewN | apply below_drew1 | refine below_set ?_ GE1458.out | refine below_set ?_ GE1459.out) | exact HB.out))) : w.heap.size ≤ gb1460)); have n5_ := Aside0.mk ((by rw [hg]; exact (below_size (by repeat (first | (with_reducible first | exact HB.out | apply below_alloc | apply pw_below_drewN | apply below_drew1 | refine below_set ?_ GE1458.out | refine below_set ?_ GE1459.out) | exact HB.out))) : w.heap.size ≤ gb1460)); have n6_ := Aside0.mk ((by rw [hg]; exact Nat.ne_of_lt (blk_lt (g := gb1458) (o := .cells #[.int .i64 a0_0, .int .i64 a0_1, .slice A0_2 l0_2.length c0_2, .int .i64 a0_3, .slice A0_4 l0_4.length c0_4, .slice A0_5 l0_5.length c0_5] 50 (0, 0)) (by (with_reducible repeat (first | refine blk_drewN ?_ _ | refine blk_drew ?_ | refine blk_alloc ?_ _)); exact BK1458.out)) : gb1458 ≠ gb1460)); have n7_ := Aside0.mk ((by rw [hg]; exact Nat.ne_of_gt (blk_lt (g := gb1458) (o := .cells #[.int .i64 a0_0, .int .i64 a0_1, .slice A0_2 l0_2.length c0_2, .int .i64 a0_3, .slice A0_4 l0_4.length c0_4, .slice A0_5 l0_5.length c0_5] 50 (0, 0)) (by (with_reducible repeat (first | refine blk_drewN ?_ _ | refine blk_drew ?_ | refine blk_alloc ?_ _)); exact BK1458.out)) : gb1460 ≠ gb1458)); have n8_ := Aside0.mk ((by rw [hg]; exact Nat.ne_of_lt (blk_lt (g := gb1459) (o := .cells #[.int .i64 0, .int .i64 0, .slice none 0 0, .int .i64 0, .slice none 0 0, .slice none 0 0] 27 (0, 0)) (by (with_reducible repeat (first | refine blk_drewN ?_ _ | refine blk_drew ?_ | refine blk_alloc ?_ _)); exact BK1459.out)) : gb1459 ≠ gb1460)); have n9_ := Aside0.mk ((by rw [hg]; exact Nat.ne_of_gt (blk_lt (g := gb1459) (o := .cells #[.int .i64 0, .int .i64 0, .slice none 0 0, .int .i64 0, .slice none 0 0, .slice none 0 0] 27 (0, 0)) (by (with_reducible repeat (first | refine blk_drewN ?_ _ | refine blk_drew ?_ | refine blk_alloc ?_ _)); exact BK1459.out)) : gb1460 ≠ gb1459)); clear BK1458; clear BK1459; clear HB; have BK1458 := n0_; have BK1459 := n1_; have HB := n2_; have BK1460 := n3_; have GW1460 := n4_; have GE1460 := n5_; have NB1458_1460 := n6_; have NB1460_1458 := n7_; have NB1459_1460 := n8_; have NB1460_1459 := n9_; clear n0_ n1_ n2_ n3_ n4_ n5_ n6_ n7_ n8_ n9_; clear hb hbox hg; have hnb8 := NB1458_1459.out; have hnc8 := NB1459_1458.out; have hnb9 := NB1458_1460.out; have hnc9 := NB1460_1458.out; have hcz10_0 : w7.cell? ⟨gb1458, 0, none⟩ = some (.int .i64 a0_0) := (blk_cell BK1458.out 0).trans rfl; have hcz10_1 : w7.cell? ⟨gb1458, 1, none⟩ = some (.int .i64 a0_1) := (blk_cell BK1458.out 1).trans rfl; have hcz10_2 : w7.cell? ⟨gb1458, 2, none⟩ = some (.slice A0_2 l0_2.length c0_2) := (blk_cell BK1458.out 2).trans rfl; have hcz10_3 : w7.cell? ⟨gb1458, 3, none⟩ = some (.int .i64 a0_3) := (blk_cell BK1458.out 3).trans rfl; have hcz10_4 : w7.cell? ⟨gb1458, 4, none⟩ = some (.slice A0_4 l0_4.length c0_4) := (blk_cell BK1458.out 4).trans rfl; have hcz10_5 : w7.cell? ⟨gb1458, 5, none⟩ = some (.slice A0_5 l0_5.length c0_5) := (blk_cell BK1458.out 5).trans rfl; have hfz10_0 := blk_frozen BK1458.out 0; have hfz10_1 := blk_frozen BK1458.out 1; have hfz10_2 := blk_frozen BK1458.out 2; have hfz10_3 := blk_frozen BK1458.out 3; have hfz10_4 := blk_frozen BK1458.out 4; have hfz10_5 := blk_frozen BK1458.out 5; have hnb11 := NB1460_1459.out; have hnc11 := NB1459_1460.out; have hcz12_0 : w7.cell? ⟨gb1460, 0, none⟩ = some (.int .i64 0) := (blk_cell BK1460.out 0).trans rfl; have hcz12_1 : w7.cell? ⟨gb1460, 1, none⟩ = some (.int .i64 0) := (blk_cell BK1460.out 1).trans rfl; have hcz12_2 : w7.cell? ⟨gb1460, 2, none⟩ = some (.slice none 0 0) := (blk_cell BK1460.out 2).trans rfl; have hcz12_3 : w7.cell? ⟨gb1460, 3, none⟩ = some (.int .i64 0) := (blk_cell BK1460.out 3).trans rfl; have hcz12_4 : w7.cell? ⟨gb1460, 4, none⟩ = some (.slice none 0 0) := (blk_cell BK1460.out 4).trans rfl; have hcz12_5 : w7.cell? ⟨gb1460, 5, none⟩ = some (.slice none 0 0) := (blk_cell BK1460.out 5).trans rfl; have hfz12_0 := blk_frozen BK1460.out 0; have hfz12_1 := blk_frozen BK1460.out 1; have hfz12_2 := blk_frozen BK1460.out 2; have hfz12_3 := blk_frozen BK1460.out 3; have hfz12_4 := blk_frozen BK1460.out 4; have hfz12_5 := blk_frozen BK1460.out 5) | ((with_reducible refine gate_callee (f := 59) rfl ?_); refine goesL_ (some 12) rfl rfl Try.func59 (by kernel_rfl) rfl #[.slice A0_2 l0_2.length c0_2] rfl (by (try simp only [List.map_toArray, List.map_cons, List.map_nil]); first | done | rfl | (simp only [List.length_drop, List.length_take]; rfl)) ?_; (with_reducible refine (laws_toTstTestS.calls k _ _ l0_2 t1461 _ ?side1 ?side2 A2.out).mono ?_); (case side1 => exact Kd.C_below HR0_2.out (by repeat (first | (with_reducible first | exact HB.out | apply below_alloc | apply pw_below_drewN | apply below_drew1 | refine below_set ?_ GE1458.out | refine below_set ?_ GE1459.out | refine below_set ?_ GE1460.out) | exact HB.out))); (case side2 => exact HC0_2.out); rintro e w13 ⟨v1462, rfl, ho0, hb⟩; refine ⟨_, rfl, ?_⟩; have n0_ := Aside0.mk (Kd.S_lower ho0 (below_size (by repeat (first | (with_reducible first | exact HB.out | apply below_alloc | apply pw_below_drewN | apply below_drew1 | refine below_set ?_ GE1458.out | refine below_set ?_ GE1459.out | refine below_set ?_ GE1460.out) | exact HB.out)))); have n1_ := Aside0.mk (blk_below (g := gb1458) (o := .cells #[.int .i64 a0_0, .int .i64 a0_1, .slice A0_2 l0_2.length c0_2, .int .i64 a0_3, .slice A0_4 l0_4.length c0_4, .slice A0_5 l0_5.length c0_5] 50 (0, 0)) (by (with_reducible repeat (first | refine blk_drewN ?_ _ | refine blk_drew ?_ | refine blk_alloc ?_ _)); refine blk_far ?_ NB1458_1460.out _; (with_reducible repeat (first | refine blk_drewN ?_ _ | refine blk_drew ?_ | refine blk_alloc ?_ _)); refine blk_far ?_ NB1458_1460.out _; (with_reducible repeat (first | refine blk_drewN ?_ _ | refine blk_drew ?_ | refine blk_alloc ?_ _)); exact BK1458.out) hb); have n2_ := Aside0.mk (blk_below (g := gb1459) (o := .cells #[.int .i64 0, .int .i64 0, .slice none 0 0, .int .i64 0, .slice none 0 0, .slice none 0 0] 27 (0, 0)) (by (with_reducible repeat (first | refine blk_drewN ?_ _ | refine blk_drew ?_ | refine blk_alloc ?_ _)); refine blk_far ?_ NB1459_1460.out _; (with_reducible repeat (first | refine blk_drewN ?_ _ | refine blk_drew ?_ | refine blk_alloc ?_ _)); refine blk_far ?_ NB1459_1460.out _; (with_reducible repeat (first | refine blk_drewN ?_ _ | refine blk_drew ?_ | refine blk_alloc ?_ _)); exact BK1459.out) hb); have n3_ := Aside0.mk (blk_below (g := gb1460) (o := .cells #[.int .i64 a0_0, .int .i64 a0_1, .slice none 0 0, .int .i64 0, .slice none 0 0, .slice none 0 0] 27 (0, 0)) (by (with_reducible repeat (first | refine blk_drewN ?_ _ | refine blk_drew ?_ | refine blk_alloc ?_ _)); refine blk_put (cs := #[.int .i64 a0_0, .int .i64 0, .slice none 0 0, .int .i64 0, .slice none 0 0, .slice none 0 0]) ?_ 1 _ rfl; (with_reducible repeat (first | refine blk_drewN ?_ _ | refine blk_drew ?_ | refine blk_alloc ?_ _)); refine blk_put (cs := #[.int .i64 0, .int .i64 0, .slice none 0 0, .int .i64 0, .slice none 0 0, .slice none 0 0]) ?_ 0 _ rfl; (with_reducible repeat (first | refine blk_drewN ?_ _ | refine blk_drew ?_ | refine blk_alloc ?_ _)); exact BK1460.out) hb); have n4_ := Aside0.mk (below_step (by repeat (first | (with_reducible first | exact HB.out | apply below_alloc | apply pw_below_drewN | apply below_drew1 | refine below_set ?_ GE1458.out | refine below_set ?_ GE1459.out | refine below_set ?_ GE1460.out) | exact HB.out)) hb); clear BK1458; clear BK1459; clear BK1460; clear HB; have HO1463 := n0_; have BK1458 := n1_; have BK1459 := n2_; have BK1460 := n3_; have HB := n4_; clear n0_ n1_ n2_ n3_ n4_; (try clear hb); (try clear hb2); (try clear hk); (try clear hi); (try clear ho0); obtain ⟨Ao14, co14, eo14⟩ := Kd.S_slice HO1463.out; subst eo14; have hcz15_0 : w13.cell? ⟨gb1460, 0, none⟩ = some (.int .i64 a0_0) := (blk_cell BK1460.out 0).trans rfl; have hcz15_1 : w13.cell? ⟨gb1460, 1, none⟩ = some (.int .i64 a0_1) := (blk_cell BK1460.out 1).trans rfl; have hcz15_2 : w13.cell? ⟨gb1460, 2, none⟩ = some (.slice none 0 0) := (blk_cell BK1460.out 2).trans rfl; have hcz15_3 : w13.cell? ⟨gb1460, 3, none⟩ = some (.int .i64 0) := (blk_cell BK1460.out 3).trans rfl; have hcz15_4 : w13.cell? ⟨gb1460, 4, none⟩ = some (.slice none 0 0) := (blk_cell BK1460.out 4).trans rfl; have hcz15_5 : w13.cell? ⟨gb1460, 5, none⟩ = some (.slice none 0 0) := (blk_cell BK1460.out 5).trans rfl; have hfz15_0 := blk_frozen BK1460.out 0; have hfz15_1 := blk_frozen BK1460.out 1; have hfz15_2 := blk_frozen BK1460.out 2; have hfz15_3 := blk_frozen BK1460.out 3; have hfz15_4 := blk_frozen BK1460.out 4; have hfz15_5 := blk_frozen BK1460.out 5; have hcz16_0 : w13.cell? ⟨gb1458, 0, none⟩ = some (.int .i64 a0_0) := (blk_cell BK1458.out 0).trans rfl; have hcz16_1 : w13.cell? ⟨gb1458, 1, none⟩ = some (.int .i64 a0_1) := (blk_cell BK1458.out 1).trans rfl; have hcz16_2 : w13.cell? ⟨gb1458, 2, none⟩ = some (.slice A0_2 l0_2.length c0_2) := (blk_cell BK1458.out 2).trans rfl; have hcz16_3 : w13.cell? ⟨gb1458, 3, none⟩ = some (.int .i64 a0_3) := (blk_cell BK1458.out 3).trans rfl; have hcz16_4 : w13.cell? ⟨gb1458, 4, none⟩ = some (.slice A0_4 l0_4.length c0_4) := (blk_cell BK1458.out 4).trans rfl; have hcz16_5 : w13.cell? ⟨gb1458, 5, none⟩ = some (.slice A0_5 l0_5.length c0_5) := (blk_cell BK1458.out 5).trans rfl; have hfz16_0 := blk_frozen BK1458.out 0; have hfz16_1 := blk_frozen BK1458.out 1; have hfz16_2 := blk_frozen BK1458.out 2; have hfz16_3 := blk_frozen BK1458.out 3; have hfz16_4 := blk_frozen BK1458.out 4; have hfz16_5 := blk_frozen BK1458.out 5) | ((with_reducible refine gate_callee (f := 60) rfl ?_); refine goesL_ (some 19) rfl rfl Try.func60 (by kernel_rfl) rfl #[.slice A0_4 l0_4.length c0_4] rfl (by (try simp only [List.map_toArray, List.map_cons, List.map_nil]); first | done | rfl | (simp only [List.length_drop, List.length_take]; rfl)) ?_; (with_reducible refine (laws_toBatSigS.calls k _ _ l0_4 t1464 _ ?side1 ?side2 A3.out).mono ?_); (case side1 => exact Kd.C_below HR0_4.out (by repeat (first | (with_reducible first | exact HB.out | apply below_alloc | apply pw_below_drewN | apply below_drew1 | refine below_set ?_ GE1458.out | refine below_set ?_ GE1459.out | refine below_set ?_ GE1460.out) | exact HB.out))); (case side2 => exact HC0_4.out); rintro e w17 ⟨v1465, rfl, ho0, hb⟩; refine ⟨_, rfl, ?_⟩; have n0_ := Aside0.mk (Kd.S_below (by (with_reducible repeat (first | apply Kd.S_alloc | apply Kd.S_drewN | apply Kd.S_drew)); exact (Kd.S_mono (Kd.S_far (p := ⟨gb1460, 3, none⟩) (Kd.S_far (p := ⟨gb1460, 2, none⟩) (Kd.S_types HO1463.out BK1460.out (by decide)) (fun _ hk => hk.2) (.slice Ao14 t1461.length co14)) (fun _ hk => hk.2) (.int .i64 a0_3)) (fun _ h_ => h_.1))) hb); have n1_ := Aside0.mk (Kd.R_lower ho0 (below_size (by repeat (first | (with_reducible first | exact HB.out | apply below_alloc | apply pw_below_drewN | apply below_drew1 | refine below_set ?_ GE1458.out | refine below_set ?_ GE1459.out | refine below_set ?_ GE1460.out) | exact HB.out)))); have n2_ := Aside0.mk (blk_below (g := gb1458) (o := .cells #[.int .i64 a0_0, .int .i64 a0_1, .slice A0_2 l0_2.length c0_2, .int .i64 a0_3, .slice A0_4 l0_4.length c0_4, .slice A0_5 l0_5.length c0_5] 50 (0, 0)) (by (with_reducible repeat (first | refine blk_drewN ?_ _ | refine blk_drew ?_ | refine blk_alloc ?_ _)); refine blk_far ?_ NB1458_1460.out _; (with_reducible repeat (first | refine blk_drewN ?_ _ | refine blk_drew ?_ | refine blk_alloc ?_ _)); refine blk_far ?_ NB1458_1460.out _; (with_reducible repeat (first | refine blk_drewN ?_ _ | refine blk_drew ?_ | refine blk_alloc ?_ _)); exact BK1458.out) hb); have n3_ := Aside0.mk (blk_below (g := gb1459) (o := .cells #[.int .i64 0, .int .i64 0, .slice none 0 0, .int .i64 0, .slice none 0 0, .slice none 0 0] 27 (0, 0)) (by (with_reducible repeat (first | refine blk_drewN ?_ _ | refine blk_drew ?_ | refine blk_alloc ?_ _)); refine blk_far ?_ NB1459_1460.out _; (with_reducible repeat (first | refine blk_drewN ?_ _ | refine blk_drew ?_ | refine blk_alloc ?_ _)); refine blk_far ?_ NB1459_1460.out _; (with_reducible repeat (first | refine blk_drewN ?_ _ | refine blk_drew ?_ | refine blk_alloc ?_ _)); exact BK1459.out) hb); have n4_ := Aside0.mk (blk_below (g := gb1460) (o := .cells #[.int .i64 a0_0, .int .i64 a0_1, .slice Ao14 t1461.length co14, .int .i64 a0_3, .slice none 0 0, .slice none 0 0] 27 (0, 0)) (by (with_reducible repeat (first | refine blk_drewN ?_ _ | refine blk_drew ?_ | refine blk_alloc ?_ _)); refine blk_put (cs := #[.int .i64 a0_0, .int .i64 a0_1, .slice Ao14 t1461.length co14, .int .i64 0, .slice none 0 0, .slice none 0 0]) ?_ 3 _ rfl; (with_reducible repeat (first | refine blk_drewN ?_ _ | refine blk_drew ?_ | refine blk_alloc ?_ _)); refine blk_put (cs := #[.int .i64 a0_0, .int .i64 a0_1, .slice none 0 0, .int .i64 0, .slice none 0 0, .slice none 0 0]) ?_ 2 _ rfl; (with_reducible repeat (first | refine blk_drewN ?_ _ | refine blk_drew ?_ | refine blk_alloc ?_ _)); exact BK1460.out) hb); have n5_ := Aside0.mk (below_step (by repeat (first | (with_reducible first | exact HB.out | apply below_alloc | apply pw_below_drewN | apply below_drew1 | refine below_set ?_ GE1458.out | refine below_set ?_ GE1459.out | refine below_set ?_ GE1460.out) | exact HB.out)) hb); clear HO1463; clear BK1458; clear BK1459; clear BK1460; clear HB; have HO1463 := n0_; have HO1466 := n1_; have BK1458 := n2_; have BK1459 := n3_; have BK1460 := n4_; have HB := n5_; clear n0_ n1_ n2_ n3_ n4_ n5_; (try clear hb); (try clear hb2); (try clear hk); (try clear hi); (try clear ho0); obtain ⟨Ao18, co18, eo18⟩ := Kd.R_slice HO1466.out; subst eo18; have hcz19_0 : w17.cell? ⟨gb1460, 0, none⟩ = some (.int .i64 a0_0) := (blk_cell BK1460.out 0).trans rfl; have hcz19_1 : w17.cell? ⟨gb1460, 1, none⟩ = some (.int .i64 a0_1) := (blk_cell BK1460.out 1).trans rfl; have hcz19_2 : w17.cell? ⟨gb1460, 2, none⟩ = some (.slice Ao14 t1461.length co14) := (blk_cell BK1460.out 2).trans rfl; have hcz19_3 : w17.cell? ⟨gb1460, 3, none⟩ = some (.int .i64 a0_3) := (blk_cell BK1460.out 3).trans rfl; have hcz19_4 : w17.cell? ⟨gb1460, 4, none⟩ = some (.slice none 0 0) := (blk_cell BK1460.out 4).trans rfl; have hcz19_5 : w17.cell? ⟨gb1460, 5, none⟩ = some (.slice none 0 0) := (blk_cell BK1460.out 5).trans rfl; have hfz19_0 := blk_frozen BK1460.out 0; have hfz19_1 := blk_frozen BK1460.out 1; have hfz19_2 := blk_frozen BK1460.out 2; have hfz19_3 := blk_frozen BK1460.out 3; have hfz19_4 := blk_frozen BK1460.out 4; have hfz19_5 := blk_frozen BK1460.out 5; have hcz20_0 : w17.cell? ⟨gb1458, 0, none⟩ = some (.int .i64 a0_0) := (blk_cell BK1458.out 0).trans rfl; have hcz20_1 : w17.cell? ⟨gb1458, 1, none⟩ = some (.int .i64 a0_1) := (blk_cell BK1458.out 1).trans rfl; have hcz20_2 : w17.cell? ⟨gb1458, 2, none⟩ = some (.slice A0_2 l0_2.length c0_2) := (blk_cell BK1458.out 2).trans rfl; have hcz20_3 : w17.cell? ⟨gb1458, 3, none⟩ = some (.int .i64 a0_3) := (blk_cell BK1458.out 3).trans rfl; have hcz20_4 : w17.cell? ⟨gb1458, 4, none⟩ = some (.slice A0_4 l0_4.length c0_4) := (blk_cell BK1458.out 4).trans rfl; have hcz20_5 : w17.cell? ⟨gb1458, 5, none⟩ = some (.slice A0_5 l0_5.length c0_5) := (blk_cell BK1458.out 5).trans rfl; have hfz20_0 := blk_frozen BK1458.out 0; have hfz20_1 := blk_frozen BK1458.out 1; have hfz20_2 := blk_frozen BK1458.out 2; have hfz20_3 := blk_frozen BK1458.out 3; have hfz20_4 := blk_frozen BK1458.out 4; have hfz20_5 := blk_frozen BK1458.out 5) | ((with_reducible refine gate_callee (f := 61) rfl ?_); refine goesL_ (some 23) rfl rfl Try.func61 (by kernel_rfl) rfl #[.slice A0_5 l0_5.length c0_5] rfl (by (try simp only [List.map_toArray, List.map_cons, List.map_nil]); first | done | rfl | (simp only [List.length_drop, List.length_take]; rfl)) ?_; (with_reducible refine (laws_toBoolS.calls k _ _ l0_5 t1467 _ ?side1 ?side2 A4.out).mono ?_); (case side1 => exact Kd.C_below HR0_5.out (by repeat (first | (with_reducible first | exact HB.out | apply below_alloc | apply pw_below_drewN | apply below_drew1 | refine below_set ?_ GE1458.out | refine below_set ?_ GE1459.out | refine below_set ?_ GE1460.out) | exact HB.out))); (case side2 => exact HC0_5.out); rintro e w21 ⟨v1468, rfl, ho0, hb⟩; refine ⟨_, rfl, ?_⟩; have n0_ := Aside0.mk (Kd.S_below (by (with_reducible repeat (first | apply Kd.S_alloc | apply Kd.S_drewN | apply Kd.S_drew)); exact (Kd.S_mono (Kd.S_far (p := ⟨gb1460, 4, none⟩) (Kd.S_types HO1463.out BK1460.out (by decide)) (fun _ hk => hk.2) (.slice Ao18 t1464.length co18)) (fun _ h_ => h_.1))) hb); have n1_ := Aside0.mk (Kd.R_below (by (with_reducible repeat (first | apply Kd.R_alloc | apply Kd.R_drewN | apply Kd.R_drew)); exact (Kd.R_mono (Kd.R_far (p := ⟨gb1460, 4, none⟩) (Kd.R_types HO1466.out BK1460.out (by decide)) (fun _ hk => hk.2) (.slice Ao18 t1464.length co18)) (fun _ h_ => h_.1))) hb); have n2_ := Aside0.mk (Kd.R_lower ho0 (below_size (by repeat (first | (with_reducible first | exact HB.out | apply below_alloc | apply pw_below_drewN | apply below_drew1 | refine below_set ?_ GE1458.out | refine below_set ?_ GE1459.out | refine below_set ?_ GE1460.out) | exact HB.out)))); have n3_ := Aside0.mk (blk_below (g := gb1458) (o := .cells #[.int .i64 a0_0, .int .i64 a0_1, .slice A0_2 l0_2.length c0_2, .int .i64 a0_3, .slice A0_4 l0_4.length c0_4, .slice A0_5 l0_5.length c0_5] 50 (0, 0)) (by (with_reducible repeat (first | refine blk_drewN ?_ _ | refine blk_drew ?_ | refine blk_alloc ?_ _)); refine blk_far ?_ NB1458_1460.out _; (with_reducible repeat (first | refine blk_drewN ?_ _ | refine blk_drew ?_ | refine blk_alloc ?_ _)); exact BK1458.out) hb); have n4_ := Aside0.mk (blk_below (g := gb1459) (o := .cells #[.int .i64 0, .int .i64 0, .slice none 0 0, .int .i64 0, .slice none 0 0, .slice none 0 0] 27 (0, 0)) (by (with_reducible repeat (first | refine blk_drewN ?_ _ | refine blk_drew ?_ | refine blk_alloc ?_ _)); refine blk_far ?_ NB1459_1460.out _; (with_reducible repeat (first | refine blk_drewN ?_ _ | refine blk_drew ?_ | refine blk_alloc ?_ _)); exact BK1459.out) hb); have n5_ := Aside0.mk (blk_below (g := gb1460) (o := .cells #[.int .i64 a0_0, .int .i64 a0_1, .slice Ao14 t1461.length co14, .int .i64 a0_3, .slice Ao18 t1464.length co18, .slice none 0 0] 27 (0, 0)) (by (with_reducible repeat (first | refine blk_drewN ?_ _ | refine blk_drew ?_ | refine blk_alloc ?_ _)); refine blk_put (cs := #[.int .i64 a0_0, .int .i64 a0_1, .slice Ao14 t1461.length co14, .int .i64 a0_3, .slice none 0 0, .slice none 0 0]) ?_ 4 _ rfl; (with_reducible repeat (first | refine blk_drewN ?_ _ | refine blk_drew ?_ | refine blk_alloc ?_ _)); exact BK1460.out) hb); have n6_ := Aside0.mk (below_step (by repeat (first | (with_reducible first | exact HB.out | apply below_alloc | apply pw_below_drewN | apply below_drew1 | refine below_set ?_ GE1458.out | refine below_set ?_ GE1459.out | refine below_set ?_ GE1460.out) | exact HB.out)) hb); clear HO1463; clear HO1466; clear BK1458; clear BK1459; clear BK1460; clear HB; have HO1463 := n0_; have HO1466 := n1_; have HO1469 := n2_; have BK1458 := n3_; have BK1459 := n4_; have BK1460 := n5_; have HB := n6_; clear n0_ n1_ n2_ n3_ n4_ n5_ n6_; (try clear hb); (try clear hb2); (try clear hk); (try clear hi); (try clear ho0); obtain ⟨Ao22, co22, eo22⟩ := Kd.R_slice HO1469.out; subst eo22; have hcz23_0 : w21.cell? ⟨gb1460, 0, none⟩ = some (.int .i64 a0_0) := (blk_cell BK1460.out 0).trans rfl; have hcz23_1 : w21.cell? ⟨gb1460, 1, none⟩ = some (.int .i64 a0_1) := (blk_cell BK1460.out 1).trans rfl; have hcz23_2 : w21.cell? ⟨gb1460, 2, none⟩ = some (.slice Ao14 t1461.length co14) := (blk_cell BK1460.out 2).trans rfl; have hcz23_3 : w21.cell? ⟨gb1460, 3, none⟩ = some (.int .i64 a0_3) := (blk_cell BK1460.out 3).trans rfl; have hcz23_4 : w21.cell? ⟨gb1460, 4, none⟩ = some (.slice Ao18 t1464.length co18) := (blk_cell BK1460.out 4).trans rfl; have hcz23_5 : w21.cell? ⟨gb1460, 5, none⟩ = some (.slice none 0 0) := (blk_cell BK1460.out 5).trans rfl; have hfz23_0 := blk_frozen BK1460.out 0; have hfz23_1 := blk_frozen BK1460.out 1; have hfz23_2 := blk_frozen BK1460.out 2; have hfz23_3 := blk_frozen BK1460.out 3; have hfz23_4 := blk_frozen BK1460.out 4; have hfz23_5 := blk_frozen BK1460.out 5; have hcz24_0 : w21.cell? ⟨gb1459, 0, none⟩ = some (.int .i64 0) := (blk_cell BK1459.out 0).trans rfl; have hcz24_1 : w21.cell? ⟨gb1459, 1, none⟩ = some (.int .i64 0) := (blk_cell BK1459.out 1).trans rfl; have hcz24_2 : w21.cell? ⟨gb1459, 2, none⟩ = some (.slice none 0 0) := (blk_cell BK1459.out 2).trans rfl; have hcz24_3 : w21.cell? ⟨gb1459, 3, none⟩ = some (.int .i64 0) := (blk_cell BK1459.out 3).trans rfl; have hcz24_4 : w21.cell? ⟨gb1459, 4, none⟩ = some (.slice none 0 0) := (blk_cell BK1459.out 4).trans rfl; have hcz24_5 : w21.cell? ⟨gb1459, 5, none⟩ = some (.slice none 0 0) := (blk_cell BK1459.out 5).trans rfl; have hfz24_0 := blk_frozen BK1459.out 0; have hfz24_1 := blk_frozen BK1459.out 1; have hfz24_2 := blk_frozen BK1459.out 2; have hfz24_3 := blk_frozen BK1459.out 3; have hfz24_4 := blk_frozen BK1459.out 4; have hfz24_5 := blk_frozen BK1459.out 5))
  refine bodyPost_ret (results_cell_row rfl _ _ gb1459 27 #[.int .i64 a0_0, .int .i64 a0_1, .slice Ao14 t1461.length co14, .int .i64 a0_3, .slice Ao18 t1464.length co18, .slice Ao22 t1467.length co22] (0, 0) _ rfl (by (with_reducible repeat (first | refine blk_drewN ?_ _ | refine blk_drew ?_ | refine blk_alloc ?_ _)); refine blk_put (cs := #[.int .i64 a0_0, .int .i64 a0_1, .slice Ao14 t1461.length co14, .int .i64 a0_3, .slice Ao18 t1464.length co18, .slice none 0 0]) ?_ 5 _ rfl; (with_reducible repeat (first | refine blk_drewN ?_ _ | refine blk_drew ?_ | refine blk_alloc ?_ _)); refine blk_put (cs := #[.int .i64 a0_0, .int .i64 a0_1, .slice Ao14 t1461.length co14, .int .i64 a0_3, .slice none 0 0, .slice none 0 0]) ?_ 4 _ rfl; (with_reducible repeat (first | refine blk_drewN ?_ _ | refine blk_drew ?_ | refine blk_alloc ?_ _)); refine blk_put (cs := #[.int .i64 a0_0, .int .i64 a0_1, .slice Ao14 t1461.length co14, .int .i64 0, .slice none 0 0, .slice none 0 0]) ?_ 3 _ rfl; (with_reducible repeat (first | refine blk_drewN ?_ _ | refine blk_drew ?_ | refine blk_alloc ?_ _)); refine blk_put (cs := #[.int .i64 a0_0, .int .i64 a0_1, .slice none 0 0, .int .i64 0, .slice none 0 0, .slice none 0 0]) ?_ 2 _ rfl; (with_reducible repeat (first | refine blk_drewN ?_ _ | refine blk_drew ?_ | refine blk_alloc ?_ _)); refine blk_put (cs := #[.int .i64 a0_0, .int .i64 0, .slice none 0 0, .int .i64 0, .slice none 0 0, .slice none 0 0]) ?_ 1 _ rfl; (with_reducible repeat (first | refine blk_drewN ?_ _ | refine blk_drew ?_ | refine blk_alloc ?_ _)); refine blk_put (cs := #[.int .i64 0, .int .i64 0, .slice none 0 0, .int .i64 0, .slice none 0 0, .slice none 0 0]) ?_ 0 _ rfl; (with_reducible repeat (first | refine blk_drewN ?_ _ | refine blk_drew ?_ | refine blk_alloc ?_ _)); refine blk_far ?_ NB1459_1460.out _; (with_reducible repeat (first | refine blk_drewN ?_ _ | refine blk_drew ?_ | refine blk_alloc ?_ _)); exact BK1459.out) Try.underlying27 rfl (by kernel_rfl)) rfl ?_
  exact ⟨_, _, _, by first | rfl | (simp [errW_none, errW_some] <;> rfl) | (simp [*, errW_none, errW_some] <;> rfl), by (with_reducible repeat (first | apply Kd.S_alloc | apply Kd.S_drewN | apply Kd.S_drew)); exact Kd.S_mono (Kd.S_far (p := ⟨gb1459, 5, none⟩) (Kd.S_far (p := ⟨gb1459, 4, none⟩) (Kd.S_far (p := ⟨gb1459, 3, none⟩) (Kd.S_far (p := ⟨gb1459, 2, none⟩) (Kd.S_far (p := ⟨gb1459, 1, none⟩) (Kd.S_far (p := ⟨gb1459, 0, none⟩) (Kd.S_far (p := ⟨gb1460, 5, none⟩) (Kd.S_types (Kd.S_types HO1463.out BK1460.out (by decide)) BK1459.out (by decide)) (fun _ hk => hk.1.2) (.slice Ao22 t1467.length co22)) (fun _ hk => hk.2) (.int .i64 a0_0)) (fun _ hk => hk.2) (.int .i64 a0_1)) (fun _ hk => hk.2) (.slice Ao14 t1461.length co14)) (fun _ hk => hk.2) (.int .i64 a0_3)) (fun _ hk => hk.2) (.slice Ao18 t1464.length co18)) (fun _ hk => hk.2) (.slice Ao22 t1467.length co22)) (fun _ hk => trivial), by (with_reducible repeat (first | apply Kd.R_alloc | apply Kd.R_drewN | apply Kd.R_drew)); exact Kd.R_mono (Kd.R_far (p := ⟨gb1459, 5, none⟩) (Kd.R_far (p := ⟨gb1459, 4, none⟩) (Kd.R_far (p := ⟨gb1459, 3, none⟩) (Kd.R_far (p := ⟨gb1459, 2, none⟩) (Kd.R_far (p := ⟨gb1459, 1, none⟩) (Kd.R_far (p := ⟨gb1459, 0, none⟩) (Kd.R_far (p := ⟨gb1460, 5, none⟩) (Kd.R_types (Kd.R_types HO1466.out BK1460.out (by decide)) BK1459.out (by decide)) (fun _ hk => hk.1.2) (.slice Ao22 t1467.length co22)) (fun _ hk => hk.2) (.int .i64 a0_0)) (fun _ hk => hk.2) (.int .i64 a0_1)) (fun _ hk => hk.2) (.slice Ao14 t1461.length co14)) (fun _ hk => hk.2) (.int .i64 a0_3)) (fun _ hk => hk.2) (.slice Ao18 t1464.length co18)) (fun _ hk => hk.2) (.slice Ao22 t1467.length co22)) (fun _ hk => trivial), by (with_reducible repeat (first | apply Kd.R_alloc | apply Kd.R_drewN | apply Kd.R_drew)); exact Kd.R_mono (Kd.R_far (p := ⟨gb1459, 5, none⟩) (Kd.R_far (p := ⟨gb1459, 4, none⟩) (Kd.R_far (p := ⟨gb1459, 3, none⟩) (Kd.R_far (p := ⟨gb1459, 2, none⟩) (Kd.R_far (p := ⟨gb1459, 1, none⟩) (Kd.R_far (p := ⟨gb1459, 0, none⟩) (Kd.R_far (p := ⟨gb1460, 5, none⟩) (Kd.R_types (Kd.R_types HO1469.out BK1460.out (by decide)) BK1459.out (by decide)) (fun _ hk => hk.1.2) (.slice Ao22 t1467.length co22)) (fun _ hk => hk.2) (.int .i64 a0_0)) (fun _ hk => hk.2) (.int .i64 a0_1)) (fun _ hk => hk.2) (.slice Ao14 t1461.length co14)) (fun _ hk => hk.2) (.int .i64 a0_3)) (fun _ hk => hk.2) (.slice Ao18 t1464.length co18)) (fun _ hk => hk.2) (.slice Ao22 t1467.length co22)) (fun _ hk => trivial), by repeat (first | (with_reducible first | exact HB.out | apply below_alloc | apply pw_below_drewN | apply below_drew1 | refine below_set ?_ GE1458.out | refine below_set ?_ GE1459.out | refine below_set ?_ GE1460.out) | exact HB.out)⟩

end Go.Proofs.Ythebfdgnahfhgaa.All
