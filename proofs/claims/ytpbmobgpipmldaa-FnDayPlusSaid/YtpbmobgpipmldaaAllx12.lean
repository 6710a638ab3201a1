-- Written by the session's own program wip/allprint.py, which drives the kit's print; Lean checks it.
import Derived.Test.YtpbmobgpipmldaaAllx0
import Derived.Test.YtpbmobgpipmldaaAllx2
import Derived.Test.YtpbmobgpipmldaaAllx3
import Derived.Test.YtpbmobgpipmldaaAllx4
namespace Go.Proofs.Ytpbmobgpipmldaa.All
open Go.RowKit Go.Proofs.YtpbmobgpipmldaaW.PrintWords Go.Proofs.YtpbmobgpipmldaaW.PrintLast Go.Proofs.YtpbmobgpipmldaaW.PrintMore
attribute [local go_sem] max2_int min2_int max_two min_two max_three min_three max_four min_four   -- for this text's walks alone
set_option linter.unusedVariables false
set_option linter.unusedSimpArgs false

-- GROUP FnDayPlus
/-! ### spec_DrawDayPlus: function 19 -/
def spec_DrawDayPlus.f (k : Nat) (l0 : List Int) : Option (Int × Int × Int × Int) := (spec_l20Open.f l0).bind fun bt304 => ((spec_l20Day.f k bt304.1 bt304.2 12).bind fun bt307 => ((spec_l20Rd_pick.f k bt304.1 bt307.2.2.2 100).bind fun bt311 => ((some (([0, 1, 2, 3, 6, 12, 24, 600, 601, (-1), bt311.1] : List Int) : List Int)).bind fun y313 => ((spec_l20Rd_pick.f k bt304.1 bt311.2 11).bind fun bt316 => (if 0 ≤ bt316.1 then (if bt316.1 < (y313.length : Int) then (some (bt307.1, bt307.2.1, bt307.2.2.1, rd y313 bt316.1)) else (none)) else (none))))))
theorem spec_DrawDayPlus.mono : ∀ a0 k, LeO (spec_DrawDayPlus.f k a0) (spec_DrawDayPlus.f (k + 1) a0) := by
  intro a0 k
  unfold spec_DrawDayPlus.f
  repeat' first
      | (with_reducible exact spec_l20Day.mono _ _ _ _)
      | (with_reducible exact spec_l20Rd_pick.mono _ _ _ _)
      | (with_reducible exact LeO.refl _)
      | (with_reducible exact LeO.none _)
      | (with_reducible refine LeO.ite ?_ ?_)
      | (with_reducible refine LeO.bind ?_ (fun _ => ?_))
      | exact spec_l20Day.mono _ _ _ _
      | exact spec_l20Rd_pick.mono _ _ _ _
      | exact LeO.none _
      | refine LeO.ite ?_ ?_
      | refine LeO.bind ?_ (fun _ => ?_)
def spec_DrawDayPlus.T2 : Bool × List (List Nat × List Nat) := (true, [([], []), ([0], [0]), ([], []), ([2, 1], [2]), ([3], [3]), ([], []), ([5, 3], [5]), ([4, 6], [4, 6]), ([7], [7]), ([1, 6, 0, 1], [1]), ([8, 9, 0, 1, 2, 3, 4, 5, 6, 7, 8, 9], [8])])
def spec_DrawDayPlus.B2 : List Nat := [0, 1, 0, 7, 15, 0, 47, 127, 255, 111, 1023]
theorem spec_DrawDayPlus.tab2 : rtab .any (opsOf Try.f19 2) = spec_DrawDayPlus.T2 := by kernel_rfl
theorem spec_DrawDayPlus.bits2 : waitsOk spec_DrawDayPlus.T2.2 spec_DrawDayPlus.B2 = true := by kernel_rfl
set_option maxHeartbeats 8000000 in
set_option maxRecDepth 100000 in
theorem spec_DrawDayPlus.calls (k : Nat) (A0 : Option Addr) (c0 : Nat) (l0 : List Int) (r1 : Int) (r2 : Int) (r3 : Int) (r4 : Int) (w : World) (hr0 : Kd.C (Kd.int .u8) w A0 l0.length l0) (hc0 : l0.length ≤ c0) (h : spec_DrawDayPlus.f k l0 = some (r1, r2, r3, r4)) :
    Calls Try.prog 19 #[.slice A0 l0.length c0] w fun e w' => e = .returned (.tuple #[.agg #[.int .i64 r1, .int .i64 r2, .int .i64 r3], .int .i64 r4]) ∧ Below w.heap.size w w' := by
  have hu24 := Try.underlying24
  have HR0 := Aside0.mk hr0
  have HC0 := Aside0.mk hc0
  clear hr0 hc0
  have HB := Aside0.mk (Below.refl w.heap.size w)
  have H : ((spec_l20Open.f l0).bind fun bt304 => ((spec_l20Day.f k bt304.1 bt304.2 12).bind fun bt307 => ((spec_l20Rd_pick.f k bt304.1 bt307.2.2.2 100).bind fun bt311 => ((some (([0, 1, 2, 3, 6, 12, 24, 600, 601, (-1), bt311.1] : List Int) : List Int)).bind fun y313 => ((spec_l20Rd_pick.f k bt304.1 bt311.2 11).bind fun bt316 => (if 0 ≤ bt316.1 then (if bt316.1 < (y313.length : Int) then (some (bt307.1, bt307.2.1, bt307.2.2.1, rd y313 bt316.1)) else (none)) else (none))))))) = some (r1, r2, r3, r4) := h
  clear h
  replace H := Option.bind_eq_some_iff.mp H
  obtain ⟨⟨t304, t305⟩, A20, H⟩ := H
  replace H : ((spec_l20Day.f k t304 t305 12).bind fun bt307 => ((spec_l20Rd_pick.f k t304 bt307.2.2.2 100).bind fun bt311 => ((some (([0, 1, 2, 3, 6, 12, 24, 600, 601, (-1), bt311.1] : List Int) : List Int)).bind fun y313 => ((spec_l20Rd_pick.f k t304 bt311.2 11).bind fun bt316 => (if 0 ≤ bt316.1 then (if bt316.1 < (y313.length : Int) then (some (bt307.1, bt307.2.1, bt307.2.2.1, rd y313 bt316.1)) else (none)) else (none)))))) = some (r1, r2, r3, r4) := H
  have A2 := Aside0.mk A20
  clear A20
  replace H := Option.bind_eq_some_iff.mp H
  obtain ⟨⟨t307, t308, t309, t310⟩, A30, H⟩ := H
  replace H : ((spec_l20Rd_pick.f k t304 t310 100).bind fun bt311 => ((some (([0, 1, 2, 3, 6, 12, 24, 600, 601, (-1), bt311.1] : List Int) : List Int)).bind fun y313 => ((spec_l20Rd_pick.f k t304 bt311.2 11).bind fun bt316 => (if 0 ≤ bt316.1 then (if bt316.1 < (y313.length : Int) then (some (t307, t308, t309, rd y313 bt316.1)) else (none)) else (none))))) = some (r1, r2, r3, r4) := H
  have A3 := Aside0.mk A30
  clear A30
  replace H := Option.bind_eq_some_iff.mp H
  obtain ⟨⟨t311, t312⟩, A40, H⟩ := H
  replace H : ((some (([0, 1, 2, 3, 6, 12, 24, 600, 601, (-1), t311] : List Int) : List Int)).bind fun y313 => ((spec_l20Rd_pick.f k t304 t312 11).bind fun bt316 => (if 0 ≤ bt316.1 then (if bt316.1 < (y313.length : Int) then (some (t307, t308, t309, rd y313 bt316.1)) else (none)) else (none)))) = some (r1, r2, r3, r4) := H
  have A4 := Aside0.mk A40
  clear A40
  obtain ⟨y313, hy313⟩ : ∃ y_ : List Int, y_ = (([0, 1, 2, 3, 6, 12, 24, 600, 601, (-1), t311] : List Int)) := ⟨_, rfl⟩
  replace H : ((spec_l20Rd_pick.f k t304 t312 11).bind fun bt316 => (if 0 ≤ bt316.1 then (if bt316.1 < (y313.length : Int) then (some (t307, t308, t309, rd y313 bt316.1)) else (none)) else (none))) = some (r1, r2, r3, r4) := by first | (rw [hy313]; with_reducible exact H) | (have H2_ := (Option.bind_some _ _).symm.trans H; rw [hy313]; with_reducible exact H2_) | (have H2_ := (Option.bind_some _ _).symm.trans H; with_reducible exact H2_) | with_reducible exact H | (rw [hy313]; exact H) | exact H
  have Ny313 := Aside0.mk hy313
  clear hy313
  replace H := Option.bind_eq_some_iff.mp H
  obtain ⟨⟨t316, t317⟩, A50, H⟩ := H
  replace H : (if 0 ≤ t316 then (if t316 < (y313.length : Int) then (some (t307, t308, t309, rd y313 t316)) else (none)) else (none)) = some (r1, r2, r3, r4) := H
  have A5 := Aside0.mk A50
  clear A50
  by_cases c6 : 0 ≤ t316
  · rw [if_pos c6] at H
    have c6b0 : decide (0 ≤ t316) = true := decide_eq_true c6
    clear c6
    by_cases c7 : t316 < (y313.length : Int)
    · rw [if_pos c7] at H
      have c7b0 : decide (t316 < (y313.length : Int)) = true := decide_eq_true c7
      clear c7
      simp only [Option.some.injEq, Prod.mk.injEq] at H
      obtain ⟨rfl, rfl, rfl, rfl⟩ := H
      go_enter Try.func19, Try.ntmps19
      try go_wp2_with (first | ((with_reducible refine gate_dst (N := 2) rfl ?_); refine box_event ?hg (N := 2) ?hd (cs := #[.int .i64 0, .int .i64 0, .int .i64 0]) (t := 24) ?hr ?_; (case hd => rfl); (case hg => rfl); (case hr => first | (go_simp; done) | (go_simp; rfl)); intro gb303 hg w8 hbox hb; have n0_ := Aside0.mk (below_step (by repeat (first | (with_reducible first | exact HB.out | apply below_alloc | apply pw_below_drewN | apply below_drew1) | exact HB.out)) hb); have n1_ := Aside0.mk (hbox); have n2_ := Aside0.mk ((by rw [hg]; exact (below_size (by repeat (first | (with_reducible first | exact HB.out | apply below_alloc | apply pw_below_drewN | apply below_drew1) | exact HB.out))) : w.heap.size ≤ gb303)); have n3_ := Aside0.mk ((by rw [hg]; exact (below_size (by repeat (first | (with_reducible first | exact HB.out | apply below_alloc | apply pw_below_drewN | apply below_drew1) | exact HB.out))) : w.heap.size ≤ gb303)); clear HB; have HB := n0_; have BK303 := n1_; have GW303 := n2_; have GE303 := n3_; clear n0_ n1_ n2_ n3_; clear hb hbox hg) | ((with_reducible refine gate_callee (f := 23) rfl ?_); refine goesL_ (some 6) rfl rfl Try.func23 (by kernel_rfl) rfl #[.slice A0 l0.length c0] rfl (by (try simp only [List.map_toArray, List.map_cons, List.map_nil]); first | done | rfl | (simp only [List.length_drop, List.length_take]; rfl)) ?_; (with_reducible refine (spec_l20Open.calls _ _ l0 t304 t305 w _ ?side1 ?side2 ?side3 A2.out).mono ?_); (case side1 => repeat (first | (with_reducible first | exact HB.out | apply below_alloc | apply pw_below_drewN | apply below_drew1 | refine below_set ?_ GE303.out) | exact HB.out)); (case side2 => exact HR0.out); (case side3 => exact HC0.out); rintro e w9 ⟨g306, rfl, hi, hb, hb2⟩; refine ⟨_, rfl, ?_⟩; have n0_ := Aside0.mk (blk_below (g := gb303) (o := .cells #[.int .i64 0, .int .i64 0, .int .i64 0] 24 (0, 0)) (by (with_reducible repeat (first | refine blk_drewN ?_ _ | refine blk_drew ?_ | refine blk_alloc ?_ _)); exact BK303.out) hb2); have n1_ := Aside0.mk (hb); have n2_ := Aside0.mk (hi); have n3_ := Aside0.mk (IsS52.ne_blk hi (blk_below (g := gb303) (o := .cells #[.int .i64 0, .int .i64 0, .int .i64 0] 24 (0, 0)) (by (with_reducible repeat (first | refine blk_drewN ?_ _ | refine blk_drew ?_ | refine blk_alloc ?_ _)); exact BK303.out) hb2) (by decide)); have n4_ := Aside0.mk (Ne.symm (IsS52.ne_blk hi (blk_below (g := gb303) (o := .cells #[.int .i64 0, .int .i64 0, .int .i64 0] 24 (0, 0)) (by (with_reducible repeat (first | refine blk_drewN ?_ _ | refine blk_drew ?_ | refine blk_alloc ?_ _)); exact BK303.out) hb2) (by decide))); clear BK303; clear HB; have BK303 := n0_; have HB := n1_; have HI306 := n2_; have NB306_303 := n3_; have NB303_306 := n4_; clear n0_ n1_ n2_ n3_ n4_; (try clear hb); (try clear hb2); (try clear hk); (try clear hi)))
      have pi318 : (0 ≤ (t316 : Int)) = True := eq_true (of_decide_eq_true (by first | (with_reducible assumption) | assumption))
      have qi318 : (t316 < (y313.length : Int)) = True := eq_true (of_decide_eq_true (by first | (with_reducible assumption) | assumption))
      have n0_ := Aside0.mk (blk_drew BK303.out)
      have n1_ := Aside0.mk (IsS52.drew HI306.out)
      have n2_ := Aside0.mk (below_drew1 HB.out)
      clear BK303
      clear HI306
      clear HB
      have BK303 := n0_
      have HI306 := n1_
      have HB := n2_
      clear n0_ n1_ n2_
      refine start_ (n := 11) (S := fun w' => True) (ds := []) #[false, false, false, false, false, false, false, false, false, false, false] (by kernel_rfl) rfl rfl trivial (fun hHeld => ?_); refine with_tabW spec_DrawDayPlus.tab2 spec_DrawDayPlus.bits2 (fun HT_ HW_ => ?_)
      generalize w9.drew = w10 at BK303 HI306 HB hHeld ⊢
      refine pure_ (i := 0) (N := some 7) (v := ?_) (a' := ?_) #[true, false, false, false, false, false, false, false, false, false, false] rfl rfl (any_of HT_.out (by kernel_rfl)) (fun _ _ _ h => h) (Or.inl ⟨by rfl, ?_⟩) ?_ ?_
      rotate_left
      · intro w'
        go_simp
        with_reducible rfl
      rotate_left
      · simp only [Act.put, List.setIfInBounds_toArray, List.set_cons_zero, List.set_cons_succ, i64_w, i32_w]
        rfl
      refine pure_ (i := 2) (N := some 9) (v := ?_) (a' := ?_) #[true, false, true, false, false, false, false, false, false, false, false] rfl rfl (any_of HT_.out (by kernel_rfl)) (fun _ _ _ h => h) (Or.inl ⟨by rfl, ?_⟩) ?_ ?_
      rotate_left
      · intro w'
        go_simp
        with_reducible rfl
      rotate_left
      · simp only [Act.put, List.setIfInBounds_toArray, List.set_cons_zero, List.set_cons_succ, i64_w, i32_w]
        rfl
      refine pure_ (i := 5) (N := some 12) (v := ?_) (a' := ?_) #[true, false, true, false, false, true, false, false, false, false, false] rfl rfl (any_of HT_.out (by kernel_rfl)) (fun _ _ _ h => h) (Or.inl ⟨by rfl, ?_⟩) ?_ ?_
      rotate_left
      · intro w'
        go_simp
        with_reducible rfl
      rotate_left
      · simp only [Act.put, List.setIfInBounds_toArray, List.set_cons_zero, List.set_cons_succ, i64_w, i32_w]
        rfl
      refine inv_at [1, 3, 4, 6, 7, 8, 9, 10] (fun a0_ b a w' => ∃ (v314 : Value) (adz_v314 : Addr) (m7_ : Value), a = putSel a0_ b [(1, 8, .agg #[.int .i64 t307, .int .i64 t308, .int .i64 t309]), (3, 10, .int .i64 t311), (4, 11, v314), (6, 13, .int .i64 t316), (7, 14, m7_), (8, 15, .int .i64 (rd y313 t316)), (10, 3, .int .i64 (rd y313 t316))] ∧ (b 9 = false → w'.heap[gb303]? = some (.cells #[.int .i64 0, .int .i64 0, .int .i64 0] 24 (0, 0))) ∧ (b 1 = false → IsS52 w w' g306 t304 t305) ∧ (Below w.heap.size w w') ∧ (b 1 = true → b 3 = false → IsS52 w w' g306 t304 t310) ∧ (b 3 = true → b 6 = false → IsS52 w w' g306 t304 t312) ∧ (b 4 = true → Kd.R (Kd.int .i64) 3 w' w.heap.size (fun _ => True) v314 y313) ∧ (b 4 = true → ∃ c_, (v314 : Value) = .slice (some adz_v314) y313.length c_) ∧ (b 6 = true → IsS52 w w' g306 t304 t317) ∧ (b 9 = true → w'.heap[gb303]? = some (.cells #[.int .i64 t307, .int .i64 t308, .int .i64 t309] 24 (0, 0))) ∧ (b 7 = true → (m7_ : Value) = .pointer (some (adz_v314.add (t316).toNat)))) HT_.out HW_.out (by kernel_rfl) (by kernel_rfl) ?_ ?_ ?_
      · exact ⟨.bool false, ⟨0, 0, none⟩, .bool false, by simp only [putSel, Bool.false_eq_true, if_false], fun _ => BK303.out, fun _ => HI306.out, HB.out, fun h_ => absurd h_ (by decide), fun h_ => absurd h_ (by decide), fun h_ => absurd h_ (by decide), fun h_ => absurd h_ (by decide), fun h_ => absurd h_ (by decide), fun h_ => absurd h_ (by decide), fun h_ => absurd h_ (by decide)⟩
      · skip
        clear BK303 HB HI306
        refine steps_cons ?_ ?_
        · rintro b a w' ⟨v314, adz_v314, m7_, ha, Q_BK303, Q_HI306, Q_HB, Q_HI306_e1, Q_HI306_e3, Q_HO315, Q_HA_HO315, Q_HI306_e6, Q_BK303_e9, Q_X7_⟩ hb_ hon hoff
          refine ⟨_, rfl, fun K hK => ?_⟩
          have e7 : a.tmps[7]? = some (.pointer (some ⟨g306, 0, none⟩)) := by rw [ha]; exact (putSel_off rfl).trans rfl
          replace ha := Aside0.mk ha
          have BK303 := Aside0.mk (Q_BK303 (hoff 9 (by kernel_rfl)))
          have HI306 := Aside0.mk (Q_HI306 hb_)
          have HB := Aside0.mk Q_HB
          refine goes_ Try.func27 (by kernel_rfl) rfl #[.pointer (some ⟨g306, 0, none⟩), .int .i64 12] (by rfl) rfl rfl (by first | (simp only [List.map_toArray, List.map_cons, List.map_nil, Act.eval, Array.getD_eq_getD_getElem?, Option.getD_some, e7]; done) | (simp only [List.map_toArray, List.map_cons, List.map_nil, Act.eval, Array.getD_eq_getD_getElem?, Option.getD_some, e7]; rfl)) ?_
          with_reducible refine (spec_l20Day.calls k g306 t304 t305 12 t307 t308 t309 t310 w _ ?side1 ?side2 A3.out).mono ?_
          (case side1 => repeat (first | (with_reducible first | exact HI306.out | apply IsS52.alloc | apply IsS52.drewN | apply IsS52.drew | apply IsS52.set_1 | refine IsS52.far ?_ NB306_303.out _) | exact HI306.out))
          (case side2 => repeat (first | (with_reducible first | exact HB.out | apply below_alloc | apply pw_below_drewN | apply below_drew1 | refine below_set ?_ (IsS52.ge HI306.out) | refine below_set ?_ GE303.out) | exact HB.out))
          rintro e w11 ⟨rfl, hi, hb, hk⟩
          refine ⟨_, rfl, ?_⟩
          have n0_ := Aside0.mk (KeepBut.blk hk (g' := gb303) (o := .cells #[.int .i64 0, .int .i64 0, .int .i64 0] 24 (0, 0)) (by (with_reducible repeat (first | refine blk_drewN ?_ _ | refine blk_drew ?_ | refine blk_alloc ?_ _)); exact BK303.out) NB303_306.out (by simp))
          have n1_ := Aside0.mk (hb)
          have n2_ := Aside0.mk (hi)
          clear BK303
          clear HB
          clear HI306
          have BK303 := n0_
          have HB := n1_
          have HI306 := n2_
          clear n0_ n1_ n2_
          (try clear hb)
          (try clear hb2)
          (try clear hk)
          (try clear hi)
          refine hK.out _ _ ⟨v314, adz_v314, m7_, (by rw [ha.out]; exact putSel_upk 0 hb_ rfl rfl rfl), fun _ => (by (with_reducible repeat (first | refine blk_drewN ?_ _ | refine blk_drew ?_ | refine blk_alloc ?_ _)); exact BK303.out), fun h0_ => absurd ((up_self b 1).symm.trans h0_) (by decide), (by repeat (first | (with_reducible first | exact HB.out | apply below_alloc | apply pw_below_drewN | apply below_drew1 | refine below_set ?_ (IsS52.ge HI306.out) | refine below_set ?_ GE303.out) | exact HB.out)), fun _ _ => (by repeat (first | (with_reducible first | exact HI306.out | apply IsS52.alloc | apply IsS52.drewN | apply IsS52.drew | apply IsS52.set_1 | refine IsS52.far ?_ NB306_303.out _) | exact HI306.out)), fun h0_ _ => absurd ((hoff 3 (by kernel_rfl)).symm.trans h0_) (by decide), fun h0_ => absurd ((hoff 4 (by kernel_rfl)).symm.trans h0_) (by decide), fun h0_ => absurd ((hoff 4 (by kernel_rfl)).symm.trans h0_) (by decide), fun h0_ => absurd ((hoff 6 (by kernel_rfl)).symm.trans h0_) (by decide), fun h0_ => absurd ((hoff 9 (by kernel_rfl)).symm.trans h0_) (by decide), fun h0_ => absurd ((hoff 7 (by kernel_rfl)).symm.trans h0_) (by decide)⟩
        refine steps_cons ?_ ?_
        · rintro b a w' ⟨v314, adz_v314, m7_, ha, Q_BK303, Q_HI306, Q_HB, Q_HI306_e1, Q_HI306_e3, Q_HO315, Q_HA_HO315, Q_HI306_e6, Q_BK303_e9, Q_X7_⟩ hb_ hon hoff
          refine ⟨_, rfl, fun K hK => ?_⟩
          have e9 : a.tmps[9]? = some (.pointer (some ⟨g306, 0, none⟩)) := by rw [ha]; exact (putSel_off rfl).trans rfl
          replace ha := Aside0.mk ha
          have BK303 := Aside0.mk (Q_BK303 (hoff 9 (by kernel_rfl)))
          have HB := Aside0.mk Q_HB
          have HI306 := Aside0.mk (Q_HI306_e1 (hon 1 (by kernel_rfl)) hb_)
          refine goes_ Try.func29 (by kernel_rfl) rfl #[.pointer (some ⟨g306, 0, none⟩), .int .i64 100] (by rfl) rfl rfl (by first | (simp only [List.map_toArray, List.map_cons, List.map_nil, Act.eval, Array.getD_eq_getD_getElem?, Option.getD_some, e9]; done) | (simp only [List.map_toArray, List.map_cons, List.map_nil, Act.eval, Array.getD_eq_getD_getElem?, Option.getD_some, e9]; rfl)) ?_
          with_reducible refine (spec_l20Rd_pick.calls k g306 t304 t310 100 t311 t312 w _ ?side1 ?side2 A4.out).mono ?_
          (case side1 => repeat (first | (with_reducible first | exact HI306.out | apply IsS52.alloc | apply IsS52.drewN | apply IsS52.drew | apply IsS52.set_1 | refine IsS52.far ?_ NB306_303.out _) | exact HI306.out))
          (case side2 => repeat (first | (with_reducible first | exact HB.out | apply below_alloc | apply pw_below_drewN | apply below_drew1 | refine below_set ?_ (IsS52.ge HI306.out) | refine below_set ?_ GE303.out) | exact HB.out))
          rintro e w13 ⟨rfl, hi, hb, hk⟩
          refine ⟨_, rfl, ?_⟩
          have n0_ := Aside0.mk (KeepBut.blk hk (g' := gb303) (o := .cells #[.int .i64 0, .int .i64 0, .int .i64 0] 24 (0, 0)) (by (with_reducible repeat (first | refine blk_drewN ?_ _ | refine blk_drew ?_ | refine blk_alloc ?_ _)); exact BK303.out) NB303_306.out (by simp))
          have n1_ := Aside0.mk (hb)
          have n2_ := Aside0.mk (hi)
          clear BK303
          clear HB
          clear HI306
          have BK303 := n0_
          have HB := n1_
          have HI306 := n2_
          clear n0_ n1_ n2_
          (try clear hb)
          (try clear hb2)
          (try clear hk)
          (try clear hi)
          refine hK.out _ _ ⟨v314, adz_v314, m7_, (by rw [ha.out]; exact putSel_upk 1 hb_ rfl rfl rfl), fun _ => (by (with_reducible repeat (first | refine blk_drewN ?_ _ | refine blk_drew ?_ | refine blk_alloc ?_ _)); exact BK303.out), fun h0_ => absurd ((hon 1 (by kernel_rfl)).symm.trans h0_) (by decide), (by repeat (first | (with_reducible first | exact HB.out | apply below_alloc | apply pw_below_drewN | apply below_drew1 | refine below_set ?_ (IsS52.ge HI306.out) | refine below_set ?_ GE303.out) | exact HB.out)), fun _ h1_ => absurd ((up_self b 3).symm.trans h1_) (by decide), fun _ _ => (by repeat (first | (with_reducible first | exact HI306.out | apply IsS52.alloc | apply IsS52.drewN | apply IsS52.drew | apply IsS52.set_1 | refine IsS52.far ?_ NB306_303.out _) | exact HI306.out)), fun h0_ => absurd ((hoff 4 (by kernel_rfl)).symm.trans h0_) (by decide), fun h0_ => absurd ((hoff 4 (by kernel_rfl)).symm.trans h0_) (by decide), fun h0_ => absurd ((hoff 6 (by kernel_rfl)).symm.trans h0_) (by decide), fun h0_ => absurd ((hoff 9 (by kernel_rfl)).symm.trans h0_) (by decide), fun h0_ => absurd ((hoff 7 (by kernel_rfl)).symm.trans h0_) (by decide)⟩
        refine steps_cons ?_ ?_
        · rintro b a w' ⟨v314, adz_v314, m7_, ha, Q_BK303, Q_HI306, Q_HB, Q_HI306_e1, Q_HI306_e3, Q_HO315, Q_HA_HO315, Q_HI306_e6, Q_BK303_e9, Q_X7_⟩ hb_ hon hoff
          refine ⟨_, rfl, fun K hK => ?_⟩
          have e10 : a.tmps[10]? = some (.int .i64 t311) := by rw [ha]; exact putSel_on (e := (3, 10, .int .i64 t311)) 1 rfl rfl (hon 3 (by kernel_rfl)) rfl
          replace ha := Aside0.mk ha
          have HB := Aside0.mk Q_HB
          refine Kd.R_lit_step (Kd.int .i64) _ 3 ?hg (N := 11) ?hd (xs := ([0, 1, 2, 3, 6, 12, 24, 600, 601, (-1), t311] : List Int)) (inner := [.int .i64 0, .int .i64 1, .int .i64 2, .int .i64 3, .int .i64 6, .int .i64 12, .int .i64 24, .int .i64 600, .int .i64 601, .int .i64 (-1), .int .i64 t311]) (ok := fun _ => True) (okp := fun _ => True) ?hr ?hp (fun _ hk => hk) trivial (Below.refl _ _) (Nat.le_refl _) (by simp) ?_; (case hd => rfl); (case hg => rfl); (case hr => first | (go_simp; done) | (go_simp; rfl)); (case hp => exact (Reps.one (show Kd.M (Kd.int .i64) _ _ _ 0 [.int .i64 0] from rfl) (Reps.one (show Kd.M (Kd.int .i64) _ _ _ 1 [.int .i64 1] from rfl) (Reps.one (show Kd.M (Kd.int .i64) _ _ _ 2 [.int .i64 2] from rfl) (Reps.one (show Kd.M (Kd.int .i64) _ _ _ 3 [.int .i64 3] from rfl) (Reps.one (show Kd.M (Kd.int .i64) _ _ _ 6 [.int .i64 6] from rfl) (Reps.one (show Kd.M (Kd.int .i64) _ _ _ 12 [.int .i64 12] from rfl) (Reps.one (show Kd.M (Kd.int .i64) _ _ _ 24 [.int .i64 24] from rfl) (Reps.one (show Kd.M (Kd.int .i64) _ _ _ 600 [.int .i64 600] from rfl) (Reps.one (show Kd.M (Kd.int .i64) _ _ _ 601 [.int .i64 601] from rfl) (Reps.one (show Kd.M (Kd.int .i64) _ _ _ (-1) [.int .i64 (-1)] from rfl) (Reps.one (show Kd.M (Kd.int .i64) _ _ _ t311 [.int .i64 t311] from rfl) (Reps.none _ _)))))))))))))
          intro v314 w14 ho15 hb hg_ hnew_
          clear hg_ hnew_
          (first | rw [← Ny313.out] at ho15 | (simp only [Int.reduceToNat] at ho15; rw [← Ny313.out] at ho15))
          have n0_ := Aside0.mk (Kd.R_lower ho15 (below_size (by repeat (first | (with_reducible first | exact HB.out | apply below_alloc | apply pw_below_drewN | apply below_drew1 | refine below_set ?_ GE303.out) | exact HB.out))))
          have n3_ := Aside0.mk (below_step (by repeat (first | (with_reducible first | exact HB.out | apply below_alloc | apply pw_below_drewN | apply below_drew1 | refine below_set ?_ GE303.out) | exact HB.out)) hb)
          have z_BK303 := fun (h0_ : b 9 = false) => (show w14.heap[gb303]? = some (.cells #[.int .i64 0, .int .i64 0, .int .i64 0] 24 (0, 0)) from by first | exact (blk_below (g := gb303) (o := .cells #[.int .i64 0, .int .i64 0, .int .i64 0] 24 (0, 0)) (by (with_reducible repeat (first | refine blk_drewN ?_ _ | refine blk_drew ?_ | refine blk_alloc ?_ _)); exact (Q_BK303 h0_)) hb))
          have z_HI306_e3 := fun (h0_ : b 3 = true) (h1_ : b 6 = false) => (show IsS52 w w14 g306 t304 t312 from by first | exact (IsS52.below (by repeat (first | (with_reducible first | exact (Q_HI306_e3 h0_ h1_) | apply IsS52.alloc | apply IsS52.drewN | apply IsS52.drew | apply IsS52.set_1 | refine IsS52.far ?_ NB306_303.out _) | exact (Q_HI306_e3 h0_ h1_))) hb))
          have z_HI306_e6 := fun (h0_ : b 6 = true) => (show IsS52 w w14 g306 t304 t317 from by first | exact (IsS52.below (by repeat (first | (with_reducible first | exact (Q_HI306_e6 h0_) | apply IsS52.alloc | apply IsS52.drewN | apply IsS52.drew | apply IsS52.set_1 | refine IsS52.far ?_ NB306_303.out _) | exact (Q_HI306_e6 h0_))) hb))
          have z_BK303_e9 := fun (h0_ : b 9 = true) => (show w14.heap[gb303]? = some (.cells #[.int .i64 t307, .int .i64 t308, .int .i64 t309] 24 (0, 0)) from by first | exact (blk_below (g := gb303) (o := .cells #[.int .i64 t307, .int .i64 t308, .int .i64 t309] 24 (0, 0)) (by (with_reducible repeat (first | refine blk_drewN ?_ _ | refine blk_drew ?_ | refine blk_alloc ?_ _)); exact (Q_BK303_e9 h0_)) hb))
          clear HB
          have HO315 := n0_
          have HB := n3_
          clear n0_ n3_
          clear hb ho15
          obtain ⟨Ao16, co16, eo16⟩ := Kd.R_slice HO315.out
          subst eo16
          obtain ⟨ado16, fo16, _⟩ := Kd.at_int (Kd.R_reads' HO315.out).2.2 0 (by decide) (by rw [Ny313.out]; simp)
          cases fo16
          refine hK.out _ _ ⟨.slice (some ado16) y313.length co16, ado16, m7_, (by rw [ha.out]; exact putSel_upk 2 hb_ rfl rfl rfl), z_BK303, fun h0_ => absurd ((hon 1 (by kernel_rfl)).symm.trans h0_) (by decide), (by repeat (first | (with_reducible first | exact HB.out | apply below_alloc | apply pw_below_drewN | apply below_drew1 | refine below_set ?_ GE303.out) | exact HB.out)), fun _ h1_ => absurd ((hon 3 (by kernel_rfl)).symm.trans h1_) (by decide), z_HI306_e3, fun _ => (by (with_reducible repeat (first | apply Kd.R_alloc | apply Kd.R_drewN | apply Kd.R_drew)); exact HO315.out), fun _ => ⟨_, rfl⟩, z_HI306_e6, z_BK303_e9, fun h0_ => absurd ((hoff 7 (by kernel_rfl)).symm.trans h0_) (by decide)⟩
        refine steps_cons ?_ ?_
        · rintro b a w' ⟨v314, adz_v314, m7_, ha, Q_BK303, Q_HI306, Q_HB, Q_HI306_e1, Q_HI306_e3, Q_HO315, Q_HA_HO315, Q_HI306_e6, Q_BK303_e9, Q_X7_⟩ hb_ hon hoff
          refine ⟨_, rfl, fun K hK => ?_⟩
          have e12 : a.tmps[12]? = some (.pointer (some ⟨g306, 0, none⟩)) := by rw [ha]; exact (putSel_off rfl).trans rfl
          replace ha := Aside0.mk ha
          have BK303 := Aside0.mk (Q_BK303 (hoff 9 (by kernel_rfl)))
          have HB := Aside0.mk Q_HB
          have HI306 := Aside0.mk (Q_HI306_e3 (hon 3 (by kernel_rfl)) hb_)
          refine goes_ Try.func29 (by kernel_rfl) rfl #[.pointer (some ⟨g306, 0, none⟩), .int .i64 11] (by rfl) rfl rfl (by first | (simp only [List.map_toArray, List.map_cons, List.map_nil, Act.eval, Array.getD_eq_getD_getElem?, Option.getD_some, e12]; done) | (simp only [List.map_toArray, List.map_cons, List.map_nil, Act.eval, Array.getD_eq_getD_getElem?, Option.getD_some, e12]; rfl)) ?_
          with_reducible refine (spec_l20Rd_pick.calls k g306 t304 t312 11 t316 t317 w _ ?side1 ?side2 A5.out).mono ?_
          (case side1 => repeat (first | (with_reducible first | exact HI306.out | apply IsS52.alloc | apply IsS52.drewN | apply IsS52.drew | apply IsS52.set_1 | refine IsS52.far ?_ NB306_303.out _) | exact HI306.out))
          (case side2 => repeat (first | (with_reducible first | exact HB.out | apply below_alloc | apply pw_below_drewN | apply below_drew1 | refine below_set ?_ (IsS52.ge HI306.out) | refine below_set ?_ GE303.out) | exact HB.out))
          rintro e w14 ⟨rfl, hi, hb, hk⟩
          refine ⟨_, rfl, ?_⟩
          have n0_ := Aside0.mk (KeepBut.blk hk (g' := gb303) (o := .cells #[.int .i64 0, .int .i64 0, .int .i64 0] 24 (0, 0)) (by (with_reducible repeat (first | refine blk_drewN ?_ _ | refine blk_drew ?_ | refine blk_alloc ?_ _)); exact BK303.out) NB303_306.out (by simp))
          have n1_ := Aside0.mk (hb)
          have n2_ := Aside0.mk (hi)
          have z_HO315 := fun (h0_ : b 4 = true) => (show Kd.R (Kd.int .i64) 3 w14 w.heap.size (fun _ => True) v314 y313 from by first | exact (Kd.R_mono (Kd.R_keep (IsS52.apart (show IsS52 w _ g306 t304 t312 from by repeat (first | (with_reducible first | exact HI306.out | apply IsS52.alloc | apply IsS52.drewN | apply IsS52.drew | apply IsS52.set_1 | refine IsS52.far ?_ NB306_303.out _) | exact HI306.out)) (by (with_reducible repeat (first | apply Kd.R_alloc | apply Kd.R_drewN | apply Kd.R_drew)); exact (Q_HO315 h0_)) (by decide)) hk (fun _ h => h.2)) (fun _ h => h.1)) | exact Kd.R_mono (Kd.R_mono (Kd.R_keep (IsS52.apart (show IsS52 w _ g306 t304 t312 from by repeat (first | (with_reducible first | exact HI306.out | apply IsS52.alloc | apply IsS52.drewN | apply IsS52.drew | apply IsS52.set_1 | refine IsS52.far ?_ NB306_303.out _) | exact HI306.out)) (by (with_reducible repeat (first | apply Kd.R_alloc | apply Kd.R_drewN | apply Kd.R_drew)); exact (Q_HO315 h0_)) (by decide)) hk (fun _ h => h.2)) (fun _ h => h.1)) (fun _ h_ => by first | trivial | exact h_ | exact h_.1))
          clear BK303
          clear HB
          clear HI306
          have BK303 := n0_
          have HB := n1_
          have HI306 := n2_
          clear n0_ n1_ n2_
          (try clear hb)
          (try clear hb2)
          (try clear hk)
          (try clear hi)
          refine hK.out _ _ ⟨v314, adz_v314, m7_, (by rw [ha.out]; exact putSel_upk 3 hb_ rfl rfl rfl), fun _ => (by (with_reducible repeat (first | refine blk_drewN ?_ _ | refine blk_drew ?_ | refine blk_alloc ?_ _)); exact BK303.out), fun h0_ => absurd ((hon 1 (by kernel_rfl)).symm.trans h0_) (by decide), (by repeat (first | (with_reducible first | exact HB.out | apply below_alloc | apply pw_below_drewN | apply below_drew1 | refine below_set ?_ (IsS52.ge HI306.out) | refine below_set ?_ GE303.out) | exact HB.out)), fun _ h1_ => absurd ((hon 3 (by kernel_rfl)).symm.trans h1_) (by decide), fun _ h1_ => absurd ((up_self b 6).symm.trans h1_) (by decide), z_HO315, Q_HA_HO315, fun _ => (by repeat (first | (with_reducible first | exact HI306.out | apply IsS52.alloc | apply IsS52.drewN | apply IsS52.drew | apply IsS52.set_1 | refine IsS52.far ?_ NB306_303.out _) | exact HI306.out)), fun h0_ => absurd ((hoff 9 (by kernel_rfl)).symm.trans h0_) (by decide), fun h0_ => absurd ((hoff 7 (by kernel_rfl)).symm.trans h0_) (by decide)⟩
        refine steps_cons ?_ ?_
        · rintro b a w' ⟨v314, adz_v314, m7_, ha, Q_BK303, Q_HI306, Q_HB, Q_HI306_e1, Q_HI306_e3, Q_HO315, Q_HA_HO315, Q_HI306_e6, Q_BK303_e9, Q_X7_⟩ hb_ hon hoff
          refine ⟨_, rfl, fun K hK => ?_⟩
          have e11 : a.tmps[11]? = some (v314) := by rw [ha]; exact putSel_on (e := (4, 11, v314)) 2 rfl rfl (hon 4 (by kernel_rfl)) rfl
          have e13 : a.tmps[13]? = some (.int .i64 t316) := by rw [ha]; exact putSel_on (e := (6, 13, .int .i64 t316)) 3 rfl rfl (hon 6 (by kernel_rfl)) rfl
          replace ha := Aside0.mk ha
          have HB := Aside0.mk Q_HB
          have HO315 := Aside0.mk (Q_HO315 (hon 4 (by kernel_rfl)))
          have HA_HO315 := Aside0.mk (Q_HA_HO315 (hon 4 (by kernel_rfl)))
          have HI306 := Aside0.mk (Q_HI306_e6 (hon 6 (by kernel_rfl)))
          obtain ⟨c_, hv_⟩ := HA_HO315.out
          rw [hv_] at e11
          refine value_ (w1 := w') (v := .pointer (some (adz_v314.add (t316).toNat))) (by rfl) rfl ?_ ?_
          · go_simp
            (try simp only [i64_w])
            try rfl
          refine hK.out _ _ ⟨v314, adz_v314, (.pointer (some (adz_v314.add (t316).toNat))), (by rw [ha.out]; exact putSel_upk 4 hb_ rfl rfl rfl), Q_BK303, fun h0_ => absurd ((hon 1 (by kernel_rfl)).symm.trans h0_) (by decide), Q_HB, fun _ h1_ => absurd ((hon 3 (by kernel_rfl)).symm.trans h1_) (by decide), fun _ h1_ => absurd ((hon 6 (by kernel_rfl)).symm.trans h1_) (by decide), Q_HO315, Q_HA_HO315, Q_HI306_e6, Q_BK303_e9, fun _ => rfl⟩
        refine steps_cons ?_ ?_
        · rintro b a w' ⟨v314, adz_v314, m7_, ha, Q_BK303, Q_HI306, Q_HB, Q_HI306_e1, Q_HI306_e3, Q_HO315, Q_HA_HO315, Q_HI306_e6, Q_BK303_e9, Q_X7_⟩ hb_ hon hoff
          refine ⟨_, rfl, fun K hK => ?_⟩
          have e14 : a.tmps[14]? = some (m7_) := by rw [ha]; exact putSel_on (e := (7, 14, m7_)) 4 rfl rfl (hon 7 (by kernel_rfl)) rfl
          rw [Q_X7_ (hon 7 (by kernel_rfl))] at e14
          replace ha := Aside0.mk ha
          have HB := Aside0.mk Q_HB
          have HO315 := Aside0.mk (Q_HO315 (hon 4 (by kernel_rfl)))
          have HA_HO315 := Aside0.mk (Q_HA_HO315 (hon 4 (by kernel_rfl)))
          have HI306 := Aside0.mk (Q_HI306_e6 (hon 6 (by kernel_rfl)))
          obtain ⟨c_, hv_⟩ := HA_HO315.out
          have hF_ := HO315.out
          rw [hv_] at hF_
          obtain ⟨ad_, ea_, hx_⟩ := Kd.at_int (Kd.R_reads' hF_).2.2 t316 (of_eq_true pi318) (of_eq_true qi318)
          cases ea_
          refine value_ (w1 := w') (v := .int .i64 (rd y313 t316)) (by rfl) rfl ?_ ?_
          · go_simp
            (try simp only [i64_w])
            try rfl
          refine hK.out _ _ ⟨v314, adz_v314, m7_, (by rw [ha.out]; exact putSel_upk 5 hb_ rfl rfl rfl), Q_BK303, fun h0_ => absurd ((hon 1 (by kernel_rfl)).symm.trans h0_) (by decide), Q_HB, fun _ h1_ => absurd ((hon 3 (by kernel_rfl)).symm.trans h1_) (by decide), fun _ h1_ => absurd ((hon 6 (by kernel_rfl)).symm.trans h1_) (by decide), Q_HO315, Q_HA_HO315, Q_HI306_e6, Q_BK303_e9, Q_X7_⟩
        refine steps_cons ?_ ?_
        · rintro b a w' ⟨v314, adz_v314, m7_, ha, Q_BK303, Q_HI306, Q_HB, Q_HI306_e1, Q_HI306_e3, Q_HO315, Q_HA_HO315, Q_HI306_e6, Q_BK303_e9, Q_X7_⟩ hb_ hon hoff
          refine ⟨_, rfl, fun K hK => ?_⟩
          have e2 : a.tmps[2]? = some (.pointer (some ⟨gb303, 0, none⟩)) := by rw [ha]; exact (putSel_off rfl).trans rfl
          have e8 : a.tmps[8]? = some (.agg #[.int .i64 t307, .int .i64 t308, .int .i64 t309]) := by rw [ha]; exact putSel_on (e := (1, 8, .agg #[.int .i64 t307, .int .i64 t308, .int .i64 t309])) 0 rfl rfl (hon 1 (by kernel_rfl)) rfl
          replace ha := Aside0.mk ha
          have BK303 := Aside0.mk (Q_BK303 hb_)
          have HB := Aside0.mk Q_HB
          have HI306 := Aside0.mk (Q_HI306_e6 (hon 6 (by kernel_rfl)))
          have hs15 : w'.cell? ⟨gb303, 0, none⟩ = some (.int .i64 0) := (blk_cell BK303.out 0).trans rfl
          have hfs15 := blk_frozen BK303.out 0
          have hs16 : w'.cell? ⟨gb303, 1, none⟩ = some (.int .i64 0) := (blk_cell BK303.out 1).trans rfl
          have hfs16 := blk_frozen BK303.out 1
          have hs17 : w'.cell? ⟨gb303, 2, none⟩ = some (.int .i64 0) := (blk_cell BK303.out 2).trans rfl
          have hfs17 := blk_frozen BK303.out 2
          refine skip_ (w1 := ?_) (by rfl) rfl ?_ ?_
          rotate_left
          · go_simp
            rfl
          refine hK.out _ _ ⟨v314, adz_v314, m7_, (by rw [ha.out]; exact putSel_none (v := undef) rfl), fun h0_ => absurd ((up_self b 9).symm.trans h0_) (by decide), fun h0_ => absurd ((hon 1 (by kernel_rfl)).symm.trans h0_) (by decide), (by repeat (first | (with_reducible first | exact HB.out | apply below_alloc | apply pw_below_drewN | apply below_drew1 | refine below_set ?_ (IsS52.ge HI306.out) | refine below_set ?_ GE303.out) | exact HB.out)), fun _ h1_ => absurd ((hon 3 (by kernel_rfl)).symm.trans h1_) (by decide), fun _ h1_ => absurd ((hon 6 (by kernel_rfl)).symm.trans h1_) (by decide), fun h0_ => (by (with_reducible repeat (first | apply Kd.R_alloc | apply Kd.R_drewN | apply Kd.R_drew)); exact Kd.R_mono (Kd.R_far (p := ⟨gb303, 2, none⟩) (Kd.R_far (p := ⟨gb303, 1, none⟩) (Kd.R_far (p := ⟨gb303, 0, none⟩) (Kd.R_types (Q_HO315 h0_) BK303.out (by decide)) (fun _ hk => hk.2) (.int .i64 t307)) (fun _ hk => hk.2) (.int .i64 t308)) (fun _ hk => hk.2) (.int .i64 t309)) (fun _ hk => trivial)), Q_HA_HO315, fun _ => (by repeat (first | (with_reducible first | exact HI306.out | apply IsS52.alloc | apply IsS52.drewN | apply IsS52.drew | apply IsS52.set_1 | refine IsS52.far ?_ NB306_303.out _) | exact HI306.out)), fun _ => (by (with_reducible repeat (first | refine blk_drewN ?_ _ | refine blk_drew ?_ | refine blk_alloc ?_ _)); refine blk_put (cs := #[.int .i64 t307, .int .i64 t308, .int .i64 0]) ?_ 2 _ rfl; (with_reducible repeat (first | refine blk_drewN ?_ _ | refine blk_drew ?_ | refine blk_alloc ?_ _)); refine blk_put (cs := #[.int .i64 t307, .int .i64 0, .int .i64 0]) ?_ 1 _ rfl; (with_reducible repeat (first | refine blk_drewN ?_ _ | refine blk_drew ?_ | refine blk_alloc ?_ _)); refine blk_put (cs := #[.int .i64 0, .int .i64 0, .int .i64 0]) ?_ 0 _ rfl; (with_reducible repeat (first | refine blk_drewN ?_ _ | refine blk_drew ?_ | refine blk_alloc ?_ _)); exact BK303.out), Q_X7_⟩
        refine steps_cons ?_ ?_
        · rintro b a w' ⟨v314, adz_v314, m7_, ha, Q_BK303, Q_HI306, Q_HB, Q_HI306_e1, Q_HI306_e3, Q_HO315, Q_HA_HO315, Q_HI306_e6, Q_BK303_e9, Q_X7_⟩ hb_ hon hoff
          refine ⟨_, rfl, fun K hK => ?_⟩
          have e15 : a.tmps[15]? = some (.int .i64 (rd y313 t316)) := by rw [ha]; exact putSel_on (e := (8, 15, .int .i64 (rd y313 t316))) 5 rfl rfl (hon 8 (by kernel_rfl)) rfl
          replace ha := Aside0.mk ha
          have HB := Aside0.mk Q_HB
          have HO315 := Aside0.mk (Q_HO315 (hon 4 (by kernel_rfl)))
          have HA_HO315 := Aside0.mk (Q_HA_HO315 (hon 4 (by kernel_rfl)))
          have HI306 := Aside0.mk (Q_HI306_e6 (hon 6 (by kernel_rfl)))
          have BK303 := Aside0.mk (Q_BK303_e9 (hon 9 (by kernel_rfl)))
          refine value_ (w1 := w') (v := .int .i64 (rd y313 t316)) (by rfl) rfl ?_ ?_
          · go_simp
            (try simp only [i64_w])
            try rfl
          refine hK.out _ _ ⟨v314, adz_v314, m7_, (by rw [ha.out]; exact putSel_upk 6 hb_ rfl rfl rfl), fun h0_ => absurd ((hon 9 (by kernel_rfl)).symm.trans h0_) (by decide), fun h0_ => absurd ((hon 1 (by kernel_rfl)).symm.trans h0_) (by decide), Q_HB, fun _ h1_ => absurd ((hon 3 (by kernel_rfl)).symm.trans h1_) (by decide), fun _ h1_ => absurd ((hon 6 (by kernel_rfl)).symm.trans h1_) (by decide), Q_HO315, Q_HA_HO315, Q_HI306_e6, Q_BK303_e9, Q_X7_⟩
        exact steps_nil
      rintro b a w20 hall ⟨v314, adz_v314, m7_, ha, Q_BK303, Q_HI306, Q_HB, Q_HI306_e1, Q_HI306_e3, Q_HO315, Q_HA_HO315, Q_HI306_e6, Q_BK303_e9, Q_X7_⟩
      clear BK303 HB HI306
      have hb1_ := hall 1 (by kernel_rfl)
      have hb3_ := hall 3 (by kernel_rfl)
      have hb4_ := hall 4 (by kernel_rfl)
      have hb6_ := hall 6 (by kernel_rfl)
      have hb7_ := hall 7 (by kernel_rfl)
      have hb8_ := hall 8 (by kernel_rfl)
      have hb9_ := hall 9 (by kernel_rfl)
      have hb10_ := hall 10 (by kernel_rfl)
      subst ha
      obtain rfl := Q_X7_ hb7_
      simp only [putSel, hb1_, hb3_, hb4_, hb6_, hb7_, hb8_, hb9_, hb10_, if_true, Act.put, List.setIfInBounds_toArray, List.set_cons_zero, List.set_cons_succ]
      clear Q_BK303
      clear Q_HI306
      have HB := Aside0.mk Q_HB
      clear Q_HB
      clear Q_HI306_e1
      clear Q_HI306_e3
      have HO315 := Aside0.mk (Q_HO315 hb4_)
      clear Q_HO315
      have HA_HO315 := Aside0.mk (Q_HA_HO315 hb4_)
      clear Q_HA_HO315
      have HI306 := Aside0.mk (Q_HI306_e6 hb6_)
      clear Q_HI306_e6
      have BK303 := Aside0.mk (Q_BK303_e9 hb9_)
      clear Q_BK303_e9
      clear hall hb1_ hb3_ hb4_ hb6_ hb7_ hb8_ hb9_ hb10_
      obtain ⟨co21, eo21⟩ := HA_HO315.out
      clear HA_HO315
      subst eo21
      try go_wp2
      refine bodyPost_ret (results_ct rfl _ _ gb303 24 #[.int .i64 t307, .int .i64 t308, .int .i64 t309] (0, 0) _ rfl (by (with_reducible repeat (first | refine blk_drewN ?_ _ | refine blk_drew ?_ | refine blk_alloc ?_ _)); exact BK303.out) Try.underlying24 rfl (by kernel_rfl)) rfl ?_
      exact ⟨by first | rfl | (simp [errW_none, errW_some] <;> rfl) | (simp [*, errW_none, errW_some] <;> rfl), by repeat (first | (with_reducible first | exact HB.out | apply below_alloc | apply pw_below_drewN | apply below_drew1 | refine below_set ?_ (IsS52.ge HI306.out) | refine below_set ?_ GE303.out) | exact HB.out)⟩
    · rw [if_neg c7] at H
      exact absurd H (by simp)
  · rw [if_neg c6] at H
    exact absurd H (by simp)

end Go.Proofs.Ytpbmobgpipmldaa.All
