-- Written by the session's own program wip/allprint.py, which drives the kit's print; Lean checks it.
import Derived.Test.YtojgpnobbnihdaaAllx0
import Derived.Test.YtojgpnobbnihdaaAllx1
import Derived.Test.YtojgpnobbnihdaaAllx10
namespace Go.Proofs.Ytojgpnobbnihdaa.All
open Go.RowKit Go.Proofs.YtojgpnobbnihdaaW.PrintWords Go.Proofs.YtojgpnobbnihdaaW.PrintLast Go.Proofs.YtojgpnobbnihdaaW.PrintMore
attribute [local go_sem] max2_int min2_int max_two min_two max_three min_three max_four min_four   -- for this text's walks alone
set_option linter.unusedVariables false
set_option linter.unusedSimpArgs false

/-! ### spec_l20Day: function 51 -/
def spec_l20Day.j0 : Nat → Int → List Int → Int → Int → Int → Int → Option (Int × Int × Int × Int)
  | 0, _, _, _, _, _, _ => none
  | k + 1, x1, x1000, x1001, x199000, x199001, x199002 => (spec_l20Rd_pick.f k x1000 x1001 x1).bind fun bt201 => (if bt201.1 = 0 then ((spec_l20Rd_pick.f k x1000 bt201.2 3).bind fun bt203 => (if bt203.1 = 0 then ((some (([1899, 2200, 2023] : List Int) : List Int)).bind fun y205 => ((spec_l20Rd_pick.f k x1000 bt203.2 3).bind fun bt208 => (if 0 ≤ bt208.1 then (if bt208.1 < (y205.length : Int) then (some (rd y205 bt208.1, x199001, x199002, bt208.2)) else (none)) else (none)))) else (if bt203.1 = 1 then ((some (([0, 13, 2] : List Int) : List Int)).bind fun y211 => ((spec_l20Rd_pick.f k x1000 bt203.2 3).bind fun bt214 => (if 0 ≤ bt214.1 then (if bt214.1 < (y211.length : Int) then (some (x199000, rd y211 bt214.1, x199002, bt214.2)) else (none)) else (none)))) else ((some (([0, 31, 30, 32] : List Int) : List Int)).bind fun y217 => ((spec_l20Rd_pick.f k x1000 bt203.2 4).bind fun bt220 => (if 0 ≤ bt220.1 then (if bt220.1 < (y217.length : Int) then (some (x199000, x199001, rd y217 bt220.1, bt220.2)) else (none)) else (none))))))) else (some (x199000, x199001, x199002, bt201.2)))
def spec_l20Day.f (k : Nat) (s0_0 : List Int) (s0_1 : Int) (a1 : Int) : Option (Int × Int × Int × Int) := (some (([1900, 2000, 2024, 2026, 2100, 2199, 1996] : List Int) : List Int)).bind fun y184 => ((spec_l20Rd_pick.f k s0_0 s0_1 7).bind fun bt187 => (if 0 ≤ bt187.1 then (if bt187.1 < (y184.length : Int) then ((spec_l20Rd_pick.f k s0_0 bt187.2 12).bind fun bt190 => ((some (([1, 28, 15, 31, 30, 29] : List Int) : List Int)).bind fun y192 => ((spec_l20Rd_pick.f k s0_0 bt190.2 6).bind fun bt195 => (if 0 ≤ bt195.1 then (if bt195.1 < (y192.length : Int) then ((spec_DayLast.f k (rd y184 bt187.1) (wrap64 (1 + bt190.1))).bind fun t199 => (if (rd y192 bt195.1) > t199 then ((spec_DayLast.f k (rd y184 bt187.1) (wrap64 (1 + bt190.1))).bind fun t200 => (spec_l20Day.j0 k a1 s0_0 bt195.2 (rd y184 bt187.1) (wrap64 (1 + bt190.1)) t200)) else (spec_l20Day.j0 k a1 s0_0 bt195.2 (rd y184 bt187.1) (wrap64 (1 + bt190.1)) (rd y192 bt195.1)))) else (none)) else (none))))) else (none)) else (none)))
theorem spec_l20Day.mono_l : ∀ k, (∀ y0 y1 y2 y3 y4 y5, LeO (spec_l20Day.j0 k y0 y1 y2 y3 y4 y5) (spec_l20Day.j0 (k + 1) y0 y1 y2 y3 y4 y5))
  | 0 => fun _ _ _ _ _ _ r h => by simp [spec_l20Day.j0] at h
  | k + 1 => by
    have ih0 := spec_l20Day.mono_l k
    · intro y0 y1 y2 y3 y4 y5
      unfold spec_l20Day.j0
      repeat' first
      | (with_reducible exact ih0 _ _ _ _ _ _)
      | (with_reducible exact spec_DayLast.mono _ _ _)
      | (with_reducible exact spec_l20Rd_pick.mono _ _ _ _)
      | (with_reducible exact LeO.refl _)
      | (with_reducible exact LeO.none _)
      | (with_reducible refine LeO.ite ?_ ?_)
      | (with_reducible refine LeO.bind ?_ (fun _ => ?_))
      | exact ih0 _ _ _ _ _ _
      | exact spec_DayLast.mono _ _ _
      | exact spec_l20Rd_pick.mono _ _ _ _
      | exact LeO.none _
      | refine LeO.ite ?_ ?_
      | refine LeO.bind ?_ (fun _ => ?_)
theorem spec_l20Day.mono : ∀ a0 a1 a2 k, LeO (spec_l20Day.f k a0 a1 a2) (spec_l20Day.f (k + 1) a0 a1 a2) := by
  intro a0 a1 a2 k
  have ih0 := spec_l20Day.mono_l k
  unfold spec_l20Day.f
  repeat' first
      | (with_reducible exact ih0 _ _ _ _ _ _)
      | (with_reducible exact spec_DayLast.mono _ _ _)
      | (with_reducible exact spec_l20Rd_pick.mono _ _ _ _)
      | (with_reducible exact LeO.refl _)
      | (with_reducible exact LeO.none _)
      | (with_reducible refine LeO.ite ?_ ?_)
      | (with_reducible refine LeO.bind ?_ (fun _ => ?_))
      | exact ih0 _ _ _ _ _ _
      | exact spec_DayLast.mono _ _ _
      | exact spec_l20Rd_pick.mono _ _ _ _
      | exact LeO.none _
      | refine LeO.ite ?_ ?_
      | refine LeO.bind ?_ (fun _ => ?_)
def spec_l20Day.T1 : Bool × List (List Nat × List Nat) := (true, [([], []), ([], []), ([1], [1]), ([0, 2], [0, 2]), ([3], [3]), ([], []), ([5, 2], [5]), ([6], [6]), ([], []), ([], []), ([9, 6], [9]), ([8, 10], [8, 10]), ([11], [11]), ([4, 7, 12], [4, 7, 12]), ([], []), ([14, 13, 10, 0, 1, 2, 3, 4, 5, 6, 7, 8, 9, 10, 11, 12, 13, 14], [13, 14])])
def spec_l20Day.B1 : List Nat := [0, 0, 2, 7, 15, 0, 38, 102, 0, 0, 614, 1894, 3942, 8191, 0, 32767]
theorem spec_l20Day.tab1 : rtab .any (opsOf Try.f51 1) = spec_l20Day.T1 := by kernel_rfl
theorem spec_l20Day.bits1 : waitsOk spec_l20Day.T1.2 spec_l20Day.B1 = true := by kernel_rfl
def spec_l20Day.T2 : Bool × List (List Nat × List Nat) := (true, [([], []), ([0], [0]), ([], []), ([2], [2]), ([], []), ([4], [4]), ([3, 5], [3, 5]), ([1, 6], [1, 6])])
def spec_l20Day.B2 : List Nat := [0, 1, 0, 4, 0, 16, 60, 127]
theorem spec_l20Day.tab2 : rtab .any (opsOf Try.f51 2) = spec_l20Day.T2 := by kernel_rfl
theorem spec_l20Day.bits2 : waitsOk spec_l20Day.T2.2 spec_l20Day.B2 = true := by kernel_rfl
set_option maxHeartbeats 8000000 in
set_option maxRecDepth 100000 in
theorem spec_l20Day.calls (k : Nat) (g : Nat) (s0_0 : List Int) (s0_1 : Int) (a1 : Int) (r1 : Int) (r2 : Int) (r3 : Int) (r4 : Int) (w0 w : World) (hI : IsS69 w0 w g s0_0 s0_1) (hB : Below w0.heap.size w0 w) (h : spec_l20Day.f k s0_0 s0_1 a1 = some (r1, r2, r3, r4)) :
    Calls Try.prog 51 #[.pointer (some ⟨g, 0, none⟩), .int .i64 a1] w fun e w' => e = .returned (.agg #[.int .i64 r1, .int .i64 r2, .int .i64 r3]) ∧ IsS69 w0 w' g s0_0 r4 ∧ Below w0.heap.size w0 w' ∧ KeepBut w w' g none := by
  have hu29 := Try.underlying29
  have HI0 := Aside0.mk hI
  have HGL := Aside0.mk (IsS69.lt hI)
  have HK := Aside0.mk (KeepBut.refl w g none)
  have HL := Aside0.mk hB.size
  clear hI
  have HW0 := Aside0.mk hB.size
  have HB := Aside0.mk hB
  clear hB
  have H : ((some (([1900, 2000, 2024, 2026, 2100, 2199, 1996] : List Int) : List Int)).bind fun y184 => ((spec_l20Rd_pick.f k s0_0 s0_1 7).bind fun bt187 => (if 0 ≤ bt187.1 then (if bt187.1 < (y184.length : Int) then ((spec_l20Rd_pick.f k s0_0 bt187.2 12).bind fun bt190 => ((some (([1, 28, 15, 31, 30, 29] : List Int) : List Int)).bind fun y192 => ((spec_l20Rd_pick.f k s0_0 bt190.2 6).bind fun bt195 => (if 0 ≤ bt195.1 then (if bt195.1 < (y192.length : Int) then ((spec_DayLast.f k (rd y184 bt187.1) (wrap64 (1 + bt190.1))).bind fun t199 => (if (rd y192 bt195.1) > t199 then ((spec_DayLast.f k (rd y184 bt187.1) (wrap64 (1 + bt190.1))).bind fun t200 => (spec_l20Day.j0 k a1 s0_0 bt195.2 (rd y184 bt187.1) (wrap64 (1 + bt190.1)) t200)) else (spec_l20Day.j0 k a1 s0_0 bt195.2 (rd y184 bt187.1) (wrap64 (1 + bt190.1)) (rd y192 bt195.1)))) else (none)) else (none))))) else (none)) else (none)))) = some (r1, r2, r3, r4) := h
  clear h
  obtain ⟨y184, hy184⟩ : ∃ y_ : List Int, y_ = (([1900, 2000, 2024, 2026, 2100, 2199, 1996] : List Int)) := ⟨_, rfl⟩
  replace H : ((spec_l20Rd_pick.f k s0_0 s0_1 7).bind fun bt187 => (if 0 ≤ bt187.1 then (if bt187.1 < (y184.length : Int) then ((spec_l20Rd_pick.f k s0_0 bt187.2 12).bind fun bt190 => ((some (([1, 28, 15, 31, 30, 29] : List Int) : List Int)).bind fun y192 => ((spec_l20Rd_pick.f k s0_0 bt190.2 6).bind fun bt195 => (if 0 ≤ bt195.1 then (if bt195.1 < (y192.length : Int) then ((spec_DayLast.f k (rd y184 bt187.1) (wrap64 (1 + bt190.1))).bind fun t199 => (if (rd y192 bt195.1) > t199 then ((spec_DayLast.f k (rd y184 bt187.1) (wrap64 (1 + bt190.1))).bind fun t200 => (spec_l20Day.j0 k a1 s0_0 bt195.2 (rd y184 bt187.1) (wrap64 (1 + bt190.1)) t200)) else (spec_l20Day.j0 k a1 s0_0 bt195.2 (rd y184 bt187.1) (wrap64 (1 + bt190.1)) (rd y192 bt195.1)))) else (none)) else (none))))) else (none)) else (none))) = some (r1, r2, r3, r4) := by first | (rw [hy184]; with_reducible exact H) | (have H2_ := (Option.bind_some _ _).symm.trans H; rw [hy184]; with_reducible exact H2_) | (have H2_ := (Option.bind_some _ _).symm.trans H; with_reducible exact H2_) | with_reducible exact H | (rw [hy184]; exact H) | exact H
  have Ny184 := Aside0.mk hy184
  clear hy184
  replace H := Option.bind_eq_some_iff.mp H
  obtain ⟨⟨t187, t188⟩, A30, H⟩ := H
  replace H : (if 0 ≤ t187 then (if t187 < (y184.length : Int) then ((spec_l20Rd_pick.f k s0_0 t188 12).bind fun bt190 => ((some (([1, 28, 15, 31, 30, 29] : List Int) : List Int)).bind fun y192 => ((spec_l20Rd_pick.f k s0_0 bt190.2 6).bind fun bt195 => (if 0 ≤ bt195.1 then (if bt195.1 < (y192.length : Int) then ((spec_DayLast.f k (rd y184 t187) (wrap64 (1 + bt190.1))).bind fun t199 => (if (rd y192 bt195.1) > t199 then ((spec_DayLast.f k (rd y184 t187) (wrap64 (1 + bt190.1))).bind fun t200 => (spec_l20Day.j0 k a1 s0_0 bt195.2 (rd y184 t187) (wrap64 (1 + bt190.1)) t200)) else (spec_l20Day.j0 k a1 s0_0 bt195.2 (rd y184 t187) (wrap64 (1 + bt190.1)) (rd y192 bt195.1)))) else (none)) else (none))))) else (none)) else (none)) = some (r1, r2, r3, r4) := H
  have A3 := Aside0.mk A30
  clear A30
  by_cases c4 : 0 ≤ t187
  · rw [if_pos c4] at H
    have c4b0 : decide (0 ≤ t187) = true := decide_eq_true c4
    clear c4
    by_cases c5 : t187 < (y184.length : Int)
    · rw [if_pos c5] at H
      have c5b0 : decide (t187 < (y184.length : Int)) = true := decide_eq_true c5
      clear c5
      replace H := Option.bind_eq_some_iff.mp H
      obtain ⟨⟨t190, t191⟩, A60, H⟩ := H
      replace H : ((some (([1, 28, 15, 31, 30, 29] : List Int) : List Int)).bind fun y192 => ((spec_l20Rd_pick.f k s0_0 t191 6).bind fun bt195 => (if 0 ≤ bt195.1 then (if bt195.1 < (y192.length : Int) then ((spec_DayLast.f k (rd y184 t187) (wrap64 (1 + t190))).bind fun t199 => (if (rd y192 bt195.1) > t199 then ((spec_DayLast.f k (rd y184 t187) (wrap64 (1 + t190))).bind fun t200 => (spec_l20Day.j0 k a1 s0_0 bt195.2 (rd y184 t187) (wrap64 (1 + t190)) t200)) else (spec_l20Day.j0 k a1 s0_0 bt195.2 (rd y184 t187) (wrap64 (1 + t190)) (rd y192 bt195.1)))) else (none)) else (none)))) = some (r1, r2, r3, r4) := H
      have A6 := Aside0.mk A60
      clear A60
      obtain ⟨y192, hy192⟩ : ∃ y_ : List Int, y_ = (([1, 28, 15, 31, 30, 29] : List Int)) := ⟨_, rfl⟩
      replace H : ((spec_l20Rd_pick.f k s0_0 t191 6).bind fun bt195 => (if 0 ≤ bt195.1 then (if bt195.1 < (y192.length : Int) then ((spec_DayLast.f k (rd y184 t187) (wrap64 (1 + t190))).bind fun t199 => (if (rd y192 bt195.1) > t199 then ((spec_DayLast.f k (rd y184 t187) (wrap64 (1 + t190))).bind fun t200 => (spec_l20Day.j0 k a1 s0_0 bt195.2 (rd y184 t187) (wrap64 (1 + t190)) t200)) else (spec_l20Day.j0 k a1 s0_0 bt195.2 (rd y184 t187) (wrap64 (1 + t190)) (rd y192 bt195.1)))) else (none)) else (none))) = some (r1, r2, r3, r4) := by first | (rw [hy192]; with_reducible exact H) | (have H2_ := (Option.bind_some _ _).symm.trans H; rw [hy192]; with_reducible exact H2_) | (have H2_ := (Option.bind_some _ _).symm.trans H; with_reducible exact H2_) | with_reducible exact H | (rw [hy192]; exact H) | exact H
      have Ny192 := Aside0.mk hy192
      clear hy192
      replace H := Option.bind_eq_some_iff.mp H
      obtain ⟨⟨t195, t196⟩, A70, H⟩ := H
      replace H : (if 0 ≤ t195 then (if t195 < (y192.length : Int) then ((spec_DayLast.f k (rd y184 t187) (wrap64 (1 + t190))).bind fun t199 => (if (rd y192 t195) > t199 then ((spec_DayLast.f k (rd y184 t187) (wrap64 (1 + t190))).bind fun t200 => (spec_l20Day.j0 k a1 s0_0 t196 (rd y184 t187) (wrap64 (1 + t190)) t200)) else (spec_l20Day.j0 k a1 s0_0 t196 (rd y184 t187) (wrap64 (1 + t190)) (rd y192 t195)))) else (none)) else (none)) = some (r1, r2, r3, r4) := H
      have A7 := Aside0.mk A70
      clear A70
      by_cases c8 : 0 ≤ t195
      · rw [if_pos c8] at H
        have c8b0 : decide (0 ≤ t195) = true := decide_eq_true c8
        clear c8
        by_cases c9 : t195 < (y192.length : Int)
        · rw [if_pos c9] at H
          have c9b0 : decide (t195 < (y192.length : Int)) = true := decide_eq_true c9
          clear c9
          replace H := Option.bind_eq_some_iff.mp H
          obtain ⟨t199, A100, H⟩ := H
          replace H : (if (rd y192 t195) > t199 then ((spec_DayLast.f k (rd y184 t187) (wrap64 (1 + t190))).bind fun t200 => (spec_l20Day.j0 k a1 s0_0 t196 (rd y184 t187) (wrap64 (1 + t190)) t200)) else (spec_l20Day.j0 k a1 s0_0 t196 (rd y184 t187) (wrap64 (1 + t190)) (rd y192 t195))) = some (r1, r2, r3, r4) := H
          have A10 := Aside0.mk A100
          clear A100
          have HC11 := Aside0.mk H
          clear H
          go_enter Try.func51, Try.ntmps51
          try go_wp2_with (first | ((with_reducible refine gate_dst (N := 4) rfl ?_); refine box_event ?hg (N := 4) ?hd (cs := #[.int .i64 0, .int .i64 0, .int .i64 0]) (t := 29) ?hr ?_; (case hd => rfl); (case hg => rfl); (case hr => first | (go_simp; done) | (go_simp; rfl)); intro gb183 hg w12 hbox hb; have n0_ := Aside0.mk (IsS69.below (by repeat (first | (with_reducible first | exact HI0.out | apply IsS69.alloc | apply IsS69.drewN | apply IsS69.drew | apply IsS69.set_1) | exact HI0.out)) hb); have n1_ := Aside0.mk (KeepBut.trans (by repeat (first | (with_reducible first | exact HK.out | apply KeepBut.set_ | apply keep_drewN | apply keep_drew | apply keep_alloc) | exact HK.out)) (KeepBut.of_below hb g none) (.inl rfl)); have n2_ := Aside0.mk (below_step (by repeat (first | (with_reducible first | exact HB.out | apply below_alloc | apply pw_below_drewN | apply below_drew1 | refine below_set ?_ (IsS69.ge HI0.out)) | exact HB.out)) hb); have n3_ := Aside0.mk (hbox); have n4_ := Aside0.mk ((by rw [hg]; exact (keep_size (w := w) (g := g) (row := none) (by repeat (first | (with_reducible first | exact HK.out | apply KeepBut.set_ | apply keep_drewN | apply keep_drew | apply keep_alloc) | exact HK.out))) : w.heap.size ≤ gb183)); have n5_ := Aside0.mk ((Nat.le_trans HW0.out (by rw [hg]; exact (keep_size (w := w) (g := g) (row := none) (by repeat (first | (with_reducible first | exact HK.out | apply KeepBut.set_ | apply keep_drewN | apply keep_drew | apply keep_alloc) | exact HK.out))) : w.heap.size ≤ gb183) : w0.heap.size ≤ gb183)); have n6_ := Aside0.mk ((by rw [hg]; exact Nat.ne_of_lt (Nat.lt_of_lt_of_le HGL.out (keep_size (w := w) (g := g) (row := none) (by repeat (first | (with_reducible first | exact HK.out | apply KeepBut.set_ | apply keep_drewN | apply keep_drew | apply keep_alloc) | exact HK.out)))) : g ≠ gb183)); have n7_ := Aside0.mk ((by rw [hg]; exact Nat.ne_of_gt (Nat.lt_of_lt_of_le HGL.out (keep_size (w := w) (g := g) (row := none) (by repeat (first | (with_reducible first | exact HK.out | apply KeepBut.set_ | apply keep_drewN | apply keep_drew | apply keep_alloc) | exact HK.out)))) : gb183 ≠ g)); clear HI0; clear HK; clear HB; have HI0 := n0_; have HK := n1_; have HB := n2_; have BK183 := n3_; have GW183 := n4_; have GE183 := n5_; have NB0_183 := n6_; have NB183_0 := n7_; clear n0_ n1_ n2_ n3_ n4_ n5_ n6_ n7_; clear hb hbox hg))
          have pi189 : (0 ≤ (t187 : Int)) = True := eq_true (of_decide_eq_true (by first | (with_reducible assumption) | assumption))
          have qi189 : (t187 < (y184.length : Int)) = True := eq_true (of_decide_eq_true (by first | (with_reducible assumption) | assumption))
          have pi197 : (0 ≤ (t195 : Int)) = True := eq_true (of_decide_eq_true (by first | (with_reducible assumption) | assumption))
          have qi197 : (t195 < (y192.length : Int)) = True := eq_true (of_decide_eq_true (by first | (with_reducible assumption) | assumption))
          have n0_ := Aside0.mk (blk_drew BK183.out)
          have n1_ := Aside0.mk (IsS69.drew HI0.out)
          have n2_ := Aside0.mk (keep_drew HK.out)
          have n3_ := Aside0.mk (below_drew1 HB.out)
          clear BK183
          clear HI0
          clear HK
          clear HB
          have BK183 := n0_
          have HI0 := n1_
          have HK := n2_
          have HB := n3_
          clear n0_ n1_ n2_ n3_
          refine start_ (n := 16) (S := fun w' => True) (ds := []) #[false, false, false, false, false, false, false, false, false, false, false, false, false, false, false, false] (by kernel_rfl) rfl rfl trivial (fun hHeld => ?_); refine with_tabW spec_l20Day.tab1 spec_l20Day.bits1 (fun HT_ HW_ => ?_)
          generalize w12.drew = w13 at BK183 HI0 HK HB hHeld ⊢
          refine pure_ (i := 1) (N := some 7) (v := ?_) (a' := ?_) #[false, true, false, false, false, false, false, false, false, false, false, false, false, false, false, false] rfl rfl (any_of HT_.out (by kernel_rfl)) (fun _ _ _ h => h) (Or.inl ⟨by rfl, ?_⟩) ?_ ?_
          rotate_left
          · intro w'
            go_simp
            with_reducible rfl
          rotate_left
          · simp only [Act.put, List.setIfInBounds_toArray, List.set_cons_zero, List.set_cons_succ, i64_w, i32_w]
            rfl
          refine pure_ (i := 5) (N := some 11) (v := ?_) (a' := ?_) #[false, true, false, false, false, true, false, false, false, false, false, false, false, false, false, false] rfl rfl (any_of HT_.out (by kernel_rfl)) (fun _ _ _ h => h) (Or.inl ⟨by rfl, ?_⟩) ?_ ?_
          rotate_left
          · intro w'
            go_simp
            with_reducible rfl
          rotate_left
          · simp only [Act.put, List.setIfInBounds_toArray, List.set_cons_zero, List.set_cons_succ, i64_w, i32_w]
            rfl
          refine pure_ (i := 9) (N := some 15) (v := ?_) (a' := ?_) #[false, true, false, false, false, true, false, false, false, true, false, false, false, false, false, false] rfl rfl (any_of HT_.out (by kernel_rfl)) (fun _ _ _ h => h) (Or.inl ⟨by rfl, ?_⟩) ?_ ?_
          rotate_left
          · intro w'
            go_simp
            with_reducible rfl
          rotate_left
          · simp only [Act.put, List.setIfInBounds_toArray, List.set_cons_zero, List.set_cons_succ, i64_w, i32_w]
            rfl
          refine inv_at [0, 2, 3, 4, 6, 7, 8, 10, 11, 12, 13, 14, 15] (fun a0_ b a w' => ∃ (v185 : Value) (adz_v185 : Addr) (v193 : Value) (adz_v193 : Addr) (gb198 : Nat) (m3_ : Value) (m11_ : Value) (m14_ : Value), a = putSel a0_ b [(0, 6, v185), (2, 8, .int .i64 t187), (3, 9, m3_), (4, 10, .int .i64 (rd y184 t187)), (6, 12, .int .i64 t190), (7, 13, .int .i64 (wrap64 (1 + t190))), (8, 14, v193), (10, 16, .int .i64 t195), (11, 17, m11_), (12, 18, .int .i64 (rd y192 t195)), (13, 19, .agg #[.int .i64 (rd y184 t187), .int .i64 (wrap64 (1 + t190)), .int .i64 (rd y192 t195)]), (14, 5, m14_)] ∧ (w'.heap[gb183]? = some (.cells #[.int .i64 0, .int .i64 0, .int .i64 0] 29 (0, 0))) ∧ (b 2 = false → IsS69 w0 w' g s0_0 s0_1) ∧ (KeepBut w w' g none) ∧ (Below w0.heap.size w0 w') ∧ (b 0 = true → Kd.R (Kd.int .i64) 3 w' w.heap.size (fun _ => True) v185 y184) ∧ (b 0 = true → ∃ c_, (v185 : Value) = .slice (some adz_v185) y184.length c_) ∧ (b 2 = true → b 6 = false → IsS69 w0 w' g s0_0 t188) ∧ (b 6 = true → b 10 = false → IsS69 w0 w' g s0_0 t191) ∧ (b 8 = true → Kd.R (Kd.int .i64) 3 w' w.heap.size (fun _ => True) v193 y192) ∧ (b 8 = true → ∃ c_, (v193 : Value) = .slice (some adz_v193) y192.length c_) ∧ (b 10 = true → IsS69 w0 w' g s0_0 t196) ∧ (b 14 = true → b 15 = false → w'.heap[gb198]? = some (.cells #[.int .i64 0, .int .i64 0, .int .i64 0] 29 (0, 0))) ∧ (b 14 = true → w.heap.size ≤ gb198) ∧ (b 14 = true → w0.heap.size ≤ gb198) ∧ (b 14 = true → g ≠ gb198) ∧ (b 14 = true → gb198 ≠ g) ∧ (b 14 = true → gb183 ≠ gb198) ∧ (b 14 = true → gb198 ≠ gb183) ∧ (b 15 = true → w'.heap[gb198]? = some (.cells #[.int .i64 (rd y184 t187), .int .i64 (wrap64 (1 + t190)), .int .i64 (rd y192 t195)] 29 (0, 0))) ∧ (b 3 = true → (m3_ : Value) = .pointer (some (adz_v185.add (t187).toNat))) ∧ (b 11 = true → (m11_ : Value) = .pointer (some (adz_v193.add (t195).toNat))) ∧ (b 14 = true → (m14_ : Value) = .pointer (some ⟨gb198, 0, none⟩))) HT_.out HW_.out (by kernel_rfl) (by kernel_rfl) ?_ ?_ ?_
          · exact ⟨.bool false, ⟨0, 0, none⟩, .bool false, ⟨0, 0, none⟩, 0, .bool false, .bool false, .bool false, by simp only [putSel, Bool.false_eq_true, if_false], BK183.out, fun _ => HI0.out, HK.out, HB.out, fun h_ => absurd h_ (by decide), fun h_ => absurd h_ (by decide), fun h_ => absurd h_ (by decide), fun h_ => absurd h_ (by decide), fun h_ => absurd h_ (by decide), fun h_ => absurd h_ (by decide), fun h_ => absurd h_ (by decide), fun h_ => absurd h_ (by decide), fun h_ => absurd h_ (by decide), fun h_ => absurd h_ (by decide), fun h_ => absurd h_ (by decide), fun h_ => absurd h_ (by decide), fun h_ => absurd h_ (by decide), fun h_ => absurd h_ (by decide), fun h_ => absurd h_ (by decide), fun h_ => absurd h_ (by decide), fun h_ => absurd h_ (by decide), fun h_ => absurd h_ (by decide)⟩
          · skip
            clear BK183 HB HI0 HK
            refine steps_cons ?_ ?_
            · rintro b a w' ⟨v185, adz_v185, v193, adz_v193, gb198, m3_, m11_, m14_, ha, Q_BK183, Q_HI0, Q_HK, Q_HB, Q_HO186, Q_HA_HO186, Q_HI0_e2, Q_HI0_e6, Q_HO194, Q_HA_HO194, Q_HI0_e10, Q_BK198, Q_GW198, Q_GE198, Q_NB0_198, Q_NB198_0, Q_NB183_198, Q_NB198_183, Q_BK198_e15, Q_X3_, Q_X11_, Q_X14_⟩ hb_ hon hoff
              refine ⟨_, rfl, fun K hK => ?_⟩
              replace ha := Aside0.mk ha
              have BK183 := Aside0.mk Q_BK183
              have HK := Aside0.mk Q_HK
              have HB := Aside0.mk Q_HB
              refine Kd.R_lit_step (Kd.int .i64) _ 3 ?hg (N := 6) ?hd (xs := ([1900, 2000, 2024, 2026, 2100, 2199, 1996] : List Int)) (inner := [.int .i64 1900, .int .i64 2000, .int .i64 2024, .int .i64 2026, .int .i64 2100, .int .i64 2199, .int .i64 1996]) (ok := fun _ => True) (okp := fun _ => True) ?hr ?hp (fun _ hk => hk) trivial (Below.refl _ _) (Nat.le_refl _) (by simp) ?_; (case hd => rfl); (case hg => rfl); (case hr => first | (go_simp; done) | (go_simp; rfl)); (case hp => exact (Reps.one (show Kd.M (Kd.int .i64) _ _ _ 1900 [.int .i64 1900] from rfl) (Reps.one (show Kd.M (Kd.int .i64) _ _ _ 2000 [.int .i64 2000] from rfl) (Reps.one (show Kd.M (Kd.int .i64) _ _ _ 2024 [.int .i64 2024] from rfl) (Reps.one (show Kd.M (Kd.int .i64) _ _ _ 2026 [.int .i64 2026] from rfl) (Reps.one (show Kd.M (Kd.int .i64) _ _ _ 2100 [.int .i64 2100] from rfl) (Reps.one (show Kd.M (Kd.int .i64) _ _ _ 2199 [.int .i64 2199] from rfl) (Reps.one (show Kd.M (Kd.int .i64) _ _ _ 1996 [.int .i64 1996] from rfl) (Reps.none _ _)))))))))
              intro v185 w14 ho15 hb hg_ hnew_
              clear hg_ hnew_
              (first | rw [← Ny184.out] at ho15 | (simp only [Int.reduceToNat] at ho15; rw [← Ny184.out] at ho15))
              have n0_ := Aside0.mk (Kd.R_lower ho15 (keep_size (w := w) (g := g) (row := none) (by repeat (first | (with_reducible first | exact HK.out | apply KeepBut.set_ | apply keep_drewN | apply keep_drew | apply keep_alloc | refine keep_far ?_ GW183.out _) | exact HK.out))))
              have n2_ := Aside0.mk (blk_below (g := gb183) (o := .cells #[.int .i64 0, .int .i64 0, .int .i64 0] 29 (0, 0)) (by (with_reducible repeat (first | refine blk_drewN ?_ _ | refine blk_drew ?_ | refine blk_alloc ?_ _)); exact BK183.out) hb)
              have n3_ := Aside0.mk (KeepBut.trans (by repeat (first | (with_reducible first | exact HK.out | apply KeepBut.set_ | apply keep_drewN | apply keep_drew | apply keep_alloc | refine keep_far ?_ GW183.out _) | exact HK.out)) (KeepBut.of_below hb g none) (.inl rfl))
              have n4_ := Aside0.mk (below_step (by repeat (first | (with_reducible first | exact HB.out | apply below_alloc | apply pw_below_drewN | apply below_drew1 | refine below_set ?_ GE183.out) | exact HB.out)) hb)
              have z_HI0 := fun (h0_ : b 2 = false) => (show IsS69 w0 w14 g s0_0 s0_1 from by first | exact (IsS69.below (by repeat (first | (with_reducible first | exact (Q_HI0 h0_) | apply IsS69.alloc | apply IsS69.drewN | apply IsS69.drew | apply IsS69.set_1 | refine IsS69.far ?_ NB0_183.out _) | exact (Q_HI0 h0_))) hb))
              have z_HI0_e2 := fun (h0_ : b 2 = true) (h1_ : b 6 = false) => (show IsS69 w0 w14 g s0_0 t188 from by first | exact (IsS69.below (by repeat (first | (with_reducible first | exact (Q_HI0_e2 h0_ h1_) | apply IsS69.alloc | apply IsS69.drewN | apply IsS69.drew | apply IsS69.set_1 | refine IsS69.far ?_ NB0_183.out _) | exact (Q_HI0_e2 h0_ h1_))) hb))
              have z_HI0_e6 := fun (h0_ : b 6 = true) (h1_ : b 10 = false) => (show IsS69 w0 w14 g s0_0 t191 from by first | exact (IsS69.below (by repeat (first | (with_reducible first | exact (Q_HI0_e6 h0_ h1_) | apply IsS69.alloc | apply IsS69.drewN | apply IsS69.drew | apply IsS69.set_1 | refine IsS69.far ?_ NB0_183.out _) | exact (Q_HI0_e6 h0_ h1_))) hb))
              have z_HO194 := fun (h0_ : b 8 = true) => (show Kd.R (Kd.int .i64) 3 w14 w.heap.size (fun _ => True) v193 y192 from by first | exact (Kd.R_elder' (by (with_reducible repeat (first | apply Kd.R_alloc | apply Kd.R_drewN | apply Kd.R_drew)); exact (Q_HO194 h0_)) (Kd.R_base ho15) hb) | exact Kd.R_mono (Kd.R_elder' (by (with_reducible repeat (first | apply Kd.R_alloc | apply Kd.R_drewN | apply Kd.R_drew)); exact (Q_HO194 h0_)) (Kd.R_base ho15) hb) (fun _ h_ => by first | trivial | exact h_ | exact h_.1))
              have z_HI0_e10 := fun (h0_ : b 10 = true) => (show IsS69 w0 w14 g s0_0 t196 from by first | exact (IsS69.below (by repeat (first | (with_reducible first | exact (Q_HI0_e10 h0_) | apply IsS69.alloc | apply IsS69.drewN | apply IsS69.drew | apply IsS69.set_1 | refine IsS69.far ?_ NB0_183.out _) | exact (Q_HI0_e10 h0_))) hb))
              have z_BK198 := fun (h0_ : b 14 = true) (h1_ : b 15 = false) => (show w14.heap[gb198]? = some (.cells #[.int .i64 0, .int .i64 0, .int .i64 0] 29 (0, 0)) from by first | exact (blk_below (g := gb198) (o := .cells #[.int .i64 0, .int .i64 0, .int .i64 0] 29 (0, 0)) (by (with_reducible repeat (first | refine blk_drewN ?_ _ | refine blk_drew ?_ | refine blk_alloc ?_ _)); exact (Q_BK198 h0_ h1_)) hb))
              clear BK183
              clear HK
              clear HB
              have HO186 := n0_
              have BK183 := n2_
              have HK := n3_
              have HB := n4_
              clear n0_ n2_ n3_ n4_
              clear hb ho15
              obtain ⟨Ao16, co16, eo16⟩ := Kd.R_slice HO186.out
              subst eo16
              obtain ⟨ado16, fo16, _⟩ := Kd.at_int (Kd.R_reads' HO186.out).2.2 0 (by decide) (by rw [Ny184.out]; simp)
              cases fo16
              refine hK.out _ _ ⟨.slice (some ado16) y184.length co16, ado16, v193, adz_v193, gb198, m3_, m11_, m14_, (by rw [ha.out]; exact putSel_upk 0 hb_ rfl rfl rfl), (by (with_reducible repeat (first | refine blk_drewN ?_ _ | refine blk_drew ?_ | refine blk_alloc ?_ _)); exact BK183.out), z_HI0, (by repeat (first | (with_reducible first | exact HK.out | apply KeepBut.set_ | apply keep_drewN | apply keep_drew | apply keep_alloc | refine keep_far ?_ GW183.out _) | exact HK.out)), (by repeat (first | (with_reducible first | exact HB.out | apply below_alloc | apply pw_below_drewN | apply below_drew1 | refine below_set ?_ GE183.out) | exact HB.out)), fun _ => (by (with_reducible repeat (first | apply Kd.R_alloc | apply Kd.R_drewN | apply Kd.R_drew)); exact HO186.out), fun _ => ⟨_, rfl⟩, z_HI0_e2, z_HI0_e6, z_HO194, Q_HA_HO194, z_HI0_e10, z_BK198, Q_GW198, Q_GE198, Q_NB0_198, Q_NB198_0, Q_NB183_198, Q_NB198_183, fun h0_ => absurd ((hoff 15 (by kernel_rfl)).symm.trans h0_) (by decide), fun h0_ => absurd ((hoff 3 (by kernel_rfl)).symm.trans h0_) (by decide), Q_X11_, Q_X14_⟩
            refine steps_cons ?_ ?_
            · rintro b a w' ⟨v185, adz_v185, v193, adz_v193, gb198, m3_, m11_, m14_, ha, Q_BK183, Q_HI0, Q_HK, Q_HB, Q_HO186, Q_HA_HO186, Q_HI0_e2, Q_HI0_e6, Q_HO194, Q_HA_HO194, Q_HI0_e10, Q_BK198, Q_GW198, Q_GE198, Q_NB0_198, Q_NB198_0, Q_NB183_198, Q_NB198_183, Q_BK198_e15, Q_X3_, Q_X11_, Q_X14_⟩ hb_ hon hoff
              refine ⟨_, rfl, fun K hK => ?_⟩
              have e7 : a.tmps[7]? = some (.pointer (some ⟨g, 0, none⟩)) := by rw [ha]; exact (putSel_off rfl).trans rfl
              replace ha := Aside0.mk ha
              have BK183 := Aside0.mk Q_BK183
              have HI0 := Aside0.mk (Q_HI0 hb_)
              have HK := Aside0.mk Q_HK
              have HB := Aside0.mk Q_HB
              refine goes_ Try.func48 (by kernel_rfl) rfl #[.pointer (some ⟨g, 0, none⟩), .int .i64 7] (by rfl) rfl rfl (by first | (simp only [List.map_toArray, List.map_cons, List.map_nil, Act.eval, Array.getD_eq_getD_getElem?, Option.getD_some, e7]; done) | (simp only [List.map_toArray, List.map_cons, List.map_nil, Act.eval, Array.getD_eq_getD_getElem?, Option.getD_some, e7]; rfl)) ?_
              with_reducible refine (spec_l20Rd_pick.calls k g s0_0 s0_1 7 t187 t188 w0 _ ?side1 ?side2 A3.out).mono ?_
              (case side1 => repeat (first | (with_reducible first | exact HI0.out | apply IsS69.alloc | apply IsS69.drewN | apply IsS69.drew | apply IsS69.set_1 | refine IsS69.far ?_ NB0_183.out _) | exact HI0.out))
              (case side2 => repeat (first | (with_reducible first | exact HB.out | apply below_alloc | apply pw_below_drewN | apply below_drew1 | refine below_set ?_ (IsS69.ge HI0.out) | refine below_set ?_ GE183.out) | exact HB.out))
              rintro e w14 ⟨rfl, hi, hb, hk⟩
              refine ⟨_, rfl, ?_⟩
              have n0_ := Aside0.mk (KeepBut.blk hk (g' := gb183) (o := .cells #[.int .i64 0, .int .i64 0, .int .i64 0] 29 (0, 0)) (by (with_reducible repeat (first | refine blk_drewN ?_ _ | refine blk_drew ?_ | refine blk_alloc ?_ _)); exact BK183.out) NB183_0.out (by simp))
              have n1_ := Aside0.mk (KeepBut.trans (by repeat (first | (with_reducible first | exact HK.out | apply KeepBut.set_ | apply keep_drewN | apply keep_drew | apply keep_alloc | refine keep_far ?_ GW183.out _) | exact HK.out)) hk (.inl rfl))
              have n2_ := Aside0.mk (hb)
              have n3_ := Aside0.mk (hi)
              have z_HO186 := fun (h0_ : b 0 = true) => (show Kd.R (Kd.int .i64) 3 w14 w.heap.size (fun _ => True) v185 y184 from by first | exact (Kd.R_mono (Kd.R_keep (IsS69.apart (show IsS69 w0 _ g s0_0 s0_1 from by repeat (first | (with_reducible first | exact HI0.out | apply IsS69.alloc | apply IsS69.drewN | apply IsS69.drew | apply IsS69.set_1 | refine IsS69.far ?_ NB0_183.out _) | exact HI0.out)) (by (with_reducible repeat (first | apply Kd.R_alloc | apply Kd.R_drewN | apply Kd.R_drew)); exact (Q_HO186 h0_)) (by decide)) hk (fun _ h => h.2)) (fun _ h => h.1)) | exact Kd.R_mono (Kd.R_mono (Kd.R_keep (IsS69.apart (show IsS69 w0 _ g s0_0 s0_1 from by repeat (first | (with_reducible first | exact HI0.out | apply IsS69.alloc | apply IsS69.drewN | apply IsS69.drew | apply IsS69.set_1 | refine IsS69.far ?_ NB0_183.out _) | exact HI0.out)) (by (with_reducible repeat (first | apply Kd.R_alloc | apply Kd.R_drewN | apply Kd.R_drew)); exact (Q_HO186 h0_)) (by decide)) hk (fun _ h => h.2)) (fun _ h => h.1)) (fun _ h_ => by first | trivial | exact h_ | exact h_.1))
              have z_HO194 := fun (h0_ : b 8 = true) => (show Kd.R (Kd.int .i64) 3 w14 w.heap.size (fun _ => True) v193 y192 from by first | exact (Kd.R_mono (Kd.R_keep (IsS69.apart (show IsS69 w0 _ g s0_0 s0_1 from by repeat (first | (with_reducible first | exact HI0.out | apply IsS69.alloc | apply IsS69.drewN | apply IsS69.drew | apply IsS69.set_1 | refine IsS69.far ?_ NB0_183.out _) | exact HI0.out)) (by (with_reducible repeat (first | apply Kd.R_alloc | apply Kd.R_drewN | apply Kd.R_drew)); exact (Q_HO194 h0_)) (by decide)) hk (fun _ h => h.2)) (fun _ h => h.1)) | exact Kd.R_mono (Kd.R_mono (Kd.R_keep (IsS69.apart (show IsS69 w0 _ g s0_0 s0_1 from by repeat (first | (with_reducible first | exact HI0.out | apply IsS69.alloc | apply IsS69.drewN | apply IsS69.drew | apply IsS69.set_1 | refine IsS69.far ?_ NB0_183.out _) | exact HI0.out)) (by (with_reducible repeat (first | apply Kd.R_alloc | apply Kd.R_drewN | apply Kd.R_drew)); exact (Q_HO194 h0_)) (by decide)) hk (fun _ h => h.2)) (fun _ h => h.1)) (fun _ h_ => by first | trivial | exact h_ | exact h_.1))
              have z_BK198 := fun (h0_ : b 14 = true) (h1_ : b 15 = false) => (show w14.heap[gb198]? = some (.cells #[.int .i64 0, .int .i64 0, .int .i64 0] 29 (0, 0)) from by first | exact (KeepBut.blk hk (g' := gb198) (o := .cells #[.int .i64 0, .int .i64 0, .int .i64 0] 29 (0, 0)) (by (with_reducible repeat (first | refine blk_drewN ?_ _ | refine blk_drew ?_ | refine blk_alloc ?_ _)); exact (Q_BK198 h0_ h1_)) (Q_NB198_0 h0_) (by simp)))
              clear BK183
              clear HK
              clear HB
              clear HI0
              have BK183 := n0_
              have HK := n1_
              have HB := n2_
              have HI0 := n3_
              clear n0_ n1_ n2_ n3_
              (try clear hb)
              (try clear hb2)
              (try clear hk)
              (try clear hi)
              refine hK.out _ _ ⟨v185, adz_v185, v193, adz_v193, gb198, m3_, m11_, m14_, (by rw [ha.out]; exact putSel_upk 1 hb_ rfl rfl rfl), (by (with_reducible repeat (first | refine blk_drewN ?_ _ | refine blk_drew ?_ | refine blk_alloc ?_ _)); exact BK183.out), fun h0_ => absurd ((up_self b 2).symm.trans h0_) (by decide), (by repeat (first | (with_reducible first | exact HK.out | apply KeepBut.set_ | apply keep_drewN | apply keep_drew | apply keep_alloc | refine keep_far ?_ GW183.out _) | exact HK.out)), (by repeat (first | (with_reducible first | exact HB.out | apply below_alloc | apply pw_below_drewN | apply below_drew1 | refine below_set ?_ (IsS69.ge HI0.out) | refine below_set ?_ GE183.out) | exact HB.out)), z_HO186, Q_HA_HO186, fun _ _ => (by repeat (first | (with_reducible first | exact HI0.out | apply IsS69.alloc | apply IsS69.drewN | apply IsS69.drew | apply IsS69.set_1 | refine IsS69.far ?_ NB0_183.out _) | exact HI0.out)), fun h0_ _ => absurd ((hoff 6 (by kernel_rfl)).symm.trans h0_) (by decide), z_HO194, Q_HA_HO194, fun h0_ => absurd ((hoff 10 (by kernel_rfl)).symm.trans h0_) (by decide), z_BK198, Q_GW198, Q_GE198, Q_NB0_198, Q_NB198_0, Q_NB183_198, Q_NB198_183, fun h0_ => absurd ((hoff 15 (by kernel_rfl)).symm.trans h0_) (by decide), fun h0_ => absurd ((hoff 3 (by kernel_rfl)).symm.trans h0_) (by decide), fun h0_ => absurd ((hoff 11 (by kernel_rfl)).symm.trans h0_) (by decide), Q_X14_⟩
            refine steps_cons ?_ ?_
            · rintro b a w' ⟨v185, adz_v185, v193, adz_v193, gb198, m3_, m11_, m14_, ha, Q_BK183, Q_HI0, Q_HK, Q_HB, Q_HO186, Q_HA_HO186, Q_HI0_e2, Q_HI0_e6, Q_HO194, Q_HA_HO194, Q_HI0_e10, Q_BK198, Q_GW198, Q_GE198, Q_NB0_198, Q_NB198_0, Q_NB183_198, Q_NB198_183, Q_BK198_e15, Q_X3_, Q_X11_, Q_X14_⟩ hb_ hon hoff
              refine ⟨_, rfl, fun K hK => ?_⟩
              have e6 : a.tmps[6]? = some (v185) := by rw [ha]; exact putSel_on (e := (0, 6, v185)) 0 rfl rfl (hon 0 (by kernel_rfl)) rfl
              have e8 : a.tmps[8]? = some (.int .i64 t187) := by rw [ha]; exact putSel_on (e := (2, 8, .int .i64 t187)) 1 rfl rfl (hon 2 (by kernel_rfl)) rfl
              replace ha := Aside0.mk ha
              have BK183 := Aside0.mk Q_BK183
              have HK := Aside0.mk Q_HK
              have HB := Aside0.mk Q_HB
              have HO186 := Aside0.mk (Q_HO186 (hon 0 (by kernel_rfl)))
              have HA_HO186 := Aside0.mk (Q_HA_HO186 (hon 0 (by kernel_rfl)))
              obtain ⟨c_, hv_⟩ := HA_HO186.out
              rw [hv_] at e6
              refine value_ (w1 := w') (v := .pointer (some (adz_v185.add (t187).toNat))) (by rfl) rfl ?_ ?_
              · go_simp
                (try simp only [i64_w])
                try rfl
              refine hK.out _ _ ⟨v185, adz_v185, v193, adz_v193, gb198, (.pointer (some (adz_v185.add (t187).toNat))), m11_, m14_, (by rw [ha.out]; exact putSel_upk 2 hb_ rfl rfl rfl), Q_BK183, fun h0_ => absurd ((hon 2 (by kernel_rfl)).symm.trans h0_) (by decide), Q_HK, Q_HB, Q_HO186, Q_HA_HO186, Q_HI0_e2, Q_HI0_e6, Q_HO194, Q_HA_HO194, Q_HI0_e10, Q_BK198, Q_GW198, Q_GE198, Q_NB0_198, Q_NB198_0, Q_NB183_198, Q_NB198_183, fun h0_ => absurd ((hoff 15 (by kernel_rfl)).symm.trans h0_) (by decide), fun _ => rfl, Q_X11_, Q_X14_⟩
            refine steps_cons ?_ ?_
            · rintro b a w' ⟨v185, adz_v185, v193, adz_v193, gb198, m3_, m11_, m14_, ha, Q_BK183, Q_HI0, Q_HK, Q_HB, Q_HO186, Q_HA_HO186, Q_HI0_e2, Q_HI0_e6, Q_HO194, Q_HA_HO194, Q_HI0_e10, Q_BK198, Q_GW198, Q_GE198, Q_NB0_198, Q_NB198_0, Q_NB183_198, Q_NB198_183, Q_BK198_e15, Q_X3_, Q_X11_, Q_X14_⟩ hb_ hon hoff
              refine ⟨_, rfl, fun K hK => ?_⟩
              have e9 : a.tmps[9]? = some (m3_) := by rw [ha]; exact putSel_on (e := (3, 9, m3_)) 2 rfl rfl (hon 3 (by kernel_rfl)) rfl
              rw [Q_X3_ (hon 3 (by kernel_rfl))] at e9
              replace ha := Aside0.mk ha
              have BK183 := Aside0.mk Q_BK183
              have HK := Aside0.mk Q_HK
              have HB := Aside0.mk Q_HB
              have HO186 := Aside0.mk (Q_HO186 (hon 0 (by kernel_rfl)))
              have HA_HO186 := Aside0.mk (Q_HA_HO186 (hon 0 (by kernel_rfl)))
              obtain ⟨c_, hv_⟩ := HA_HO186.out
              have hF_ := HO186.out
              rw [hv_] at hF_
              obtain ⟨ad_, ea_, hx_⟩ := Kd.at_int (Kd.R_reads' hF_).2.2 t187 (of_eq_true pi189) (of_eq_true qi189)
              cases ea_
              refine value_ (w1 := w') (v := .int .i64 (rd y184 t187)) (by rfl) rfl ?_ ?_
              · go_simp
                (try simp only [i64_w])
                try rfl
              refine hK.out _ _ ⟨v185, adz_v185, v193, adz_v193, gb198, m3_, m11_, m14_, (by rw [ha.out]; exact putSel_upk 3 hb_ rfl rfl rfl), Q_BK183, fun h0_ => absurd ((hon 2 (by kernel_rfl)).symm.trans h0_) (by decide), Q_HK, Q_HB, Q_HO186, Q_HA_HO186, Q_HI0_e2, Q_HI0_e6, Q_HO194, Q_HA_HO194, Q_HI0_e10, Q_BK198, Q_GW198, Q_GE198, Q_NB0_198, Q_NB198_0, Q_NB183_198, Q_NB198_183, fun h0_ => absurd ((hoff 15 (by kernel_rfl)).symm.trans h0_) (by decide), Q_X3_, Q_X11_, Q_X14_⟩
            refine steps_cons ?_ ?_
            · rintro b a w' ⟨v185, adz_v185, v193, adz_v193, gb198, m3_, m11_, m14_, ha, Q_BK183, Q_HI0, Q_HK, Q_HB, Q_HO186, Q_HA_HO186, Q_HI0_e2, Q_HI0_e6, Q_HO194, Q_HA_HO194, Q_HI0_e10, Q_BK198, Q_GW198, Q_GE198, Q_NB0_198, Q_NB198_0, Q_NB183_198, Q_NB198_183, Q_BK198_e15, Q_X3_, Q_X11_, Q_X14_⟩ hb_ hon hoff
              refine ⟨_, rfl, fun K hK => ?_⟩
              have e11 : a.tmps[11]? = some (.pointer (some ⟨g, 0, none⟩)) := by rw [ha]; exact (putSel_off rfl).trans rfl
              replace ha := Aside0.mk ha
              have BK183 := Aside0.mk Q_BK183
              have HK := Aside0.mk Q_HK
              have HB := Aside0.mk Q_HB
              have HI0 := Aside0.mk (Q_HI0_e2 (hon 2 (by kernel_rfl)) hb_)
              refine goes_ Try.func48 (by kernel_rfl) rfl #[.pointer (some ⟨g, 0, none⟩), .int .i64 12] (by rfl) rfl rfl (by first | (simp only [List.map_toArray, List.map_cons, List.map_nil, Act.eval, Array.getD_eq_getD_getElem?, Option.getD_some, e11]; done) | (simp only [List.map_toArray, List.map_cons, List.map_nil, Act.eval, Array.getD_eq_getD_getElem?, Option.getD_some, e11]; rfl)) ?_
              with_reducible refine (spec_l20Rd_pick.calls k g s0_0 t188 12 t190 t191 w0 _ ?side1 ?side2 A6.out).mono ?_
              (case side1 => repeat (first | (with_reducible first | exact HI0.out | apply IsS69.alloc | apply IsS69.drewN | apply IsS69.drew | apply IsS69.set_1 | refine IsS69.far ?_ NB0_183.out _) | exact HI0.out))
              (case side2 => repeat (first | (with_reducible first | exact HB.out | apply below_alloc | apply pw_below_drewN | apply below_drew1 | refine below_set ?_ (IsS69.ge HI0.out) | refine below_set ?_ GE183.out) | exact HB.out))
              rintro e w16 ⟨rfl, hi, hb, hk⟩
              refine ⟨_, rfl, ?_⟩
              have n0_ := Aside0.mk (KeepBut.blk hk (g' := gb183) (o := .cells #[.int .i64 0, .int .i64 0, .int .i64 0] 29 (0, 0)) (by (with_reducible repeat (first | refine blk_drewN ?_ _ | refine blk_drew ?_ | refine blk_alloc ?_ _)); exact BK183.out) NB183_0.out (by simp))
              have n1_ := Aside0.mk (KeepBut.trans (by repeat (first | (with_reducible first | exact HK.out | apply KeepBut.set_ | apply keep_drewN | apply keep_drew | apply keep_alloc | refine keep_far ?_ GW183.out _) | exact HK.out)) hk (.inl rfl))
              have n2_ := Aside0.mk (hb)
              have n3_ := Aside0.mk (hi)
              have z_HO186 := fun (h0_ : b 0 = true) => (show Kd.R (Kd.int .i64) 3 w16 w.heap.size (fun _ => True) v185 y184 from by first | exact (Kd.R_mono (Kd.R_keep (IsS69.apart (show IsS69 w0 _ g s0_0 t188 from by repeat (first | (with_reducible first | exact HI0.out | apply IsS69.alloc | apply IsS69.drewN | apply IsS69.drew | apply IsS69.set_1 | refine IsS69.far ?_ NB0_183.out _) | exact HI0.out)) (by (with_reducible repeat (first | apply Kd.R_alloc | apply Kd.R_drewN | apply Kd.R_drew)); exact (Q_HO186 h0_)) (by decide)) hk (fun _ h => h.2)) (fun _ h => h.1)) | exact Kd.R_mono (Kd.R_mono (Kd.R_keep (IsS69.apart (show IsS69 w0 _ g s0_0 t188 from by repeat (first | (with_reducible first | exact HI0.out | apply IsS69.alloc | apply IsS69.drewN | apply IsS69.drew | apply IsS69.set_1 | refine IsS69.far ?_ NB0_183.out _) | exact HI0.out)) (by (with_reducible repeat (first | apply Kd.R_alloc | apply Kd.R_drewN | apply Kd.R_drew)); exact (Q_HO186 h0_)) (by decide)) hk (fun _ h => h.2)) (fun _ h => h.1)) (fun _ h_ => by first | trivial | exact h_ | exact h_.1))
              have z_HO194 := fun (h0_ : b 8 = true) => (show Kd.R (Kd.int .i64) 3 w16 w.heap.size (fun _ => True) v193 y192 from by first | exact (Kd.R_mono (Kd.R_keep (IsS69.apart (show IsS69 w0 _ g s0_0 t188 from by repeat (first | (with_reducible first | exact HI0.out | apply IsS69.alloc | apply IsS69.drewN | apply IsS69.drew | apply IsS69.set_1 | refine IsS69.far ?_ NB0_183.out _) | exact HI0.out)) (by (with_reducible repeat (first | apply Kd.R_alloc | apply Kd.R_drewN | apply Kd.R_drew)); exact (Q_HO194 h0_)) (by decide)) hk (fun _ h => h.2)) (fun _ h => h.1)) | exact Kd.R_mono (Kd.R_mono (Kd.R_keep (IsS69.apart (show IsS69 w0 _ g s0_0 t188 from by repeat (first | (with_reducible first | exact HI0.out | apply IsS69.alloc | apply IsS69.drewN | apply IsS69.drew | apply IsS69.set_1 | refine IsS69.far ?_ NB0_183.out _) | exact HI0.out)) (by (with_reducible repeat (first | apply Kd.R_alloc | apply Kd.R_drewN | apply Kd.R_drew)); exact (Q_HO194 h0_)) (by decide)) hk (fun _ h => h.2)) (fun _ h => h.1)) (fun _ h_ => by first | trivial | exact h_ | exact h_.1))
              have z_BK198 := fun (h0_ : b 14 = true) (h1_ : b 15 = false) => (show w16.heap[gb198]? = some (.cells #[.int .i64 0, .int .i64 0, .int .i64 0] 29 (0, 0)) from by first | exact (KeepBut.blk hk (g' := gb198) (o := .cells #[.int .i64 0, .int .i64 0, .int .i64 0] 29 (0, 0)) (by (with_reducible repeat (first | refine blk_drewN ?_ _ | refine blk_drew ?_ | refine blk_alloc ?_ _)); exact (Q_BK198 h0_ h1_)) (Q_NB198_0 h0_) (by simp)))
              clear BK183
              clear HK
              clear HB
              clear HI0
              have BK183 := n0_
              have HK := n1_
              have HB := n2_
              have HI0 := n3_
              clear n0_ n1_ n2_ n3_
              (try clear hb)
              (try clear hb2)
              (try clear hk)
              (try clear hi)
              refine hK.out _ _ ⟨v185, adz_v185, v193, adz_v193, gb198, m3_, m11_, m14_, (by rw [ha.out]; exact putSel_upk 4 hb_ rfl rfl rfl), (by (with_reducible repeat (first | refine blk_drewN ?_ _ | refine blk_drew ?_ | refine blk_alloc ?_ _)); exact BK183.out), fun h0_ => absurd ((hon 2 (by kernel_rfl)).symm.trans h0_) (by decide), (by repeat (first | (with_reducible first | exact HK.out | apply KeepBut.set_ | apply keep_drewN | apply keep_drew | apply keep_alloc | refine keep_far ?_ GW183.out _) | exact HK.out)), (by repeat (first | (with_reducible first | exact HB.out | apply below_alloc | apply pw_below_drewN | apply below_drew1 | refine below_set ?_ (IsS69.ge HI0.out) | refine below_set ?_ GE183.out) | exact HB.out)), z_HO186, Q_HA_HO186, fun _ h1_ => absurd ((up_self b 6).symm.trans h1_) (by decide), fun _ _ => (by repeat (first | (with_reducible first | exact HI0.out | apply IsS69.alloc | apply IsS69.drewN | apply IsS69.drew | apply IsS69.set_1 | refine IsS69.far ?_ NB0_183.out _) | exact HI0.out)), z_HO194, Q_HA_HO194, fun h0_ => absurd ((hoff 10 (by kernel_rfl)).symm.trans h0_) (by decide), z_BK198, Q_GW198, Q_GE198, Q_NB0_198, Q_NB198_0, Q_NB183_198, Q_NB198_183, fun h0_ => absurd ((hoff 15 (by kernel_rfl)).symm.trans h0_) (by decide), Q_X3_, fun h0_ => absurd ((hoff 11 (by kernel_rfl)).symm.trans h0_) (by decide), Q_X14_⟩
            refine steps_cons ?_ ?_
            · rintro b a w' ⟨v185, adz_v185, v193, adz_v193, gb198, m3_, m11_, m14_, ha, Q_BK183, Q_HI0, Q_HK, Q_HB, Q_HO186, Q_HA_HO186, Q_HI0_e2, Q_HI0_e6, Q_HO194, Q_HA_HO194, Q_HI0_e10, Q_BK198, Q_GW198, Q_GE198, Q_NB0_198, Q_NB198_0, Q_NB183_198, Q_NB198_183, Q_BK198_e15, Q_X3_, Q_X11_, Q_X14_⟩ hb_ hon hoff
              refine ⟨_, rfl, fun K hK => ?_⟩
              have e12 : a.tmps[12]? = some (.int .i64 t190) := by rw [ha]; exact putSel_on (e := (6, 12, .int .i64 t190)) 4 rfl rfl (hon 6 (by kernel_rfl)) rfl
              replace ha := Aside0.mk ha
              have BK183 := Aside0.mk Q_BK183
              have HK := Aside0.mk Q_HK
              have HB := Aside0.mk Q_HB
              refine value_ (w1 := w') (v := .int .i64 (wrap64 (1 + t190))) (by rfl) rfl ?_ ?_
              · go_simp
                (try simp only [i64_w])
                try rfl
              refine hK.out _ _ ⟨v185, adz_v185, v193, adz_v193, gb198, m3_, m11_, m14_, (by rw [ha.out]; exact putSel_upk 5 hb_ rfl rfl rfl), Q_BK183, fun h0_ => absurd ((hon 2 (by kernel_rfl)).symm.trans h0_) (by decide), Q_HK, Q_HB, Q_HO186, Q_HA_HO186, fun _ h1_ => absurd ((hon 6 (by kernel_rfl)).symm.trans h1_) (by decide), Q_HI0_e6, Q_HO194, Q_HA_HO194, Q_HI0_e10, Q_BK198, Q_GW198, Q_GE198, Q_NB0_198, Q_NB198_0, Q_NB183_198, Q_NB198_183, fun h0_ => absurd ((hoff 15 (by kernel_rfl)).symm.trans h0_) (by decide), Q_X3_, Q_X11_, Q_X14_⟩
            refine steps_cons ?_ ?_
            · rintro b a w' ⟨v185, adz_v185, v193, adz_v193, gb198, m3_, m11_, m14_, ha, Q_BK183, Q_HI0, Q_HK, Q_HB, Q_HO186, Q_HA_HO186, Q_HI0_e2, Q_HI0_e6, Q_HO194, Q_HA_HO194, Q_HI0_e10, Q_BK198, Q_GW198, Q_GE198, Q_NB0_198, Q_NB198_0, Q_NB183_198, Q_NB198_183, Q_BK198_e15, Q_X3_, Q_X11_, Q_X14_⟩ hb_ hon hoff
              refine ⟨_, rfl, fun K hK => ?_⟩
              replace ha := Aside0.mk ha
              have BK183 := Aside0.mk Q_BK183
              have HK := Aside0.mk Q_HK
              have HB := Aside0.mk Q_HB
              refine Kd.R_lit_step (Kd.int .i64) _ 3 ?hg (N := 14) ?hd (xs := ([1, 28, 15, 31, 30, 29] : List Int)) (inner := [.int .i64 1, .int .i64 28, .int .i64 15, .int .i64 31, .int .i64 30, .int .i64 29]) (ok := fun _ => True) (okp := fun _ => True) ?hr ?hp (fun _ hk => hk) trivial (Below.refl _ _) (Nat.le_refl _) (by simp) ?_; (case hd => rfl); (case hg => rfl); (case hr => first | (go_simp; done) | (go_simp; rfl)); (case hp => exact (Reps.one (show Kd.M (Kd.int .i64) _ _ _ 1 [.int .i64 1] from rfl) (Reps.one (show Kd.M (Kd.int .i64) _ _ _ 28 [.int .i64 28] from rfl) (Reps.one (show Kd.M (Kd.int .i64) _ _ _ 15 [.int .i64 15] from rfl) (Reps.one (show Kd.M (Kd.int .i64) _ _ _ 31 [.int .i64 31] from rfl) (Reps.one (show Kd.M (Kd.int .i64) _ _ _ 30 [.int .i64 30] from rfl) (Reps.one (show Kd.M (Kd.int .i64) _ _ _ 29 [.int .i64 29] from rfl) (Reps.none _ _))))))))
              intro v193 w14 ho15 hb hg_ hnew_
              clear hg_ hnew_
              (first | rw [← Ny192.out] at ho15 | (simp only [Int.reduceToNat] at ho15; rw [← Ny192.out] at ho15))
              have n0_ := Aside0.mk (Kd.R_lower ho15 (keep_size (w := w) (g := g) (row := none) (by repeat (first | (with_reducible first | exact HK.out | apply KeepBut.set_ | apply keep_drewN | apply keep_drew | apply keep_alloc | refine keep_far ?_ GW183.out _) | exact HK.out))))
              have n2_ := Aside0.mk (blk_below (g := gb183) (o := .cells #[.int .i64 0, .int .i64 0, .int .i64 0] 29 (0, 0)) (by (with_reducible repeat (first | refine blk_drewN ?_ _ | refine blk_drew ?_ | refine blk_alloc ?_ _)); exact BK183.out) hb)
              have n3_ := Aside0.mk (KeepBut.trans (by repeat (first | (with_reducible first | exact HK.out | apply KeepBut.set_ | apply keep_drewN | apply keep_drew | apply keep_alloc | refine keep_far ?_ GW183.out _) | exact HK.out)) (KeepBut.of_below hb g none) (.inl rfl))
              have n4_ := Aside0.mk (below_step (by repeat (first | (with_reducible first | exact HB.out | apply below_alloc | apply pw_below_drewN | apply below_drew1 | refine below_set ?_ GE183.out) | exact HB.out)) hb)
              have z_HI0 := fun (h0_ : b 2 = false) => (show IsS69 w0 w14 g s0_0 s0_1 from by first | exact (IsS69.below (by repeat (first | (with_reducible first | exact (Q_HI0 h0_) | apply IsS69.alloc | apply IsS69.drewN | apply IsS69.drew | apply IsS69.set_1 | refine IsS69.far ?_ NB0_183.out _) | exact (Q_HI0 h0_))) hb))
              have z_HO186 := fun (h0_ : b 0 = true) => (show Kd.R (Kd.int .i64) 3 w14 w.heap.size (fun _ => True) v185 y184 from by first | exact (Kd.R_elder' (by (with_reducible repeat (first | apply Kd.R_alloc | apply Kd.R_drewN | apply Kd.R_drew)); exact (Q_HO186 h0_)) (Kd.R_base ho15) hb) | exact Kd.R_mono (Kd.R_elder' (by (with_reducible repeat (first | apply Kd.R_alloc | apply Kd.R_drewN | apply Kd.R_drew)); exact (Q_HO186 h0_)) (Kd.R_base ho15) hb) (fun _ h_ => by first | trivial | exact h_ | exact h_.1))
              have z_HI0_e2 := fun (h0_ : b 2 = true) (h1_ : b 6 = false) => (show IsS69 w0 w14 g s0_0 t188 from by first | exact (IsS69.below (by repeat (first | (with_reducible first | exact (Q_HI0_e2 h0_ h1_) | apply IsS69.alloc | apply IsS69.drewN | apply IsS69.drew | apply IsS69.set_1 | refine IsS69.far ?_ NB0_183.out _) | exact (Q_HI0_e2 h0_ h1_))) hb))
              have z_HI0_e6 := fun (h0_ : b 6 = true) (h1_ : b 10 = false) => (show IsS69 w0 w14 g s0_0 t191 from by first | exact (IsS69.below (by repeat (first | (with_reducible first | exact (Q_HI0_e6 h0_ h1_) | apply IsS69.alloc | apply IsS69.drewN | apply IsS69.drew | apply IsS69.set_1 | refine IsS69.far ?_ NB0_183.out _) | exact (Q_HI0_e6 h0_ h1_))) hb))
              have z_HI0_e10 := fun (h0_ : b 10 = true) => (show IsS69 w0 w14 g s0_0 t196 from by first | exact (IsS69.below (by repeat (first | (with_reducible first | exact (Q_HI0_e10 h0_) | apply IsS69.alloc | apply IsS69.drewN | apply IsS69.drew | apply IsS69.set_1 | refine IsS69.far ?_ NB0_183.out _) | exact (Q_HI0_e10 h0_))) hb))
              have z_BK198 := fun (h0_ : b 14 = true) (h1_ : b 15 = false) => (show w14.heap[gb198]? = some (.cells #[.int .i64 0, .int .i64 0, .int .i64 0] 29 (0, 0)) from by first | exact (blk_below (g := gb198) (o := .cells #[.int .i64 0, .int .i64 0, .int .i64 0] 29 (0, 0)) (by (with_reducible repeat (first | refine blk_drewN ?_ _ | refine blk_drew ?_ | refine blk_alloc ?_ _)); exact (Q_BK198 h0_ h1_)) hb))
              clear BK183
              clear HK
              clear HB
              have HO194 := n0_
              have BK183 := n2_
              have HK := n3_
              have HB := n4_
              clear n0_ n2_ n3_ n4_
              clear hb ho15
              obtain ⟨Ao16, co16, eo16⟩ := Kd.R_slice HO194.out
              subst eo16
              obtain ⟨ado16, fo16, _⟩ := Kd.at_int (Kd.R_reads' HO194.out).2.2 0 (by decide) (by rw [Ny192.out]; simp)
              cases fo16
              refine hK.out _ _ ⟨v185, adz_v185, .slice (some ado16) y192.length co16, ado16, gb198, m3_, m11_, m14_, (by rw [ha.out]; exact putSel_upk 6 hb_ rfl rfl rfl), (by (with_reducible repeat (first | refine blk_drewN ?_ _ | refine blk_drew ?_ | refine blk_alloc ?_ _)); exact BK183.out), z_HI0, (by repeat (first | (with_reducible first | exact HK.out | apply KeepBut.set_ | apply keep_drewN | apply keep_drew | apply keep_alloc | refine keep_far ?_ GW183.out _) | exact HK.out)), (by repeat (first | (with_reducible first | exact HB.out | apply below_alloc | apply pw_below_drewN | apply below_drew1 | refine below_set ?_ GE183.out) | exact HB.out)), z_HO186, Q_HA_HO186, z_HI0_e2, z_HI0_e6, fun _ => (by (with_reducible repeat (first | apply Kd.R_alloc | apply Kd.R_drewN | apply Kd.R_drew)); exact HO194.out), fun _ => ⟨_, rfl⟩, z_HI0_e10, z_BK198, Q_GW198, Q_GE198, Q_NB0_198, Q_NB198_0, Q_NB183_198, Q_NB198_183, fun h0_ => absurd ((hoff 15 (by kernel_rfl)).symm.trans h0_) (by decide), Q_X3_, fun h0_ => absurd ((hoff 11 (by kernel_rfl)).symm.trans h0_) (by decide), Q_X14_⟩
            refine steps_cons ?_ ?_
            · rintro b a w' ⟨v185, adz_v185, v193, adz_v193, gb198, m3_, m11_, m14_, ha, Q_BK183, Q_HI0, Q_HK, Q_HB, Q_HO186, Q_HA_HO186, Q_HI0_e2, Q_HI0_e6, Q_HO194, Q_HA_HO194, Q_HI0_e10, Q_BK198, Q_GW198, Q_GE198, Q_NB0_198, Q_NB198_0, Q_NB183_198, Q_NB198_183, Q_BK198_e15, Q_X3_, Q_X11_, Q_X14_⟩ hb_ hon hoff
              refine ⟨_, rfl, fun K hK => ?_⟩
              have e15 : a.tmps[15]? = some (.pointer (some ⟨g, 0, none⟩)) := by rw [ha]; exact (putSel_off rfl).trans rfl
              replace ha := Aside0.mk ha
              have BK183 := Aside0.mk Q_BK183
              have HK := Aside0.mk Q_HK
              have HB := Aside0.mk Q_HB
              have HI0 := Aside0.mk (Q_HI0_e6 (hon 6 (by kernel_rfl)) hb_)
              refine goes_ Try.func48 (by kernel_rfl) rfl #[.pointer (some ⟨g, 0, none⟩), .int .i64 6] (by rfl) rfl rfl (by first | (simp only [List.map_toArray, List.map_cons, List.map_nil, Act.eval, Array.getD_eq_getD_getElem?, Option.getD_some, e15]; done) | (simp only [List.map_toArray, List.map_cons, List.map_nil, Act.eval, Array.getD_eq_getD_getElem?, Option.getD_some, e15]; rfl)) ?_
              with_reducible refine (spec_l20Rd_pick.calls k g s0_0 t191 6 t195 t196 w0 _ ?side1 ?side2 A7.out).mono ?_
              (case side1 => repeat (first | (with_reducible first | exact HI0.out | apply IsS69.alloc | apply IsS69.drewN | apply IsS69.drew | apply IsS69.set_1 | refine IsS69.far ?_ NB0_183.out _) | exact HI0.out))
              (case side2 => repeat (first | (with_reducible first | exact HB.out | apply below_alloc | apply pw_below_drewN | apply below_drew1 | refine below_set ?_ (IsS69.ge HI0.out) | refine below_set ?_ GE183.out) | exact HB.out))
              rintro e w17 ⟨rfl, hi, hb, hk⟩
              refine ⟨_, rfl, ?_⟩
              have n0_ := Aside0.mk (KeepBut.blk hk (g' := gb183) (o := .cells #[.int .i64 0, .int .i64 0, .int .i64 0] 29 (0, 0)) (by (with_reducible repeat (first | refine blk_drewN ?_ _ | refine blk_drew ?_ | refine blk_alloc ?_ _)); exact BK183.out) NB183_0.out (by simp))
              have n1_ := Aside0.mk (KeepBut.trans (by repeat (first | (with_reducible first | exact HK.out | apply KeepBut.set_ | apply keep_drewN | apply keep_drew | apply keep_alloc | refine keep_far ?_ GW183.out _) | exact HK.out)) hk (.inl rfl))
              have n2_ := Aside0.mk (hb)
              have n3_ := Aside0.mk (hi)
              have z_HO186 := fun (h0_ : b 0 = true) => (show Kd.R (Kd.int .i64) 3 w17 w.heap.size (fun _ => True) v185 y184 from by first | exact (Kd.R_mono (Kd.R_keep (IsS69.apart (show IsS69 w0 _ g s0_0 t191 from by repeat (first | (with_reducible first | exact HI0.out | apply IsS69.alloc | apply IsS69.drewN | apply IsS69.drew | apply IsS69.set_1 | refine IsS69.far ?_ NB0_183.out _) | exact HI0.out)) (by (with_reducible repeat (first | apply Kd.R_alloc | apply Kd.R_drewN | apply Kd.R_drew)); exact (Q_HO186 h0_)) (by decide)) hk (fun _ h => h.2)) (fun _ h => h.1)) | exact Kd.R_mono (Kd.R_mono (Kd.R_keep (IsS69.apart (show IsS69 w0 _ g s0_0 t191 from by repeat (first | (with_reducible first | exact HI0.out | apply IsS69.alloc | apply IsS69.drewN | apply IsS69.drew | apply IsS69.set_1 | refine IsS69.far ?_ NB0_183.out _) | exact HI0.out)) (by (with_reducible repeat (first | apply Kd.R_alloc | apply Kd.R_drewN | apply Kd.R_drew)); exact (Q_HO186 h0_)) (by decide)) hk (fun _ h => h.2)) (fun _ h => h.1)) (fun _ h_ => by first | trivial | exact h_ | exact h_.1))
              have z_HO194 := fun (h0_ : b 8 = true) => (show Kd.R (Kd.int .i64) 3 w17 w.heap.size (fun _ => True) v193 y192 from by first | exact (Kd.R_mono (Kd.R_keep (IsS69.apart (show IsS69 w0 _ g s0_0 t191 from by repeat (first | (with_reducible first | exact HI0.out | apply IsS69.alloc | apply IsS69.drewN | apply IsS69.drew | apply IsS69.set_1 | refine IsS69.far ?_ NB0_183.out _) | exact HI0.out)) (by (with_reducible repeat (first | apply Kd.R_alloc | apply Kd.R_drewN | apply Kd.R_drew)); exact (Q_HO194 h0_)) (by decide)) hk (fun _ h => h.2)) (fun _ h => h.1)) | exact Kd.R_mono (Kd.R_mono (Kd.R_keep (IsS69.apart (show IsS69 w0 _ g s0_0 t191 from by repeat (first | (with_reducible first | exact HI0.out | apply IsS69.alloc | apply IsS69.drewN | apply IsS69.drew | apply IsS69.set_1 | refine IsS69.far ?_ NB0_183.out _) | exact HI0.out)) (by (with_reducible repeat (first | apply Kd.R_alloc | apply Kd.R_drewN | apply Kd.R_drew)); exact (Q_HO194 h0_)) (by decide)) hk (fun _ h => h.2)) (fun _ h => h.1)) (fun _ h_ => by first | trivial | exact h_ | exact h_.1))
              have z_BK198 := fun (h0_ : b 14 = true) (h1_ : b 15 = false) => (show w17.heap[gb198]? = some (.cells #[.int .i64 0, .int .i64 0, .int .i64 0] 29 (0, 0)) from by first | exact (KeepBut.blk hk (g' := gb198) (o := .cells #[.int .i64 0, .int .i64 0, .int .i64 0] 29 (0, 0)) (by (with_reducible repeat (first | refine blk_drewN ?_ _ | refine blk_drew ?_ | refine blk_alloc ?_ _)); exact (Q_BK198 h0_ h1_)) (Q_NB198_0 h0_) (by simp)))
              clear BK183
              clear HK
              clear HB
              clear HI0
              have BK183 := n0_
              have HK := n1_
              have HB := n2_
              have HI0 := n3_
              clear n0_ n1_ n2_ n3_
              (try clear hb)
              (try clear hb2)
              (try clear hk)
              (try clear hi)
              refine hK.out _ _ ⟨v185, adz_v185, v193, adz_v193, gb198, m3_, m11_, m14_, (by rw [ha.out]; exact putSel_upk 7 hb_ rfl rfl rfl), (by (with_reducible repeat (first | refine blk_drewN ?_ _ | refine blk_drew ?_ | refine blk_alloc ?_ _)); exact BK183.out), fun h0_ => absurd ((hon 2 (by kernel_rfl)).symm.trans h0_) (by decide), (by repeat (first | (with_reducible first | exact HK.out | apply KeepBut.set_ | apply keep_drewN | apply keep_drew | apply keep_alloc | refine keep_far ?_ GW183.out _) | exact HK.out)), (by repeat (first | (with_reducible first | exact HB.out | apply below_alloc | apply pw_below_drewN | apply below_drew1 | refine below_set ?_ (IsS69.ge HI0.out) | refine below_set ?_ GE183.out) | exact HB.out)), z_HO186, Q_HA_HO186, fun _ h1_ => absurd ((hon 6 (by kernel_rfl)).symm.trans h1_) (by decide), fun _ h1_ => absurd ((up_self b 10).symm.trans h1_) (by decide), z_HO194, Q_HA_HO194, fun _ => (by repeat (first | (with_reducible first | exact HI0.out | apply IsS69.alloc | apply IsS69.drewN | apply IsS69.drew | apply IsS69.set_1 | refine IsS69.far ?_ NB0_183.out _) | exact HI0.out)), z_BK198, Q_GW198, Q_GE198, Q_NB0_198, Q_NB198_0, Q_NB183_198, Q_NB198_183, fun h0_ => absurd ((hoff 15 (by kernel_rfl)).symm.trans h0_) (by decide), Q_X3_, fun h0_ => absurd ((hoff 11 (by kernel_rfl)).symm.trans h0_) (by decide), Q_X14_⟩
            refine steps_cons ?_ ?_
            · rintro b a w' ⟨v185, adz_v185, v193, adz_v193, gb198, m3_, m11_, m14_, ha, Q_BK183, Q_HI0, Q_HK, Q_HB, Q_HO186, Q_HA_HO186, Q_HI0_e2, Q_HI0_e6, Q_HO194, Q_HA_HO194, Q_HI0_e10, Q_BK198, Q_GW198, Q_GE198, Q_NB0_198, Q_NB198_0, Q_NB183_198, Q_NB198_183, Q_BK198_e15, Q_X3_, Q_X11_, Q_X14_⟩ hb_ hon hoff
              refine ⟨_, rfl, fun K hK => ?_⟩
              have e14 : a.tmps[14]? = some (v193) := by rw [ha]; exact putSel_on (e := (8, 14, v193)) 6 rfl rfl (hon 8 (by kernel_rfl)) rfl
              have e16 : a.tmps[16]? = some (.int .i64 t195) := by rw [ha]; exact putSel_on (e := (10, 16, .int .i64 t195)) 7 rfl rfl (hon 10 (by kernel_rfl)) rfl
              replace ha := Aside0.mk ha
              have BK183 := Aside0.mk Q_BK183
              have HK := Aside0.mk Q_HK
              have HB := Aside0.mk Q_HB
              have HO194 := Aside0.mk (Q_HO194 (hon 8 (by kernel_rfl)))
              have HA_HO194 := Aside0.mk (Q_HA_HO194 (hon 8 (by kernel_rfl)))
              have HI0 := Aside0.mk (Q_HI0_e10 (hon 10 (by kernel_rfl)))
              obtain ⟨c_, hv_⟩ := HA_HO194.out
              rw [hv_] at e14
              refine value_ (w1 := w') (v := .pointer (some (adz_v193.add (t195).toNat))) (by rfl) rfl ?_ ?_
              · go_simp
                (try simp only [i64_w])
                try rfl
              refine hK.out _ _ ⟨v185, adz_v185, v193, adz_v193, gb198, m3_, (.pointer (some (adz_v193.add (t195).toNat))), m14_, (by rw [ha.out]; exact putSel_upk 8 hb_ rfl rfl rfl), Q_BK183, fun h0_ => absurd ((hon 2 (by kernel_rfl)).symm.trans h0_) (by decide), Q_HK, Q_HB, Q_HO186, Q_HA_HO186, fun _ h1_ => absurd ((hon 6 (by kernel_rfl)).symm.trans h1_) (by decide), fun _ h1_ => absurd ((hon 10 (by kernel_rfl)).symm.trans h1_) (by decide), Q_HO194, Q_HA_HO194, Q_HI0_e10, Q_BK198, Q_GW198, Q_GE198, Q_NB0_198, Q_NB198_0, Q_NB183_198, Q_NB198_183, fun h0_ => absurd ((hoff 15 (by kernel_rfl)).symm.trans h0_) (by decide), Q_X3_, fun _ => rfl, Q_X14_⟩
            refine steps_cons ?_ ?_
            · rintro b a w' ⟨v185, adz_v185, v193, adz_v193, gb198, m3_, m11_, m14_, ha, Q_BK183, Q_HI0, Q_HK, Q_HB, Q_HO186, Q_HA_HO186, Q_HI0_e2, Q_HI0_e6, Q_HO194, Q_HA_HO194, Q_HI0_e10, Q_BK198, Q_GW198, Q_GE198, Q_NB0_198, Q_NB198_0, Q_NB183_198, Q_NB198_183, Q_BK198_e15, Q_X3_, Q_X11_, Q_X14_⟩ hb_ hon hoff
              refine ⟨_, rfl, fun K hK => ?_⟩
              have e17 : a.tmps[17]? = some (m11_) := by rw [ha]; exact putSel_on (e := (11, 17, m11_)) 8 rfl rfl (hon 11 (by kernel_rfl)) rfl
              rw [Q_X11_ (hon 11 (by kernel_rfl))] at e17
              replace ha := Aside0.mk ha
              have BK183 := Aside0.mk Q_BK183
              have HK := Aside0.mk Q_HK
              have HB := Aside0.mk Q_HB
              have HO194 := Aside0.mk (Q_HO194 (hon 8 (by kernel_rfl)))
              have HA_HO194 := Aside0.mk (Q_HA_HO194 (hon 8 (by kernel_rfl)))
              have HI0 := Aside0.mk (Q_HI0_e10 (hon 10 (by kernel_rfl)))
              obtain ⟨c_, hv_⟩ := HA_HO194.out
              have hF_ := HO194.out
              rw [hv_] at hF_
              obtain ⟨ad_, ea_, hx_⟩ := Kd.at_int (Kd.R_reads' hF_).2.2 t195 (of_eq_true pi197) (of_eq_true qi197)
              cases ea_
              refine value_ (w1 := w') (v := .int .i64 (rd y192 t195)) (by rfl) rfl ?_ ?_
              · go_simp
                (try simp only [i64_w])
                try rfl
              refine hK.out _ _ ⟨v185, adz_v185, v193, adz_v193, gb198, m3_, m11_, m14_, (by rw [ha.out]; exact putSel_upk 9 hb_ rfl rfl rfl), Q_BK183, fun h0_ => absurd ((hon 2 (by kernel_rfl)).symm.trans h0_) (by decide), Q_HK, Q_HB, Q_HO186, Q_HA_HO186, fun _ h1_ => absurd ((hon 6 (by kernel_rfl)).symm.trans h1_) (by decide), fun _ h1_ => absurd ((hon 10 (by kernel_rfl)).symm.trans h1_) (by decide), Q_HO194, Q_HA_HO194, Q_HI0_e10, Q_BK198, Q_GW198, Q_GE198, Q_NB0_198, Q_NB198_0, Q_NB183_198, Q_NB198_183, fun h0_ => absurd ((hoff 15 (by kernel_rfl)).symm.trans h0_) (by decide), Q_X3_, Q_X11_, Q_X14_⟩
            refine steps_cons ?_ ?_
            · rintro b a w' ⟨v185, adz_v185, v193, adz_v193, gb198, m3_, m11_, m14_, ha, Q_BK183, Q_HI0, Q_HK, Q_HB, Q_HO186, Q_HA_HO186, Q_HI0_e2, Q_HI0_e6, Q_HO194, Q_HA_HO194, Q_HI0_e10, Q_BK198, Q_GW198, Q_GE198, Q_NB0_198, Q_NB198_0, Q_NB183_198, Q_NB198_183, Q_BK198_e15, Q_X3_, Q_X11_, Q_X14_⟩ hb_ hon hoff
              refine ⟨_, rfl, fun K hK => ?_⟩
              have e10 : a.tmps[10]? = some (.int .i64 (rd y184 t187)) := by rw [ha]; exact putSel_on (e := (4, 10, .int .i64 (rd y184 t187))) 3 rfl rfl (hon 4 (by kernel_rfl)) rfl
              have e13 : a.tmps[13]? = some (.int .i64 (wrap64 (1 + t190))) := by rw [ha]; exact putSel_on (e := (7, 13, .int .i64 (wrap64 (1 + t190)))) 5 rfl rfl (hon 7 (by kernel_rfl)) rfl
              have e18 : a.tmps[18]? = some (.int .i64 (rd y192 t195)) := by rw [ha]; exact putSel_on (e := (12, 18, .int .i64 (rd y192 t195))) 9 rfl rfl (hon 12 (by kernel_rfl)) rfl
              replace ha := Aside0.mk ha
              have BK183 := Aside0.mk Q_BK183
              have HK := Aside0.mk Q_HK
              have HB := Aside0.mk Q_HB
              have HO186 := Aside0.mk (Q_HO186 (hon 0 (by kernel_rfl)))
              have HA_HO186 := Aside0.mk (Q_HA_HO186 (hon 0 (by kernel_rfl)))
              have HO194 := Aside0.mk (Q_HO194 (hon 8 (by kernel_rfl)))
              have HA_HO194 := Aside0.mk (Q_HA_HO194 (hon 8 (by kernel_rfl)))
              have HI0 := Aside0.mk (Q_HI0_e10 (hon 10 (by kernel_rfl)))
              refine value_ (w1 := w') (v := .agg #[.int .i64 (rd y184 t187), .int .i64 (wrap64 (1 + t190)), .int .i64 (rd y192 t195)]) (by rfl) rfl ?_ ?_
              · go_simp
                (try simp only [i64_w])
                try rfl
              refine hK.out _ _ ⟨v185, adz_v185, v193, adz_v193, gb198, m3_, m11_, m14_, (by rw [ha.out]; exact putSel_upk 10 hb_ rfl rfl rfl), Q_BK183, fun h0_ => absurd ((hon 2 (by kernel_rfl)).symm.trans h0_) (by decide), Q_HK, Q_HB, Q_HO186, Q_HA_HO186, fun _ h1_ => absurd ((hon 6 (by kernel_rfl)).symm.trans h1_) (by decide), fun _ h1_ => absurd ((hon 10 (by kernel_rfl)).symm.trans h1_) (by decide), Q_HO194, Q_HA_HO194, Q_HI0_e10, Q_BK198, Q_GW198, Q_GE198, Q_NB0_198, Q_NB198_0, Q_NB183_198, Q_NB198_183, fun h0_ => absurd ((hoff 15 (by kernel_rfl)).symm.trans h0_) (by decide), Q_X3_, Q_X11_, Q_X14_⟩
            refine steps_cons ?_ ?_
            · rintro b a w' ⟨v185, adz_v185, v193, adz_v193, gb198, m3_, m11_, m14_, ha, Q_BK183, Q_HI0, Q_HK, Q_HB, Q_HO186, Q_HA_HO186, Q_HI0_e2, Q_HI0_e6, Q_HO194, Q_HA_HO194, Q_HI0_e10, Q_BK198, Q_GW198, Q_GE198, Q_NB0_198, Q_NB198_0, Q_NB183_198, Q_NB198_183, Q_BK198_e15, Q_X3_, Q_X11_, Q_X14_⟩ hb_ hon hoff
              refine ⟨_, rfl, fun K hK => ?_⟩
              replace ha := Aside0.mk ha
              have BK183 := Aside0.mk Q_BK183
              have HK := Aside0.mk Q_HK
              have HB := Aside0.mk Q_HB
              refine box_step ?hg (N := 5) ?hd (cs := #[.int .i64 0, .int .i64 0, .int .i64 0]) (t := 29) ?hr ?_; (case hd => rfl); (case hg => rfl); (case hr => first | (go_simp; done) | (go_simp; rfl))
              intro gb198 hg w14 hbox hb
              have n1_ := Aside0.mk (blk_below (g := gb183) (o := .cells #[.int .i64 0, .int .i64 0, .int .i64 0] 29 (0, 0)) (by (with_reducible repeat (first | refine blk_drewN ?_ _ | refine blk_drew ?_ | refine blk_alloc ?_ _)); exact BK183.out) hb)
              have n2_ := Aside0.mk (KeepBut.trans (by repeat (first | (with_reducible first | exact HK.out | apply KeepBut.set_ | apply keep_drewN | apply keep_drew | apply keep_alloc | refine keep_far ?_ GW183.out _) | exact HK.out)) (KeepBut.of_below hb g none) (.inl rfl))
              have n3_ := Aside0.mk (below_step (by repeat (first | (with_reducible first | exact HB.out | apply below_alloc | apply pw_below_drewN | apply below_drew1 | refine below_set ?_ GE183.out) | exact HB.out)) hb)
              have n4_ := Aside0.mk (hbox)
              have n5_ := Aside0.mk ((by rw [hg]; exact (keep_size (w := w) (g := g) (row := none) (by repeat (first | (with_reducible first | exact HK.out | apply KeepBut.set_ | apply keep_drewN | apply keep_drew | apply keep_alloc | refine keep_far ?_ GW183.out _) | exact HK.out))) : w.heap.size ≤ gb198))
              have n6_ := Aside0.mk ((Nat.le_trans HW0.out (by rw [hg]; exact (keep_size (w := w) (g := g) (row := none) (by repeat (first | (with_reducible first | exact HK.out | apply KeepBut.set_ | apply keep_drewN | apply keep_drew | apply keep_alloc | refine keep_far ?_ GW183.out _) | exact HK.out))) : w.heap.size ≤ gb198) : w0.heap.size ≤ gb198))
              have n7_ := Aside0.mk ((by rw [hg]; exact Nat.ne_of_lt (blk_lt (g := gb183) (o := .cells #[.int .i64 0, .int .i64 0, .int .i64 0] 29 (0, 0)) (by (with_reducible repeat (first | refine blk_drewN ?_ _ | refine blk_drew ?_ | refine blk_alloc ?_ _)); exact BK183.out)) : gb183 ≠ gb198))
              have n8_ := Aside0.mk ((by rw [hg]; exact Nat.ne_of_gt (blk_lt (g := gb183) (o := .cells #[.int .i64 0, .int .i64 0, .int .i64 0] 29 (0, 0)) (by (with_reducible repeat (first | refine blk_drewN ?_ _ | refine blk_drew ?_ | refine blk_alloc ?_ _)); exact BK183.out)) : gb198 ≠ gb183))
              have n9_ := Aside0.mk ((by rw [hg]; exact Nat.ne_of_lt (Nat.lt_of_lt_of_le HGL.out (keep_size (w := w) (g := g) (row := none) (by repeat (first | (with_reducible first | exact HK.out | apply KeepBut.set_ | apply keep_drewN | apply keep_drew | apply keep_alloc | refine keep_far ?_ GW183.out _) | exact HK.out)))) : g ≠ gb198))
              have n10_ := Aside0.mk ((by rw [hg]; exact Nat.ne_of_gt (Nat.lt_of_lt_of_le HGL.out (keep_size (w := w) (g := g) (row := none) (by repeat (first | (with_reducible first | exact HK.out | apply KeepBut.set_ | apply keep_drewN | apply keep_drew | apply keep_alloc | refine keep_far ?_ GW183.out _) | exact HK.out)))) : gb198 ≠ g))
              have z_HI0 := fun (h0_ : b 2 = false) => (show IsS69 w0 w14 g s0_0 s0_1 from by first | exact (IsS69.below (by repeat (first | (with_reducible first | exact (Q_HI0 h0_) | apply IsS69.alloc | apply IsS69.drewN | apply IsS69.drew | apply IsS69.set_1 | refine IsS69.far ?_ NB0_183.out _) | exact (Q_HI0 h0_))) hb))
              have z_HO186 := fun (h0_ : b 0 = true) => (show Kd.R (Kd.int .i64) 3 w14 w.heap.size (fun _ => True) v185 y184 from by first | exact (Kd.R_below (by (with_reducible repeat (first | apply Kd.R_alloc | apply Kd.R_drewN | apply Kd.R_drew)); exact (Q_HO186 h0_)) hb) | exact Kd.R_mono (Kd.R_below (by (with_reducible repeat (first | apply Kd.R_alloc | apply Kd.R_drewN | apply Kd.R_drew)); exact (Q_HO186 h0_)) hb) (fun _ h_ => by first | trivial | exact h_ | exact h_.1))
              have z_HI0_e2 := fun (h0_ : b 2 = true) (h1_ : b 6 = false) => (show IsS69 w0 w14 g s0_0 t188 from by first | exact (IsS69.below (by repeat (first | (with_reducible first | exact (Q_HI0_e2 h0_ h1_) | apply IsS69.alloc | apply IsS69.drewN | apply IsS69.drew | apply IsS69.set_1 | refine IsS69.far ?_ NB0_183.out _) | exact (Q_HI0_e2 h0_ h1_))) hb))
              have z_HI0_e6 := fun (h0_ : b 6 = true) (h1_ : b 10 = false) => (show IsS69 w0 w14 g s0_0 t191 from by first | exact (IsS69.below (by repeat (first | (with_reducible first | exact (Q_HI0_e6 h0_ h1_) | apply IsS69.alloc | apply IsS69.drewN | apply IsS69.drew | apply IsS69.set_1 | refine IsS69.far ?_ NB0_183.out _) | exact (Q_HI0_e6 h0_ h1_))) hb))
              have z_HO194 := fun (h0_ : b 8 = true) => (show Kd.R (Kd.int .i64) 3 w14 w.heap.size (fun _ => True) v193 y192 from by first | exact (Kd.R_below (by (with_reducible repeat (first | apply Kd.R_alloc | apply Kd.R_drewN | apply Kd.R_drew)); exact (Q_HO194 h0_)) hb) | exact Kd.R_mono (Kd.R_below (by (with_reducible repeat (first | apply Kd.R_alloc | apply Kd.R_drewN | apply Kd.R_drew)); exact (Q_HO194 h0_)) hb) (fun _ h_ => by first | trivial | exact h_ | exact h_.1))
              have z_HI0_e10 := fun (h0_ : b 10 = true) => (show IsS69 w0 w14 g s0_0 t196 from by first | exact (IsS69.below (by repeat (first | (with_reducible first | exact (Q_HI0_e10 h0_) | apply IsS69.alloc | apply IsS69.drewN | apply IsS69.drew | apply IsS69.set_1 | refine IsS69.far ?_ NB0_183.out _) | exact (Q_HI0_e10 h0_))) hb))
              clear BK183
              clear HK
              clear HB
              have BK183 := n1_
              have HK := n2_
              have HB := n3_
              have BK198 := n4_
              have GW198 := n5_
              have GE198 := n6_
              have NB183_198 := n7_
              have NB198_183 := n8_
              have NB0_198 := n9_
              have NB198_0 := n10_
              clear n1_ n2_ n3_ n4_ n5_ n6_ n7_ n8_ n9_ n10_
              clear hb hbox hg
              refine hK.out _ _ ⟨v185, adz_v185, v193, adz_v193, gb198, m3_, m11_, (.pointer (some ⟨gb198, 0, none⟩)), (by rw [ha.out]; exact putSel_upk 11 hb_ rfl rfl rfl), (by (with_reducible repeat (first | refine blk_drewN ?_ _ | refine blk_drew ?_ | refine blk_alloc ?_ _)); exact BK183.out), z_HI0, (by repeat (first | (with_reducible first | exact HK.out | apply KeepBut.set_ | apply keep_drewN | apply keep_drew | apply keep_alloc | refine keep_far ?_ GW183.out _ | refine keep_far ?_ GW198.out _) | exact HK.out)), (by repeat (first | (with_reducible first | exact HB.out | apply below_alloc | apply pw_below_drewN | apply below_drew1 | refine below_set ?_ GE183.out | refine below_set ?_ GE198.out) | exact HB.out)), z_HO186, Q_HA_HO186, z_HI0_e2, z_HI0_e6, z_HO194, Q_HA_HO194, z_HI0_e10, fun _ _ => (by (with_reducible repeat (first | refine blk_drewN ?_ _ | refine blk_drew ?_ | refine blk_alloc ?_ _)); exact BK198.out), fun _ => GW198.out, fun _ => GE198.out, fun _ => NB0_198.out, fun _ => NB198_0.out, fun _ => NB183_198.out, fun _ => NB198_183.out, fun h0_ => absurd ((hoff 15 (by kernel_rfl)).symm.trans h0_) (by decide), Q_X3_, Q_X11_, fun _ => rfl⟩
            refine steps_cons ?_ ?_
            · rintro b a w' ⟨v185, adz_v185, v193, adz_v193, gb198, m3_, m11_, m14_, ha, Q_BK183, Q_HI0, Q_HK, Q_HB, Q_HO186, Q_HA_HO186, Q_HI0_e2, Q_HI0_e6, Q_HO194, Q_HA_HO194, Q_HI0_e10, Q_BK198, Q_GW198, Q_GE198, Q_NB0_198, Q_NB198_0, Q_NB183_198, Q_NB198_183, Q_BK198_e15, Q_X3_, Q_X11_, Q_X14_⟩ hb_ hon hoff
              refine ⟨_, rfl, fun K hK => ?_⟩
              have e5 : a.tmps[5]? = some (m14_) := by rw [ha]; exact putSel_on (e := (14, 5, m14_)) 11 rfl rfl (hon 14 (by kernel_rfl)) rfl
              rw [Q_X14_ (hon 14 (by kernel_rfl))] at e5
              have e19 : a.tmps[19]? = some (.agg #[.int .i64 (rd y184 t187), .int .i64 (wrap64 (1 + t190)), .int .i64 (rd y192 t195)]) := by rw [ha]; exact putSel_on (e := (13, 19, .agg #[.int .i64 (rd y184 t187), .int .i64 (wrap64 (1 + t190)), .int .i64 (rd y192 t195)])) 10 rfl rfl (hon 13 (by kernel_rfl)) rfl
              replace ha := Aside0.mk ha
              have BK183 := Aside0.mk Q_BK183
              have HK := Aside0.mk Q_HK
              have HB := Aside0.mk Q_HB
              have HO186 := Aside0.mk (Q_HO186 (hon 0 (by kernel_rfl)))
              have HA_HO186 := Aside0.mk (Q_HA_HO186 (hon 0 (by kernel_rfl)))
              have HO194 := Aside0.mk (Q_HO194 (hon 8 (by kernel_rfl)))
              have HA_HO194 := Aside0.mk (Q_HA_HO194 (hon 8 (by kernel_rfl)))
              have HI0 := Aside0.mk (Q_HI0_e10 (hon 10 (by kernel_rfl)))
              have BK198 := Aside0.mk (Q_BK198 (hon 14 (by kernel_rfl)) hb_)
              have GW198 := Aside0.mk (Q_GW198 (hon 14 (by kernel_rfl)))
              have GE198 := Aside0.mk (Q_GE198 (hon 14 (by kernel_rfl)))
              have NB0_198 := Aside0.mk (Q_NB0_198 (hon 14 (by kernel_rfl)))
              have NB198_0 := Aside0.mk (Q_NB198_0 (hon 14 (by kernel_rfl)))
              have NB183_198 := Aside0.mk (Q_NB183_198 (hon 14 (by kernel_rfl)))
              have NB198_183 := Aside0.mk (Q_NB198_183 (hon 14 (by kernel_rfl)))
              obtain ⟨co25, eo25⟩ := HA_HO186.out
              clear HA_HO186
              subst eo25
              obtain ⟨co26, eo26⟩ := HA_HO194.out
              clear HA_HO194
              subst eo26
              have hs27 : w'.cell? ⟨gb198, 0, none⟩ = some (.int .i64 0) := (blk_cell BK198.out 0).trans rfl
              have hfs27 := blk_frozen BK198.out 0
              have hns27_0 := NB183_198.out
              have hms27_0 := NB198_183.out
              have hs28 : w'.cell? ⟨gb198, 1, none⟩ = some (.int .i64 0) := (blk_cell BK198.out 1).trans rfl
              have hfs28 := blk_frozen BK198.out 1
              have hns28_0 := NB183_198.out
              have hms28_0 := NB198_183.out
              have hs29 : w'.cell? ⟨gb198, 2, none⟩ = some (.int .i64 0) := (blk_cell BK198.out 2).trans rfl
              have hfs29 := blk_frozen BK198.out 2
              have hns29_0 := NB183_198.out
              have hms29_0 := NB198_183.out
              refine skip_ (w1 := ?_) (by rfl) rfl ?_ ?_
              rotate_left
              · go_simp
                rfl
              refine hK.out _ _ ⟨.slice (some adz_v185) y184.length co25, adz_v185, .slice (some adz_v193) y192.length co26, adz_v193, gb198, m3_, m11_, m14_, (by rw [ha.out]; exact putSel_none (v := undef) rfl), (by (with_reducible repeat (first | refine blk_drewN ?_ _ | refine blk_drew ?_ | refine blk_alloc ?_ _)); refine blk_far ?_ NB183_198.out _; (with_reducible repeat (first | refine blk_drewN ?_ _ | refine blk_drew ?_ | refine blk_alloc ?_ _)); refine blk_far ?_ NB183_198.out _; (with_reducible repeat (first | refine blk_drewN ?_ _ | refine blk_drew ?_ | refine blk_alloc ?_ _)); refine blk_far ?_ NB183_198.out _; (with_reducible repeat (first | refine blk_drewN ?_ _ | refine blk_drew ?_ | refine blk_alloc ?_ _)); exact BK183.out), fun h0_ => absurd ((hon 2 (by kernel_rfl)).symm.trans h0_) (by decide), (by repeat (first | (with_reducible first | exact HK.out | apply KeepBut.set_ | apply keep_drewN | apply keep_drew | apply keep_alloc | refine keep_far ?_ GW183.out _ | refine keep_far ?_ GW198.out _) | exact HK.out)), (by repeat (first | (with_reducible first | exact HB.out | apply below_alloc | apply pw_below_drewN | apply below_drew1 | refine below_set ?_ (IsS69.ge HI0.out) | refine below_set ?_ GE183.out | refine below_set ?_ GE198.out) | exact HB.out)), fun _ => (by (with_reducible repeat (first | apply Kd.R_alloc | apply Kd.R_drewN | apply Kd.R_drew)); exact Kd.R_mono (Kd.R_far (p := ⟨gb198, 2, none⟩) (Kd.R_far (p := ⟨gb198, 1, none⟩) (Kd.R_far (p := ⟨gb198, 0, none⟩) (Kd.R_types HO186.out BK198.out (by decide)) (fun _ hk => hk.2) (.int .i64 (rd y184 t187))) (fun _ hk => hk.2) (.int .i64 (wrap64 (1 + t190)))) (fun _ hk => hk.2) (.int .i64 (rd y192 t195))) (fun _ hk => hk.1)), fun _ => ⟨_, rfl⟩, fun _ h1_ => absurd ((hon 6 (by kernel_rfl)).symm.trans h1_) (by decide), fun _ h1_ => absurd ((hon 10 (by kernel_rfl)).symm.trans h1_) (by decide), fun _ => (by (with_reducible repeat (first | apply Kd.R_alloc | apply Kd.R_drewN | apply Kd.R_drew)); exact Kd.R_mono (Kd.R_far (p := ⟨gb198, 2, none⟩) (Kd.R_far (p := ⟨gb198, 1, none⟩) (Kd.R_far (p := ⟨gb198, 0, none⟩) (Kd.R_types HO194.out BK198.out (by decide)) (fun _ hk => hk.2) (.int .i64 (rd y184 t187))) (fun _ hk => hk.2) (.int .i64 (wrap64 (1 + t190)))) (fun _ hk => hk.2) (.int .i64 (rd y192 t195))) (fun _ hk => hk.1)), fun _ => ⟨_, rfl⟩, fun _ => (by repeat (first | (with_reducible first | exact HI0.out | apply IsS69.alloc | apply IsS69.drewN | apply IsS69.drew | apply IsS69.set_1 | refine IsS69.far ?_ NB0_183.out _ | refine IsS69.far ?_ NB0_198.out _) | exact HI0.out)), fun _ h1_ => absurd ((up_self b 15).symm.trans h1_) (by decide), fun _ => GW198.out, fun _ => GE198.out, fun _ => NB0_198.out, fun _ => NB198_0.out, fun _ => NB183_198.out, fun _ => NB198_183.out, fun _ => (by (with_reducible repeat (first | refine blk_drewN ?_ _ | refine blk_drew ?_ | refine blk_alloc ?_ _)); refine blk_put (cs := #[.int .i64 (rd y184 t187), .int .i64 (wrap64 (1 + t190)), .int .i64 0]) ?_ 2 _ rfl; (with_reducible repeat (first | refine blk_drewN ?_ _ | refine blk_drew ?_ | refine blk_alloc ?_ _)); refine blk_put (cs := #[.int .i64 (rd y184 t187), .int .i64 0, .int .i64 0]) ?_ 1 _ rfl; (with_reducible repeat (first | refine blk_drewN ?_ _ | refine blk_drew ?_ | refine blk_alloc ?_ _)); refine blk_put (cs := #[.int .i64 0, .int .i64 0, .int .i64 0]) ?_ 0 _ rfl; (with_reducible repeat (first | refine blk_drewN ?_ _ | refine blk_drew ?_ | refine blk_alloc ?_ _)); exact BK198.out), Q_X3_, Q_X11_, Q_X14_⟩
            exact steps_nil
          rintro b a w27 hall ⟨v185, adz_v185, v193, adz_v193, gb198, m3_, m11_, m14_, ha, Q_BK183, Q_HI0, Q_HK, Q_HB, Q_HO186, Q_HA_HO186, Q_HI0_e2, Q_HI0_e6, Q_HO194, Q_HA_HO194, Q_HI0_e10, Q_BK198, Q_GW198, Q_GE198, Q_NB0_198, Q_NB198_0, Q_NB183_198, Q_NB198_183, Q_BK198_e15, Q_X3_, Q_X11_, Q_X14_⟩
          clear BK183 HB HI0 HK
          have hb0_ := hall 0 (by kernel_rfl)
          have hb2_ := hall 2 (by kernel_rfl)
          have hb3_ := hall 3 (by kernel_rfl)
          have hb4_ := hall 4 (by kernel_rfl)
          have hb6_ := hall 6 (by kernel_rfl)
          have hb7_ := hall 7 (by kernel_rfl)
          have hb8_ := hall 8 (by kernel_rfl)
          have hb10_ := hall 10 (by kernel_rfl)
          have hb11_ := hall 11 (by kernel_rfl)
          have hb12_ := hall 12 (by kernel_rfl)
          have hb13_ := hall 13 (by kernel_rfl)
          have hb14_ := hall 14 (by kernel_rfl)
          have hb15_ := hall 15 (by kernel_rfl)
          subst ha
          obtain rfl := Q_X3_ hb3_
          obtain rfl := Q_X11_ hb11_
          obtain rfl := Q_X14_ hb14_
          simp only [putSel, hb0_, hb2_, hb3_, hb4_, hb6_, hb7_, hb8_, hb10_, hb11_, hb12_, hb13_, hb14_, hb15_, if_true, Act.put, List.setIfInBounds_toArray, List.set_cons_zero, List.set_cons_succ]
          have BK183 := Aside0.mk Q_BK183
          clear Q_BK183
          clear Q_HI0
          have HK := Aside0.mk Q_HK
          clear Q_HK
          have HB := Aside0.mk Q_HB
          clear Q_HB
          have HO186 := Aside0.mk (Q_HO186 hb0_)
          clear Q_HO186
          have HA_HO186 := Aside0.mk (Q_HA_HO186 hb0_)
          clear Q_HA_HO186
          clear Q_HI0_e2
          clear Q_HI0_e6
          have HO194 := Aside0.mk (Q_HO194 hb8_)
          clear Q_HO194
          have HA_HO194 := Aside0.mk (Q_HA_HO194 hb8_)
          clear Q_HA_HO194
          have HI0 := Aside0.mk (Q_HI0_e10 hb10_)
          clear Q_HI0_e10
          clear Q_BK198
          have GW198 := Aside0.mk (Q_GW198 hb14_)
          clear Q_GW198
          have GE198 := Aside0.mk (Q_GE198 hb14_)
          clear Q_GE198
          have NB0_198 := Aside0.mk (Q_NB0_198 hb14_)
          clear Q_NB0_198
          have NB198_0 := Aside0.mk (Q_NB198_0 hb14_)
          clear Q_NB198_0
          have NB183_198 := Aside0.mk (Q_NB183_198 hb14_)
          clear Q_NB183_198
          have NB198_183 := Aside0.mk (Q_NB198_183 hb14_)
          clear Q_NB198_183
          have BK198 := Aside0.mk (Q_BK198_e15 hb15_)
          clear Q_BK198_e15
          clear hall hb0_ hb2_ hb3_ hb4_ hb6_ hb7_ hb8_ hb10_ hb11_ hb12_ hb13_ hb14_ hb15_
          obtain ⟨co28, eo28⟩ := HA_HO186.out
          clear HA_HO186
          subst eo28
          obtain ⟨co29, eo29⟩ := HA_HO194.out
          clear HA_HO194
          subst eo29
          try go_wp2
          have n0_ := Aside0.mk (Kd.R_drew HO186.out)
          have n1_ := Aside0.mk (Kd.R_drew HO194.out)
          have n2_ := Aside0.mk (blk_drew BK183.out)
          have n3_ := Aside0.mk (blk_drew BK198.out)
          have n4_ := Aside0.mk (IsS69.drew HI0.out)
          have n5_ := Aside0.mk (keep_drew HK.out)
          have n6_ := Aside0.mk (below_drew1 HB.out)
          clear HO186
          clear HO194
          clear BK183
          clear BK198
          clear HI0
          clear HK
          clear HB
          have HO186 := n0_
          have HO194 := n1_
          have BK183 := n2_
          have BK198 := n3_
          have HI0 := n4_
          have HK := n5_
          have HB := n6_
          clear n0_ n1_ n2_ n3_ n4_ n5_ n6_
          refine start_ (n := 8) (S := fun w' => w'.cell? ⟨gb198, 0, none⟩ = some (.int .i64 (rd y184 t187)) ∧ w'.cell? ⟨gb198, 1, none⟩ = some (.int .i64 (wrap64 (1 + t190))) ∧ w'.cell? ⟨gb198, 2, none⟩ = some (.int .i64 (rd y192 t195))) (ds := []) #[false, false, false, false, false, false, false, false] (by kernel_rfl) rfl rfl ⟨(blk_cell BK198.out 0).trans rfl, (blk_cell BK198.out 1).trans rfl, (blk_cell BK198.out 2).trans rfl⟩ (fun hHeld => ?_); refine with_tabW spec_l20Day.tab2 spec_l20Day.bits2 (fun HT_ HW_ => ?_)
          generalize w27.drew = w30 at HO186 HO194 BK183 BK198 HI0 HK HB hHeld ⊢
          refine pure_ (i := 0) (N := some 20) (v := ?_) (a' := ?_) #[true, false, false, false, false, false, false, false] rfl rfl (any_of HT_.out (by kernel_rfl)) (fun _ _ _ h => h) (Or.inl ⟨by rfl, ?_⟩) ?_ ?_
          rotate_left
          · intro w'
            go_simp
            with_reducible rfl
          rotate_left
          · simp only [Act.put, List.setIfInBounds_toArray, List.set_cons_zero, List.set_cons_succ, i64_w, i32_w]
            rfl
          refine pure_ (i := 2) (N := some 22) (v := ?_) (a' := ?_) #[true, false, true, false, false, false, false, false] rfl rfl (any_of HT_.out (by kernel_rfl)) (fun _ _ _ h => h) (Or.inl ⟨by rfl, ?_⟩) ?_ ?_
          rotate_left
          · intro w'
            go_simp
            with_reducible rfl
          rotate_left
          · simp only [Act.put, List.setIfInBounds_toArray, List.set_cons_zero, List.set_cons_succ, i64_w, i32_w]
            rfl
          refine pure_ (i := 4) (N := some 24) (v := ?_) (a' := ?_) #[true, false, true, false, true, false, false, false] rfl rfl (any_of HT_.out (by kernel_rfl)) (fun _ _ _ h => h) (Or.inl ⟨by rfl, ?_⟩) ?_ ?_
          rotate_left
          · intro w'
            go_simp
            with_reducible rfl
          rotate_left
          · simp only [Act.put, List.setIfInBounds_toArray, List.set_cons_zero, List.set_cons_succ, i64_w, i32_w]
            rfl
          refine take_ (i := 1) (N := some 21) (v := ?_) (a' := ?_) #[true, true, true, false, true, false, false, false] rfl rfl (take_ofW HT_.out HW_.out (by kernel_rfl)) (fun _ _ _ h => h) (Or.inl ⟨by rfl, ?_⟩) hHeld ?_ ?_
          rotate_left
          · rintro w' ⟨s0, s1, s2⟩
            go_simp
            with_reducible rfl
          rotate_left
          · simp only [Act.put, List.setIfInBounds_toArray, List.set_cons_zero, List.set_cons_succ, i64_w, i32_w]
            rfl
          refine take_ (i := 3) (N := some 23) (v := ?_) (a' := ?_) #[true, true, true, true, true, false, false, false] rfl rfl (take_ofW HT_.out HW_.out (by kernel_rfl)) (fun _ _ _ h => h) (Or.inl ⟨by rfl, ?_⟩) hHeld ?_ ?_
          rotate_left
          · rintro w' ⟨s0, s1, s2⟩
            go_simp
            with_reducible rfl
          rotate_left
          · simp only [Act.put, List.setIfInBounds_toArray, List.set_cons_zero, List.set_cons_succ, i64_w, i32_w]
            rfl
          refine take_ (i := 5) (N := some 25) (v := ?_) (a' := ?_) #[true, true, true, true, true, true, false, false] rfl rfl (take_ofW HT_.out HW_.out (by kernel_rfl)) (fun _ _ _ h => h) (Or.inl ⟨by rfl, ?_⟩) hHeld ?_ ?_
          rotate_left
          · rintro w' ⟨s0, s1, s2⟩
            go_simp
            with_reducible rfl
          rotate_left
          · simp only [Act.put, List.setIfInBounds_toArray, List.set_cons_zero, List.set_cons_succ, i64_w, i32_w]
            rfl
          refine one_ (i := 6) (N := some 26) #[true, true, true, true, true, true, true, false] rfl rfl (one_of HT_.out (by kernel_rfl)) (by decide) (fun K hK => ?_)
          refine goes_ Try.func50 (by kernel_rfl) rfl #[.int .i64 (rd y184 t187), .int .i64 (wrap64 (1 + t190))] (by rfl) rfl rfl (by (try simp only [List.map_toArray, List.map_cons, List.map_nil]); first | done | rfl | (simp only [List.length_drop, List.length_take]; rfl)) ?_
          with_reducible refine (spec_DayLast.calls k (rd y184 t187) (wrap64 (1 + t190)) t199 _ A10.out).mono ?_
          rintro e w' ⟨rfl, ⟨nd, rfl⟩⟩
          refine ⟨_, rfl, ?_⟩
          refine hK.out _ _ ⟨(blk_cell BK198.out 0).trans rfl, (blk_cell BK198.out 1).trans rfl, (blk_cell BK198.out 2).trans rfl⟩ (fun hHeld => ?_)
          clear hK K
          refine norm_ (a' := ?_) ?_ ?_
          rotate_left
          · show Act.put _ (some 26) _ = _
            simp only [Act.put, List.setIfInBounds_toArray, List.set_cons_zero, List.set_cons_succ, i64_w, i32_w]
            rfl
          refine pure_ (i := 7) (N := some 27) (v := ?_) (a' := ?_) #[true, true, true, true, true, true, true, true] rfl rfl (any_of HT_.out (by kernel_rfl)) (fun _ _ _ h => h) (Or.inl ⟨by rfl, ?_⟩) ?_ ?_
          rotate_left
          · intro w'
            go_simp
            with_reducible rfl
          rotate_left
          · simp only [Act.put, List.setIfInBounds_toArray, List.set_cons_zero, List.set_cons_succ, i64_w, i32_w]
            rfl
          refine done_ (done_of HT_.out (by kernel_rfl)) ?_
          go_upto_if 27 with (fail)
          go_cut [] (fun wc => ∃ (kq : Nat) (x199002_10 : Int), Aside0 (spec_l20Day.j0 kq a1 s0_0 t196 (rd y184 t187) (wrap64 (1 + t190)) x199002_10 = some (r1, r2, r3, r4)) ∧ Aside0 (kq ≤ k) ∧ Aside0 (wc.heap[gb183]? = some (.cells #[.int .i64 0, .int .i64 0, .int .i64 0] 29 (0, 0))) ∧ Aside0 (wc.heap[gb198]? = some (.cells #[.int .i64 (rd y184 t187), .int .i64 (wrap64 (1 + t190)), .int .i64 x199002_10] 29 (0, 0))) ∧ Aside0 (IsS69 w0 wc g s0_0 t196) ∧ Aside0 (KeepBut w wc g none) ∧ Aside0 (Below w0.heap.size w0 wc))
          case first =>
            have H := HC11.out
            clear HC11
            by_cases c31 : (rd y192 t195) > t199
            · rw [if_pos c31] at H
              have c31b0 : decide (t199 < (rd y192 t195)) = true := decide_eq_true c31
              clear c31
              (first | rw [c31b0] | (simp only [i64_w, i32_w]; rw [c31b0]) | skip)
              replace H := Option.bind_eq_some_iff.mp H
              obtain ⟨t200, A320, H⟩ := H
              replace H : (spec_l20Day.j0 k a1 s0_0 t196 (rd y184 t187) (wrap64 (1 + t190)) t200) = some (r1, r2, r3, r4) := H
              have A32 := Aside0.mk A320
              clear A320
              have H' := Aside0.mk H
              clear H
              have hnb33 := NB198_183.out
              have hnc33 := NB183_198.out
              have hnb34 := NB198_0.out
              have hnc34 := NB0_198.out
              have hcz35_0 : w30.cell? ⟨gb198, 0, none⟩ = some (.int .i64 (rd y184 t187)) := (blk_cell BK198.out 0).trans rfl
              have hcz35_1 : w30.cell? ⟨gb198, 1, none⟩ = some (.int .i64 (wrap64 (1 + t190))) := (blk_cell BK198.out 1).trans rfl
              have hcz35_2 : w30.cell? ⟨gb198, 2, none⟩ = some (.int .i64 (rd y192 t195)) := (blk_cell BK198.out 2).trans rfl
              have hfz35_0 := blk_frozen BK198.out 0
              have hfz35_1 := blk_frozen BK198.out 1
              have hfz35_2 := blk_frozen BK198.out 2
              go_wp2_with (first | ((with_reducible refine gate_callee (f := 50) rfl ?_); refine goesL_ (some 32) rfl rfl Try.func50 (by kernel_rfl) rfl #[.int .i64 (rd y184 t187), .int .i64 (wrap64 (1 + t190))] rfl (by (try simp only [List.map_toArray, List.map_cons, List.map_nil]); first | done | rfl | (simp only [List.length_drop, List.length_take]; rfl)) ?_; (with_reducible refine (spec_DayLast.calls k (rd y184 t187) (wrap64 (1 + t190)) t200 _ A32.out).mono ?_); rintro e w' ⟨rfl, ⟨nd, rfl⟩⟩; refine ⟨_, rfl, ?_⟩; (try (rw [drewN_self w30]; generalize hq_ : World.drewN w30 _ = w30; have n0_ : Aside0 (Kd.R (Kd.int .i64) 3 w30 w.heap.size (fun k_ => some k_ ≠ (.slice (some adz_v193) y192.length co29 : Value).ownBlock) (.slice (some adz_v185) y184.length co28) y184) := ⟨by rw [← hq_]; exact (by (with_reducible repeat (first | apply Kd.R_alloc | apply Kd.R_drewN | apply Kd.R_drew)); exact HO186.out)⟩; have n1_ : Aside0 (Kd.R (Kd.int .i64) 3 w30 w.heap.size (fun k_ => some k_ ≠ (.slice (some adz_v185) y184.length co28 : Value).ownBlock) (.slice (some adz_v193) y192.length co29) y192) := ⟨by rw [← hq_]; exact (by (with_reducible repeat (first | apply Kd.R_alloc | apply Kd.R_drewN | apply Kd.R_drew)); exact HO194.out)⟩; have n2_ : Aside0 (w30.heap[gb183]? = some (.cells #[.int .i64 0, .int .i64 0, .int .i64 0] 29 (0, 0))) := ⟨by rw [← hq_]; exact (by (with_reducible repeat (first | refine blk_drewN ?_ _ | refine blk_drew ?_ | refine blk_alloc ?_ _)); exact BK183.out)⟩; have n3_ : Aside0 (w30.heap[gb198]? = some (.cells #[.int .i64 (rd y184 t187), .int .i64 (wrap64 (1 + t190)), .int .i64 (rd y192 t195)] 29 (0, 0))) := ⟨by rw [← hq_]; exact (by (with_reducible repeat (first | refine blk_drewN ?_ _ | refine blk_drew ?_ | refine blk_alloc ?_ _)); exact BK198.out)⟩; have n4_ : Aside0 (IsS69 w0 w30 g s0_0 t196) := ⟨by rw [← hq_]; exact (by repeat (first | (with_reducible first | exact HI0.out | apply IsS69.alloc | apply IsS69.drewN | apply IsS69.drew | apply IsS69.set_1 | refine IsS69.far ?_ NB0_183.out _ | refine IsS69.far ?_ NB0_198.out _) | exact HI0.out))⟩; have n5_ : Aside0 (KeepBut w w30 g none) := ⟨by rw [← hq_]; exact (by repeat (first | (with_reducible first | exact HK.out | apply KeepBut.set_ | apply keep_drewN | apply keep_drew | apply keep_alloc | refine keep_far ?_ GW183.out _ | refine keep_far ?_ GW198.out _) | exact HK.out))⟩; have n6_ : Aside0 (Below w0.heap.size w0 w30) := ⟨by rw [← hq_]; exact (by repeat (first | (with_reducible first | exact HB.out | apply below_alloc | apply pw_below_drewN | apply below_drew1 | refine below_set ?_ (IsS69.ge HI0.out) | refine below_set ?_ GE183.out | refine below_set ?_ GE198.out) | exact HB.out))⟩; clear HO186 HO194 BK183 BK198 HI0 HK HB hq_; have HO186 := n0_; have HO194 := n1_; have BK183 := n2_; have BK198 := n3_; have HI0 := n4_; have HK := n5_; have HB := n6_; clear n0_ n1_ n2_ n3_ n4_ n5_ n6_))))
              go_meet
              case rel => exact ⟨_, (t200), H', ⟨by first | omega | exact Nat.le_refl _⟩, ⟨by (with_reducible repeat (first | refine blk_drewN ?_ _ | refine blk_drew ?_ | refine blk_alloc ?_ _)); refine blk_far ?_ NB183_198.out _; (with_reducible repeat (first | refine blk_drewN ?_ _ | refine blk_drew ?_ | refine blk_alloc ?_ _)); exact BK183.out⟩, ⟨by (with_reducible repeat (first | refine blk_drewN ?_ _ | refine blk_drew ?_ | refine blk_alloc ?_ _)); refine blk_put (cs := #[.int .i64 (rd y184 t187), .int .i64 (wrap64 (1 + t190)), .int .i64 (rd y192 t195)]) ?_ 2 _ rfl; (with_reducible repeat (first | refine blk_drewN ?_ _ | refine blk_drew ?_ | refine blk_alloc ?_ _)); exact BK198.out⟩, ⟨by repeat (first | (with_reducible first | exact HI0.out | apply IsS69.alloc | apply IsS69.drewN | apply IsS69.drew | apply IsS69.set_1 | refine IsS69.far ?_ NB0_183.out _ | refine IsS69.far ?_ NB0_198.out _) | exact HI0.out)⟩, ⟨by repeat (first | (with_reducible first | exact HK.out | apply KeepBut.set_ | apply keep_drewN | apply keep_drew | apply keep_alloc | refine keep_far ?_ GW183.out _ | refine keep_far ?_ GW198.out _) | exact HK.out)⟩, ⟨by repeat (first | (with_reducible first | exact HB.out | apply below_alloc | apply pw_below_drewN | apply below_drew1 | refine below_set ?_ (IsS69.ge HI0.out) | refine below_set ?_ GE183.out | refine below_set ?_ GE198.out) | exact HB.out)⟩⟩
            · rw [if_neg c31] at H
              have c31b0 : decide (t199 < (rd y192 t195)) = false := decide_eq_false c31
              clear c31
              (first | rw [c31b0] | (simp only [i64_w, i32_w]; rw [c31b0]) | skip)
              have H' := Aside0.mk H
              clear H
              go_wp2
              go_meet
              case rel => exact ⟨_, (rd y192 t195), H', ⟨by first | omega | exact Nat.le_refl _⟩, ⟨by (with_reducible repeat (first | refine blk_drewN ?_ _ | refine blk_drew ?_ | refine blk_alloc ?_ _)); exact BK183.out⟩, ⟨by (with_reducible repeat (first | refine blk_drewN ?_ _ | refine blk_drew ?_ | refine blk_alloc ?_ _)); exact BK198.out⟩, ⟨by repeat (first | (with_reducible first | exact HI0.out | apply IsS69.alloc | apply IsS69.drewN | apply IsS69.drew | apply IsS69.set_1 | refine IsS69.far ?_ NB0_183.out _ | refine IsS69.far ?_ NB0_198.out _) | exact HI0.out)⟩, ⟨by repeat (first | (with_reducible first | exact HK.out | apply KeepBut.set_ | apply keep_drewN | apply keep_drew | apply keep_alloc | refine keep_far ?_ GW183.out _ | refine keep_far ?_ GW198.out _) | exact HK.out)⟩, ⟨by repeat (first | (with_reducible first | exact HB.out | apply below_alloc | apply pw_below_drewN | apply below_drew1 | refine below_set ?_ (IsS69.ge HI0.out) | refine below_set ?_ GE183.out | refine below_set ?_ GE198.out) | exact HB.out)⟩⟩
          case rest =>
            clear HC11
            try clear qi1
            try clear p2
            try clear c3
            try clear c4
            try clear c5
            try clear p6
            try clear qi18
            try clear qi19
            try clear c31
            try clear c31b0
            try clear c33
            try clear c34
            try clear hcz35_0
            try clear hcz35_1
            try clear hcz35_2
            try clear hfz35_0
            try clear hfz35_1
            try clear hfz35_2
            obtain ⟨kq, x199002_10, HA, HJ10, BK183, BK198, HI0, HK, HB⟩ := hcut
            cases kq with
            | zero => exact absurd HA.out (by simp [spec_l20Day.j0])
            | succ kj10 =>
              have H := HA.out
              clear HA
              simp only [spec_l20Day.j0] at H
              replace H := Option.bind_eq_some_iff.mp H
              obtain ⟨⟨t201, t202⟩, A360, H⟩ := H
              replace H : (if t201 = 0 then ((spec_l20Rd_pick.f kj10 s0_0 t202 3).bind fun bt203 => (if bt203.1 = 0 then ((some (([1899, 2200, 2023] : List Int) : List Int)).bind fun y205 => ((spec_l20Rd_pick.f kj10 s0_0 bt203.2 3).bind fun bt208 => (if 0 ≤ bt208.1 then (if bt208.1 < (y205.length : Int) then (some (rd y205 bt208.1, (wrap64 (1 + t190)), x199002_10, bt208.2)) else (none)) else (none)))) else (if bt203.1 = 1 then ((some (([0, 13, 2] : List Int) : List Int)).bind fun y211 => ((spec_l20Rd_pick.f kj10 s0_0 bt203.2 3).bind fun bt214 => (if 0 ≤ bt214.1 then (if bt214.1 < (y211.length : Int) then (some ((rd y184 t187), rd y211 bt214.1, x199002_10, bt214.2)) else (none)) else (none)))) else ((some (([0, 31, 30, 32] : List Int) : List Int)).bind fun y217 => ((spec_l20Rd_pick.f kj10 s0_0 bt203.2 4).bind fun bt220 => (if 0 ≤ bt220.1 then (if bt220.1 < (y217.length : Int) then (some ((rd y184 t187), (wrap64 (1 + t190)), rd y217 bt220.1, bt220.2)) else (none)) else (none))))))) else (some ((rd y184 t187), (wrap64 (1 + t190)), x199002_10, t202))) = some (r1, r2, r3, r4) := H
              have A36 := Aside0.mk A360
              clear A360
              by_cases c37 : t201 = 0
              · rw [if_pos c37] at H
                have c37b0 : (t201 == 0) = true := beq_iff_eq.mpr c37
                have c37b1 : (t201 != 0) = false := bne_eq_false_iff_eq.mpr c37
                clear c37
                replace H := Option.bind_eq_some_iff.mp H
                obtain ⟨⟨t203, t204⟩, A380, H⟩ := H
                replace H : (if t203 = 0 then ((some (([1899, 2200, 2023] : List Int) : List Int)).bind fun y205 => ((spec_l20Rd_pick.f kj10 s0_0 t204 3).bind fun bt208 => (if 0 ≤ bt208.1 then (if bt208.1 < (y205.length : Int) then (some (rd y205 bt208.1, (wrap64 (1 + t190)), x199002_10, bt208.2)) else (none)) else (none)))) else (if t203 = 1 then ((some (([0, 13, 2] : List Int) : List Int)).bind fun y211 => ((spec_l20Rd_pick.f kj10 s0_0 t204 3).bind fun bt214 => (if 0 ≤ bt214.1 then (if bt214.1 < (y211.length : Int) then (some ((rd y184 t187), rd y211 bt214.1, x199002_10, bt214.2)) else (none)) else (none)))) else ((some (([0, 31, 30, 32] : List Int) : List Int)).bind fun y217 => ((spec_l20Rd_pick.f kj10 s0_0 t204 4).bind fun bt220 => (if 0 ≤ bt220.1 then (if bt220.1 < (y217.length : Int) then (some ((rd y184 t187), (wrap64 (1 + t190)), rd y217 bt220.1, bt220.2)) else (none)) else (none)))))) = some (r1, r2, r3, r4) := H
                have A38 := Aside0.mk A380
                clear A380
                by_cases c39 : t203 = 0
                · rw [if_pos c39] at H
                  have c39b0 : (t203 == 0) = true := beq_iff_eq.mpr c39
                  have c39b1 : (t203 != 0) = false := bne_eq_false_iff_eq.mpr c39
                  clear c39
                  obtain ⟨y205, hy205⟩ : ∃ y_ : List Int, y_ = (([1899, 2200, 2023] : List Int)) := ⟨_, rfl⟩
                  replace H : ((spec_l20Rd_pick.f kj10 s0_0 t204 3).bind fun bt208 => (if 0 ≤ bt208.1 then (if bt208.1 < (y205.length : Int) then (some (rd y205 bt208.1, (wrap64 (1 + t190)), x199002_10, bt208.2)) else (none)) else (none))) = some (r1, r2, r3, r4) := by first | (rw [hy205]; with_reducible exact H) | (have H2_ := (Option.bind_some _ _).symm.trans H; rw [hy205]; with_reducible exact H2_) | (have H2_ := (Option.bind_some _ _).symm.trans H; with_reducible exact H2_) | with_reducible exact H | (rw [hy205]; exact H) | exact H
                  have Ny205 := Aside0.mk hy205
                  clear hy205
                  replace H := Option.bind_eq_some_iff.mp H
                  obtain ⟨⟨t208, t209⟩, A400, H⟩ := H
                  replace H : (if 0 ≤ t208 then (if t208 < (y205.length : Int) then (some (rd y205 t208, (wrap64 (1 + t190)), x199002_10, t209)) else (none)) else (none)) = some (r1, r2, r3, r4) := H
                  have A40 := Aside0.mk A400
                  clear A400
                  by_cases c41 : 0 ≤ t208
                  · rw [if_pos c41] at H
                    have c41b0 : decide (0 ≤ t208) = true := decide_eq_true c41
                    clear c41
                    by_cases c42 : t208 < (y205.length : Int)
                    · rw [if_pos c42] at H
                      have c42b0 : decide (t208 < (y205.length : Int)) = true := decide_eq_true c42
                      clear c42
                      simp only [Option.some.injEq, Prod.mk.injEq] at H
                      obtain ⟨rfl, rfl, rfl, rfl⟩ := H
                      go_wp2_with (first | ((with_reducible refine gate_callee (f := 48) rfl ?_); refine goesL_ (some 36) rfl rfl Try.func48 (by kernel_rfl) rfl #[.pointer (some ⟨g, 0, none⟩), .int .i64 a1] rfl (by (try simp only [List.map_toArray, List.map_cons, List.map_nil]); first | done | rfl | (simp only [List.length_drop, List.length_take]; rfl)) ?_; (with_reducible refine (spec_l20Rd_pick.calls kj10 g s0_0 t196 a1 t201 t202 w0 _ ?side1 ?side2 A36.out).mono ?_); (case side1 => repeat (first | (with_reducible first | exact HI0.out | apply IsS69.alloc | apply IsS69.drewN | apply IsS69.drew | apply IsS69.set_1 | refine IsS69.far ?_ NB0_183.out _ | refine IsS69.far ?_ NB0_198.out _) | exact HI0.out)); (case side2 => repeat (first | (with_reducible first | exact HB.out | apply below_alloc | apply pw_below_drewN | apply below_drew1 | refine below_set ?_ (IsS69.ge HI0.out) | refine below_set ?_ GE183.out | refine below_set ?_ GE198.out) | exact HB.out)); rintro e w43 ⟨rfl, hi, hb, hk⟩; refine ⟨_, rfl, ?_⟩; have n0_ := Aside0.mk (KeepBut.blk hk (g' := gb183) (o := .cells #[.int .i64 0, .int .i64 0, .int .i64 0] 29 (0, 0)) (by (with_reducible repeat (first | refine blk_drewN ?_ _ | refine blk_drew ?_ | refine blk_alloc ?_ _)); exact BK183.out) NB183_0.out (by simp)); have n1_ := Aside0.mk (KeepBut.blk hk (g' := gb198) (o := .cells #[.int .i64 (rd y184 t187), .int .i64 (wrap64 (1 + t190)), .int .i64 x199002_10] 29 (0, 0)) (by (with_reducible repeat (first | refine blk_drewN ?_ _ | refine blk_drew ?_ | refine blk_alloc ?_ _)); exact BK198.out) NB198_0.out (by simp)); have n2_ := Aside0.mk (KeepBut.trans (by repeat (first | (with_reducible first | exact HK.out | apply KeepBut.set_ | apply keep_drewN | apply keep_drew | apply keep_alloc | refine keep_far ?_ GW183.out _ | refine keep_far ?_ GW198.out _) | exact HK.out)) hk (.inl rfl)); have n3_ := Aside0.mk (hb); have n4_ := Aside0.mk (hi); clear BK183; clear BK198; clear HK; clear HB; clear HI0; have BK183 := n0_; have BK198 := n1_; have HK := n2_; have HB := n3_; have HI0 := n4_; clear n0_ n1_ n2_ n3_ n4_; (try clear hb); (try clear hb2); (try clear hk); (try clear hi)) | ((with_reducible refine gate_callee (f := 48) rfl ?_); refine goesL_ (some 39) rfl rfl Try.func48 (by kernel_rfl) rfl #[.pointer (some ⟨g, 0, none⟩), .int .i64 3] rfl (by (try simp only [List.map_toArray, List.map_cons, List.map_nil]); first | done | rfl | (simp only [List.length_drop, List.length_take]; rfl)) ?_; (with_reducible refine (spec_l20Rd_pick.calls kj10 g s0_0 t202 3 t203 t204 w0 _ ?side1 ?side2 A38.out).mono ?_); (case side1 => repeat (first | (with_reducible first | exact HI0.out | apply IsS69.alloc | apply IsS69.drewN | apply IsS69.drew | apply IsS69.set_1 | refine IsS69.far ?_ NB0_183.out _ | refine IsS69.far ?_ NB0_198.out _) | exact HI0.out)); (case side2 => repeat (first | (with_reducible first | exact HB.out | apply below_alloc | apply pw_below_drewN | apply below_drew1 | refine below_set ?_ (IsS69.ge HI0.out) | refine below_set ?_ GE183.out | refine below_set ?_ GE198.out) | exact HB.out)); rintro e w44 ⟨rfl, hi, hb, hk⟩; refine ⟨_, rfl, ?_⟩; have n0_ := Aside0.mk (KeepBut.blk hk (g' := gb183) (o := .cells #[.int .i64 0, .int .i64 0, .int .i64 0] 29 (0, 0)) (by (with_reducible repeat (first | refine blk_drewN ?_ _ | refine blk_drew ?_ | refine blk_alloc ?_ _)); exact BK183.out) NB183_0.out (by simp)); have n1_ := Aside0.mk (KeepBut.blk hk (g' := gb198) (o := .cells #[.int .i64 (rd y184 t187), .int .i64 (wrap64 (1 + t190)), .int .i64 x199002_10] 29 (0, 0)) (by (with_reducible repeat (first | refine blk_drewN ?_ _ | refine blk_drew ?_ | refine blk_alloc ?_ _)); exact BK198.out) NB198_0.out (by simp)); have n2_ := Aside0.mk (KeepBut.trans (by repeat (first | (with_reducible first | exact HK.out | apply KeepBut.set_ | apply keep_drewN | apply keep_drew | apply keep_alloc | refine keep_far ?_ GW183.out _ | refine keep_far ?_ GW198.out _) | exact HK.out)) hk (.inl rfl)); have n3_ := Aside0.mk (hb); have n4_ := Aside0.mk (hi); clear BK183; clear BK198; clear HK; clear HB; clear HI0; have BK183 := n0_; have BK198 := n1_; have HK := n2_; have HB := n3_; have HI0 := n4_; clear n0_ n1_ n2_ n3_ n4_; (try clear hb); (try clear hb2); (try clear hk); (try clear hi)) | ((with_reducible refine gate_dst (N := 48) rfl ?_); refine Kd.R_lit (Kd.int .i64) _ 3 ?hg (N := 48) ?hd (xs := ([1899, 2200, 2023] : List Int)) (inner := [.int .i64 1899, .int .i64 2200, .int .i64 2023]) (ok := fun _ => True) (okp := fun _ => True) ?hr ?hp (fun _ hk => hk) trivial (Below.refl _ _) (Nat.le_refl _) (by simp) ?_; (case hd => rfl); (case hg => rfl); (case hr => first | (go_simp; done) | (go_simp; rfl)); (case hp => exact (Reps.one (show Kd.M (Kd.int .i64) _ _ _ 1899 [.int .i64 1899] from rfl) (Reps.one (show Kd.M (Kd.int .i64) _ _ _ 2200 [.int .i64 2200] from rfl) (Reps.one (show Kd.M (Kd.int .i64) _ _ _ 2023 [.int .i64 2023] from rfl) (Reps.none _ _))))); intro v206 w45 ho46 hb hg_ hnew_; clear hg_ hnew_; (first | rw [← Ny205.out] at ho46 | (simp only [Int.reduceToNat] at ho46; rw [← Ny205.out] at ho46)); have n0_ := Aside0.mk (Kd.R_lower ho46 (keep_size (w := w) (g := g) (row := none) (by repeat (first | (with_reducible first | exact HK.out | apply KeepBut.set_ | apply keep_drewN | apply keep_drew | apply keep_alloc | refine keep_far ?_ GW183.out _ | refine keep_far ?_ GW198.out _) | exact HK.out)))); have n1_ := Aside0.mk (blk_below (g := gb183) (o := .cells #[.int .i64 0, .int .i64 0, .int .i64 0] 29 (0, 0)) (by (with_reducible repeat (first | refine blk_drewN ?_ _ | refine blk_drew ?_ | refine blk_alloc ?_ _)); exact BK183.out) hb); have n2_ := Aside0.mk (blk_below (g := gb198) (o := .cells #[.int .i64 (rd y184 t187), .int .i64 (wrap64 (1 + t190)), .int .i64 x199002_10] 29 (0, 0)) (by (with_reducible repeat (first | refine blk_drewN ?_ _ | refine blk_drew ?_ | refine blk_alloc ?_ _)); exact BK198.out) hb); have n3_ := Aside0.mk (IsS69.below (by repeat (first | (with_reducible first | exact HI0.out | apply IsS69.alloc | apply IsS69.drewN | apply IsS69.drew | apply IsS69.set_1 | refine IsS69.far ?_ NB0_183.out _ | refine IsS69.far ?_ NB0_198.out _) | exact HI0.out)) hb); have n4_ := Aside0.mk (KeepBut.trans (by repeat (first | (with_reducible first | exact HK.out | apply KeepBut.set_ | apply keep_drewN | apply keep_drew | apply keep_alloc | refine keep_far ?_ GW183.out _ | refine keep_far ?_ GW198.out _) | exact HK.out)) (KeepBut.of_below hb g none) (.inl rfl)); have n5_ := Aside0.mk (below_step (by repeat (first | (with_reducible first | exact HB.out | apply below_alloc | apply pw_below_drewN | apply below_drew1 | refine below_set ?_ (IsS69.ge HI0.out) | refine below_set ?_ GE183.out | refine below_set ?_ GE198.out) | exact HB.out)) hb); clear BK183; clear BK198; clear HI0; clear HK; clear HB; have HO207 := n0_; have BK183 := n1_; have BK198 := n2_; have HI0 := n3_; have HK := n4_; have HB := n5_; clear n0_ n1_ n2_ n3_ n4_ n5_; clear hb ho46) | ((with_reducible refine gate_callee (f := 48) rfl ?_); refine goesL_ (some 50) rfl rfl Try.func48 (by kernel_rfl) rfl #[.pointer (some ⟨g, 0, none⟩), .int .i64 3] rfl (by (try simp only [List.map_toArray, List.map_cons, List.map_nil]); first | done | rfl | (simp only [List.length_drop, List.length_take]; rfl)) ?_; (with_reducible refine (spec_l20Rd_pick.calls kj10 g s0_0 t204 3 t208 t209 w0 _ ?side1 ?side2 A40.out).mono ?_); (case side1 => repeat (first | (with_reducible first | exact HI0.out | apply IsS69.alloc | apply IsS69.drewN | apply IsS69.drew | apply IsS69.set_1 | refine IsS69.far ?_ NB0_183.out _ | refine IsS69.far ?_ NB0_198.out _) | exact HI0.out)); (case side2 => repeat (first | (with_reducible first | exact HB.out | apply below_alloc | apply pw_below_drewN | apply below_drew1 | refine below_set ?_ (IsS69.ge HI0.out) | refine below_set ?_ GE183.out | refine below_set ?_ GE198.out) | exact HB.out)); rintro e w47 ⟨rfl, hi, hb, hk⟩; refine ⟨_, rfl, ?_⟩; have n0_ := Aside0.mk (KeepBut.blk hk (g' := gb183) (o := .cells #[.int .i64 0, .int .i64 0, .int .i64 0] 29 (0, 0)) (by (with_reducible repeat (first | refine blk_drewN ?_ _ | refine blk_drew ?_ | refine blk_alloc ?_ _)); exact BK183.out) NB183_0.out (by simp)); have n1_ := Aside0.mk (KeepBut.blk hk (g' := gb198) (o := .cells #[.int .i64 (rd y184 t187), .int .i64 (wrap64 (1 + t190)), .int .i64 x199002_10] 29 (0, 0)) (by (with_reducible repeat (first | refine blk_drewN ?_ _ | refine blk_drew ?_ | refine blk_alloc ?_ _)); exact BK198.out) NB198_0.out (by simp)); have n2_ := Aside0.mk (Kd.R_mono (Kd.R_keep (IsS69.apart (show IsS69 w0 _ g s0_0 t204 from by repeat (first | (with_reducible first | exact HI0.out | apply IsS69.alloc | apply IsS69.drewN | apply IsS69.drew | apply IsS69.set_1 | refine IsS69.far ?_ NB0_183.out _ | refine IsS69.far ?_ NB0_198.out _) | exact HI0.out)) (by (with_reducible repeat (first | apply Kd.R_alloc | apply Kd.R_drewN | apply Kd.R_drew)); exact HO207.out) (by decide)) hk (fun _ h => h.2)) (fun _ h => h.1)); have n3_ := Aside0.mk (KeepBut.trans (by repeat (first | (with_reducible first | exact HK.out | apply KeepBut.set_ | apply keep_drewN | apply keep_drew | apply keep_alloc | refine keep_far ?_ GW183.out _ | refine keep_far ?_ GW198.out _) | exact HK.out)) hk (.inl rfl)); have n4_ := Aside0.mk (hb); have n5_ := Aside0.mk (hi); clear BK183; clear BK198; clear HO207; clear HK; clear HB; clear HI0; have BK183 := n0_; have BK198 := n1_; have HO207 := n2_; have HK := n3_; have HB := n4_; have HI0 := n5_; clear n0_ n1_ n2_ n3_ n4_ n5_; (try clear hb); (try clear hb2); (try clear hk); (try clear hi); obtain ⟨Ao48, co48, eo48⟩ := Kd.R_slice HO207.out; subst eo48; have p210 : 0 ≤ (t208 : Int) := of_decide_eq_true (by first | (with_reducible assumption) | assumption); have q210 : t208 < (y205.length : Int) := of_decide_eq_true (by first | (with_reducible assumption) | assumption); obtain ⟨ad210, e210, hx210_0⟩ := Kd.at_int (Kd.R_reads' HO207.out).2.2 t208 p210 q210; cases e210; replace p210 := eq_true p210; replace q210 := eq_true q210; have hnb49 := NB198_183.out; have hnc49 := NB183_198.out; have hnb50 := NB198_0.out; have hnc50 := NB0_198.out; have hcz51_0 : w47.cell? ⟨gb198, 0, none⟩ = some (.int .i64 (rd y184 t187)) := (blk_cell BK198.out 0).trans rfl; have hcz51_1 : w47.cell? ⟨gb198, 1, none⟩ = some (.int .i64 (wrap64 (1 + t190))) := (blk_cell BK198.out 1).trans rfl; have hcz51_2 : w47.cell? ⟨gb198, 2, none⟩ = some (.int .i64 x199002_10) := (blk_cell BK198.out 2).trans rfl; have hfz51_0 := blk_frozen BK198.out 0; have hfz51_1 := blk_frozen BK198.out 1; have hfz51_2 := blk_frozen BK198.out 2; have hnb52 := NB183_0.out; have hnc52 := NB0_183.out; have hcz53_0 : w47.cell? ⟨gb183, 0, none⟩ = some (.int .i64 0) := (blk_cell BK183.out 0).trans rfl; have hcz53_1 : w47.cell? ⟨gb183, 1, none⟩ = some (.int .i64 0) := (blk_cell BK183.out 1).trans rfl; have hcz53_2 : w47.cell? ⟨gb183, 2, none⟩ = some (.int .i64 0) := (blk_cell BK183.out 2).trans rfl; have hfz53_0 := blk_frozen BK183.out 0; have hfz53_1 := blk_frozen BK183.out 1; have hfz53_2 := blk_frozen BK183.out 2))
                      refine bodyPost_ret (results_cell_row rfl _ _ gb183 29 #[.int .i64 (rd y205 t208), .int .i64 (wrap64 (1 + t190)), .int .i64 x199002_10] (0, 0) _ rfl (by (with_reducible repeat (first | refine blk_drewN ?_ _ | refine blk_drew ?_ | refine blk_alloc ?_ _)); refine blk_put (cs := #[.int .i64 (rd y205 t208), .int .i64 (wrap64 (1 + t190)), .int .i64 0]) ?_ 2 _ rfl; (with_reducible repeat (first | refine blk_drewN ?_ _ | refine blk_drew ?_ | refine blk_alloc ?_ _)); refine blk_put (cs := #[.int .i64 (rd y205 t208), .int .i64 0, .int .i64 0]) ?_ 1 _ rfl; (with_reducible repeat (first | refine blk_drewN ?_ _ | refine blk_drew ?_ | refine blk_alloc ?_ _)); refine blk_put (cs := #[.int .i64 0, .int .i64 0, .int .i64 0]) ?_ 0 _ rfl; (with_reducible repeat (first | refine blk_drewN ?_ _ | refine blk_drew ?_ | refine blk_alloc ?_ _)); refine blk_far ?_ NB183_198.out _; (with_reducible repeat (first | refine blk_drewN ?_ _ | refine blk_drew ?_ | refine blk_alloc ?_ _)); exact BK183.out) Try.underlying29 rfl (by kernel_rfl)) rfl ?_
                      exact ⟨by first | rfl | (simp [errW_none, errW_some] <;> rfl) | (simp [*, errW_none, errW_some] <;> rfl), by repeat (first | (with_reducible first | exact HI0.out | apply IsS69.alloc | apply IsS69.drewN | apply IsS69.drew | apply IsS69.set_1 | refine IsS69.far ?_ NB0_183.out _ | refine IsS69.far ?_ NB0_198.out _) | exact HI0.out), by repeat (first | (with_reducible first | exact HB.out | apply below_alloc | apply pw_below_drewN | apply below_drew1 | refine below_set ?_ (IsS69.ge HI0.out) | refine below_set ?_ GE183.out | refine below_set ?_ GE198.out) | exact HB.out), by repeat (first | (with_reducible first | exact HK.out | apply KeepBut.set_ | apply keep_drewN | apply keep_drew | apply keep_alloc | refine keep_far ?_ GW183.out _ | refine keep_far ?_ GW198.out _) | exact HK.out)⟩
                    · rw [if_neg c42] at H
                      exact absurd H (by simp)
                  · rw [if_neg c41] at H
                    exact absurd H (by simp)
                · rw [if_neg c39] at H
                  have c39b0 : (t203 == 0) = false := beq_eq_false_iff_ne.mpr c39
                  have c39b1 : (t203 != 0) = true := bne_iff_ne.mpr c39
                  by_cases c54 : t203 = 1
                  · rw [if_pos c54] at H
                    have c54b0 : (t203 == 1) = true := beq_iff_eq.mpr c54
                    have c54b1 : (t203 != 1) = false := bne_eq_false_iff_eq.mpr c54
                    clear c54
                    obtain ⟨y211, hy211⟩ : ∃ y_ : List Int, y_ = (([0, 13, 2] : List Int)) := ⟨_, rfl⟩
                    replace H : ((spec_l20Rd_pick.f kj10 s0_0 t204 3).bind fun bt214 => (if 0 ≤ bt214.1 then (if bt214.1 < (y211.length : Int) then (some ((rd y184 t187), rd y211 bt214.1, x199002_10, bt214.2)) else (none)) else (none))) = some (r1, r2, r3, r4) := by first | (rw [hy211]; with_reducible exact H) | (have H2_ := (Option.bind_some _ _).symm.trans H; rw [hy211]; with_reducible exact H2_) | (have H2_ := (Option.bind_some _ _).symm.trans H; with_reducible exact H2_) | with_reducible exact H | (rw [hy211]; exact H) | exact H
                    have Ny211 := Aside0.mk hy211
                    clear hy211
                    replace H := Option.bind_eq_some_iff.mp H
                    obtain ⟨⟨t214, t215⟩, A550, H⟩ := H
                    replace H : (if 0 ≤ t214 then (if t214 < (y211.length : Int) then (some ((rd y184 t187), rd y211 t214, x199002_10, t215)) else (none)) else (none)) = some (r1, r2, r3, r4) := H
                    have A55 := Aside0.mk A550
                    clear A550
                    by_cases c56 : 0 ≤ t214
                    · rw [if_pos c56] at H
                      have c56b0 : decide (0 ≤ t214) = true := decide_eq_true c56
                      clear c56
                      by_cases c57 : t214 < (y211.length : Int)
                      · rw [if_pos c57] at H
                        have c57b0 : decide (t214 < (y211.length : Int)) = true := decide_eq_true c57
                        clear c57
                        simp only [Option.some.injEq, Prod.mk.injEq] at H
                        obtain ⟨rfl, rfl, rfl, rfl⟩ := H
                        go_wp2_with (first | ((with_reducible refine gate_callee (f := 48) rfl ?_); refine goesL_ (some 36) rfl rfl Try.func48 (by kernel_rfl) rfl #[.pointer (some ⟨g, 0, none⟩), .int .i64 a1] rfl (by (try simp only [List.map_toArray, List.map_cons, List.map_nil]); first | done | rfl | (simp only [List.length_drop, List.length_take]; rfl)) ?_; (with_reducible refine (spec_l20Rd_pick.calls kj10 g s0_0 t196 a1 t201 t202 w0 _ ?side1 ?side2 A36.out).mono ?_); (case side1 => repeat (first | (with_reducible first | exact HI0.out | apply IsS69.alloc | apply IsS69.drewN | apply IsS69.drew | apply IsS69.set_1 | refine IsS69.far ?_ NB0_183.out _ | refine IsS69.far ?_ NB0_198.out _) | exact HI0.out)); (case side2 => repeat (first | (with_reducible first | exact HB.out | apply below_alloc | apply pw_below_drewN | apply below_drew1 | refine below_set ?_ (IsS69.ge HI0.out) | refine below_set ?_ GE183.out | refine below_set ?_ GE198.out) | exact HB.out)); rintro e w58 ⟨rfl, hi, hb, hk⟩; refine ⟨_, rfl, ?_⟩; have n0_ := Aside0.mk (KeepBut.blk hk (g' := gb183) (o := .cells #[.int .i64 0, .int .i64 0, .int .i64 0] 29 (0, 0)) (by (with_reducible repeat (first | refine blk_drewN ?_ _ | refine blk_drew ?_ | refine blk_alloc ?_ _)); exact BK183.out) NB183_0.out (by simp)); have n1_ := Aside0.mk (KeepBut.blk hk (g' := gb198) (o := .cells #[.int .i64 (rd y184 t187), .int .i64 (wrap64 (1 + t190)), .int .i64 x199002_10] 29 (0, 0)) (by (with_reducible repeat (first | refine blk_drewN ?_ _ | refine blk_drew ?_ | refine blk_alloc ?_ _)); exact BK198.out) NB198_0.out (by simp)); have n2_ := Aside0.mk (KeepBut.trans (by repeat (first | (with_reducible first | exact HK.out | apply KeepBut.set_ | apply keep_drewN | apply keep_drew | apply keep_alloc | refine keep_far ?_ GW183.out _ | refine keep_far ?_ GW198.out _) | exact HK.out)) hk (.inl rfl)); have n3_ := Aside0.mk (hb); have n4_ := Aside0.mk (hi); clear BK183; clear BK198; clear HK; clear HB; clear HI0; have BK183 := n0_; have BK198 := n1_; have HK := n2_; have HB := n3_; have HI0 := n4_; clear n0_ n1_ n2_ n3_ n4_; (try clear hb); (try clear hb2); (try clear hk); (try clear hi)) | ((with_reducible refine gate_callee (f := 48) rfl ?_); refine goesL_ (some 39) rfl rfl Try.func48 (by kernel_rfl) rfl #[.pointer (some ⟨g, 0, none⟩), .int .i64 3] rfl (by (try simp only [List.map_toArray, List.map_cons, List.map_nil]); first | done | rfl | (simp only [List.length_drop, List.length_take]; rfl)) ?_; (with_reducible refine (spec_l20Rd_pick.calls kj10 g s0_0 t202 3 t203 t204 w0 _ ?side1 ?side2 A38.out).mono ?_); (case side1 => repeat (first | (with_reducible first | exact HI0.out | apply IsS69.alloc | apply IsS69.drewN | apply IsS69.drew | apply IsS69.set_1 | refine IsS69.far ?_ NB0_183.out _ | refine IsS69.far ?_ NB0_198.out _) | exact HI0.out)); (case side2 => repeat (first | (with_reducible first | exact HB.out | apply below_alloc | apply pw_below_drewN | apply below_drew1 | refine below_set ?_ (IsS69.ge HI0.out) | refine below_set ?_ GE183.out | refine below_set ?_ GE198.out) | exact HB.out)); rintro e w59 ⟨rfl, hi, hb, hk⟩; refine ⟨_, rfl, ?_⟩; have n0_ := Aside0.mk (KeepBut.blk hk (g' := gb183) (o := .cells #[.int .i64 0, .int .i64 0, .int .i64 0] 29 (0, 0)) (by (with_reducible repeat (first | refine blk_drewN ?_ _ | refine blk_drew ?_ | refine blk_alloc ?_ _)); exact BK183.out) NB183_0.out (by simp)); have n1_ := Aside0.mk (KeepBut.blk hk (g' := gb198) (o := .cells #[.int .i64 (rd y184 t187), .int .i64 (wrap64 (1 + t190)), .int .i64 x199002_10] 29 (0, 0)) (by (with_reducible repeat (first | refine blk_drewN ?_ _ | refine blk_drew ?_ | refine blk_alloc ?_ _)); exact BK198.out) NB198_0.out (by simp)); have n2_ := Aside0.mk (KeepBut.trans (by repeat (first | (with_reducible first | exact HK.out | apply KeepBut.set_ | apply keep_drewN | apply keep_drew | apply keep_alloc | refine keep_far ?_ GW183.out _ | refine keep_far ?_ GW198.out _) | exact HK.out)) hk (.inl rfl)); have n3_ := Aside0.mk (hb); have n4_ := Aside0.mk (hi); clear BK183; clear BK198; clear HK; clear HB; clear HI0; have BK183 := n0_; have BK198 := n1_; have HK := n2_; have HB := n3_; have HI0 := n4_; clear n0_ n1_ n2_ n3_ n4_; (try clear hb); (try clear hb2); (try clear hk); (try clear hi)) | ((with_reducible refine gate_dst (N := 56) rfl ?_); refine Kd.R_lit (Kd.int .i64) _ 3 ?hg (N := 56) ?hd (xs := ([0, 13, 2] : List Int)) (inner := [.int .i64 0, .int .i64 13, .int .i64 2]) (ok := fun _ => True) (okp := fun _ => True) ?hr ?hp (fun _ hk => hk) trivial (Below.refl _ _) (Nat.le_refl _) (by simp) ?_; (case hd => rfl); (case hg => rfl); (case hr => first | (go_simp; done) | (go_simp; rfl)); (case hp => exact (Reps.one (show Kd.M (Kd.int .i64) _ _ _ 0 [.int .i64 0] from rfl) (Reps.one (show Kd.M (Kd.int .i64) _ _ _ 13 [.int .i64 13] from rfl) (Reps.one (show Kd.M (Kd.int .i64) _ _ _ 2 [.int .i64 2] from rfl) (Reps.none _ _))))); intro v212 w60 ho61 hb hg_ hnew_; clear hg_ hnew_; (first | rw [← Ny211.out] at ho61 | (simp only [Int.reduceToNat] at ho61; rw [← Ny211.out] at ho61)); have n0_ := Aside0.mk (Kd.R_lower ho61 (keep_size (w := w) (g := g) (row := none) (by repeat (first | (with_reducible first | exact HK.out | apply KeepBut.set_ | apply keep_drewN | apply keep_drew | apply keep_alloc | refine keep_far ?_ GW183.out _ | refine keep_far ?_ GW198.out _) | exact HK.out)))); have n1_ := Aside0.mk (blk_below (g := gb183) (o := .cells #[.int .i64 0, .int .i64 0, .int .i64 0] 29 (0, 0)) (by (with_reducible repeat (first | refine blk_drewN ?_ _ | refine blk_drew ?_ | refine blk_alloc ?_ _)); exact BK183.out) hb); have n2_ := Aside0.mk (blk_below (g := gb198) (o := .cells #[.int .i64 (rd y184 t187), .int .i64 (wrap64 (1 + t190)), .int .i64 x199002_10] 29 (0, 0)) (by (with_reducible repeat (first | refine blk_drewN ?_ _ | refine blk_drew ?_ | refine blk_alloc ?_ _)); exact BK198.out) hb); have n3_ := Aside0.mk (IsS69.below (by repeat (first | (with_reducible first | exact HI0.out | apply IsS69.alloc | apply IsS69.drewN | apply IsS69.drew | apply IsS69.set_1 | refine IsS69.far ?_ NB0_183.out _ | refine IsS69.far ?_ NB0_198.out _) | exact HI0.out)) hb); have n4_ := Aside0.mk (KeepBut.trans (by repeat (first | (with_reducible first | exact HK.out | apply KeepBut.set_ | apply keep_drewN | apply keep_drew | apply keep_alloc | refine keep_far ?_ GW183.out _ | refine keep_far ?_ GW198.out _) | exact HK.out)) (KeepBut.of_below hb g none) (.inl rfl)); have n5_ := Aside0.mk (below_step (by repeat (first | (with_reducible first | exact HB.out | apply below_alloc | apply pw_below_drewN | apply below_drew1 | refine below_set ?_ (IsS69.ge HI0.out) | refine below_set ?_ GE183.out | refine below_set ?_ GE198.out) | exact HB.out)) hb); clear BK183; clear BK198; clear HI0; clear HK; clear HB; have HO213 := n0_; have BK183 := n1_; have BK198 := n2_; have HI0 := n3_; have HK := n4_; have HB := n5_; clear n0_ n1_ n2_ n3_ n4_ n5_; clear hb ho61) | ((with_reducible refine gate_callee (f := 48) rfl ?_); refine goesL_ (some 58) rfl rfl Try.func48 (by kernel_rfl) rfl #[.pointer (some ⟨g, 0, none⟩), .int .i64 3] rfl (by (try simp only [List.map_toArray, List.map_cons, List.map_nil]); first | done | rfl | (simp only [List.length_drop, List.length_take]; rfl)) ?_; (with_reducible refine (spec_l20Rd_pick.calls kj10 g s0_0 t204 3 t214 t215 w0 _ ?side1 ?side2 A55.out).mono ?_); (case side1 => repeat (first | (with_reducible first | exact HI0.out | apply IsS69.alloc | apply IsS69.drewN | apply IsS69.drew | apply IsS69.set_1 | refine IsS69.far ?_ NB0_183.out _ | refine IsS69.far ?_ NB0_198.out _) | exact HI0.out)); (case side2 => repeat (first | (with_reducible first | exact HB.out | apply below_alloc | apply pw_below_drewN | apply below_drew1 | refine below_set ?_ (IsS69.ge HI0.out) | refine below_set ?_ GE183.out | refine below_set ?_ GE198.out) | exact HB.out)); rintro e w62 ⟨rfl, hi, hb, hk⟩; refine ⟨_, rfl, ?_⟩; have n0_ := Aside0.mk (KeepBut.blk hk (g' := gb183) (o := .cells #[.int .i64 0, .int .i64 0, .int .i64 0] 29 (0, 0)) (by (with_reducible repeat (first | refine blk_drewN ?_ _ | refine blk_drew ?_ | refine blk_alloc ?_ _)); exact BK183.out) NB183_0.out (by simp)); have n1_ := Aside0.mk (KeepBut.blk hk (g' := gb198) (o := .cells #[.int .i64 (rd y184 t187), .int .i64 (wrap64 (1 + t190)), .int .i64 x199002_10] 29 (0, 0)) (by (with_reducible repeat (first | refine blk_drewN ?_ _ | refine blk_drew ?_ | refine blk_alloc ?_ _)); exact BK198.out) NB198_0.out (by simp)); have n2_ := Aside0.mk (Kd.R_mono (Kd.R_keep (IsS69.apart (show IsS69 w0 _ g s0_0 t204 from by repeat (first | (with_reducible first | exact HI0.out | apply IsS69.alloc | apply IsS69.drewN | apply IsS69.drew | apply IsS69.set_1 | refine IsS69.far ?_ NB0_183.out _ | refine IsS69.far ?_ NB0_198.out _) | exact HI0.out)) (by (with_reducible repeat (first | apply Kd.R_alloc | apply Kd.R_drewN | apply Kd.R_drew)); exact HO213.out) (by decide)) hk (fun _ h => h.2)) (fun _ h => h.1)); have n3_ := Aside0.mk (KeepBut.trans (by repeat (first | (with_reducible first | exact HK.out | apply KeepBut.set_ | apply keep_drewN | apply keep_drew | apply keep_alloc | refine keep_far ?_ GW183.out _ | refine keep_far ?_ GW198.out _) | exact HK.out)) hk (.inl rfl)); have n4_ := Aside0.mk (hb); have n5_ := Aside0.mk (hi); clear BK183; clear BK198; clear HO213; clear HK; clear HB; clear HI0; have BK183 := n0_; have BK198 := n1_; have HO213 := n2_; have HK := n3_; have HB := n4_; have HI0 := n5_; clear n0_ n1_ n2_ n3_ n4_ n5_; (try clear hb); (try clear hb2); (try clear hk); (try clear hi); obtain ⟨Ao63, co63, eo63⟩ := Kd.R_slice HO213.out; subst eo63; have p216 : 0 ≤ (t214 : Int) := of_decide_eq_true (by first | (with_reducible assumption) | assumption); have q216 : t214 < (y211.length : Int) := of_decide_eq_true (by first | (with_reducible assumption) | assumption); obtain ⟨ad216, e216, hx216_0⟩ := Kd.at_int (Kd.R_reads' HO213.out).2.2 t214 p216 q216; cases e216; replace p216 := eq_true p216; replace q216 := eq_true q216; have hnb64 := NB198_183.out; have hnc64 := NB183_198.out; have hnb65 := NB198_0.out; have hnc65 := NB0_198.out; have hcz66_0 : w62.cell? ⟨gb198, 0, none⟩ = some (.int .i64 (rd y184 t187)) := (blk_cell BK198.out 0).trans rfl; have hcz66_1 : w62.cell? ⟨gb198, 1, none⟩ = some (.int .i64 (wrap64 (1 + t190))) := (blk_cell BK198.out 1).trans rfl; have hcz66_2 : w62.cell? ⟨gb198, 2, none⟩ = some (.int .i64 x199002_10) := (blk_cell BK198.out 2).trans rfl; have hfz66_0 := blk_frozen BK198.out 0; have hfz66_1 := blk_frozen BK198.out 1; have hfz66_2 := blk_frozen BK198.out 2; have hnb67 := NB183_0.out; have hnc67 := NB0_183.out; have hcz68_0 : w62.cell? ⟨gb183, 0, none⟩ = some (.int .i64 0) := (blk_cell BK183.out 0).trans rfl; have hcz68_1 : w62.cell? ⟨gb183, 1, none⟩ = some (.int .i64 0) := (blk_cell BK183.out 1).trans rfl; have hcz68_2 : w62.cell? ⟨gb183, 2, none⟩ = some (.int .i64 0) := (blk_cell BK183.out 2).trans rfl; have hfz68_0 := blk_frozen BK183.out 0; have hfz68_1 := blk_frozen BK183.out 1; have hfz68_2 := blk_frozen BK183.out 2))
                        refine bodyPost_ret (results_cell_row rfl _ _ gb183 29 #[.int .i64 (rd y184 t187), .int .i64 (rd y211 t214), .int .i64 x199002_10] (0, 0) _ rfl (by (with_reducible repeat (first | refine blk_drewN ?_ _ | refine blk_drew ?_ | refine blk_alloc ?_ _)); refine blk_put (cs := #[.int .i64 (rd y184 t187), .int .i64 (rd y211 t214), .int .i64 0]) ?_ 2 _ rfl; (with_reducible repeat (first | refine blk_drewN ?_ _ | refine blk_drew ?_ | refine blk_alloc ?_ _)); refine blk_put (cs := #[.int .i64 (rd y184 t187), .int .i64 0, .int .i64 0]) ?_ 1 _ rfl; (with_reducible repeat (first | refine blk_drewN ?_ _ | refine blk_drew ?_ | refine blk_alloc ?_ _)); refine blk_put (cs := #[.int .i64 0, .int .i64 0, .int .i64 0]) ?_ 0 _ rfl; (with_reducible repeat (first | refine blk_drewN ?_ _ | refine blk_drew ?_ | refine blk_alloc ?_ _)); refine blk_far ?_ NB183_198.out _; (with_reducible repeat (first | refine blk_drewN ?_ _ | refine blk_drew ?_ | refine blk_alloc ?_ _)); exact BK183.out) Try.underlying29 rfl (by kernel_rfl)) rfl ?_
                        exact ⟨by first | rfl | (simp [errW_none, errW_some] <;> rfl) | (simp [*, errW_none, errW_some] <;> rfl), by repeat (first | (with_reducible first | exact HI0.out | apply IsS69.alloc | apply IsS69.drewN | apply IsS69.drew | apply IsS69.set_1 | refine IsS69.far ?_ NB0_183.out _ | refine IsS69.far ?_ NB0_198.out _) | exact HI0.out), by repeat (first | (with_reducible first | exact HB.out | apply below_alloc | apply pw_below_drewN | apply below_drew1 | refine below_set ?_ (IsS69.ge HI0.out) | refine below_set ?_ GE183.out | refine below_set ?_ GE198.out) | exact HB.out), by repeat (first | (with_reducible first | exact HK.out | apply KeepBut.set_ | apply keep_drewN | apply keep_drew | apply keep_alloc | refine keep_far ?_ GW183.out _ | refine keep_far ?_ GW198.out _) | exact HK.out)⟩
                      · rw [if_neg c57] at H
                        exact absurd H (by simp)
                    · rw [if_neg c56] at H
                      exact absurd H (by simp)
                  · rw [if_neg c54] at H
                    have c54b0 : (t203 == 1) = false := beq_eq_false_iff_ne.mpr c54
                    have c54b1 : (t203 != 1) = true := bne_iff_ne.mpr c54
                    obtain ⟨y217, hy217⟩ : ∃ y_ : List Int, y_ = (([0, 31, 30, 32] : List Int)) := ⟨_, rfl⟩
                    replace H : ((spec_l20Rd_pick.f kj10 s0_0 t204 4).bind fun bt220 => (if 0 ≤ bt220.1 then (if bt220.1 < (y217.length : Int) then (some ((rd y184 t187), (wrap64 (1 + t190)), rd y217 bt220.1, bt220.2)) else (none)) else (none))) = some (r1, r2, r3, r4) := by first | (rw [hy217]; with_reducible exact H) | (have H2_ := (Option.bind_some _ _).symm.trans H; rw [hy217]; with_reducible exact H2_) | (have H2_ := (Option.bind_some _ _).symm.trans H; with_reducible exact H2_) | with_reducible exact H | (rw [hy217]; exact H) | exact H
                    have Ny217 := Aside0.mk hy217
                    clear hy217
                    replace H := Option.bind_eq_some_iff.mp H
                    obtain ⟨⟨t220, t221⟩, A690, H⟩ := H
                    replace H : (if 0 ≤ t220 then (if t220 < (y217.length : Int) then (some ((rd y184 t187), (wrap64 (1 + t190)), rd y217 t220, t221)) else (none)) else (none)) = some (r1, r2, r3, r4) := H
                    have A69 := Aside0.mk A690
                    clear A690
                    by_cases c70 : 0 ≤ t220
                    · rw [if_pos c70] at H
                      have c70b0 : decide (0 ≤ t220) = true := decide_eq_true c70
                      clear c70
                      by_cases c71 : t220 < (y217.length : Int)
                      · rw [if_pos c71] at H
                        have c71b0 : decide (t220 < (y217.length : Int)) = true := decide_eq_true c71
                        clear c71
                        simp only [Option.some.injEq, Prod.mk.injEq] at H
                        obtain ⟨rfl, rfl, rfl, rfl⟩ := H
                        go_wp2_with (first | ((with_reducible refine gate_callee (f := 48) rfl ?_); refine goesL_ (some 36) rfl rfl Try.func48 (by kernel_rfl) rfl #[.pointer (some ⟨g, 0, none⟩), .int .i64 a1] rfl (by (try simp only [List.map_toArray, List.map_cons, List.map_nil]); first | done | rfl | (simp only [List.length_drop, List.length_take]; rfl)) ?_; (with_reducible refine (spec_l20Rd_pick.calls kj10 g s0_0 t196 a1 t201 t202 w0 _ ?side1 ?side2 A36.out).mono ?_); (case side1 => repeat (first | (with_reducible first | exact HI0.out | apply IsS69.alloc | apply IsS69.drewN | apply IsS69.drew | apply IsS69.set_1 | refine IsS69.far ?_ NB0_183.out _ | refine IsS69.far ?_ NB0_198.out _) | exact HI0.out)); (case side2 => repeat (first | (with_reducible first | exact HB.out | apply below_alloc | apply pw_below_drewN | apply below_drew1 | refine below_set ?_ (IsS69.ge HI0.out) | refine below_set ?_ GE183.out | refine below_set ?_ GE198.out) | exact HB.out)); rintro e w72 ⟨rfl, hi, hb, hk⟩; refine ⟨_, rfl, ?_⟩; have n0_ := Aside0.mk (KeepBut.blk hk (g' := gb183) (o := .cells #[.int .i64 0, .int .i64 0, .int .i64 0] 29 (0, 0)) (by (with_reducible repeat (first | refine blk_drewN ?_ _ | refine blk_drew ?_ | refine blk_alloc ?_ _)); exact BK183.out) NB183_0.out (by simp)); have n1_ := Aside0.mk (KeepBut.blk hk (g' := gb198) (o := .cells #[.int .i64 (rd y184 t187), .int .i64 (wrap64 (1 + t190)), .int .i64 x199002_10] 29 (0, 0)) (by (with_reducible repeat (first | refine blk_drewN ?_ _ | refine blk_drew ?_ | refine blk_alloc ?_ _)); exact BK198.out) NB198_0.out (by simp)); have n2_ := Aside0.mk (KeepBut.trans (by repeat (first | (with_reducible first | exact HK.out | apply KeepBut.set_ | apply keep_drewN | apply keep_drew | apply keep_alloc | refine keep_far ?_ GW183.out _ | refine keep_far ?_ GW198.out _) | exact HK.out)) hk (.inl rfl)); have n3_ := Aside0.mk (hb); have n4_ := Aside0.mk (hi); clear BK183; clear BK198; clear HK; clear HB; clear HI0; have BK183 := n0_; have BK198 := n1_; have HK := n2_; have HB := n3_; have HI0 := n4_; clear n0_ n1_ n2_ n3_ n4_; (try clear hb); (try clear hb2); (try clear hk); (try clear hi)) | ((with_reducible refine gate_callee (f := 48) rfl ?_); refine goesL_ (some 39) rfl rfl Try.func48 (by kernel_rfl) rfl #[.pointer (some ⟨g, 0, none⟩), .int .i64 3] rfl (by (try simp only [List.map_toArray, List.map_cons, List.map_nil]); first | done | rfl | (simp only [List.length_drop, List.length_take]; rfl)) ?_; (with_reducible refine (spec_l20Rd_pick.calls kj10 g s0_0 t202 3 t203 t204 w0 _ ?side1 ?side2 A38.out).mono ?_); (case side1 => repeat (first | (with_reducible first | exact HI0.out | apply IsS69.alloc | apply IsS69.drewN | apply IsS69.drew | apply IsS69.set_1 | refine IsS69.far ?_ NB0_183.out _ | refine IsS69.far ?_ NB0_198.out _) | exact HI0.out)); (case side2 => repeat (first | (with_reducible first | exact HB.out | apply below_alloc | apply pw_below_drewN | apply below_drew1 | refine below_set ?_ (IsS69.ge HI0.out) | refine below_set ?_ GE183.out | refine below_set ?_ GE198.out) | exact HB.out)); rintro e w73 ⟨rfl, hi, hb, hk⟩; refine ⟨_, rfl, ?_⟩; have n0_ := Aside0.mk (KeepBut.blk hk (g' := gb183) (o := .cells #[.int .i64 0, .int .i64 0, .int .i64 0] 29 (0, 0)) (by (with_reducible repeat (first | refine blk_drewN ?_ _ | refine blk_drew ?_ | refine blk_alloc ?_ _)); exact BK183.out) NB183_0.out (by simp)); have n1_ := Aside0.mk (KeepBut.blk hk (g' := gb198) (o := .cells #[.int .i64 (rd y184 t187), .int .i64 (wrap64 (1 + t190)), .int .i64 x199002_10] 29 (0, 0)) (by (with_reducible repeat (first | refine blk_drewN ?_ _ | refine blk_drew ?_ | refine blk_alloc ?_ _)); exact BK198.out) NB198_0.out (by simp)); have n2_ := Aside0.mk (KeepBut.trans (by repeat (first | (with_reducible first | exact HK.out | apply KeepBut.set_ | apply keep_drewN | apply keep_drew | apply keep_alloc | refine keep_far ?_ GW183.out _ | refine keep_far ?_ GW198.out _) | exact HK.out)) hk (.inl rfl)); have n3_ := Aside0.mk (hb); have n4_ := Aside0.mk (hi); clear BK183; clear BK198; clear HK; clear HB; clear HI0; have BK183 := n0_; have BK198 := n1_; have HK := n2_; have HB := n3_; have HI0 := n4_; clear n0_ n1_ n2_ n3_ n4_; (try clear hb); (try clear hb2); (try clear hk); (try clear hi)) | ((with_reducible refine gate_dst (N := 40) rfl ?_); refine Kd.R_lit (Kd.int .i64) _ 3 ?hg (N := 40) ?hd (xs := ([0, 31, 30, 32] : List Int)) (inner := [.int .i64 0, .int .i64 31, .int .i64 30, .int .i64 32]) (ok := fun _ => True) (okp := fun _ => True) ?hr ?hp (fun _ hk => hk) trivial (Below.refl _ _) (Nat.le_refl _) (by simp) ?_; (case hd => rfl); (case hg => rfl); (case hr => first | (go_simp; done) | (go_simp; rfl)); (case hp => exact (Reps.one (show Kd.M (Kd.int .i64) _ _ _ 0 [.int .i64 0] from rfl) (Reps.one (show Kd.M (Kd.int .i64) _ _ _ 31 [.int .i64 31] from rfl) (Reps.one (show Kd.M (Kd.int .i64) _ _ _ 30 [.int .i64 30] from rfl) (Reps.one (show Kd.M (Kd.int .i64) _ _ _ 32 [.int .i64 32] from rfl) (Reps.none _ _)))))); intro v218 w74 ho75 hb hg_ hnew_; clear hg_ hnew_; (first | rw [← Ny217.out] at ho75 | (simp only [Int.reduceToNat] at ho75; rw [← Ny217.out] at ho75)); have n0_ := Aside0.mk (Kd.R_lower ho75 (keep_size (w := w) (g := g) (row := none) (by repeat (first | (with_reducible first | exact HK.out | apply KeepBut.set_ | apply keep_drewN | apply keep_drew | apply keep_alloc | refine keep_far ?_ GW183.out _ | refine keep_far ?_ GW198.out _) | exact HK.out)))); have n1_ := Aside0.mk (blk_below (g := gb183) (o := .cells #[.int .i64 0, .int .i64 0, .int .i64 0] 29 (0, 0)) (by (with_reducible repeat (first | refine blk_drewN ?_ _ | refine blk_drew ?_ | refine blk_alloc ?_ _)); exact BK183.out) hb); have n2_ := Aside0.mk (blk_below (g := gb198) (o := .cells #[.int .i64 (rd y184 t187), .int .i64 (wrap64 (1 + t190)), .int .i64 x199002_10] 29 (0, 0)) (by (with_reducible repeat (first | refine blk_drewN ?_ _ | refine blk_drew ?_ | refine blk_alloc ?_ _)); exact BK198.out) hb); have n3_ := Aside0.mk (IsS69.below (by repeat (first | (with_reducible first | exact HI0.out | apply IsS69.alloc | apply IsS69.drewN | apply IsS69.drew | apply IsS69.set_1 | refine IsS69.far ?_ NB0_183.out _ | refine IsS69.far ?_ NB0_198.out _) | exact HI0.out)) hb); have n4_ := Aside0.mk (KeepBut.trans (by repeat (first | (with_reducible first | exact HK.out | apply KeepBut.set_ | apply keep_drewN | apply keep_drew | apply keep_alloc | refine keep_far ?_ GW183.out _ | refine keep_far ?_ GW198.out _) | exact HK.out)) (KeepBut.of_below hb g none) (.inl rfl)); have n5_ := Aside0.mk (below_step (by repeat (first | (with_reducible first | exact HB.out | apply below_alloc | apply pw_below_drewN | apply below_drew1 | refine below_set ?_ (IsS69.ge HI0.out) | refine below_set ?_ GE183.out | refine below_set ?_ GE198.out) | exact HB.out)) hb); clear BK183; clear BK198; clear HI0; clear HK; clear HB; have HO219 := n0_; have BK183 := n1_; have BK198 := n2_; have HI0 := n3_; have HK := n4_; have HB := n5_; clear n0_ n1_ n2_ n3_ n4_ n5_; clear hb ho75) | ((with_reducible refine gate_callee (f := 48) rfl ?_); refine goesL_ (some 42) rfl rfl Try.func48 (by kernel_rfl) rfl #[.pointer (some ⟨g, 0, none⟩), .int .i64 4] rfl (by (try simp only [List.map_toArray, List.map_cons, List.map_nil]); first | done | rfl | (simp only [List.length_drop, List.length_take]; rfl)) ?_; (with_reducible refine (spec_l20Rd_pick.calls kj10 g s0_0 t204 4 t220 t221 w0 _ ?side1 ?side2 A69.out).mono ?_); (case side1 => repeat (first | (with_reducible first | exact HI0.out | apply IsS69.alloc | apply IsS69.drewN | apply IsS69.drew | apply IsS69.set_1 | refine IsS69.far ?_ NB0_183.out _ | refine IsS69.far ?_ NB0_198.out _) | exact HI0.out)); (case side2 => repeat (first | (with_reducible first | exact HB.out | apply below_alloc | apply pw_below_drewN | apply below_drew1 | refine below_set ?_ (IsS69.ge HI0.out) | refine below_set ?_ GE183.out | refine below_set ?_ GE198.out) | exact HB.out)); rintro e w76 ⟨rfl, hi, hb, hk⟩; refine ⟨_, rfl, ?_⟩; have n0_ := Aside0.mk (KeepBut.blk hk (g' := gb183) (o := .cells #[.int .i64 0, .int .i64 0, .int .i64 0] 29 (0, 0)) (by (with_reducible repeat (first | refine blk_drewN ?_ _ | refine blk_drew ?_ | refine blk_alloc ?_ _)); exact BK183.out) NB183_0.out (by simp)); have n1_ := Aside0.mk (KeepBut.blk hk (g' := gb198) (o := .cells #[.int .i64 (rd y184 t187), .int .i64 (wrap64 (1 + t190)), .int .i64 x199002_10] 29 (0, 0)) (by (with_reducible repeat (first | refine blk_drewN ?_ _ | refine blk_drew ?_ | refine blk_alloc ?_ _)); exact BK198.out) NB198_0.out (by simp)); have n2_ := Aside0.mk (Kd.R_mono (Kd.R_keep (IsS69.apart (show IsS69 w0 _ g s0_0 t204 from by repeat (first | (with_reducible first | exact HI0.out | apply IsS69.alloc | apply IsS69.drewN | apply IsS69.drew | apply IsS69.set_1 | refine IsS69.far ?_ NB0_183.out _ | refine IsS69.far ?_ NB0_198.out _) | exact HI0.out)) (by (with_reducible repeat (first | apply Kd.R_alloc | apply Kd.R_drewN | apply Kd.R_drew)); exact HO219.out) (by decide)) hk (fun _ h => h.2)) (fun _ h => h.1)); have n3_ := Aside0.mk (KeepBut.trans (by repeat (first | (with_reducible first | exact HK.out | apply KeepBut.set_ | apply keep_drewN | apply keep_drew | apply keep_alloc | refine keep_far ?_ GW183.out _ | refine keep_far ?_ GW198.out _) | exact HK.out)) hk (.inl rfl)); have n4_ := Aside0.mk (hb); have n5_ := Aside0.mk (hi); clear BK183; clear BK198; clear HO219; clear HK; clear HB; clear HI0; have BK183 := n0_; have BK198 := n1_; have HO219 := n2_; have HK := n3_; have HB := n4_; have HI0 := n5_; clear n0_ n1_ n2_ n3_ n4_ n5_; (try clear hb); (try clear hb2); (try clear hk); (try clear hi); obtain ⟨Ao77, co77, eo77⟩ := Kd.R_slice HO219.out; subst eo77; have p222 : 0 ≤ (t220 : Int) := of_decide_eq_true (by first | (with_reducible assumption) | assumption); have q222 : t220 < (y217.length : Int) := of_decide_eq_true (by first | (with_reducible assumption) | assumption); obtain ⟨ad222, e222, hx222_0⟩ := Kd.at_int (Kd.R_reads' HO219.out).2.2 t220 p222 q222; cases e222; replace p222 := eq_true p222; replace q222 := eq_true q222; have hnb78 := NB198_183.out; have hnc78 := NB183_198.out; have hnb79 := NB198_0.out; have hnc79 := NB0_198.out; have hcz80_0 : w76.cell? ⟨gb198, 0, none⟩ = some (.int .i64 (rd y184 t187)) := (blk_cell BK198.out 0).trans rfl; have hcz80_1 : w76.cell? ⟨gb198, 1, none⟩ = some (.int .i64 (wrap64 (1 + t190))) := (blk_cell BK198.out 1).trans rfl; have hcz80_2 : w76.cell? ⟨gb198, 2, none⟩ = some (.int .i64 x199002_10) := (blk_cell BK198.out 2).trans rfl; have hfz80_0 := blk_frozen BK198.out 0; have hfz80_1 := blk_frozen BK198.out 1; have hfz80_2 := blk_frozen BK198.out 2; have hnb81 := NB183_0.out; have hnc81 := NB0_183.out; have hcz82_0 : w76.cell? ⟨gb183, 0, none⟩ = some (.int .i64 0) := (blk_cell BK183.out 0).trans rfl; have hcz82_1 : w76.cell? ⟨gb183, 1, none⟩ = some (.int .i64 0) := (blk_cell BK183.out 1).trans rfl; have hcz82_2 : w76.cell? ⟨gb183, 2, none⟩ = some (.int .i64 0) := (blk_cell BK183.out 2).trans rfl; have hfz82_0 := blk_frozen BK183.out 0; have hfz82_1 := blk_frozen BK183.out 1; have hfz82_2 := blk_frozen BK183.out 2))
                        refine bodyPost_ret (results_cell_row rfl _ _ gb183 29 #[.int .i64 (rd y184 t187), .int .i64 (wrap64 (1 + t190)), .int .i64 (rd y217 t220)] (0, 0) _ rfl (by (with_reducible repeat (first | refine blk_drewN ?_ _ | refine blk_drew ?_ | refine blk_alloc ?_ _)); refine blk_put (cs := #[.int .i64 (rd y184 t187), .int .i64 (wrap64 (1 + t190)), .int .i64 0]) ?_ 2 _ rfl; (with_reducible repeat (first | refine blk_drewN ?_ _ | refine blk_drew ?_ | refine blk_alloc ?_ _)); refine blk_put (cs := #[.int .i64 (rd y184 t187), .int .i64 0, .int .i64 0]) ?_ 1 _ rfl; (with_reducible repeat (first | refine blk_drewN ?_ _ | refine blk_drew ?_ | refine blk_alloc ?_ _)); refine blk_put (cs := #[.int .i64 0, .int .i64 0, .int .i64 0]) ?_ 0 _ rfl; (with_reducible repeat (first | refine blk_drewN ?_ _ | refine blk_drew ?_ | refine blk_alloc ?_ _)); refine blk_far ?_ NB183_198.out _; (with_reducible repeat (first | refine blk_drewN ?_ _ | refine blk_drew ?_ | refine blk_alloc ?_ _)); exact BK183.out) Try.underlying29 rfl (by kernel_rfl)) rfl ?_
                        exact ⟨by first | rfl | (simp [errW_none, errW_some] <;> rfl) | (simp [*, errW_none, errW_some] <;> rfl), by repeat (first | (with_reducible first | exact HI0.out | apply IsS69.alloc | apply IsS69.drewN | apply IsS69.drew | apply IsS69.set_1 | refine IsS69.far ?_ NB0_183.out _ | refine IsS69.far ?_ NB0_198.out _) | exact HI0.out), by repeat (first | (with_reducible first | exact HB.out | apply below_alloc | apply pw_below_drewN | apply below_drew1 | refine below_set ?_ (IsS69.ge HI0.out) | refine below_set ?_ GE183.out | refine below_set ?_ GE198.out) | exact HB.out), by repeat (first | (with_reducible first | exact HK.out | apply KeepBut.set_ | apply keep_drewN | apply keep_drew | apply keep_alloc | refine keep_far ?_ GW183.out _ | refine keep_far ?_ GW198.out _) | exact HK.out)⟩
                      · rw [if_neg c71] at H
                        exact absurd H (by simp)
                    · rw [if_neg c70] at H
                      exact absurd H (by simp)
              · rw [if_neg c37] at H
                have c37b0 : (t201 == 0) = false := beq_eq_false_iff_ne.mpr c37
                have c37b1 : (t201 != 0) = true := bne_iff_ne.mpr c37
                simp only [Option.some.injEq, Prod.mk.injEq] at H
                obtain ⟨rfl, rfl, rfl, rfl⟩ := H
                go_wp2_with (first | ((with_reducible refine gate_callee (f := 48) rfl ?_); refine goesL_ (some 36) rfl rfl Try.func48 (by kernel_rfl) rfl #[.pointer (some ⟨g, 0, none⟩), .int .i64 a1] rfl (by (try simp only [List.map_toArray, List.map_cons, List.map_nil]); first | done | rfl | (simp only [List.length_drop, List.length_take]; rfl)) ?_; (with_reducible refine (spec_l20Rd_pick.calls kj10 g s0_0 t196 a1 t201 t202 w0 _ ?side1 ?side2 A36.out).mono ?_); (case side1 => repeat (first | (with_reducible first | exact HI0.out | apply IsS69.alloc | apply IsS69.drewN | apply IsS69.drew | apply IsS69.set_1 | refine IsS69.far ?_ NB0_183.out _ | refine IsS69.far ?_ NB0_198.out _) | exact HI0.out)); (case side2 => repeat (first | (with_reducible first | exact HB.out | apply below_alloc | apply pw_below_drewN | apply below_drew1 | refine below_set ?_ (IsS69.ge HI0.out) | refine below_set ?_ GE183.out | refine below_set ?_ GE198.out) | exact HB.out)); rintro e w83 ⟨rfl, hi, hb, hk⟩; refine ⟨_, rfl, ?_⟩; have n0_ := Aside0.mk (KeepBut.blk hk (g' := gb183) (o := .cells #[.int .i64 0, .int .i64 0, .int .i64 0] 29 (0, 0)) (by (with_reducible repeat (first | refine blk_drewN ?_ _ | refine blk_drew ?_ | refine blk_alloc ?_ _)); exact BK183.out) NB183_0.out (by simp)); have n1_ := Aside0.mk (KeepBut.blk hk (g' := gb198) (o := .cells #[.int .i64 (rd y184 t187), .int .i64 (wrap64 (1 + t190)), .int .i64 x199002_10] 29 (0, 0)) (by (with_reducible repeat (first | refine blk_drewN ?_ _ | refine blk_drew ?_ | refine blk_alloc ?_ _)); exact BK198.out) NB198_0.out (by simp)); have n2_ := Aside0.mk (KeepBut.trans (by repeat (first | (with_reducible first | exact HK.out | apply KeepBut.set_ | apply keep_drewN | apply keep_drew | apply keep_alloc | refine keep_far ?_ GW183.out _ | refine keep_far ?_ GW198.out _) | exact HK.out)) hk (.inl rfl)); have n3_ := Aside0.mk (hb); have n4_ := Aside0.mk (hi); clear BK183; clear BK198; clear HK; clear HB; clear HI0; have BK183 := n0_; have BK198 := n1_; have HK := n2_; have HB := n3_; have HI0 := n4_; clear n0_ n1_ n2_ n3_ n4_; (try clear hb); (try clear hb2); (try clear hk); (try clear hi); have hnb84 := NB198_183.out; have hnc84 := NB183_198.out; have hnb85 := NB198_0.out; have hnc85 := NB0_198.out; have hcz86_0 : w83.cell? ⟨gb198, 0, none⟩ = some (.int .i64 (rd y184 t187)) := (blk_cell BK198.out 0).trans rfl; have hcz86_1 : w83.cell? ⟨gb198, 1, none⟩ = some (.int .i64 (wrap64 (1 + t190))) := (blk_cell BK198.out 1).trans rfl; have hcz86_2 : w83.cell? ⟨gb198, 2, none⟩ = some (.int .i64 x199002_10) := (blk_cell BK198.out 2).trans rfl; have hfz86_0 := blk_frozen BK198.out 0; have hfz86_1 := blk_frozen BK198.out 1; have hfz86_2 := blk_frozen BK198.out 2; have hnb87 := NB183_0.out; have hnc87 := NB0_183.out; have hcz88_0 : w83.cell? ⟨gb183, 0, none⟩ = some (.int .i64 0) := (blk_cell BK183.out 0).trans rfl; have hcz88_1 : w83.cell? ⟨gb183, 1, none⟩ = some (.int .i64 0) := (blk_cell BK183.out 1).trans rfl; have hcz88_2 : w83.cell? ⟨gb183, 2, none⟩ = some (.int .i64 0) := (blk_cell BK183.out 2).trans rfl; have hfz88_0 := blk_frozen BK183.out 0; have hfz88_1 := blk_frozen BK183.out 1; have hfz88_2 := blk_frozen BK183.out 2))
                refine bodyPost_ret (results_cell_row rfl _ _ gb183 29 #[.int .i64 (rd y184 t187), .int .i64 (wrap64 (1 + t190)), .int .i64 x199002_10] (0, 0) _ rfl (by (with_reducible repeat (first | refine blk_drewN ?_ _ | refine blk_drew ?_ | refine blk_alloc ?_ _)); refine blk_put (cs := #[.int .i64 (rd y184 t187), .int .i64 (wrap64 (1 + t190)), .int .i64 0]) ?_ 2 _ rfl; (with_reducible repeat (first | refine blk_drewN ?_ _ | refine blk_drew ?_ | refine blk_alloc ?_ _)); refine blk_put (cs := #[.int .i64 (rd y184 t187), .int .i64 0, .int .i64 0]) ?_ 1 _ rfl; (with_reducible repeat (first | refine blk_drewN ?_ _ | refine blk_drew ?_ | refine blk_alloc ?_ _)); refine blk_put (cs := #[.int .i64 0, .int .i64 0, .int .i64 0]) ?_ 0 _ rfl; (with_reducible repeat (first | refine blk_drewN ?_ _ | refine blk_drew ?_ | refine blk_alloc ?_ _)); exact BK183.out) Try.underlying29 rfl (by kernel_rfl)) rfl ?_
                exact ⟨by first | rfl | (simp [errW_none, errW_some] <;> rfl) | (simp [*, errW_none, errW_some] <;> rfl), by repeat (first | (with_reducible first | exact HI0.out | apply IsS69.alloc | apply IsS69.drewN | apply IsS69.drew | apply IsS69.set_1 | refine IsS69.far ?_ NB0_183.out _ | refine IsS69.far ?_ NB0_198.out _) | exact HI0.out), by repeat (first | (with_reducible first | exact HB.out | apply below_alloc | apply pw_below_drewN | apply below_drew1 | refine below_set ?_ (IsS69.ge HI0.out) | refine below_set ?_ GE183.out | refine below_set ?_ GE198.out) | exact HB.out), by repeat (first | (with_reducible first | exact HK.out | apply KeepBut.set_ | apply keep_drewN | apply keep_drew | apply keep_alloc | refine keep_far ?_ GW183.out _ | refine keep_far ?_ GW198.out _) | exact HK.out)⟩
        · rw [if_neg c9] at H
          exact absurd H (by simp)
      · rw [if_neg c8] at H
        exact absurd H (by simp)
    · rw [if_neg c5] at H
      exact absurd H (by simp)
  · rw [if_neg c4] at H
    exact absurd H (by simp)

end Go.Proofs.Ytojgpnobbnihdaa.All
