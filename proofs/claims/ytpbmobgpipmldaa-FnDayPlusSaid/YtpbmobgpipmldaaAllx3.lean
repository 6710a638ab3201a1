-- Written by the session's own program wip/allprint.py, which drives the kit's print; Lean checks it.
import Derived.Test.YtpbmobgpipmldaaAllx0
import Derived.Test.YtpbmobgpipmldaaAllx2
namespace Go.Proofs.Ytpbmobgpipmldaa.All
open Go.RowKit Go.Proofs.YtpbmobgpipmldaaW.PrintWords Go.Proofs.YtpbmobgpipmldaaW.PrintLast Go.Proofs.YtpbmobgpipmldaaW.PrintMore
attribute [local go_sem] max2_int min2_int max_two min_two max_three min_three max_four min_four   -- for this text's walks alone
set_option linter.unusedVariables false
set_option linter.unusedSimpArgs false

/-! ### spec_l20Day: function 27 -/
def spec_l20Day.j0 : Nat → Int → List Int → Int → Int → Int → Int → Option (Int × Int × Int × Int)
  | 0, _, _, _, _, _, _ => none
  | k + 1, x1, x1000, x1001, x121000, x121001, x121002 => (spec_l20Rd_pick.f k x1000 x1001 x1).bind fun bt123 => (if bt123.1 = 0 then ((spec_l20Rd_pick.f k x1000 bt123.2 3).bind fun bt125 => (if bt125.1 = 0 then ((some (([1899, 2200, 2023] : List Int) : List Int)).bind fun y127 => ((spec_l20Rd_pick.f k x1000 bt125.2 3).bind fun bt130 => (if 0 ≤ bt130.1 then (if bt130.1 < (y127.length : Int) then (some (rd y127 bt130.1, x121001, x121002, bt130.2)) else (none)) else (none)))) else (if bt125.1 = 1 then ((some (([0, 13, 2] : List Int) : List Int)).bind fun y133 => ((spec_l20Rd_pick.f k x1000 bt125.2 3).bind fun bt136 => (if 0 ≤ bt136.1 then (if bt136.1 < (y133.length : Int) then (some (x121000, rd y133 bt136.1, x121002, bt136.2)) else (none)) else (none)))) else ((some (([0, 31, 30, 32] : List Int) : List Int)).bind fun y139 => ((spec_l20Rd_pick.f k x1000 bt125.2 4).bind fun bt142 => (if 0 ≤ bt142.1 then (if bt142.1 < (y139.length : Int) then (some (x121000, x121001, rd y139 bt142.1, bt142.2)) else (none)) else (none))))))) else (some (x121000, x121001, x121002, bt123.2)))
def spec_l20Day.f (k : Nat) (s0_0 : List Int) (s0_1 : Int) (a1 : Int) : Option (Int × Int × Int × Int) := (some (([1900, 2000, 2024, 2026, 2100, 2199, 1996] : List Int) : List Int)).bind fun y106 => ((spec_l20Rd_pick.f k s0_0 s0_1 7).bind fun bt109 => (if 0 ≤ bt109.1 then (if bt109.1 < (y106.length : Int) then ((spec_l20Rd_pick.f k s0_0 bt109.2 12).bind fun bt112 => ((some (([1, 28, 15, 31, 30, 29] : List Int) : List Int)).bind fun y114 => ((spec_l20Rd_pick.f k s0_0 bt112.2 6).bind fun bt117 => (if 0 ≤ bt117.1 then (if bt117.1 < (y114.length : Int) then ((spec_DayLast.f k (rd y106 bt109.1) (wrap64 (1 + bt112.1))).bind fun t121 => (if (rd y114 bt117.1) > t121 then ((spec_DayLast.f k (rd y106 bt109.1) (wrap64 (1 + bt112.1))).bind fun t122 => (spec_l20Day.j0 k a1 s0_0 bt117.2 (rd y106 bt109.1) (wrap64 (1 + bt112.1)) t122)) else (spec_l20Day.j0 k a1 s0_0 bt117.2 (rd y106 bt109.1) (wrap64 (1 + bt112.1)) (rd y114 bt117.1)))) else (none)) else (none))))) else (none)) else (none)))
theorem spec_l20Day.mono_l : ∀ k, (∀ y0 y1 y2 y3 y4 y5, LeO (spec_l20Day.j0 k y0 y1 y2 y3 y4 y5) (spec_l20Day.j0 (k + 1) y0 y1 y2 y3 y4 y5))
  | 0 => fun _ _ _ _ _ _ r h => by simp [spec_l20Day.j0] at h
  | k + 1 => by
    have ih0 := spec_l20Day.mono_l k
    · intro y0 y1 y2 y3 y4 y5
      unfold spec_l20Day.j0
      repeat' first
      | (with_reducible exact ih0 _ _ _ _ _ _)
      | (with_reducible exact spec_DayLast.mono _ _ _)
      | (with_reducible exact spec_l20Rd_pick.mono _ _ _ _)
      | (with_reducible exact LeO.refl _)
      | (with_reducible exact LeO.none _)
      | (with_reducible refine LeO.ite ?_ ?_)
      | (with_reducible refine LeO.bind ?_ (fun _ => ?_))
      | exact ih0 _ _ _ _ _ _
      | exact spec_DayLast.mono _ _ _
      | exact spec_l20Rd_pick.mono _ _ _ _
      | exact LeO.none _
      | refine LeO.ite ?_ ?_
      | refine LeO.bind ?_ (fun _ => ?_)
theorem spec_l20Day.mono : ∀ a0 a1 a2 k, LeO (spec_l20Day.f k a0 a1 a2) (spec_l20Day.f (k + 1) a0 a1 a2) := by
  intro a0 a1 a2 k
  have ih0 := spec_l20Day.mono_l k
  unfold spec_l20Day.f
  repeat' first
      | (with_reducible exact ih0 _ _ _ _ _ _)
      | (with_reducible exact spec_DayLast.mono _ _ _)
      | (with_reducible exact spec_l20Rd_pick.mono _ _ _ _)
      | (with_reducible exact LeO.refl _)
      | (with_reducible exact LeO.none _)
      | (with_reducible refine LeO.ite ?_ ?_)
      | (with_reducible refine LeO.bind ?_ (fun _ => ?_))
      | exact ih0 _ _ _ _ _ _
      | exact spec_DayLast.mono _ _ _
      | exact spec_l20Rd_pick.mono _ _ _ _
      | exact LeO.none _
      | refine LeO.ite ?_ ?_
      | refine LeO.bind ?_ (fun _ => ?_)
def spec_l20Day.T1 : Bool × List (List Nat × List Nat) := (true, [([], []), ([], []), ([1], [1]), ([0, 2], [0, 2]), ([3], [3]), ([], []), ([5, 2], [5]), ([6], [6]), ([], []), ([], []), ([9, 6], [9]), ([8, 10], [8, 10]), ([11], [11]), ([4, 7, 12], [4, 7, 12]), ([], []), ([14, 13, 10, 0, 1, 2, 3, 4, 5, 6, 7, 8, 9, 10, 11, 12, 13, 14], [13, 14])])
def spec_l20Day.B1 : List Nat := [0, 0, 2, 7, 15, 0, 38, 102, 0, 0, 614, 1894, 3942, 8191, 0, 32767]
theorem spec_l20Day.tab1 : rtab .any (opsOf Try.f27 1) = spec_l20Day.T1 := by kernel_rfl
theorem spec_l20Day.bits1 : waitsOk spec_l20Day.T1.2 spec_l20Day.B1 = true := by kernel_rfl
def spec_l20Day.T2 : Bool × List (List Nat × List Nat) := (true, [([], []), ([0], [0]), ([], []), ([2], [2]), ([], []), ([4], [4]), ([3, 5], [3, 5]), ([1, 6], [1, 6])])
def spec_l20Day.B2 : List Nat := [0, 1, 0, 4, 0, 16, 60, 127]
theorem spec_l20Day.tab2 : rtab .any (opsOf Try.f27 2) = spec_l20Day.T2 := by kernel_rfl
theorem spec_l20Day.bits2 : waitsOk spec_l20Day.T2.2 spec_l20Day.B2 = true := by kernel_rfl
set_option maxHeartbeats 8000000 in
set_option maxRecDepth 100000 in
theorem spec_l20Day.calls (k : Nat) (g : Nat) (s0_0 : List Int) (s0_1 : Int) (a1 : Int) (r1 : Int) (r2 : Int) (r3 : Int) (r4 : Int) (w0 w : World) (hI : IsS52 w0 w g s0_0 s0_1) (hB : Below w0.heap.size w0 w) (h : spec_l20Day.f k s0_0 s0_1 a1 = some (r1, r2, r3, r4)) :
    Calls Try.prog 27 #[.pointer (some ⟨g, 0, none⟩), .int .i64 a1] w fun e w' => e = .returned (.agg #[.int .i64 r1, .int .i64 r2, .int .i64 r3]) ∧ IsS52 w0 w' g s0_0 r4 ∧ Below w0.heap.size w0 w' ∧ KeepBut w w' g none := by
  have hu24 := Try.underlying24
  have HI0 := Aside0.mk hI
  have HGL := Aside0.mk (IsS52.lt hI)
  have HK := Aside0.mk (KeepBut.refl w g none)
  have HL := Aside0.mk hB.size
  clear hI
  have HW0 := Aside0.mk hB.size
  have HB := Aside0.mk hB
  clear hB
  have H : ((some (([1900, 2000, 2024, 2026, 2100, 2199, 1996] : List Int) : List Int)).bind fun y106 => ((spec_l20Rd_pick.f k s0_0 s0_1 7).bind fun bt109 => (if 0 ≤ bt109.1 then (if bt109.1 < (y106.length : Int) then ((spec_l20Rd_pick.f k s0_0 bt109.2 12).bind fun bt112 => ((some (([1, 28, 15, 31, 30, 29] : List Int) : List Int)).bind fun y114 => ((spec_l20Rd_pick.f k s0_0 bt112.2 6).bind fun bt117 => (if 0 ≤ bt117.1 then (if bt117.1 < (y114.length : Int) then ((spec_DayLast.f k (rd y106 bt109.1) (wrap64 (1 + bt112.1))).bind fun t121 => (if (rd y114 bt117.1) > t121 then ((spec_DayLast.f k (rd y106 bt109.1) (wrap64 (1 + bt112.1))).bind fun t122 => (spec_l20Day.j0 k a1 s0_0 bt117.2 (rd y106 bt109.1) (wrap64 (1 + bt112.1)) t122)) else (spec_l20Day.j0 k a1 s0_0 bt117.2 (rd y106 bt109.1) (wrap64 (1 + bt112.1)) (rd y114 bt117.1)))) else (none)) else (none))))) else (none)) else (none)))) = some (r1, r2, r3, r4) := h
  clear h
  obtain ⟨y106, hy106⟩ : ∃ y_ : List Int, y_ = (([1900, 2000, 2024, 2026, 2100, 2199, 1996] : List Int)) := ⟨_, rfl⟩
  replace H : ((spec_l20Rd_pick.f k s0_0 s0_1 7).bind fun bt109 => (if 0 ≤ bt109.1 then (if bt109.1 < (y106.length : Int) then ((spec_l20Rd_pick.f k s0_0 bt109.2 12).bind fun bt112 => ((some (([1, 28, 15, 31, 30, 29] : List Int) : List Int)).bind fun y114 => ((spec_l20Rd_pick.f k s0_0 bt112.2 6).bind fun bt117 => (if 0 ≤ bt117.1 then (if bt117.1 < (y114.length : Int) then ((spec_DayLast.f k (rd y106 bt109.1) (wrap64 (1 + bt112.1))).bind fun t121 => (if (rd y114 bt117.1) > t121 then ((spec_DayLast.f k (rd y106 bt109.1) (wrap64 (1 + bt112.1))).bind fun t122 => (spec_l20Day.j0 k a1 s0_0 bt117.2 (rd y106 bt109.1) (wrap64 (1 + bt112.1)) t122)) else (spec_l20Day.j0 k a1 s0_0 bt117.2 (rd y106 bt109.1) (wrap64 (1 + bt112.1)) (rd y114 bt117.1)))) else (none)) else (none))))) else (none)) else (none))) = some (r1, r2, r3, r4) := by first | (rw [hy106]; with_reducible exact H) | (have H2_ := (Option.bind_some _ _).symm.trans H; rw [hy106]; with_reducible exact H2_) | (have H2_ := (Option.bind_some _ _).symm.trans H; with_reducible exact H2_) | with_reducible exact H | (rw [hy106]; exact H) | exact H
  have Ny106 := Aside0.mk hy106
  clear hy106
  replace H := Option.bind_eq_some_iff.mp H
  obtain ⟨⟨t109, t110⟩, A30, H⟩ := H
  replace H : (if 0 ≤ t109 then (if t109 < (y106.length : Int) then ((spec_l20Rd_pick.f k s0_0 t110 12).bind fun bt112 => ((some (([1, 28, 15, 31, 30, 29] : List Int) : List Int)).bind fun y114 => ((spec_l20Rd_pick.f k s0_0 bt112.2 6).bind fun bt117 => (if 0 ≤ bt117.1 then (if bt117.1 < (y114.length : Int) then ((spec_DayLast.f k (rd y106 t109) (wrap64 (1 + bt112.1))).bind fun t121 => (if (rd y114 bt117.1) > t121 then ((spec_DayLast.f k (rd y106 t109) (wrap64 (1 + bt112.1))).bind fun t122 => (spec_l20Day.j0 k a1 s0_0 bt117.2 (rd y106 t109) (wrap64 (1 + bt112.1)) t122)) else (spec_l20Day.j0 k a1 s0_0 bt117.2 (rd y106 t109) (wrap64 (1 + bt112.1)) (rd y114 bt117.1)))) else (none)) else (none))))) else (none)) else (none)) = some (r1, r2, r3, r4) := H
  have A3 := Aside0.mk A30
  clear A30
  by_cases c4 : 0 ≤ t109
  · rw [if_pos c4] at H
    have c4b0 : decide (0 ≤ t109) = true := decide_eq_true c4
    clear c4
    by_cases c5 : t109 < (y106.length : Int)
    · rw [if_pos c5] at H
      have c5b0 : decide (t109 < (y106.length : Int)) = true := decide_eq_true c5
      clear c5
      replace H := Option.bind_eq_some_iff.mp H
      obtain ⟨⟨t112, t113⟩, A60, H⟩ := H
      replace H : ((some (([1, 28, 15, 31, 30, 29] : List Int) : List Int)).bind fun y114 => ((spec_l20Rd_pick.f k s0_0 t113 6).bind fun bt117 => (if 0 ≤ bt117.1 then (if bt117.1 < (y114.length : Int) then ((spec_DayLast.f k (rd y106 t109) (wrap64 (1 + t112))).bind fun t121 => (if (rd y114 bt117.1) > t121 then ((spec_DayLast.f k (rd y106 t109) (wrap64 (1 + t112))).bind fun t122 => (spec_l20Day.j0 k a1 s0_0 bt117.2 (rd y106 t109) (wrap64 (1 + t112)) t122)) else (spec_l20Day.j0 k a1 s0_0 bt117.2 (rd y106 t109) (wrap64 (1 + t112)) (rd y114 bt117.1)))) else (none)) else (none)))) = some (r1, r2, r3, r4) := H
      have A6 := Aside0.mk A60
      clear A60
      obtain ⟨y114, hy114⟩ : ∃ y_ : List Int, y_ = (([1, 28, 15, 31, 30, 29] : List Int)) := ⟨_, rfl⟩
      replace H : ((spec_l20Rd_pick.f k s0_0 t113 6).bind fun bt117 => (if 0 ≤ bt117.1 then (if bt117.1 < (y114.length : Int) then ((spec_DayLast.f k (rd y106 t109) (wrap64 (1 + t112))).bind fun t121 => (if (rd y114 bt117.1) > t121 then ((spec_DayLast.f k (rd y106 t109) (wrap64 (1 + t112))).bind fun t122 => (spec_l20Day.j0 k a1 s0_0 bt117.2 (rd y106 t109) (wrap64 (1 + t112)) t122)) else (spec_l20Day.j0 k a1 s0_0 bt117.2 (rd y106 t109) (wrap64 (1 + t112)) (rd y114 bt117.1)))) else (none)) else (none))) = some (r1, r2, r3, r4) := by first | (rw [hy114]; with_reducible exact H) | (have H2_ := (Option.bind_some _ _).symm.trans H; rw [hy114]; with_reducible exact H2_) | (have H2_ := (Option.bind_some _ _).symm.trans H; with_reducible exact H2_) | with_reducible exact H | (rw [hy114]; exact H) | exact H
      have Ny114 := Aside0.mk hy114
      clear hy114
      replace H := Option.bind_eq_some_iff.mp H
      obtain ⟨⟨t117, t118⟩, A70, H⟩ := H
      replace H : (if 0 ≤ t117 then (if t117 < (y114.length : Int) then ((spec_DayLast.f k (rd y106 t109) (wrap64 (1 + t112))).bind fun t121 => (if (rd y114 t117) > t121 then ((spec_DayLast.f k (rd y106 t109) (wrap64 (1 + t112))).bind fun t122 => (spec_l20Day.j0 k a1 s0_0 t118 (rd y106 t109) (wrap64 (1 + t112)) t122)) else (spec_l20Day.j0 k a1 s0_0 t118 (rd y106 t109) (wrap64 (1 + t112)) (rd y114 t117)))) else (none)) else (none)) = some (r1, r2, r3, r4) := H
      have A7 := Aside0.mk A70
      clear A70
      by_cases c8 : 0 ≤ t117
      · rw [if_pos c8] at H
        have c8b0 : decide (0 ≤ t117) = true := decide_eq_true c8
        clear c8
        by_cases c9 : t117 < (y114.length : Int)
        · rw [if_pos c9] at H
          have c9b0 : decide (t117 < (y114.length : Int)) = true := decide_eq_true c9
          clear c9
          replace H := Option.bind_eq_some_iff.mp H
          obtain ⟨t121, A100, H⟩ := H
          replace H : (if (rd y114 t117) > t121 then ((spec_DayLast.f k (rd y106 t109) (wrap64 (1 + t112))).bind fun t122 => (spec_l20Day.j0 k a1 s0_0 t118 (rd y106 t109) (wrap64 (1 + t112)) t122)) else (spec_l20Day.j0 k a1 s0_0 t118 (rd y106 t109) (wrap64 (1 + t112)) (rd y114 t117))) = some (r1, r2, r3, r4) := H
          have A10 := Aside0.mk A100
          clear A100
          have HC11 := Aside0.mk H
          clear H
          go_enter Try.func27, Try.ntmps27
          try go_wp2_with (first | ((with_reducible refine gate_dst (N := 4) rfl ?_); refine box_event ?hg (N := 4) ?hd (cs := #[.int .i64 0, .int .i64 0, .int .i64 0]) (t := 24) ?hr ?_; (case hd => rfl); (case hg => rfl); (case hr => first | (go_simp; done) | (go_simp; rfl)); intro gb105 hg w12 hbox hb; have n0_ := Aside0.mk (IsS52.below (by repeat (first | (with_reducible first | exact HI0.out | apply IsS52.alloc | apply IsS52.drewN | apply IsS52.drew | apply IsS52.set_1) | exact HI0.out)) hb); have n1_ := Aside0.mk (KeepBut.trans (by repeat (first | (with_reducible first | exact HK.out | apply KeepBut.set_ | apply keep_drewN | apply keep_drew | apply keep_alloc) | exact HK.out)) (KeepBut.of_below hb g none) (.inl rfl)); have n2_ := Aside0.mk (below_step (by repeat (first | (with_reducible first | exact HB.out | apply below_alloc | apply pw_below_drewN | apply below_drew1 | refine below_set ?_ (IsS52.ge HI0.out)) | exact HB.out)) hb); have n3_ := Aside0.mk (hbox); have n4_ := Aside0.mk ((by rw [hg]; exact (keep_size (w := w) (g := g) (row := none) (by repeat (first | (with_reducible first | exact HK.out | apply KeepBut.set_ | apply keep_drewN | apply keep_drew | apply keep_alloc) | exact HK.out))) : w.heap.size ≤ gb105)); have n5_ := Aside0.mk ((Nat.le_trans HW0.out (by rw [hg]; exact (keep_size (w := w) (g := g) (row := none) (by repeat (first | (with_reducible first | exact HK.out | apply KeepBut.set_ | apply keep_drewN | apply keep_drew | apply keep_alloc) | exact HK.out))) : w.heap.size ≤ gb105) : w0.heap.size ≤ gb105)); have n6_ := Aside0.mk ((by rw [hg]; exact Nat.ne_of_lt (Nat.lt_of_lt_of_le HGL.out (keep_size (w := w) (g := g) (row := none) (by repeat (first | (with_reducible first | exact HK.out | apply KeepBut.set_ | apply keep_drewN | apply keep_drew | apply keep_alloc) | exact HK.out)))) : g ≠ gb105)); have n7_ := Aside0.mk ((by rw [hg]; exact Nat.ne_of_gt (Nat.lt_of_lt_of_le HGL.out (keep_size (w := w) (g := g) (row := none) (by repeat (first | (with_reducible first | exact HK.out | apply KeepBut.set_ | apply keep_drewN | apply keep_drew | apply keep_alloc) | exact HK.out)))) : gb105 ≠ g)); clear HI0; clear HK; clear HB; have HI0 := n0_; have HK := n1_; have HB := n2_; have BK105 := n3_; have GW105 := n4_; have GE105 := n5_; have NB0_105 := n6_; have NB105_0 := n7_; clear n0_ n1_ n2_ n3_ n4_ n5_ n6_ n7_; clear hb hbox hg))
          have pi111 : (0 ≤ (t109 : Int)) = True := eq_true (of_decide_eq_true (by first | (with_reducible assumption) | assumption))
          have qi111 : (t109 < (y106.length : Int)) = True := eq_true (of_decide_eq_true (by first | (with_reducible assumption) | assumption))
          have pi119 : (0 ≤ (t117 : Int)) = True := eq_true (of_decide_eq_true (by first | (with_reducible assumption) | assumption))
          have qi119 : (t117 < (y114.length : Int)) = True := eq_true (of_decide_eq_true (by first | (with_reducible assumption) | assumption))
          have n0_ := Aside0.mk (blk_drew BK105.out)
          have n1_ := Aside0.mk (IsS52.drew HI0.out)
          have n2_ := Aside0.mk (keep_drew HK.out)
          have n3_ := Aside0.mk (below_drew1 HB.out)
          clear BK105
          clear HI0
          clear HK
          clear HB
          have BK105 := n0_
          have HI0 := n1_
          have HK := n2_
          have HB := n3_
          clear n0_ n1_ n2_ n3_
          refine start_ (n := 16) (S := fun w' => True) (ds := []) #[false, false, false, false, false, false, false, false, false, false, false, false, false, false, false, false] (by kernel_rfl) rfl rfl trivial (fun hHeld => ?_); refine with_tabW spec_l20Day.tab1 spec_l20Day.bits1 (fun HT_ HW_ => ?_)
          generalize w12.drew = w13 at BK105 HI0 HK HB hHeld ⊢
          refine pure_ (i := 1) (N := some 7) (v := ?_) (a' := ?_) #[false, true, false, false, false, false, false, false, false, false, false, false, false, false, false, false] rfl rfl (any_of HT_.out (by kernel_rfl)) (fun _ _ _ h => h) (Or.inl ⟨by rfl, ?_⟩) ?_ ?_
          rotate_left
          · intro w'
            go_simp
            with_reducible rfl
          rotate_left
          · simp only [Act.put, List.setIfInBounds_toArray, List.set_cons_zero, List.set_cons_succ, i64_w, i32_w]
            rfl
          refine pure_ (i := 5) (N := some 11) (v := ?_) (a' := ?_) #[false, true, false, false, false, true, false, false, false, false, false, false, false, false, false, false] rfl rfl (any_of HT_.out (by kernel_rfl)) (fun _ _ _ h => h) (Or.inl ⟨by rfl, ?_⟩) ?_ ?_
          rotate_left
          · intro w'
            go_simp
            with_reducible rfl
          rotate_left
          · simp only [Act.put, List.setIfInBounds_toArray, List.set_cons_zero, List.set_cons_succ, i64_w, i32_w]
            rfl
          refine pure_ (i := 9) (N := some 15) (v := ?_) (a' := ?_) #[false, true, false, false, false, true, false, false, false, true, false, false, false, false, false, false] rfl rfl (any_of HT_.out (by kernel_rfl)) (fun _ _ _ h => h) (Or.inl ⟨by rfl, ?_⟩) ?_ ?_
          rotate_left
          · intro w'
            go_simp
            with_reducible rfl
          rotate_left
          · simp only [Act.put, List.setIfInBounds_toArray, List.set_cons_zero, List.set_cons_succ, i64_w, i32_w]
            rfl
          refine inv_at [0, 2, 3, 4, 6, 7, 8, 10, 11, 12, 13, 14, 15] (fun a0_ b a w' => ∃ (v107 : Value) (adz_v107 : Addr) (v115 : Value) (adz_v115 : Addr) (gb120 : Nat) (m3_ : Value) (m11_ : Value) (m14_ : Value), a = putSel a0_ b [(0, 6, v107), (2, 8, .int .i64 t109), (3, 9, m3_), (4, 10, .int .i64 (rd y106 t109)), (6, 12, .int .i64 t112), (7, 13, .int .i64 (wrap64 (1 + t112))), (8, 14, v115), (10, 16, .int .i64 t117), (11, 17, m11_), (12, 18, .int .i64 (rd y114 t117)), (13, 19, .agg #[.int .i64 (rd y106 t109), .int .i64 (wrap64 (1 + t112)), .int .i64 (rd y114 t117)]), (14, 5, m14_)] ∧ (w'.heap[gb105]? = some (.cells #[.int .i64 0, .int .i64 0, .int .i64 0] 24 (0, 0))) ∧ (b 2 = false → IsS52 w0 w' g s0_0 s0_1) ∧ (KeepBut w w' g none) ∧ (Below w0.heap.size w0 w') ∧ (b 0 = true → Kd.R (Kd.int .i64) 3 w' w.heap.size (fun _ => True) v107 y106) ∧ (b 0 = true → ∃ c_, (v107 : Value) = .slice (some adz_v107) y106.length c_) ∧ (b 2 = true → b 6 = false → IsS52 w0 w' g s0_0 t110) ∧ (b 6 = true → b 10 = false → IsS52 w0 w' g s0_0 t113) ∧ (b 8 = true → Kd.R (Kd.int .i64) 3 w' w.heap.size (fun _ => True) v115 y114) ∧ (b 8 = true → ∃ c_, (v115 : Value) = .slice (some adz_v115) y114.length c_) ∧ (b 10 = true → IsS52 w0 w' g s0_0 t118) ∧ (b 14 = true → b 15 = false → w'.heap[gb120]? = some (.cells #[.int .i64 0, .int .i64 0, .int .i64 0] 24 (0, 0))) ∧ (b 14 = true → w.heap.size ≤ gb120) ∧ (b 14 = true → w0.heap.size ≤ gb120) ∧ (b 14 = true → g ≠ gb120) ∧ (b 14 = true → gb120 ≠ g) ∧ (b 14 = true → gb105 ≠ gb120) ∧ (b 14 = true → gb120 ≠ gb105) ∧ (b 15 = true → w'.heap[gb120]? = some (.cells #[.int .i64 (rd y106 t109), .int .i64 (wrap64 (1 + t112)), .int .i64 (rd y114 t117)] 24 (0, 0))) ∧ (b 3 = true → (m3_ : Value) = .pointer (some (adz_v107.add (t109).toNat))) ∧ (b 11 = true → (m11_ : Value) = .pointer (some (adz_v115.add (t117).toNat))) ∧ (b 14 = true → (m14_ : Value) = .pointer (some ⟨gb120, 0, none⟩))) HT_.out HW_.out (by kernel_rfl) (by kernel_rfl) ?_ ?_ ?_
          · exact ⟨.bool false, ⟨0, 0, none⟩, .bool false, ⟨0, 0, none⟩, 0, .bool false, .bool false, .bool false, by simp only [putSel, Bool.false_eq_true, if_false], BK105.out, fun _ => HI0.out, HK.out, HB.out, fun h_ => absurd h_ (by decide), fun h_ => absurd h_ (by decide), fun h_ => absurd h_ (by decide), fun h_ => absurd h_ (by decide), fun h_ => absurd h_ (by decide), fun h_ => absurd h_ (by decide), fun h_ => absurd h_ (by decide), fun h_ => absurd h_ (by decide), fun h_ => absurd h_ (by decide), fun h_ => absurd h_ (by decide), fun h_ => absurd h_ (by decide), fun h_ => absurd h_ (by decide), fun h_ => absurd h_ (by decide), fun h_ => absurd h_ (by decide), fun h_ => absurd h_ (by decide), fun h_ => absurd h_ (by decide), fun h_ => absurd h_ (by decide), fun h_ => absurd h_ (by decide)⟩
          · skip
            clear BK105 HB HI0 HK
            refine steps_cons ?_ ?_
            · rintro b a w' ⟨v107, adz_v107, v115, adz_v115, gb120, m3_, m11_, m14_, ha, Q_BK105, Q_HI0, Q_HK, Q_HB, Q_HO108, Q_HA_HO108, Q_HI0_e2, Q_HI0_e6, Q_HO116, Q_HA_HO116, Q_HI0_e10, Q_BK120, Q_GW120, Q_GE120, Q_NB0_120, Q_NB120_0, Q_NB105_120, Q_NB120_105, Q_BK120_e15, Q_X3_, Q_X11_, Q_X14_⟩ hb_ hon hoff
              refine ⟨_, rfl, fun K hK => ?_⟩
              replace ha := Aside0.mk ha
              have BK105 := Aside0.mk Q_BK105
              have HK := Aside0.mk Q_HK
              have HB := Aside0.mk Q_HB
              refine Kd.R_lit_step (Kd.int .i64) _ 3 ?hg (N := 6) ?hd (xs := ([1900, 2000, 2024, 2026, 2100, 2199, 1996] : List Int)) (inner := [.int .i64 1900, .int .i64 2000, .int .i64 2024, .int .i64 2026, .int .i64 2100, .int .i64 2199, .int .i64 1996]) (ok := fun _ => True) (okp := fun _ => True) ?hr ?hp (fun _ hk => hk) trivial (Below.refl _ _) (Nat.le_refl _) (by simp) ?_; (case hd => rfl); (case hg => rfl); (case hr => first | (go_simp; done) | (go_simp; rfl)); (case hp => exact (Reps.one (show Kd.M (Kd.int .i64) _ _ _ 1900 [.int .i64 1900] from rfl) (Reps.one (show Kd.M (Kd.int .i64) _ _ _ 2000 [.int .i64 2000] from rfl) (Reps.one (show Kd.M (Kd.int .i64) _ _ _ 2024 [.int .i64 2024] from rfl) (Reps.one (show Kd.M (Kd.int .i64) _ _ _ 2026 [.int .i64 2026] from rfl) (Reps.one (show Kd.M (Kd.int .i64) _ _ _ 2100 [.int .i64 2100] from rfl) (Reps.one (show Kd.M (Kd.int .i64) _ _ _ 2199 [.int .i64 2199] from rfl) (Reps.one (show Kd.M (Kd.int .i64) _ _ _ 1996 [.int .i64 1996] from rfl) (Reps.none _ _)))))))))
              intro v107 w14 ho15 hb hg_ hnew_
              clear hg_ hnew_
              (first | rw [← Ny106.out] at ho15 | (simp only [Int.reduceToNat] at ho15; rw [← Ny106.out] at ho15))
              have n0_ := Aside0.mk (Kd.R_lower ho15 (keep_size (w := w) (g := g) (row := none) (by repeat (first | (with_reducible first | exact HK.out | apply KeepBut.set_ | apply keep_drewN | apply keep_drew | apply keep_alloc | refine keep_far ?_ GW105.out _) | exact HK.out))))
              have n2_ := Aside0.mk (blk_below (g := gb105) (o := .cells #[.int .i64 0, .int .i64 0, .int .i64 0] 24 (0, 0)) (by (with_reducible repeat (first | refine blk_drewN ?_ _ | refine blk_drew ?_ | refine blk_alloc ?_ _)); exact BK105.out) hb)
              have n3_ := Aside0.mk (KeepBut.trans (by repeat (first | (with_reducible first | exact HK.out | apply KeepBut.set_ | apply keep_drewN | apply keep_drew | apply keep_alloc | refine keep_far ?_ GW105.out _) | exact HK.out)) (KeepBut.of_below hb g none) (.inl rfl))
              have n4_ := Aside0.mk (below_step (by repeat (first | (with_reducible first | exact HB.out | apply below_alloc | apply pw_below_drewN | apply below_drew1 | refine below_set ?_ GE105.out) | exact HB.out)) hb)
              have z_HI0 := fun (h0_ : b 2 = false) => (show IsS52 w0 w14 g s0_0 s0_1 from by first | exact (IsS52.below (by repeat (first | (with_reducible first | exact (Q_HI0 h0_) | apply IsS52.alloc | apply IsS52.drewN | apply IsS52.drew | apply IsS52.set_1 | refine IsS52.far ?_ NB0_105.out _) | exact (Q_HI0 h0_))) hb))
              have z_HI0_e2 := fun (h0_ : b 2 = true) (h1_ : b 6 = false) => (show IsS52 w0 w14 g s0_0 t110 from by first | exact (IsS52.below (by repeat (first | (with_reducible first | exact (Q_HI0_e2 h0_ h1_) | apply IsS52.alloc | apply IsS52.drewN | apply IsS52.drew | apply IsS52.set_1 | refine IsS52.far ?_ NB0_105.out _) | exact (Q_HI0_e2 h0_ h1_))) hb))
              have z_HI0_e6 := fun (h0_ : b 6 = true) (h1_ : b 10 = false) => (show IsS52 w0 w14 g s0_0 t113 from by first | exact (IsS52.below (by repeat (first | (with_reducible first | exact (Q_HI0_e6 h0_ h1_) | apply IsS52.alloc | apply IsS52.drewN | apply IsS52.drew | apply IsS52.set_1 | refine IsS52.far ?_ NB0_105.out _) | exact (Q_HI0_e6 h0_ h1_))) hb))
              have z_HO116 := fun (h0_ : b 8 = true) => (show Kd.R (Kd.int .i64) 3 w14 w.heap.size (fun _ => True) v115 y114 from by first | exact (Kd.R_elder' (by (with_reducible repeat (first | apply Kd.R_alloc | apply Kd.R_drewN | apply Kd.R_drew)); exact (Q_HO116 h0_)) (Kd.R_base ho15) hb) | exact Kd.R_mono (Kd.R_elder' (by (with_reducible repeat (first | apply Kd.R_alloc | apply Kd.R_drewN | apply Kd.R_drew)); exact (Q_HO116 h0_)) (Kd.R_base ho15) hb) (fun _ h_ => by first | trivial | exact h_ | exact h_.1))
              have z_HI0_e10 := fun (h0_ : b 10 = true) => (show IsS52 w0 w14 g s0_0 t118 from by first | exact (IsS52.below (by repeat (first | (with_reducible first | exact (Q_HI0_e10 h0_) | apply IsS52.alloc | apply IsS52.drewN | apply IsS52.drew | apply IsS52.set_1 | refine IsS52.far ?_ NB0_105.out _) | exact (Q_HI0_e10 h0_))) hb))
              have z_BK120 := fun (h0_ : b 14 = true) (h1_ : b 15 = false) => (show w14.heap[gb120]? = some (.cells #[.int .i64 0, .int .i64 0, .int .i64 0] 24 (0, 0)) from by first | exact (blk_below (g := gb120) (o := .cells #[.int .i64 0, .int .i64 0, .int .i64 0] 24 (0, 0)) (by (with_reducible repeat (first | refine blk_drewN ?_ _ | refine blk_drew ?_ | refine blk_alloc ?_ _)); exact (Q_BK120 h0_ h1_)) hb))
              clear BK105
              clear HK
              clear HB
              have HO108 := n0_
              have BK105 := n2_
              have HK := n3_
              have HB := n4_
              clear n0_ n2_ n3_ n4_
              clear hb ho15
              obtain ⟨Ao16, co16, eo16⟩ := Kd.R_slice HO108.out
              subst eo16
              obtain ⟨ado16, fo16, _⟩ := Kd.at_int (Kd.R_reads' HO108.out).2.2 0 (by decide) (by rw [Ny106.out]; simp)
              cases fo16
              refine hK.out _ _ ⟨.slice (some ado16) y106.length co16, ado16, v115, adz_v115, gb120, m3_, m11_, m14_, (by rw [ha.out]; exact putSel_upk 0 hb_ rfl rfl rfl), (by (with_reducible repeat (first | refine blk_drewN ?_ _ | refine blk_drew ?_ | refine blk_alloc ?_ _)); exact BK105.out), z_HI0, (by repeat (first | (with_reducible first | exact HK.out | apply KeepBut.set_ | apply keep_drewN | apply keep_drew | apply keep_alloc | refine keep_far ?_ GW105.out _) | exact HK.out)), (by repeat (first | (with_reducible first | exact HB.out | apply below_alloc | apply pw_below_drewN | apply below_drew1 | refine below_set ?_ GE105.out) | exact HB.out)), fun _ => (by (with_reducible repeat (first | apply Kd.R_alloc | apply Kd.R_drewN | apply Kd.R_drew)); exact HO108.out), fun _ => ⟨_, rfl⟩, z_HI0_e2, z_HI0_e6, z_HO116, Q_HA_HO116, z_HI0_e10, z_BK120, Q_GW120, Q_GE120, Q_NB0_120, Q_NB120_0, Q_NB105_120, Q_NB120_105, fun h0_ => absurd ((hoff 15 (by kernel_rfl)).symm.trans h0_) (by decide), fun h0_ => absurd ((hoff 3 (by kernel_rfl)).symm.trans h0_) (by decide), Q_X11_, Q_X14_⟩
            refine steps_cons ?_ ?_
            · rintro b a w' ⟨v107, adz_v107, v115, adz_v115, gb120, m3_, m11_, m14_, ha, Q_BK105, Q_HI0, Q_HK, Q_HB, Q_HO108, Q_HA_HO108, Q_HI0_e2, Q_HI0_e6, Q_HO116, Q_HA_HO116, Q_HI0_e10, Q_BK120, Q_GW120, Q_GE120, Q_NB0_120, Q_NB120_0, Q_NB105_120, Q_NB120_105, Q_BK120_e15, Q_X3_, Q_X11_, Q_X14_⟩ hb_ hon hoff
              refine ⟨_, rfl, fun K hK => ?_⟩
              have e7 : a.tmps[7]? = some (.pointer (some ⟨g, 0, none⟩)) := by rw [ha]; exact (putSel_off rfl).trans rfl
              replace ha := Aside0.mk ha
              have BK105 := Aside0.mk Q_BK105
              have HI0 := Aside0.mk (Q_HI0 hb_)
              have HK := Aside0.mk Q_HK
              have HB := Aside0.mk Q_HB
              refine goes_ Try.func29 (by kernel_rfl) rfl #[.pointer (some ⟨g, 0, none⟩), .int .i64 7] (by rfl) rfl rfl (by first | (simp only [List.map_toArray, List.map_cons, List.map_nil, Act.eval, Array.getD_eq_getD_getElem?, Option.getD_some, e7]; done) | (simp only [List.map_toArray, List.map_cons, List.map_nil, Act.eval, Array.getD_eq_getD_getElem?, Option.getD_some, e7]; rfl)) ?_
              with_reducible refine (spec_l20Rd_pick.calls k g s0_0 s0_1 7 t109 t110 w0 _ ?side1 ?side2 A3.out).mono ?_
              (case side1 => repeat (first | (with_reducible first | exact HI0.out | apply IsS52.alloc | apply IsS52.drewN | apply IsS52.drew | apply IsS52.set_1 | refine IsS52.far ?_ NB0_105.out _) | exact HI0.out))
              (case side2 => repeat (first | (with_reducible first | exact HB.out | apply below_alloc | apply pw_below_drewN | apply below_drew1 | refine below_set ?_ (IsS52.ge HI0.out) | refine below_set ?_ GE105.out) | exact HB.out))
              rintro e w14 ⟨rfl, hi, hb, hk⟩
              refine ⟨_, rfl, ?_⟩
              have n0_ := Aside0.mk (KeepBut.blk hk (g' := gb105) (o := .cells #[.int .i64 0, .int .i64 0, .int .i64 0] 24 (0, 0)) (by (with_reducible repeat (first | refine blk_drewN ?_ _ | refine blk_drew ?_ | refine blk_alloc ?_ _)); exact BK105.out) NB105_0.out (by simp))
              have n1_ := Aside0.mk (KeepBut.trans (by repeat (first | (with_reducible first | exact HK.out | apply KeepBut.set_ | apply keep_drewN | apply keep_drew | apply keep_alloc | refine keep_far ?_ GW105.out _) | exact HK.out)) hk (.inl rfl))
              have n2_ := Aside0.mk (hb)
              have n3_ := Aside0.mk (hi)
              have z_HO108 := fun (h0_ : b 0 = true) => (show Kd.R (Kd.int .i64) 3 w14 w.heap.size (fun _ => True) v107 y106 from by first | exact (Kd.R_mono (Kd.R_keep (IsS52.apart (show IsS52 w0 _ g s0_0 s0_1 from by repeat (first | (with_reducible first | exact HI0.out | apply IsS52.alloc | apply IsS52.drewN | apply IsS52.drew | apply IsS52.set_1 | refine IsS52.far ?_ NB0_105.out _) | exact HI0.out)) (by (with_reducible repeat (first | apply Kd.R_alloc | apply Kd.R_drewN | apply Kd.R_drew)); exact (Q_HO108 h0_)) (by decide)) hk (fun _ h => h.2)) (fun _ h => h.1)) | exact Kd.R_mono (Kd.R_mono (Kd.R_keep (IsS52.apart (show IsS52 w0 _ g s0_0 s0_1 from by repeat (first | (with_reducible first | exact HI0.out | apply IsS52.alloc | apply IsS52.drewN | apply IsS52.drew | apply IsS52.set_1 | refine IsS52.far ?_ NB0_105.out _) | exact HI0.out)) (by (with_reducible repeat (first | apply Kd.R_alloc | apply Kd.R_drewN | apply Kd.R_drew)); exact (Q_HO108 h0_)) (by decide)) hk (fun _ h => h.2)) (fun _ h => h.1)) (fun _ h_ => by first | trivial | exact h_ | exact h_.1))
              have z_HO116 := fun (h0_ : b 8 = true) => (show Kd.R (Kd.int .i64) 3 w14 w.heap.size (fun _ => True) v115 y114 from by first | exact (Kd.R_mono (Kd.R_keep (IsS52.apart (show IsS52 w0 _ g s0_0 s0_1 from by repeat (first | (with_reducible first | exact HI0.out | apply IsS52.alloc | apply IsS52.drewN | apply IsS52.drew | apply IsS52.set_1 | refine IsS52.far ?_ NB0_105.out _) | exact HI0.out)) (by (with_reducible repeat (first | apply Kd.R_alloc | apply Kd.R_drewN | apply Kd.R_drew)); exact (Q_HO116 h0_)) (by decide)) hk (fun _ h => h.2)) (fun _ h => h.1)) | exact Kd.R_mono (Kd.R_mono (Kd.R_keep (IsS52.apart (show IsS52 w0 _ g s0_0 s0_1 from by repeat (first | (with_reducible first | exact HI0.out | apply IsS52.alloc | apply IsS52.drewN | apply IsS52.drew | apply IsS52.set_1 | refine IsS52.far ?_ NB0_105.out _) | exact HI0.out)) (by (with_reducible repeat (first | apply Kd.R_alloc | apply Kd.R_drewN | apply Kd.R_drew)); exact (Q_HO116 h0_)) (by decide)) hk (fun _ h => h.2)) (fun _ h => h.1)) (fun _ h_ => by first | trivial | exact h_ | exact h_.1))
              have z_BK120 := fun (h0_ : b 14 = true) (h1_ : b 15 = false) => (show w14.heap[gb120]? = some (.cells #[.int .i64 0, .int .i64 0, .int .i64 0] 24 (0, 0)) from by first | exact (KeepBut.blk hk (g' := gb120) (o := .cells #[.int .i64 0, .int .i64 0, .int .i64 0] 24 (0, 0)) (by (with_reducible repeat (first | refine blk_drewN ?_ _ | refine blk_drew ?_ | refine blk_alloc ?_ _)); exact (Q_BK120 h0_ h1_)) (Q_NB120_0 h0_) (by simp)))
              clear BK105
              clear HK
              clear HB
              clear HI0
              have BK105 := n0_
              have HK := n1_
              have HB := n2_
              have HI0 := n3_
              clear n0_ n1_ n2_ n3_
              (try clear hb)
              (try clear hb2)
              (try clear hk)
              (try clear hi)
              refine hK.out _ _ ⟨v107, adz_v107, v115, adz_v115, gb120, m3_, m11_, m14_, (by rw [ha.out]; exact putSel_upk 1 hb_ rfl rfl rfl), (by (with_reducible repeat (first | refine blk_drewN ?_ _ | refine blk_drew ?_ | refine blk_alloc ?_ _)); exact BK105.out), fun h0_ => absurd ((up_self b 2).symm.trans h0_) (by decide), (by repeat (first | (with_reducible first | exact HK.out | apply KeepBut.set_ | apply keep_drewN | apply keep_drew | apply keep_alloc | refine keep_far ?_ GW105.out _) | exact HK.out)), (by repeat (first | (with_reducible first | exact HB.out | apply below_alloc | apply pw_below_drewN | apply below_drew1 | refine below_set ?_ (IsS52.ge HI0.out) | refine below_set ?_ GE105.out) | exact HB.out)), z_HO108, Q_HA_HO108, fun _ _ => (by repeat (first | (with_reducible first | exact HI0.out | apply IsS52.alloc | apply IsS52.drewN | apply IsS52.drew | apply IsS52.set_1 | refine IsS52.far ?_ NB0_105.out _) | exact HI0.out)), fun h0_ _ => absurd ((hoff 6 (by kernel_rfl)).symm.trans h0_) (by decide), z_HO116, Q_HA_HO116, fun h0_ => absurd ((hoff 10 (by kernel_rfl)).symm.trans h0_) (by decide), z_BK120, Q_GW120, Q_GE120, Q_NB0_120, Q_NB120_0, Q_NB105_120, Q_NB120_105, fun h0_ => absurd ((hoff 15 (by kernel_rfl)).symm.trans h0_) (by decide), fun h0_ => absurd ((hoff 3 (by kernel_rfl)).symm.trans h0_) (by decide), fun h0_ => absurd ((hoff 11 (by kernel_rfl)).symm.trans h0_) (by decide), Q_X14_⟩
            refine steps_cons ?_ ?_
            · rintro b a w' ⟨v107, adz_v107, v115, adz_v115, gb120, m3_, m11_, m14_, ha, Q_BK105, Q_HI0, Q_HK, Q_HB, Q_HO108, Q_HA_HO108, Q_HI0_e2, Q_HI0_e6, Q_HO116, Q_HA_HO116, Q_HI0_e10, Q_BK120, Q_GW120, Q_GE120, Q_NB0_120, Q_NB120_0, Q_NB105_120, Q_NB120_105, Q_BK120_e15, Q_X3_, Q_X11_, Q_X14_⟩ hb_ hon hoff
              refine ⟨_, rfl, fun K hK => ?_⟩
              have e6 : a.tmps[6]? = some (v107) := by rw [ha]; exact putSel_on (e := (0, 6, v107)) 0 rfl rfl (hon 0 (by kernel_rfl)) rfl
              have e8 : a.tmps[8]? = some (.int .i64 t109) := by rw [ha]; exact putSel_on (e := (2, 8, .int .i64 t109)) 1 rfl rfl (hon 2 (by kernel_rfl)) rfl
              replace ha := Aside0.mk ha
              have BK105 := Aside0.mk Q_BK105
              have HK := Aside0.mk Q_HK
              have HB := Aside0.mk Q_HB
              have HO108 := Aside0.mk (Q_HO108 (hon 0 (by kernel_rfl)))
              have HA_HO108 := Aside0.mk (Q_HA_HO108 (hon 0 (by kernel_rfl)))
              obtain ⟨c_, hv_⟩ := HA_HO108.out
              rw [hv_] at e6
              refine value_ (w1 := w') (v := .pointer (some (adz_v107.add (t109).toNat))) (by rfl) rfl ?_ ?_
              · go_simp
                (try simp only [i64_w])
                try rfl
              refine hK.out _ _ ⟨v107, adz_v107, v115, adz_v115, gb120, (.pointer (some (adz_v107.add (t109).toNat))), m11_, m14_, (by rw [ha.out]; exact putSel_upk 2 hb_ rfl rfl rfl), Q_BK105, fun h0_ => absurd ((hon 2 (by kernel_rfl)).symm.trans h0_) (by decide), Q_HK, Q_HB, Q_HO108, Q_HA_HO108, Q_HI0_e2, Q_HI0_e6, Q_HO116, Q_HA_HO116, Q_HI0_e10, Q_BK120, Q_GW120, Q_GE120, Q_NB0_120, Q_NB120_0, Q_NB105_120, Q_NB120_105, fun h0_ => absurd ((hoff 15 (by kernel_rfl)).symm.trans h0_) (by decide), fun _ => rfl, Q_X11_, Q_X14_⟩
            refine steps_cons ?_ ?_
            · rintro b a w' ⟨v107, adz_v107, v115, adz_v115, gb120, m3_, m11_, m14_, ha, Q_BK105, Q_HI0, Q_HK, Q_HB, Q_HO108, Q_HA_HO108, Q_HI0_e2, Q_HI0_e6, Q_HO116, Q_HA_HO116, Q_HI0_e10, Q_BK120, Q_GW120, Q_GE120, Q_NB0_120, Q_NB120_0, Q_NB105_120, Q_NB120_105, Q_BK120_e15, Q_X3_, Q_X11_, Q_X14_⟩ hb_ hon hoff
              refine ⟨_, rfl, fun K hK => ?_⟩
              have e9 : a.tmps[9]? = some (m3_) := by rw [ha]; exact putSel_on (e := (3, 9, m3_)) 2 rfl rfl (hon 3 (by kernel_rfl)) rfl
              rw [Q_X3_ (hon 3 (by kernel_rfl))] at e9
              replace ha := Aside0.mk ha
              have BK105 := Aside0.mk Q_BK105
              have HK := Aside0.mk Q_HK
              have HB := Aside0.mk Q_HB
              have HO108 := Aside0.mk (Q_HO108 (hon 0 (by kernel_rfl)))
              have HA_HO108 := Aside0.mk (Q_HA_HO108 (hon 0 (by kernel_rfl)))
              obtain ⟨c_, hv_⟩ := HA_HO108.out
              have hF_ := HO108.out
              rw [hv_] at hF_
              obtain ⟨ad_, ea_, hx_⟩ := Kd.at_int (Kd.R_reads' hF_).2.2 t109 (of_eq_true pi111) (of_eq_true qi111)
              cases ea_
              refine value_ (w1 := w') (v := .int .i64 (rd y106 t109)) (by rfl) rfl ?_ ?_
              · go_simp
                (try simp only [i64_w])
                try rfl
              refine hK.out _ _ ⟨v107, adz_v107, v115, adz_v115, gb120, m3_, m11_, m14_, (by rw [ha.out]; exact putSel_upk 3 hb_ rfl rfl rfl), Q_BK105, fun h0_ => absurd ((hon 2 (by kernel_rfl)).symm.trans h0_) (by decide), Q_HK, Q_HB, Q_HO108, Q_HA_HO108, Q_HI0_e2, Q_HI0_e6, Q_HO116, Q_HA_HO116, Q_HI0_e10, Q_BK120, Q_GW120, Q_GE120, Q_NB0_120, Q_NB120_0, Q_NB105_120, Q_NB120_105, fun h0_ => absurd ((hoff 15 (by kernel_rfl)).symm.trans h0_) (by decide), Q_X3_, Q_X11_, Q_X14_⟩
            refine steps_cons ?_ ?_
            · rintro b a w' ⟨v107, adz_v107, v115, adz_v115, gb120, m3_, m11_, m14_, ha, Q_BK105, Q_HI0, Q_HK, Q_HB, Q_HO108, Q_HA_HO108, Q_HI0_e2, Q_HI0_e6, Q_HO116, Q_HA_HO116, Q_HI0_e10, Q_BK120, Q_GW120, Q_GE120, Q_NB0_120, Q_NB120_0, Q_NB105_120, Q_NB120_105, Q_BK120_e15, Q_X3_, Q_X11_, Q_X14_⟩ hb_ hon hoff
              refine ⟨_, rfl, fun K hK => ?_⟩
              have e11 : a.tmps[11]? = some (.pointer (some ⟨g, 0, none⟩)) := by rw [ha]; exact (putSel_off rfl).trans rfl
              replace ha := Aside0.mk ha
              have BK105 := Aside0.mk Q_BK105
              have HK := Aside0.mk Q_HK
              have HB := Aside0.mk Q_HB
              have HI0 := Aside0.mk (Q_HI0_e2 (hon 2 (by kernel_rfl)) hb_)
              refine goes_ Try.func29 (by kernel_rfl) rfl #[.pointer (some ⟨g, 0, none⟩), .int .i64 12] (by rfl) rfl rfl (by first | (simp only [List.map_toArray, List.map_cons, List.map_nil, Act.eval, Array.getD_eq_getD_getElem?, Option.getD_some, e11]; done) | (simp only [List.map_toArray, List.map_cons, List.map_nil, Act.eval, Array.getD_eq_getD_getElem?, Option.getD_some, e11]; rfl)) ?_
              with_reducible refine (spec_l20Rd_pick.calls k g s0_0 t110 12 t112 t113 w0 _ ?side1 ?side2 A6.out).mono ?_
              (case side1 => repeat (first | (with_reducible first | exact HI0.out | apply IsS52.alloc | apply IsS52.drewN | apply IsS52.drew | apply IsS52.set_1 | refine IsS52.far ?_ NB0_105.out _) | exact HI0.out))
              (case side2 => repeat (first | (with_reducible first | exact HB.out | apply below_alloc | apply pw_below_drewN | apply below_drew1 | refine below_set ?_ (IsS52.ge HI0.out) | refine below_set ?_ GE105.out) | exact HB.out))
              rintro e w16 ⟨rfl, hi, hb, hk⟩
              refine ⟨_, rfl, ?_⟩
              have n0_ := Aside0.mk (KeepBut.blk hk (g' := gb105) (o := .cells #[.int .i64 0, .int .i64 0, .int .i64 0] 24 (0, 0)) (by (with_reducible repeat (first | refine blk_drewN ?_ _ | refine blk_drew ?_ | refine blk_alloc ?_ _)); exact BK105.out) NB105_0.out (by simp))
              have n1_ := Aside0.mk (KeepBut.trans (by repeat (first | (with_reducible first | exact HK.out | apply KeepBut.set_ | apply keep_drewN | apply keep_drew | apply keep_alloc | refine keep_far ?_ GW105.out _) | exact HK.out)) hk (.inl rfl))
              have n2_ := Aside0.mk (hb)
              have n3_ := Aside0.mk (hi)
              have z_HO108 := fun (h0_ : b 0 = true) => (show Kd.R (Kd.int .i64) 3 w16 w.heap.size (fun _ => True) v107 y106 from by first | exact (Kd.R_mono (Kd.R_keep (IsS52.apart (show IsS52 w0 _ g s0_0 t110 from by repeat (first | (with_reducible first | exact HI0.out | apply IsS52.alloc | apply IsS52.drewN | apply IsS52.drew | apply IsS52.set_1 | refine IsS52.far ?_ NB0_105.out _) | exact HI0.out)) (by (with_reducible repeat (first | apply Kd.R_alloc | apply Kd.R_drewN | apply Kd.R_drew)); exact (Q_HO108 h0_)) (by decide)) hk (fun _ h => h.2)) (fun _ h => h.1)) | exact Kd.R_mono (Kd.R_mono (Kd.R_keep (IsS52.apart (show IsS52 w0 _ g s0_0 t110 from by repeat (first | (with_reducible first | exact HI0.out | apply IsS52.alloc | apply IsS52.drewN | apply IsS52.drew | apply IsS52.set_1 | refine IsS52.far ?_ NB0_105.out _) | exact HI0.out)) (by (with_reducible repeat (first | apply Kd.R_alloc | apply Kd.R_drewN | apply Kd.R_drew)); exact (Q_HO108 h0_)) (by decide)) hk (fun _ h => h.2)) (fun _ h => h.1)) (fun _ h_ => by first | trivial | exact h_ | exact h_.1))
              have z_HO116 := fun (h0_ : b 8 = true) => (show Kd.R (Kd.int .i64) 3 w16 w.heap.size (fun _ => True) v115 y114 from by first | exact (Kd.R_mono (Kd.R_keep (IsS52.apart (show IsS52 w0 _ g s0_0 t110 from by repeat (first | (with_reducible first | exact HI0.out | apply IsS52.alloc | apply IsS52.drewN | apply IsS52.drew | apply IsS52.set_1 | refine IsS52.far ?_ NB0_105.out _) | exact HI0.out)) (by (with_reducible repeat (first | apply Kd.R_alloc | apply Kd.R_drewN | apply Kd.R_drew)); exact (Q_HO116 h0_)) (by decide)) hk (fun _ h => h.2)) (fun _ h => h.1)) | exact Kd.R_mono (Kd.R_mono (Kd.R_keep (IsS52.apart (show IsS52 w0 _ g s0_0 t110 from by repeat (first | (with_reducible first | exact HI0.out | apply IsS52.alloc | apply IsS52.drewN | apply IsS52.drew | apply IsS52.set_1 | refine IsS52.far ?_ NB0_105.out _) | exact HI0.out)) (by (with_reducible repeat (first | apply Kd.R_alloc | apply Kd.R_drewN | apply Kd.R_drew)); exact (Q_HO116 h0_)) (by decide)) hk (fun _ h => h.2)) (fun _ h => h.1)) (fun _ h_ => by first | trivial | exact h_ | exact h_.1))
              have z_BK120 := fun (h0_ : b 14 = true) (h1_ : b 15 = false) => (show w16.heap[gb120]? = some (.cells #[.int .i64 0, .int .i64 0, .int .i64 0] 24 (0, 0)) from by first | exact (KeepBut.blk hk (g' := gb120) (o := .cells #[.int .i64 0, .int .i64 0, .int .i64 0] 24 (0, 0)) (by (with_reducible repeat (first | refine blk_drewN ?_ _ | refine blk_drew ?_ | refine blk_alloc ?_ _)); exact (Q_BK120 h0_ h1_)) (Q_NB120_0 h0_) (by simp)))
              clear BK105
              clear HK
              clear HB
              clear HI0
              have BK105 := n0_
              have HK := n1_
              have HB := n2_
              have HI0 := n3_
              clear n0_ n1_ n2_ n3_
              (try clear hb)
              (try clear hb2)
              (try clear hk)
              (try clear hi)
              refine hK.out _ _ ⟨v107, adz_v107, v115, adz_v115, gb120, m3_, m11_, m14_, (by rw [ha.out]; exact putSel_upk 4 hb_ rfl rfl rfl), (by (with_reducible repeat (first | refine blk_drewN ?_ _ | refine blk_drew ?_ | refine blk_alloc ?_ _)); exact BK105.out), fun h0_ => absurd ((hon 2 (by kernel_rfl)).symm.trans h0_) (by decide), (by repeat (first | (with_reducible first | exact HK.out | apply KeepBut.set_ | apply keep_drewN | apply keep_drew | apply keep_alloc | refine keep_far ?_ GW105.out _) | exact HK.out)), (by repeat (first | (with_reducible first | exact HB.out | apply below_alloc | apply pw_below_drewN | apply below_drew1 | refine below_set ?_ (IsS52.ge HI0.out) | refine below_set ?_ GE105.out) | exact HB.out)), z_HO108, Q_HA_HO108, fun _ h1_ => absurd ((up_self b 6).symm.trans h1_) (by decide), fun _ _ => (by repeat (first | (with_reducible first | exact HI0.out | apply IsS52.alloc | apply IsS52.drewN | apply IsS52.drew | apply IsS52.set_1 | refine IsS52.far ?_ NB0_105.out _) | exact HI0.out)), z_HO116, Q_HA_HO116, fun h0_ => absurd ((hoff 10 (by kernel_rfl)).symm.trans h0_) (by decide), z_BK120, Q_GW120, Q_GE120, Q_NB0_120, Q_NB120_0, Q_NB105_120, Q_NB120_105, fun h0_ => absurd ((hoff 15 (by kernel_rfl)).symm.trans h0_) (by decide), Q_X3_, fun h0_ => absurd ((hoff 11 (by kernel_rfl)).symm.trans h0_) (by decide), Q_X14_⟩
            refine steps_cons ?_ ?_
            · rintro b a w' ⟨v107, adz_v107, v115, adz_v115, gb120, m3_, m11_, m14_, ha, Q_BK105, Q_HI0, Q_HK, Q_HB, Q_HO108, Q_HA_HO108, Q_HI0_e2, Q_HI0_e6, Q_HO116, Q_HA_HO116, Q_HI0_e10, Q_BK120, Q_GW120, Q_GE120, Q_NB0_120, Q_NB120_0, Q_NB105_120, Q_NB120_105, Q_BK120_e15, Q_X3_, Q_X11_, Q_X14_⟩ hb_ hon hoff
              refine ⟨_, rfl, fun K hK => ?_⟩
              have e12 : a.tmps[12]? = some (.int .i64 t112) := by rw [ha]; exact putSel_on (e := (6, 12, .int .i64 t112)) 4 rfl rfl (hon 6 (by kernel_rfl)) rfl
              replace ha := Aside0.mk ha
              have BK105 := Aside0.mk Q_BK105
              have HK := Aside0.mk Q_HK
              have HB := Aside0.mk Q_HB
              refine value_ (w1 := w') (v := .int .i64 (wrap64 (1 + t112))) (by rfl) rfl ?_ ?_
              · go_simp
                (try simp only [i64_w])
                try rfl
              refine hK.out _ _ ⟨v107, adz_v107, v115, adz_v115, gb120, m3_, m11_, m14_, (by rw [ha.out]; exact putSel_upk 5 hb_ rfl rfl rfl), Q_BK105, fun h0_ => absurd ((hon 2 (by kernel_rfl)).symm.trans h0_) (by decide), Q_HK, Q_HB, Q_HO108, Q_HA_HO108, fun _ h1_ => absurd ((hon 6 (by kernel_rfl)).symm.trans h1_) (by decide), Q_HI0_e6, Q_HO116, Q_HA_HO116, Q_HI0_e10, Q_BK120, Q_GW120, Q_GE120, Q_NB0_120, Q_NB120_0, Q_NB105_120, Q_NB120_105, fun h0_ => absurd ((hoff 15 (by kernel_rfl)).symm.trans h0_) (by decide), Q_X3_, Q_X11_, Q_X14_⟩
            refine steps_cons ?_ ?_
            · rintro b a w' ⟨v107, adz_v107, v115, adz_v115, gb120, m3_, m11_, m14_, ha, Q_BK105, Q_HI0, Q_HK, Q_HB, Q_HO108, Q_HA_HO108, Q_HI0_e2, Q_HI0_e6, Q_HO116, Q_HA_HO116, Q_HI0_e10, Q_BK120, Q_GW120, Q_GE120, Q_NB0_120, Q_NB120_0, Q_NB105_120, Q_NB120_105, Q_BK120_e15, Q_X3_, Q_X11_, Q_X14_⟩ hb_ hon hoff
              refine ⟨_, rfl, fun K hK => ?_⟩
              replace ha := Aside0.mk ha
              have BK105 := Aside0.mk Q_BK105
              have HK := Aside0.mk Q_HK
              have HB := Aside0.mk Q_HB
              refine Kd.R_lit_step (Kd.int .i64) _ 3 ?hg (N := 14) ?hd (xs := ([1, 28, 15, 31, 30, 29] : List Int)) (inner := [.int .i64 1, .int .i64 28, .int .i64 15, .int .i64 31, .int .i64 30, .int .i64 29]) (ok := fun _ => True) (okp := fun _ => True) ?hr ?hp (fun _ hk => hk) trivial (Below.refl _ _) (Nat.le_refl _) (by simp) ?_; (case hd => rfl); (case hg => rfl); (case hr => first | (go_simp; done) | (go_simp; rfl)); (case hp => exact (Reps.one (show Kd.M (Kd.int .i64) _ _ _ 1 [.int .i64 1] from rfl) (Reps.one (show Kd.M (Kd.int .i64) _ _ _ 28 [.int .i64 28] from rfl) (Reps.one (show Kd.M (Kd.int .i64) _ _ _ 15 [.int .i64 15] from rfl) (Reps.one (show Kd.M (Kd.int .i64) _ _ _ 31 [.int .i64 31] from rfl) (Reps.one (show Kd.M (Kd.int .i64) _ _ _ 30 [.int .i64 30] from rfl) (Reps.one (show Kd.M (Kd.int .i64) _ _ _ 29 [.int .i64 29] from rfl) (Reps.none _ _))))))))
              intro v115 w14 ho15 hb hg_ hnew_
              clear hg_ hnew_
              (first | rw [← Ny114.out] at ho15 | (simp only [Int.reduceToNat] at ho15; rw [← Ny114.out] at ho15))
              have n0_ := Aside0.mk (Kd.R_lower ho15 (keep_size (w := w) (g := g) (row := none) (by repeat (first | (with_reducible first | exact HK.out | apply KeepBut.set_ | apply keep_drewN | apply keep_drew | apply keep_alloc | refine keep_far ?_ GW105.out _) | exact HK.out))))
              have n2_ := Aside0.mk (blk_below (g := gb105) (o := .cells #[.int .i64 0, .int .i64 0, .int .i64 0] 24 (0, 0)) (by (with_reducible repeat (first | refine blk_drewN ?_ _ | refine blk_drew ?_ | refine blk_alloc ?_ _)); exact BK105.out) hb)
              have n3_ := Aside0.mk (KeepBut.trans (by repeat (first | (with_reducible first | exact HK.out | apply KeepBut.set_ | apply keep_drewN | apply keep_drew | apply keep_alloc | refine keep_far ?_ GW105.out _) | exact HK.out)) (KeepBut.of_below hb g none) (.inl rfl))
              have n4_ := Aside0.mk (below_step (by repeat (first | (with_reducible first | exact HB.out | apply below_alloc | apply pw_below_drewN | apply below_drew1 | refine below_set ?_ GE105.out) | exact HB.out)) hb)
              have z_HI0 := fun (h0_ : b 2 = false) => (show IsS52 w0 w14 g s0_0 s0_1 from by first | exact (IsS52.below (by repeat (first | (with_reducible first | exact (Q_HI0 h0_) | apply IsS52.alloc | apply IsS52.drewN | apply IsS52.drew | apply IsS52.set_1 | refine IsS52.far ?_ NB0_105.out _) | exact (Q_HI0 h0_))) hb))
              have z_HO108 := fun (h0_ : b 0 = true) => (show Kd.R (Kd.int .i64) 3 w14 w.heap.size (fun _ => True) v107 y106 from by first | exact (Kd.R_elder' (by (with_reducible repeat (first | apply Kd.R_alloc | apply Kd.R_drewN | apply Kd.R_drew)); exact (Q_HO108 h0_)) (Kd.R_base ho15) hb) | exact Kd.R_mono (Kd.R_elder' (by (with_reducible repeat (first | apply Kd.R_alloc | apply Kd.R_drewN | apply Kd.R_drew)); exact (Q_HO108 h0_)) (Kd.R_base ho15) hb) (fun _ h_ => by first | trivial | exact h_ | exact h_.1))
              have z_HI0_e2 := fun (h0_ : b 2 = true) (h1_ : b 6 = false) => (show IsS52 w0 w14 g s0_0 t110 from by first | exact (IsS52.below (by repeat (first | (with_reducible first | exact (Q_HI0_e2 h0_ h1_) | apply IsS52.alloc | apply IsS52.drewN | apply IsS52.drew | apply IsS52.set_1 | refine IsS52.far ?_ NB0_105.out _) | exact (Q_HI0_e2 h0_ h1_))) hb))
              have z_HI0_e6 := fun (h0_ : b 6 = true) (h1_ : b 10 = false) => (show IsS52 w0 w14 g s0_0 t113 from by first | exact (IsS52.below (by repeat (first | (with_reducible first | exact (Q_HI0_e6 h0_ h1_) | apply IsS52.alloc | apply IsS52.drewN | apply IsS52.drew | apply IsS52.set_1 | refine IsS52.far ?_ NB0_105.out _) | exact (Q_HI0_e6 h0_ h1_))) hb))
              have z_HI0_e10 := fun (h0_ : b 10 = true) => (show IsS52 w0 w14 g s0_0 t118 from by first | exact (IsS52.below (by repeat (first | (with_reducible first | exact (Q_HI0_e10 h0_) | apply IsS52.alloc | apply IsS52.drewN | apply IsS52.drew | apply IsS52.set_1 | refine IsS52.far ?_ NB0_105.out _) | exact (Q_HI0_e10 h0_))) hb))
              have z_BK120 := fun (h0_ : b 14 = true) (h1_ : b 15 = false) => (show w14.heap[gb120]? = some (.cells #[.int .i64 0, .int .i64 0, .int .i64 0] 24 (0, 0)) from by first | exact (blk_below (g := gb120) (o := .cells #[.int .i64 0, .int .i64 0, .int .i64 0] 24 (0, 0)) (by (with_reducible repeat (first | refine blk_drewN ?_ _ | refine blk_drew ?_ | refine blk_alloc ?_ _)); exact (Q_BK120 h0_ h1_)) hb))
              clear BK105
              clear HK
              clear HB
              have HO116 := n0_
              have BK105 := n2_
              have HK := n3_
              have HB := n4_
              clear n0_ n2_ n3_ n4_
              clear hb ho15
              obtain ⟨Ao16, co16, eo16⟩ := Kd.R_slice HO116.out
              subst eo16
              obtain ⟨ado16, fo16, _⟩ := Kd.at_int (Kd.R_reads' HO116.out).2.2 0 (by decide) (by rw [Ny114.out]; simp)
              cases fo16
              refine hK.out _ _ ⟨v107, adz_v107, .slice (some ado16) y114.length co16, ado16, gb120, m3_, m11_, m14_, (by rw [ha.out]; exact putSel_upk 6 hb_ rfl rfl rfl), (by (with_reducible repeat (first | refine blk_drewN ?_ _ | refine blk_drew ?_ | refine blk_alloc ?_ _)); exact BK105.out), z_HI0, (by repeat (first | (with_reducible first | exact HK.out | apply KeepBut.set_ | apply keep_drewN | apply keep_drew | apply keep_alloc | refine keep_far ?_ GW105.out _) | exact HK.out)), (by repeat (first | (with_reducible first | exact HB.out | apply below_alloc | apply pw_below_drewN | apply below_drew1 | refine below_set ?_ GE105.out) | exact HB.out)), z_HO108, Q_HA_HO108, z_HI0_e2, z_HI0_e6, fun _ => (by (with_reducible repeat (first | apply Kd.R_alloc | apply Kd.R_drewN | apply Kd.R_drew)); exact HO116.out), fun _ => ⟨_, rfl⟩, z_HI0_e10, z_BK120, Q_GW120, Q_GE120, Q_NB0_120, Q_NB120_0, Q_NB105_120, Q_NB120_105, fun h0_ => absurd ((hoff 15 (by kernel_rfl)).symm.trans h0_) (by decide), Q_X3_, fun h0_ => absurd ((hoff 11 (by kernel_rfl)).symm.trans h0_) (by decide), Q_X14_⟩
            refine steps_cons ?_ ?_
            · rintro b a w' ⟨v107, adz_v107, v115, adz_v115, gb120, m3_, m11_, m14_, ha, Q_BK105, Q_HI0, Q_HK, Q_HB, Q_HO108, Q_HA_HO108, Q_HI0_e2, Q_HI0_e6, Q_HO116, Q_HA_HO116, Q_HI0_e10, Q_BK120, Q_GW120, Q_GE120, Q_NB0_120, Q_NB120_0, Q_NB105_120, Q_NB120_105, Q_BK120_e15, Q_X3_, Q_X11_, Q_X14_⟩ hb_ hon hoff
              refine ⟨_, rfl, fun K hK => ?_⟩
              have e15 : a.tmps[15]? = some (.pointer (some ⟨g, 0, none⟩)) := by rw [ha]; exact (putSel_off rfl).trans rfl
              replace ha := Aside0.mk ha
              have BK105 := Aside0.mk Q_BK105
              have HK := Aside0.mk Q_HK
              have HB := Aside0.mk Q_HB
              have HI0 := Aside0.mk (Q_HI0_e6 (hon 6 (by kernel_rfl)) hb_)
              refine goes_ Try.func29 (by kernel_rfl) rfl #[.pointer (some ⟨g, 0, none⟩), .int .i64 6] (by rfl) rfl rfl (by first | (simp only [List.map_toArray, List.map_cons, List.map_nil, Act.eval, Array.getD_eq_getD_getElem?, Option.getD_some, e15]; done) | (simp only [List.map_toArray, List.map_cons, List.map_nil, Act.eval, Array.getD_eq_getD_getElem?, Option.getD_some, e15]; rfl)) ?_
              with_reducible refine (spec_l20Rd_pick.calls k g s0_0 t113 6 t117 t118 w0 _ ?side1 ?side2 A7.out).mono ?_
              (case side1 => repeat (first | (with_reducible first | exact HI0.out | apply IsS52.alloc | apply IsS52.drewN | apply IsS52.drew | apply IsS52.set_1 | refine IsS52.far ?_ NB0_105.out _) | exact HI0.out))
              (case side2 => repeat (first | (with_reducible first | exact HB.out | apply below_alloc | apply pw_below_drewN | apply below_drew1 | refine below_set ?_ (IsS52.ge HI0.out) | refine below_set ?_ GE105.out) | exact HB.out))
              rintro e w17 ⟨rfl, hi, hb, hk⟩
              refine ⟨_, rfl, ?_⟩
              have n0_ := Aside0.mk (KeepBut.blk hk (g' := gb105) (o := .cells #[.int .i64 0, .int .i64 0, .int .i64 0] 24 (0, 0)) (by (with_reducible repeat (first | refine blk_drewN ?_ _ | refine blk_drew ?_ | refine blk_alloc ?_ _)); exact BK105.out) NB105_0.out (by simp))
              have n1_ := Aside0.mk (KeepBut.trans (by repeat (first | (with_reducible first | exact HK.out | apply KeepBut.set_ | apply keep_drewN | apply keep_drew | apply keep_alloc | refine keep_far ?_ GW105.out _) | exact HK.out)) hk (.inl rfl))
              have n2_ := Aside0.mk (hb)
              have n3_ := Aside0.mk (hi)
              have z_HO108 := fun (h0_ : b 0 = true) => (show Kd.R (Kd.int .i64) 3 w17 w.heap.size (fun _ => True) v107 y106 from by first | exact (Kd.R_mono (Kd.R_keep (IsS52.apart (show IsS52 w0 _ g s0_0 t113 from by repeat (first | (with_reducible first | exact HI0.out | apply IsS52.alloc | apply IsS52.drewN | apply IsS52.drew | apply IsS52.set_1 | refine IsS52.far ?_ NB0_105.out _) | exact HI0.out)) (by (with_reducible repeat (first | apply Kd.R_alloc | apply Kd.R_drewN | apply Kd.R_drew)); exact (Q_HO108 h0_)) (by decide)) hk (fun _ h => h.2)) (fun _ h => h.1)) | exact Kd.R_mono (Kd.R_mono (Kd.R_keep (IsS52.apart (show IsS52 w0 _ g s0_0 t113 from by repeat (first | (with_reducible first | exact HI0.out | apply IsS52.alloc | apply IsS52.drewN | apply IsS52.drew | apply IsS52.set_1 | refine IsS52.far ?_ NB0_105.out _) | exact HI0.out)) (by (with_reducible repeat (first | apply Kd.R_alloc | apply Kd.R_drewN | apply Kd.R_drew)); exact (Q_HO108 h0_)) (by decide)) hk (fun _ h => h.2)) (fun _ h => h.1)) (fun _ h_ => by first | trivial | exact h_ | exact h_.1))
              have z_HO116 := fun (h0_ : b 8 = true) => (show Kd.R (Kd.int .i64) 3 w17 w.heap.size (fun _ => True) v115 y114 from by first | exact (Kd.R_mono (Kd.R_keep (IsS52.apart (show IsS52 w0 _ g s0_0 t113 from by repeat (first | (with_reducible first | exact HI0.out | apply IsS52.alloc | apply IsS52.drewN | apply IsS52.drew | apply IsS52.set_1 | refine IsS52.far ?_ NB0_105.out _) | exact HI0.out)) (by (with_reducible repeat (first | apply Kd.R_alloc | apply Kd.R_drewN | apply Kd.R_drew)); exact (Q_HO116 h0_)) (by decide)) hk (fun _ h => h.2)) (fun _ h => h.1)) | exact Kd.R_mono (Kd.R_mono (Kd.R_keep (IsS52.apart (show IsS52 w0 _ g s0_0 t113 from by repeat (first | (with_reducible first | exact HI0.out | apply IsS52.alloc | apply IsS52.drewN | apply IsS52.drew | apply IsS52.set_1 | refine IsS52.far ?_ NB0_105.out _) | exact HI0.out)) (by (with_reducible repeat (first | apply Kd.R_alloc | apply Kd.R_drewN | apply Kd.R_drew)); exact (Q_HO116 h0_)) (by decide)) hk (fun _ h => h.2)) (fun _ h => h.1)) (fun _ h_ => by first | trivial | exact h_ | exact h_.1))
              have z_BK120 := fun (h0_ : b 14 = true) (h1_ : b 15 = false) => (show w17.heap[gb120]? = some (.cells #[.int .i64 0, .int .i64 0, .int .i64 0] 24 (0, 0)) from by first | exact (KeepBut.blk hk (g' := gb120) (o := .cells #[.int .i64 0, .int .i64 0, .int .i64 0] 24 (0, 0)) (by (with_reducible repeat (first | refine blk_drewN ?_ _ | refine blk_drew ?_ | refine blk_alloc ?_ _)); exact (Q_BK120 h0_ h1_)) (Q_NB120_0 h0_) (by simp)))
              clear BK105
              clear HK
              clear HB
              clear HI0
              have BK105 := n0_
              have HK := n1_
              have HB := n2_
              have HI0 := n3_
              clear n0_ n1_ n2_ n3_
              (try clear hb)
              (try clear hb2)
              (try clear hk)
              (try clear hi)
              refine hK.out _ _ ⟨v107, adz_v107, v115, adz_v115, gb120, m3_, m11_, m14_, (by rw [ha.out]; exact putSel_upk 7 hb_ rfl rfl rfl), (by (with_reducible repeat (first | refine blk_drewN ?_ _ | refine blk_drew ?_ | refine blk_alloc ?_ _)); exact BK105.out), fun h0_ => absurd ((hon 2 (by kernel_rfl)).symm.trans h0_) (by decide), (by repeat (first | (with_reducible first | exact HK.out | apply KeepBut.set_ | apply keep_drewN | apply keep_drew | apply keep_alloc | refine keep_far ?_ GW105.out _) | exact HK.out)), (by repeat (first | (with_reducible first | exact HB.out | apply below_alloc | apply pw_below_drewN | apply below_drew1 | refine below_set ?_ (IsS52.ge HI0.out) | refine below_set ?_ GE105.out) | exact HB.out)), z_HO108, Q_HA_HO108, fun _ h1_ => absurd ((hon 6 (by kernel_rfl)).symm.trans h1_) (by decide), fun _ h1_ => absurd ((up_self b 10).symm.trans h1_) (by decide), z_HO116, Q_HA_HO116, fun _ => (by repeat (first | (with_reducible first | exact HI0.out | apply IsS52.alloc | apply IsS52.drewN | apply IsS52.drew | apply IsS52.set_1 | refine IsS52.far ?_ NB0_105.out _) | exact HI0.out)), z_BK120, Q_GW120, Q_GE120, Q_NB0_120, Q_NB120_0, Q_NB105_120, Q_NB120_105, fun h0_ => absurd ((hoff 15 (by kernel_rfl)).symm.trans h0_) (by decide), Q_X3_, fun h0_ => absurd ((hoff 11 (by kernel_rfl)).symm.trans h0_) (by decide), Q_X14_⟩
            refine steps_cons ?_ ?_
            · rintro b a w' ⟨v107, adz_v107, v115, adz_v115, gb120, m3_, m11_, m14_, ha, Q_BK105, Q_HI0, Q_HK, Q_HB, Q_HO108, Q_HA_HO108, Q_HI0_e2, Q_HI0_e6, Q_HO116, Q_HA_HO116, Q_HI0_e10, Q_BK120, Q_GW120, Q_GE120, Q_NB0_120, Q_NB120_0, Q_NB105_120, Q_NB120_105, Q_BK120_e15, Q_X3_, Q_X11_, Q_X14_⟩ hb_ hon hoff
              refine ⟨_, rfl, fun K hK => ?_⟩
              have e14 : a.tmps[14]? = some (v115) := by rw [ha]; exact putSel_on (e := (8, 14, v115)) 6 rfl rfl (hon 8 (by kernel_rfl)) rfl
              have e16 : a.tmps[16]? = some (.int .i64 t117) := by rw [ha]; exact putSel_on (e := (10, 16, .int .i64 t117)) 7 rfl rfl (hon 10 (by kernel_rfl)) rfl
              replace ha := Aside0.mk ha
              have BK105 := Aside0.mk Q_BK105
              have HK := Aside0.mk Q_HK
              have HB := Aside0.mk Q_HB
              have HO116 := Aside0.mk (Q_HO116 (hon 8 (by kernel_rfl)))
              have HA_HO116 := Aside0.mk (Q_HA_HO116 (hon 8 (by kernel_rfl)))
              have HI0 := Aside0.mk (Q_HI0_e10 (hon 10 (by kernel_rfl)))
              obtain ⟨c_, hv_⟩ := HA_HO116.out
              rw [hv_] at e14
              refine value_ (w1 := w') (v := .pointer (some (adz_v115.add (t117).toNat))) (by rfl) rfl ?_ ?_
              · go_simp
                (try simp only [i64_w])
                try rfl
              refine hK.out _ _ ⟨v107, adz_v107, v115, adz_v115, gb120, m3_, (.pointer (some (adz_v115.add (t117).toNat))), m14_, (by rw [ha.out]; exact putSel_upk 8 hb_ rfl rfl rfl), Q_BK105, fun h0_ => absurd ((hon 2 (by kernel_rfl)).symm.trans h0_) (by decide), Q_HK, Q_HB, Q_HO108, Q_HA_HO108, fun _ h1_ => absurd ((hon 6 (by kernel_rfl)).symm.trans h1_) (by decide), fun _ h1_ => absurd ((hon 10 (by kernel_rfl)).symm.trans h1_) (by decide), Q_HO116, Q_HA_HO116, Q_HI0_e10, Q_BK120, Q_GW120, Q_GE120, Q_NB0_120, Q_NB120_0, Q_NB105_120, Q_NB120_105, fun h0_ => absurd ((hoff 15 (by kernel_rfl)).symm.trans h0_) (by decide), Q_X3_, fun _ => rfl, Q_X14_⟩
            refine steps_cons ?_ ?_
            · rintro b a w' ⟨v107, adz_v107, v115, adz_v115, gb120, m3_, m11_, m14_, ha, Q_BK105, Q_HI0, Q_HK, Q_HB, Q_HO108, Q_HA_HO108, Q_HI0_e2, Q_HI0_e6, Q_HO116, Q_HA_HO116, Q_HI0_e10, Q_BK120, Q_GW120, Q_GE120, Q_NB0_120, Q_NB120_0, Q_NB105_120, Q_NB120_105, Q_BK120_e15, Q_X3_, Q_X11_, Q_X14_⟩ hb_ hon hoff
              refine ⟨_, rfl, fun K hK => ?_⟩
              have e17 : a.tmps[17]? = some (m11_) := by rw [ha]; exact putSel_on (e := (11, 17, m11_)) 8 rfl rfl (hon 11 (by kernel_rfl)) rfl
              rw [Q_X11_ (hon 11 (by kernel_rfl))] at e17
              replace ha := Aside0.mk ha
              have BK105 := Aside0.mk Q_BK105
              have HK := Aside0.mk Q_HK
              have HB := Aside0.mk Q_HB
              have HO116 := Aside0.mk (Q_HO116 (hon 8 (by kernel_rfl)))
              have HA_HO116 := Aside0.mk (Q_HA_HO116 (hon 8 (by kernel_rfl)))
              have HI0 := Aside0.mk (Q_HI0_e10 (hon 10 (by kernel_rfl)))
              obtain ⟨c_, hv_⟩ := HA_HO116.out
              have hF_ := HO116.out
              rw [hv_] at hF_
              obtain ⟨ad_, ea_, hx_⟩ := Kd.at_int (Kd.R_reads' hF_).2.2 t117 (of_eq_true pi119) (of_eq_true qi119)
              cases ea_
              refine value_ (w1 := w') (v := .int .i64 (rd y114 t117)) (by rfl) rfl ?_ ?_
              · go_simp
                (try simp only [i64_w])
                try rfl
              refine hK.out _ _ ⟨v107, adz_v107, v115, adz_v115, gb120, m3_, m11_, m14_, (by rw [ha.out]; exact putSel_upk 9 hb_ rfl rfl rfl), Q_BK105, fun h0_ => absurd ((hon 2 (by kernel_rfl)).symm.trans h0_) (by decide), Q_HK, Q_HB, Q_HO108, Q_HA_HO108, fun _ h1_ => absurd ((hon 6 (by kernel_rfl)).symm.trans h1_) (by decide), fun _ h1_ => absurd ((hon 10 (by kernel_rfl)).symm.trans h1_) (by decide), Q_HO116, Q_HA_HO116, Q_HI0_e10, Q_BK120, Q_GW120, Q_GE120, Q_NB0_120, Q_NB120_0, Q_NB105_120, Q_NB120_105, fun h0_ => absurd ((hoff 15 (by kernel_rfl)).symm.trans h0_) (by decide), Q_X3_, Q_X11_, Q_X14_⟩
            refine steps_cons ?_ ?_
            · rintro b a w' ⟨v107, adz_v107, v115, adz_v115, gb120, m3_, m11_, m14_, ha, Q_BK105, Q_HI0, Q_HK, Q_HB, Q_HO108, Q_HA_HO108, Q_HI0_e2, Q_HI0_e6, Q_HO116, Q_HA_HO116, Q_HI0_e10, Q_BK120, Q_GW120, Q_GE120, Q_NB0_120, Q_NB120_0, Q_NB105_120, Q_NB120_105, Q_BK120_e15, Q_X3_, Q_X11_, Q_X14_⟩ hb_ hon hoff
              refine ⟨_, rfl, fun K hK => ?_⟩
              have e10 : a.tmps[10]? = some (.int .i64 (rd y106 t109)) := by rw [ha]; exact putSel_on (e := (4, 10, .int .i64 (rd y106 t109))) 3 rfl rfl (hon 4 (by kernel_rfl)) rfl
              have e13 : a.tmps[13]? = some (.int .i64 (wrap64 (1 + t112))) := by rw [ha]; exact putSel_on (e := (7, 13, .int .i64 (wrap64 (1 + t112)))) 5 rfl rfl (hon 7 (by kernel_rfl)) rfl
              have e18 : a.tmps[18]? = some (.int .i64 (rd y114 t117)) := by rw [ha]; exact putSel_on (e := (12, 18, .int .i64 (rd y114 t117))) 9 rfl rfl (hon 12 (by kernel_rfl)) rfl
              replace ha := Aside0.mk ha
              have BK105 := Aside0.mk Q_BK105
              have HK := Aside0.mk Q_HK
              have HB := Aside0.mk Q_HB
              have HO108 := Aside0.mk (Q_HO108 (hon 0 (by kernel_rfl)))
              have HA_HO108 := Aside0.mk (Q_HA_HO108 (hon 0 (by kernel_rfl)))
              have HO116 := Aside0.mk (Q_HO116 (hon 8 (by kernel_rfl)))
              have HA_HO116 := Aside0.mk (Q_HA_HO116 (hon 8 (by kernel_rfl)))
              have HI0 := Aside0.mk (Q_HI0_e10 (hon 10 (by kernel_rfl)))
              refine value_ (w1 := w') (v := .agg #[.int .i64 (rd y106 t109), .int .i64 (wrap64 (1 + t112)), .int .i64 (rd y114 t117)]) (by rfl) rfl ?_ ?_
              · go_simp
                (try simp only [i64_w])
                try rfl
              refine hK.out _ _ ⟨v107, adz_v107, v115, adz_v115, gb120, m3_, m11_, m14_, (by rw [ha.out]; exact putSel_upk 10 hb_ rfl rfl rfl), Q_BK105, fun h0_ => absurd ((hon 2 (by kernel_rfl)).symm.trans h0_) (by decide), Q_HK, Q_HB, Q_HO108, Q_HA_HO108, fun _ h1_ => absurd ((hon 6 (by kernel_rfl)).symm.trans h1_) (by decide), fun _ h1_ => absurd ((hon 10 (by kernel_rfl)).symm.trans h1_) (by decide), Q_HO116, Q_HA_HO116, Q_HI0_e10, Q_BK120, Q_GW120, Q_GE120, Q_NB0_120, Q_NB120_0, Q_NB105_120, Q_NB120_105, fun h0_ => absurd ((hoff 15 (by kernel_rfl)).symm.trans h0_) (by decide), Q_X3_, Q_X11_, Q_X14_⟩
            refine steps_cons ?_ ?_
            · rintro b a w' ⟨v107, adz_v107, v115, adz_v115, gb120, m3_, m11_, m14_, ha, Q_BK105, Q_HI0, Q_HK, Q_HB, Q_HO108, Q_HA_HO108, Q_HI0_e2, Q_HI0_e6, Q_HO116, Q_HA_HO116, Q_HI0_e10, Q_BK120, Q_GW120, Q_GE120, Q_NB0_120, Q_NB120_0, Q_NB105_120, Q_NB120_105, Q_BK120_e15, Q_X3_, Q_X11_, Q_X14_⟩ hb_ hon hoff
              refine ⟨_, rfl, fun K hK => ?_⟩
              replace ha := Aside0.mk ha
              have BK105 := Aside0.mk Q_BK105
              have HK := Aside0.mk Q_HK
              have HB := Aside0.mk Q_HB
              refine box_step ?hg (N := 5) ?hd (cs := #[.int .i64 0, .int .i64 0, .int .i64 0]) (t := 24) ?hr ?_; (case hd => rfl); (case hg => rfl); (case hr => first | (go_simp; done) | (go_simp; rfl))
              intro gb120 hg w14 hbox hb
              have n1_ := Aside0.mk (blk_below (g := gb105) (o := .cells #[.int .i64 0, .int .i64 0, .int .i64 0] 24 (0, 0)) (by (with_reducible repeat (first | refine blk_drewN ?_ _ | refine blk_drew ?_ | refine blk_alloc ?_ _)); exact BK105.out) hb)
              have n2_ := Aside0.mk (KeepBut.trans (by repeat (first | (with_reducible first | exact HK.out | apply KeepBut.set_ | apply keep_drewN | apply keep_drew | apply keep_alloc | refine keep_far ?_ GW105.out _) | exact HK.out)) (KeepBut.of_below hb g none) (.inl rfl))
              have n3_ := Aside0.mk (below_step (by repeat (first | (with_reducible first | exact HB.out | apply below_alloc | apply pw_below_drewN | apply below_drew1 | refine below_set ?_ GE105.out) | exact HB.out)) hb)
              have n4_ := Aside0.mk (hbox)
              have n5_ := Aside0.mk ((by rw [hg]; exact (keep_size (w := w) (g := g) (row := none) (by repeat (first | (with_reducible first | exact HK.out | apply KeepBut.set_ | apply keep_drewN | apply keep_drew | apply keep_alloc | refine keep_far ?_ GW105.out _) | exact HK.out))) : w.heap.size ≤ gb120))
              have n6_ := Aside0.mk ((Nat.le_trans HW0.out (by rw [hg]; exact (keep_size (w := w) (g := g) (row := none) (by repeat (first | (with_reducible first | exact HK.out | apply KeepBut.set_ | apply keep_drewN | apply keep_drew | apply keep_alloc | refine keep_far ?_ GW105.out _) | exact HK.out))) : w.heap.size ≤ gb120) : w0.heap.size ≤ gb120))
              have n7_ := Aside0.mk ((by rw [hg]; exact Nat.ne_of_lt (blk_lt (g := gb105) (o := .cells #[.int .i64 0, .int .i64 0, .int .i64 0] 24 (0, 0)) (by (with_reducible repeat (first | refine blk_drewN ?_ _ | refine blk_drew ?_ | refine blk_alloc ?_ _)); exact BK105.out)) : gb105 ≠ gb120))
              have n8_ := Aside0.mk ((by rw [hg]; exact Nat.ne_of_gt (blk_lt (g := gb105) (o := .cells #[.int .i64 0, .int .i64 0, .int .i64 0] 24 (0, 0)) (by (with_reducible repeat (first | refine blk_drewN ?_ _ | refine blk_drew ?_ | refine blk_alloc ?_ _)); exact BK105.out)) : gb120 ≠ gb105))
              have n9_ := Aside0.mk ((by rw [hg]; exact Nat.ne_of_lt (Nat.lt_of_lt_of_le HGL.out (keep_size (w := w) (g := g) (row := none) (by repeat (first | (with_reducible first | exact HK.out | apply KeepBut.set_ | apply keep_drewN | apply keep_drew | apply keep_alloc | refine keep_far ?_ GW105.out _) | exact HK.out)))) : g ≠ gb120))
              have n10_ := Aside0.mk ((by rw [hg]; exact Nat.ne_of_gt (Nat.lt_of_lt_of_le HGL.out (keep_size (w := w) (g := g) (row := none) (by repeat (first | (with_reducible first | exact HK.out | apply KeepBut.set_ | apply keep_drewN | apply keep_drew | apply keep_alloc | refine keep_far ?_ GW105.out _) | exact HK.out)))) : gb120 ≠ g))
              have z_HI0 := fun (h0_ : b 2 = false) => (show IsS52 w0 w14 g s0_0 s0_1 from by first | exact (IsS52.below (by repeat (first | (with_reducible first | exact (Q_HI0 h0_) | apply IsS52.alloc | apply IsS52.drewN | apply IsS52.drew | apply IsS52.set_1 | refine IsS52.far ?_ NB0_105.out _) | exact (Q_HI0 h0_))) hb))
              have z_HO108 := fun (h0_ : b 0 = true) => (show Kd.R (Kd.int .i64) 3 w14 w.heap.size (fun _ => True) v107 y106 from by first | exact (Kd.R_below (by (with_reducible repeat (first | apply Kd.R_alloc | apply Kd.R_drewN | apply Kd.R_drew)); exact (Q_HO108 h0_)) hb) | exact Kd.R_mono (Kd.R_below (by (with_reducible repeat (first | apply Kd.R_alloc | apply Kd.R_drewN | apply Kd.R_drew)); exact (Q_HO108 h0_)) hb) (fun _ h_ => by first | trivial | exact h_ | exact h_.1))
              have z_HI0_e2 := fun (h0_ : b 2 = true) (h1_ : b 6 = false) => (show IsS52 w0 w14 g s0_0 t110 from by first | exact (IsS52.below (by repeat (first | (with_reducible first | exact (Q_HI0_e2 h0_ h1_) | apply IsS52.alloc | apply IsS52.drewN | apply IsS52.drew | apply IsS52.set_1 | refine IsS52.far ?_ NB0_105.out _) | exact (Q_HI0_e2 h0_ h1_))) hb))
              have z_HI0_e6 := fun (h0_ : b 6 = true) (h1_ : b 10 = false) => (show IsS52 w0 w14 g s0_0 t113 from by first | exact (IsS52.below (by repeat (first | (with_reducible first | exact (Q_HI0_e6 h0_ h1_) | apply IsS52.alloc | apply IsS52.drewN | apply IsS52.drew | apply IsS52.set_1 | refine IsS52.far ?_ NB0_105.out _) | exact (Q_HI0_e6 h0_ h1_))) hb))
              have z_HO116 := fun (h0_ : b 8 = true) => (show Kd.R (Kd.int .i64) 3 w14 w.heap.size (fun _ => True) v115 y114 from by first | exact (Kd.R_below (by (with_reducible repeat (first | apply Kd.R_alloc | apply Kd.R_drewN | apply Kd.R_drew)); exact (Q_HO116 h0_)) hb) | exact Kd.R_mono (Kd.R_below (by (with_reducible repeat (first | apply Kd.R_alloc | apply Kd.R_drewN | apply Kd.R_drew)); exact (Q_HO116 h0_)) hb) (fun _ h_ => by first | trivial | exact h_ | exact h_.1))
              have z_HI0_e10 := fun (h0_ : b 10 = true) => (show IsS52 w0 w14 g s0_0 t118 from by first | exact (IsS52.below (by repeat (first | (with_reducible first | exact (Q_HI0_e10 h0_) | apply IsS52.alloc | apply IsS52.drewN | apply IsS52.drew | apply IsS52.set_1 | refine IsS52.far ?_ NB0_105.out _) | exact (Q_HI0_e10 h0_))) hb))
              clear BK105
              clear HK
              clear HB
              have BK105 := n1_
              have HK := n2_
              have HB := n3_
              have BK120 := n4_
              have GW120 := n5_
              have GE120 := n6_
              have NB105_120 := n7_
              have NB120_105 := n8_
              have NB0_120 := n9_
              have NB120_0 := n10_
              clear n1_ n2_ n3_ n4_ n5_ n6_ n7_ n8_ n9_ n10_
              clear hb hbox hg
              refine hK.out _ _ ⟨v107, adz_v107, v115, adz_v115, gb120, m3_, m11_, (.pointer (some ⟨gb120, 0, none⟩)), (by rw [ha.out]; exact putSel_upk 11 hb_ rfl rfl rfl), (by (with_reducible repeat (first | refine blk_drewN ?_ _ | refine blk_drew ?_ | refine blk_alloc ?_ _)); exact BK105.out), z_HI0, (by repeat (first | (with_reducible first | exact HK.out | apply KeepBut.set_ | apply keep_drewN | apply keep_drew | apply keep_alloc | refine keep_far ?_ GW105.out _ | refine keep_far ?_ GW120.out _) | exact HK.out)), (by repeat (first | (with_reducible first | exact HB.out | apply below_alloc | apply pw_below_drewN | apply below_drew1 | refine below_set ?_ GE105.out | refine below_set ?_ GE120.out) | exact HB.out)), z_HO108, Q_HA_HO108, z_HI0_e2, z_HI0_e6, z_HO116, Q_HA_HO116, z_HI0_e10, fun _ _ => (by (with_reducible repeat (first | refine blk_drewN ?_ _ | refine blk_drew ?_ | refine blk_alloc ?_ _)); exact BK120.out), fun _ => GW120.out, fun _ => GE120.out, fun _ => NB0_120.out, fun _ => NB120_0.out, fun _ => NB105_120.out, fun _ => NB120_105.out, fun h0_ => absurd ((hoff 15 (by kernel_rfl)).symm.trans h0_) (by decide), Q_X3_, Q_X11_, fun _ => rfl⟩
            refine steps_cons ?_ ?_
            · rintro b a w' ⟨v107, adz_v107, v115, adz_v115, gb120, m3_, m11_, m14_, ha, Q_BK105, Q_HI0, Q_HK, Q_HB, Q_HO108, Q_HA_HO108, Q_HI0_e2, Q_HI0_e6, Q_HO116, Q_HA_HO116, Q_HI0_e10, Q_BK120, Q_GW120, Q_GE120, Q_NB0_120, Q_NB120_0, Q_NB105_120, Q_NB120_105, Q_BK120_e15, Q_X3_, Q_X11_, Q_X14_⟩ hb_ hon hoff
              refine ⟨_, rfl, fun K hK => ?_⟩
              have e5 : a.tmps[5]? = some (m14_) := by rw [ha]; exact putSel_on (e := (14, 5, m14_)) 11 rfl rfl (hon 14 (by kernel_rfl)) rfl
              rw [Q_X14_ (hon 14 (by kernel_rfl))] at e5
              have e19 : a.tmps[19]? = some (.agg #[.int .i64 (rd y106 t109), .int .i64 (wrap64 (1 + t112)), .int .i64 (rd y114 t117)]) := by rw [ha]; exact putSel_on (e := (13, 19, .agg #[.int .i64 (rd y106 t109), .int .i64 (wrap64 (1 + t112)), .int .i64 (rd y114 t117)])) 10 rfl rfl (hon 13 (by kernel_rfl)) rfl
              replace ha := Aside0.mk ha
              have BK105 := Aside0.mk Q_BK105
              have HK := Aside0.mk Q_HK
              have HB := Aside0.mk Q_HB
              have HO108 := Aside0.mk (Q_HO108 (hon 0 (by kernel_rfl)))
              have HA_HO108 := Aside0.mk (Q_HA_HO108 (hon 0 (by kernel_rfl)))
              have HO116 := Aside0.mk (Q_HO116 (hon 8 (by kernel_rfl)))
              have HA_HO116 := Aside0.mk (Q_HA_HO116 (hon 8 (by kernel_rfl)))
              have HI0 := Aside0.mk (Q_HI0_e10 (hon 10 (by kernel_rfl)))
              have BK120 := Aside0.mk (Q_BK120 (hon 14 (by kernel_rfl)) hb_)
              have GW120 := Aside0.mk (Q_GW120 (hon 14 (by kernel_rfl)))
              have GE120 := Aside0.mk (Q_GE120 (hon 14 (by kernel_rfl)))
              have NB0_120 := Aside0.mk (Q_NB0_120 (hon 14 (by kernel_rfl)))
              have NB120_0 := Aside0.mk (Q_NB120_0 (hon 14 (by kernel_rfl)))
              have NB105_120 := Aside0.mk (Q_NB105_120 (hon 14 (by kernel_rfl)))
              have NB120_105 := Aside0.mk (Q_NB120_105 (hon 14 (by kernel_rfl)))
              obtain ⟨co25, eo25⟩ := HA_HO108.out
              clear HA_HO108
              subst eo25
              obtain ⟨co26, eo26⟩ := HA_HO116.out
              clear HA_HO116
              subst eo26
              have hs27 : w'.cell? ⟨gb120, 0, none⟩ = some (.int .i64 0) := (blk_cell BK120.out 0).trans rfl
              have hfs27 := blk_frozen BK120.out 0
              have hns27_0 := NB105_120.out
              have hms27_0 := NB120_105.out
              have hs28 : w'.cell? ⟨gb120, 1, none⟩ = some (.int .i64 0) := (blk_cell BK120.out 1).trans rfl
              have hfs28 := blk_frozen BK120.out 1
              have hns28_0 := NB105_120.out
              have hms28_0 := NB120_105.out
              have hs29 : w'.cell? ⟨gb120, 2, none⟩ = some (.int .i64 0) := (blk_cell BK120.out 2).trans rfl
              have hfs29 := blk_frozen BK120.out 2
              have hns29_0 := NB105_120.out
              have hms29_0 := NB120_105.out
              refine skip_ (w1 := ?_) (by rfl) rfl ?_ ?_
              rotate_left
              · go_simp
                rfl
              refine hK.out _ _ ⟨.slice (some adz_v107) y106.length co25, adz_v107, .slice (some adz_v115) y114.length co26, adz_v115, gb120, m3_, m11_, m14_, (by rw [ha.out]; exact putSel_none (v := undef) rfl), (by (with_reducible repeat (first | refine blk_drewN ?_ _ | refine blk_drew ?_ | refine blk_alloc ?_ _)); refine blk_far ?_ NB105_120.out _; (with_reducible repeat (first | refine blk_drewN ?_ _ | refine blk_drew ?_ | refine blk_alloc ?_ _)); refine blk_far ?_ NB105_120.out _; (with_reducible repeat (first | refine blk_drewN ?_ _ | refine blk_drew ?_ | refine blk_alloc ?_ _)); refine blk_far ?_ NB105_120.out _; (with_reducible repeat (first | refine blk_drewN ?_ _ | refine blk_drew ?_ | refine blk_alloc ?_ _)); exact BK105.out), fun h0_ => absurd ((hon 2 (by kernel_rfl)).symm.trans h0_) (by decide), (by repeat (first | (with_reducible first | exact HK.out | apply KeepBut.set_ | apply keep_drewN | apply keep_drew | apply keep_alloc | refine keep_far ?_ GW105.out _ | refine keep_far ?_ GW120.out _) | exact HK.out)), (by repeat (first | (with_reducible first | exact HB.out | apply below_alloc | apply pw_below_drewN | apply below_drew1 | refine below_set ?_ (IsS52.ge HI0.out) | refine below_set ?_ GE105.out | refine below_set ?_ GE120.out) | exact HB.out)), fun _ => (by (with_reducible repeat (first | apply Kd.R_alloc | apply Kd.R_drewN | apply Kd.R_drew)); exact Kd.R_mono (Kd.R_far (p := ⟨gb120, 2, none⟩) (Kd.R_far (p := ⟨gb120, 1, none⟩) (Kd.R_far (p := ⟨gb120, 0, none⟩) (Kd.R_types HO108.out BK120.out (by decide)) (fun _ hk => hk.2) (.int .i64 (rd y106 t109))) (fun _ hk => hk.2) (.int .i64 (wrap64 (1 + t112)))) (fun _ hk => hk.2) (.int .i64 (rd y114 t117))) (fun _ hk => hk.1)), fun _ => ⟨_, rfl⟩, fun _ h1_ => absurd ((hon 6 (by kernel_rfl)).symm.trans h1_) (by decide), fun _ h1_ => absurd ((hon 10 (by kernel_rfl)).symm.trans h1_) (by decide), fun _ => (by (with_reducible repeat (first | apply Kd.R_alloc | apply Kd.R_drewN | apply Kd.R_drew)); exact Kd.R_mono (Kd.R_far (p := ⟨gb120, 2, none⟩) (Kd.R_far (p := ⟨gb120, 1, none⟩) (Kd.R_far (p := ⟨gb120, 0, none⟩) (Kd.R_types HO116.out BK120.out (by decide)) (fun _ hk => hk.2) (.int .i64 (rd y106 t109))) (fun _ hk => hk.2) (.int .i64 (wrap64 (1 + t112)))) (fun _ hk => hk.2) (.int .i64 (rd y114 t117))) (fun _ hk => hk.1)), fun _ => ⟨_, rfl⟩, fun _ => (by repeat (first | (with_reducible first | exact HI0.out | apply IsS52.alloc | apply IsS52.drewN | apply IsS52.drew | apply IsS52.set_1 | refine IsS52.far ?_ NB0_105.out _ | refine IsS52.far ?_ NB0_120.out _) | exact HI0.out)), fun _ h1_ => absurd ((up_self b 15).symm.trans h1_) (by decide), fun _ => GW120.out, fun _ => GE120.out, fun _ => NB0_120.out, fun _ => NB120_0.out, fun _ => NB105_120.out, fun _ => NB120_105.out, fun _ => (by (with_reducible repeat (first | refine blk_drewN ?_ _ | refine blk_drew ?_ | refine blk_alloc ?_ _)); refine blk_put (cs := #[.int .i64 (rd y106 t109), .int .i64 (wrap64 (1 + t112)), .int .i64 0]) ?_ 2 _ rfl; (with_reducible repeat (first | refine blk_drewN ?_ _ | refine blk_drew ?_ | refine blk_alloc ?_ _)); refine blk_put (cs := #[.int .i64 (rd y106 t109), .int .i64 0, .int .i64 0]) ?_ 1 _ rfl; (with_reducible repeat (first | refine blk_drewN ?_ _ | refine blk_drew ?_ | refine blk_alloc ?_ _)); refine blk_put (cs := #[.int .i64 0, .int .i64 0, .int .i64 0]) ?_ 0 _ rfl; (with_reducible repeat (first | refine blk_drewN ?_ _ | refine blk_drew ?_ | refine blk_alloc ?_ _)); exact BK120.out), Q_X3_, Q_X11_, Q_X14_⟩
            exact steps_nil
          rintro b a w27 hall ⟨v107, adz_v107, v115, adz_v115, gb120, m3_, m11_, m14_, ha, Q_BK105, Q_HI0, Q_HK, Q_HB, Q_HO108, Q_HA_HO108, Q_HI0_e2, Q_HI0_e6, Q_HO116, Q_HA_HO116, Q_HI0_e10, Q_BK120, Q_GW120, Q_GE120, Q_NB0_120, Q_NB120_0, Q_NB105_120, Q_NB120_105, Q_BK120_e15, Q_X3_, Q_X11_, Q_X14_⟩
          clear BK105 HB HI0 HK
          have hb0_ := hall 0 (by kernel_rfl)
          have hb2_ := hall 2 (by kernel_rfl)
          have hb3_ := hall 3 (by kernel_rfl)
          have hb4_ := hall 4 (by kernel_rfl)
          have hb6_ := hall 6 (by kernel_rfl)
          have hb7_ := hall 7 (by kernel_rfl)
          have hb8_ := hall 8 (by kernel_rfl)
          have hb10_ := hall 10 (by kernel_rfl)
          have hb11_ := hall 11 (by kernel_rfl)
          have hb12_ := hall 12 (by kernel_rfl)
          have hb13_ := hall 13 (by kernel_rfl)
          have hb14_ := hall 14 (by kernel_rfl)
          have hb15_ := hall 15 (by kernel_rfl)
          subst ha
          obtain rfl := Q_X3_ hb3_
          obtain rfl := Q_X11_ hb11_
          obtain rfl := Q_X14_ hb14_
          simp only [putSel, hb0_, hb2_, hb3_, hb4_, hb6_, hb7_, hb8_, hb10_, hb11_, hb12_, hb13_, hb14_, hb15_, if_true, Act.put, List.setIfInBounds_toArray, List.set_cons_zero, List.set_cons_succ]
          have BK105 := Aside0.mk Q_BK105
          clear Q_BK105
          clear Q_HI0
          have HK := Aside0.mk Q_HK
          clear Q_HK
          have HB := Aside0.mk Q_HB
          clear Q_HB
          have HO108 := Aside0.mk (Q_HO108 hb0_)
          clear Q_HO108
          have HA_HO108 := Aside0.mk (Q_HA_HO108 hb0_)
          clear Q_HA_HO108
          clear Q_HI0_e2
          clear Q_HI0_e6
          have HO116 := Aside0.mk (Q_HO116 hb8_)
          clear Q_HO116
          have HA_HO116 := Aside0.mk (Q_HA_HO116 hb8_)
          clear Q_HA_HO116
          have HI0 := Aside0.mk (Q_HI0_e10 hb10_)
          clear Q_HI0_e10
          clear Q_BK120
          have GW120 := Aside0.mk (Q_GW120 hb14_)
          clear Q_GW120
          have GE120 := Aside0.mk (Q_GE120 hb14_)
          clear Q_GE120
          have NB0_120 := Aside0.mk (Q_NB0_120 hb14_)
          clear Q_NB0_120
          have NB120_0 := Aside0.mk (Q_NB120_0 hb14_)
          clear Q_NB120_0
          have NB105_120 := Aside0.mk (Q_NB105_120 hb14_)
          clear Q_NB105_120
          have NB120_105 := Aside0.mk (Q_NB120_105 hb14_)
          clear Q_NB120_105
          have BK120 := Aside0.mk (Q_BK120_e15 hb15_)
          clear Q_BK120_e15
          clear hall hb0_ hb2_ hb3_ hb4_ hb6_ hb7_ hb8_ hb10_ hb11_ hb12_ hb13_ hb14_ hb15_
          obtain ⟨co28, eo28⟩ := HA_HO108.out
          clear HA_HO108
          subst eo28
          obtain ⟨co29, eo29⟩ := HA_HO116.out
          clear HA_HO116
          subst eo29
          try go_wp2
          have n0_ := Aside0.mk (Kd.R_drew HO108.out)
          have n1_ := Aside0.mk (Kd.R_drew HO116.out)
          have n2_ := Aside0.mk (blk_drew BK105.out)
          have n3_ := Aside0.mk (blk_drew BK120.out)
          have n4_ := Aside0.mk (IsS52.drew HI0.out)
          have n5_ := Aside0.mk (keep_drew HK.out)
          have n6_ := Aside0.mk (below_drew1 HB.out)
          clear HO108
          clear HO116
          clear BK105
          clear BK120
          clear HI0
          clear HK
          clear HB
          have HO108 := n0_
          have HO116 := n1_
          have BK105 := n2_
          have BK120 := n3_
          have HI0 := n4_
          have HK := n5_
          have HB := n6_
          clear n0_ n1_ n2_ n3_ n4_ n5_ n6_
          refine start_ (n := 8) (S := fun w' => w'.cell? ⟨gb120, 0, none⟩ = some (.int .i64 (rd y106 t109)) ∧ w'.cell? ⟨gb120, 1, none⟩ = some (.int .i64 (wrap64 (1 + t112))) ∧ w'.cell? ⟨gb120, 2, none⟩ = some (.int .i64 (rd y114 t117))) (ds := []) #[false, false, false, false, false, false, false, false] (by kernel_rfl) rfl rfl ⟨(blk_cell BK120.out 0).trans rfl, (blk_cell BK120.out 1).trans rfl, (blk_cell BK120.out 2).trans rfl⟩ (fun hHeld => ?_); refine with_tabW spec_l20Day.tab2 spec_l20Day.bits2 (fun HT_ HW_ => ?_)
          generalize w27.drew = w30 at HO108 HO116 BK105 BK120 HI0 HK HB hHeld ⊢
          refine pure_ (i := 0) (N := some 20) (v := ?_) (a' := ?_) #[true, false, false, false, false, false, false, false] rfl rfl (any_of HT_.out (by kernel_rfl)) (fun _ _ _ h => h) (Or.inl ⟨by rfl, ?_⟩) ?_ ?_
          rotate_left
          · intro w'
            go_simp
            with_reducible rfl
          rotate_left
          · simp only [Act.put, List.setIfInBounds_toArray, List.set_cons_zero, List.set_cons_succ, i64_w, i32_w]
            rfl
          refine pure_ (i := 2) (N := some 22) (v := ?_) (a' := ?_) #[true, false, true, false, false, false, false, false] rfl rfl (any_of HT_.out (by kernel_rfl)) (fun _ _ _ h => h) (Or.inl ⟨by rfl, ?_⟩) ?_ ?_
          rotate_left
          · intro w'
            go_simp
            with_reducible rfl
          rotate_left
          · simp only [Act.put, List.setIfInBounds_toArray, List.set_cons_zero, List.set_cons_succ, i64_w, i32_w]
            rfl
          refine pure_ (i := 4) (N := some 24) (v := ?_) (a' := ?_) #[true, false, true, false, true, false, false, false] rfl rfl (any_of HT_.out (by kernel_rfl)) (fun _ _ _ h => h) (Or.inl ⟨by rfl, ?_⟩) ?_ ?_
          rotate_left
          · intro w'
            go_simp
            with_reducible rfl
          rotate_left
          · simp only [Act.put, List.setIfInBounds_toArray, List.set_cons_zero, List.set_cons_succ, i64_w, i32_w]
            rfl
          refine take_ (i := 1) (N := some 21) (v := ?_) (a' := ?_) #[true, true, true, false, true, false, false, false] rfl rfl (take_ofW HT_.out HW_.out (by kernel_rfl)) (fun _ _ _ h => h) (Or.inl ⟨by rfl, ?_⟩) hHeld ?_ ?_
          rotate_left
          · rintro w' ⟨s0, s1, s2⟩
            go_simp
            with_reducible rfl
          rotate_left
          · simp only [Act.put, List.setIfInBounds_toArray, List.set_cons_zero, List.set_cons_succ, i64_w, i32_w]
            rfl
          refine take_ (i := 3) (N := some 23) (v := ?_) (a' := ?_) #[true, true, true, true, true, false, false, false] rfl rfl (take_ofW HT_.out HW_.out (by kernel_rfl)) (fun _ _ _ h => h) (Or.inl ⟨by rfl, ?_⟩) hHeld ?_ ?_
          rotate_left
          · rintro w' ⟨s0, s1, s2⟩
            go_simp
            with_reducible rfl
          rotate_left
          · simp only [Act.put, List.setIfInBounds_toArray, List.set_cons_zero, List.set_cons_succ, i64_w, i32_w]
            rfl
          refine take_ (i := 5) (N := some 25) (v := ?_) (a' := ?_) #[true, true, true, true, true, true, false, false] rfl rfl (take_ofW HT_.out HW_.out (by kernel_rfl)) (fun _ _ _ h => h) (Or.inl ⟨by rfl, ?_⟩) hHeld ?_ ?_
          rotate_left
          · rintro w' ⟨s0, s1, s2⟩
            go_simp
            with_reducible rfl
          rotate_left
          · simp only [Act.put, List.setIfInBounds_toArray, List.set_cons_zero, List.set_cons_succ, i64_w, i32_w]
            rfl
          refine one_ (i := 6) (N := some 26) #[true, true, true, true, true, true, true, false] rfl rfl (one_of HT_.out (by kernel_rfl)) (by decide) (fun K hK => ?_)
          refine goes_ Try.func28 (by kernel_rfl) rfl #[.int .i64 (rd y106 t109), .int .i64 (wrap64 (1 + t112))] (by rfl) rfl rfl (by (try simp only [List.map_toArray, List.map_cons, List.map_nil]); first | done | rfl | (simp only [List.length_drop, List.length_take]; rfl)) ?_
          with_reducible refine (spec_DayLast.calls k (rd y106 t109) (wrap64 (1 + t112)) t121 _ A10.out).mono ?_
          rintro e w' ⟨rfl, ⟨nd, rfl⟩⟩
          refine ⟨_, rfl, ?_⟩
          refine hK.out _ _ ⟨(blk_cell BK120.out 0).trans rfl, (blk_cell BK120.out 1).trans rfl, (blk_cell BK120.out 2).trans rfl⟩ (fun hHeld => ?_)
          clear hK K
          refine norm_ (a' := ?_) ?_ ?_
          rotate_left
          · show Act.put _ (some 26) _ = _
            simp only [Act.put, List.setIfInBounds_toArray, List.set_cons_zero, List.set_cons_succ, i64_w, i32_w]
            rfl
          refine pure_ (i := 7) (N := some 27) (v := ?_) (a' := ?_) #[true, true, true, true, true, true, true, true] rfl rfl (any_of HT_.out (by kernel_rfl)) (fun _ _ _ h => h) (Or.inl ⟨by rfl, ?_⟩) ?_ ?_
          rotate_left
          · intro w'
            go_simp
            with_reducible rfl
          rotate_left
          · simp only [Act.put, List.setIfInBounds_toArray, List.set_cons_zero, List.set_cons_succ, i64_w, i32_w]
            rfl
          refine done_ (done_of HT_.out (by kernel_rfl)) ?_
          go_upto_if 27 with (fail)
          go_cut [] (fun wc => ∃ (kq : Nat) (x121002_10 : Int), Aside0 (spec_l20Day.j0 kq a1 s0_0 t118 (rd y106 t109) (wrap64 (1 + t112)) x121002_10 = some (r1, r2, r3, r4)) ∧ Aside0 (kq ≤ k) ∧ Aside0 (wc.heap[gb105]? = some (.cells #[.int .i64 0, .int .i64 0, .int .i64 0] 24 (0, 0))) ∧ Aside0 (wc.heap[gb120]? = some (.cells #[.int .i64 (rd y106 t109), .int .i64 (wrap64 (1 + t112)), .int .i64 x121002_10] 24 (0, 0))) ∧ Aside0 (IsS52 w0 wc g s0_0 t118) ∧ Aside0 (KeepBut w wc g none) ∧ Aside0 (Below w0.heap.size w0 wc))
          case first =>
            have H := HC11.out
            clear HC11
            by_cases c31 : (rd y114 t117) > t121
            · rw [if_pos c31] at H
              have c31b0 : decide (t121 < (rd y114 t117)) = true := decide_eq_true c31
              clear c31
              (first | rw [c31b0] | (simp only [i64_w, i32_w]; rw [c31b0]) | skip)
              replace H := Option.bind_eq_some_iff.mp H
              obtain ⟨t122, A320, H⟩ := H
              replace H : (spec_l20Day.j0 k a1 s0_0 t118 (rd y106 t109) (wrap64 (1 + t112)) t122) = some (r1, r2, r3, r4) := H
              have A32 := Aside0.mk A320
              clear A320
              have H' := Aside0.mk H
              clear H
              have hnb33 := NB120_105.out
              have hnc33 := NB105_120.out
              have hnb34 := NB120_0.out
              have hnc34 := NB0_120.out
              have hcz35_0 : w30.cell? ⟨gb120, 0, none⟩ = some (.int .i64 (rd y106 t109)) := (blk_cell BK120.out 0).trans rfl
              have hcz35_1 : w30.cell? ⟨gb120, 1, none⟩ = some (.int .i64 (wrap64 (1 + t112))) := (blk_cell BK120.out 1).trans rfl
              have hcz35_2 : w30.cell? ⟨gb120, 2, none⟩ = some (.int .i64 (rd y114 t117)) := (blk_cell BK120.out 2).trans rfl
              have hfz35_0 := blk_frozen BK120.out 0
              have hfz35_1 := blk_frozen BK120.out 1
              have hfz35_2 := blk_frozen BK120.out 2
              go_wp2_with (first | ((with_reducible refine gate_callee (f := 28) rfl ?_); refine goesL_ (some 32) rfl rfl Try.func28 (by kernel_rfl) rfl #[.int .i64 (rd y106 t109), .int .i64 (wrap64 (1 + t112))] rfl (by (try simp only [List.map_toArray, List.map_cons, List.map_nil]); first | done | rfl | (simp only [List.length_drop, List.length_take]; rfl)) ?_; (with_reducible refine (spec_DayLast.calls k (rd y106 t109) (wrap64 (1 + t112)) t122 _ A32.out).mono ?_); rintro e w' ⟨rfl, ⟨nd, rfl⟩⟩; refine ⟨_, rfl, ?_⟩; (try (rw [drewN_self w30]; generalize hq_ : World.drewN w30 _ = w30; have n0_ : Aside0 (Kd.R (Kd.int .i64) 3 w30 w.heap.size (fun k_ => some k_ ≠ (.slice (some adz_v115) y114.length co29 : Value).ownBlock) (.slice (some adz_v107) y106.length co28) y106) := ⟨by rw [← hq_]; exact (by (with_reducible repeat (first | apply Kd.R_alloc | apply Kd.R_drewN | apply Kd.R_drew)); exact HO108.out)⟩; have n1_ : Aside0 (Kd.R (Kd.int .i64) 3 w30 w.heap.size (fun k_ => some k_ ≠ (.slice (some adz_v107) y106.length co28 : Value).ownBlock) (.slice (some adz_v115) y114.length co29) y114) := ⟨by rw [← hq_]; exact (by (with_reducible repeat (first | apply Kd.R_alloc | apply Kd.R_drewN | apply Kd.R_drew)); exact HO116.out)⟩; have n2_ : Aside0 (w30.heap[gb105]? = some (.cells #[.int .i64 0, .int .i64 0, .int .i64 0] 24 (0, 0))) := ⟨by rw [← hq_]; exact (by (with_reducible repeat (first | refine blk_drewN ?_ _ | refine blk_drew ?_ | refine blk_alloc ?_ _)); exact BK105.out)⟩; have n3_ : Aside0 (w30.heap[gb120]? = some (.cells #[.int .i64 (rd y106 t109), .int .i64 (wrap64 (1 + t112)), .int .i64 (rd y114 t117)] 24 (0, 0))) := ⟨by rw [← hq_]; exact (by (with_reducible repeat (first | refine blk_drewN ?_ _ | refine blk_drew ?_ | refine blk_alloc ?_ _)); exact BK120.out)⟩; have n4_ : Aside0 (IsS52 w0 w30 g s0_0 t118) := ⟨by rw [← hq_]; exact (by repeat (first | (with_reducible first | exact HI0.out | apply IsS52.alloc | apply IsS52.drewN | apply IsS52.drew | apply IsS52.set_1 | refine IsS52.far ?_ NB0_105.out _ | refine IsS52.far ?_ NB0_120.out _) | exact HI0.out))⟩; have n5_ : Aside0 (KeepBut w w30 g none) := ⟨by rw [← hq_]; exact (by repeat (first | (with_reducible first | exact HK.out | apply KeepBut.set_ | apply keep_drewN | apply keep_drew | apply keep_alloc | refine keep_far ?_ GW105.out _ | refine keep_far ?_ GW120.out _) | exact HK.out))⟩; have n6_ : Aside0 (Below w0.heap.size w0 w30) := ⟨by rw [← hq_]; exact (by repeat (first | (with_reducible first | exact HB.out | apply below_alloc | apply pw_below_drewN | apply below_drew1 | refine below_set ?_ (IsS52.ge HI0.out) | refine below_set ?_ GE105.out | refine below_set ?_ GE120.out) | exact HB.out))⟩; clear HO108 HO116 BK105 BK120 HI0 HK HB hq_; have HO108 := n0_; have HO116 := n1_; have BK105 := n2_; have BK120 := n3_; have HI0 := n4_; have HK := n5_; have HB := n6_; clear n0_ n1_ n2_ n3_ n4_ n5_ n6_))))
              go_meet
              case rel => exact ⟨_, (t122), H', ⟨by first | omega | exact Nat.le_refl _⟩, ⟨by (with_reducible repeat (first | refine blk_drewN ?_ _ | refine blk_drew ?_ | refine blk_alloc ?_ _)); refine blk_far ?_ NB105_120.out _; (with_reducible repeat (first | refine blk_drewN ?_ _ | refine blk_drew ?_ | refine blk_alloc ?_ _)); exact BK105.out⟩, ⟨by (with_reducible repeat (first | refine blk_drewN ?_ _ | refine blk_drew ?_ | refine blk_alloc ?_ _)); refine blk_put (cs := #[.int .i64 (rd y106 t109), .int .i64 (wrap64 (1 + t112)), .int .i64 (rd y114 t117)]) ?_ 2 _ rfl; (with_reducible repeat (first | refine blk_drewN ?_ _ | refine blk_drew ?_ | refine blk_alloc ?_ _)); exact BK120.out⟩, ⟨by repeat (first | (with_reducible first | exact HI0.out | apply IsS52.alloc | apply IsS52.drewN | apply IsS52.drew | apply IsS52.set_1 | refine IsS52.far ?_ NB0_105.out _ | refine IsS52.far ?_ NB0_120.out _) | exact HI0.out)⟩, ⟨by repeat (first | (with_reducible first | exact HK.out | apply KeepBut.set_ | apply keep_drewN | apply keep_drew | apply keep_alloc | refine keep_far ?_ GW105.out _ | refine keep_far ?_ GW120.out _) | exact HK.out)⟩, ⟨by repeat (first | (with_reducible first | exact HB.out | apply below_alloc | apply pw_below_drewN | apply below_drew1 | refine below_set ?_ (IsS52.ge HI0.out) | refine below_set ?_ GE105.out | refine below_set ?_ GE120.out) | exact HB.out)⟩⟩
            · rw [if_neg c31] at H
              have c31b0 : decide (t121 < (rd y114 t117)) = false := decide_eq_false c31
              clear c31
              (first | rw [c31b0] | (simp only [i64_w, i32_w]; rw [c31b0]) | skip)
              have H' := Aside0.mk H
              clear H
              go_wp2
              go_meet
              case rel => exact ⟨_, (rd y114 t117), H', ⟨by first | omega | exact Nat.le_refl _⟩, ⟨by (with_reducible repeat (first | refine blk_drewN ?_ _ | refine blk_drew ?_ | refine blk_alloc ?_ _)); exact BK105.out⟩, ⟨by (with_reducible repeat (first | refine blk_drewN ?_ _ | refine blk_drew ?_ | refine blk_alloc ?_ _)); exact BK120.out⟩, ⟨by repeat (first | (with_reducible first | exact HI0.out | apply IsS52.alloc | apply IsS52.drewN | apply IsS52.drew | apply IsS52.set_1 | refine IsS52.far ?_ NB0_105.out _ | refine IsS52.far ?_ NB0_120.out _) | exact HI0.out)⟩, ⟨by repeat (first | (with_reducible first | exact HK.out | apply KeepBut.set_ | apply keep_drewN | apply keep_drew | apply keep_alloc | refine keep_far ?_ GW105.out _ | refine keep_far ?_ GW120.out _) | exact HK.out)⟩, ⟨by repeat (first | (with_reducible first | exact HB.out | apply below_alloc | apply pw_below_drewN | apply below_drew1 | refine below_set ?_ (IsS52.ge HI0.out) | refine below_set ?_ GE105.out | refine below_set ?_ GE120.out) | exact HB.out)⟩⟩
          case rest =>
            clear HC11
            try clear qi1
            try clear c2
            try clear p2
            try clear c3
            try clear p6
            try clear qi11
            try clear c28
            try clear c29
            try clear c31
            try clear c31b0
            try clear c33
            try clear c34
            try clear hcz35_0
            try clear hcz35_1
            try clear hcz35_2
            try clear hfz35_0
            try clear hfz35_1
            try clear hfz35_2
            obtain ⟨kq, x121002_10, HA, HJ10, BK105, BK120, HI0, HK, HB⟩ := hcut
            cases kq with
            | zero => exact absurd HA.out (by simp [spec_l20Day.j0])
            | succ kj10 =>
              have H := HA.out
              clear HA
              simp only [spec_l20Day.j0] at H
              replace H := Option.bind_eq_some_iff.mp H
              obtain ⟨⟨t123, t124⟩, A360, H⟩ := H
              replace H : (if t123 = 0 then ((spec_l20Rd_pick.f kj10 s0_0 t124 3).bind fun bt125 => (if bt125.1 = 0 then ((some (([1899, 2200, 2023] : List Int) : List Int)).bind fun y127 => ((spec_l20Rd_pick.f kj10 s0_0 bt125.2 3).bind fun bt130 => (if 0 ≤ bt130.1 then (if bt130.1 < (y127.length : Int) then (some (rd y127 bt130.1, (wrap64 (1 + t112)), x121002_10, bt130.2)) else (none)) else (none)))) else (if bt125.1 = 1 then ((some (([0, 13, 2] : List Int) : List Int)).bind fun y133 => ((spec_l20Rd_pick.f kj10 s0_0 bt125.2 3).bind fun bt136 => (if 0 ≤ bt136.1 then (if bt136.1 < (y133.length : Int) then (some ((rd y106 t109), rd y133 bt136.1, x121002_10, bt136.2)) else (none)) else (none)))) else ((some (([0, 31, 30, 32] : List Int) : List Int)).bind fun y139 => ((spec_l20Rd_pick.f kj10 s0_0 bt125.2 4).bind fun bt142 => (if 0 ≤ bt142.1 then (if bt142.1 < (y139.length : Int) then (some ((rd y106 t109), (wrap64 (1 + t112)), rd y139 bt142.1, bt142.2)) else (none)) else (none))))))) else (some ((rd y106 t109), (wrap64 (1 + t112)), x121002_10, t124))) = some (r1, r2, r3, r4) := H
              have A36 := Aside0.mk A360
              clear A360
              by_cases c37 : t123 = 0
              · rw [if_pos c37] at H
                have c37b0 : (t123 == 0) = true := beq_iff_eq.mpr c37
                have c37b1 : (t123 != 0) = false := bne_eq_false_iff_eq.mpr c37
                clear c37
                replace H := Option.bind_eq_some_iff.mp H
                obtain ⟨⟨t125, t126⟩, A380, H⟩ := H
                replace H : (if t125 = 0 then ((some (([1899, 2200, 2023] : List Int) : List Int)).bind fun y127 => ((spec_l20Rd_pick.f kj10 s0_0 t126 3).bind fun bt130 => (if 0 ≤ bt130.1 then (if bt130.1 < (y127.length : Int) then (some (rd y127 bt130.1, (wrap64 (1 + t112)), x121002_10, bt130.2)) else (none)) else (none)))) else (if t125 = 1 then ((some (([0, 13, 2] : List Int) : List Int)).bind fun y133 => ((spec_l20Rd_pick.f kj10 s0_0 t126 3).bind fun bt136 => (if 0 ≤ bt136.1 then (if bt136.1 < (y133.length : Int) then (some ((rd y106 t109), rd y133 bt136.1, x121002_10, bt136.2)) else (none)) else (none)))) else ((some (([0, 31, 30, 32] : List Int) : List Int)).bind fun y139 => ((spec_l20Rd_pick.f kj10 s0_0 t126 4).bind fun bt142 => (if 0 ≤ bt142.1 then (if bt142.1 < (y139.length : Int) then (some ((rd y106 t109), (wrap64 (1 + t112)), rd y139 bt142.1, bt142.2)) else (none)) else (none)))))) = some (r1, r2, r3, r4) := H
                have A38 := Aside0.mk A380
                clear A380
                by_cases c39 : t125 = 0
                · rw [if_pos c39] at H
                  have c39b0 : (t125 == 0) = true := beq_iff_eq.mpr c39
                  have c39b1 : (t125 != 0) = false := bne_eq_false_iff_eq.mpr c39
                  clear c39
                  obtain ⟨y127, hy127⟩ : ∃ y_ : List Int, y_ = (([1899, 2200, 2023] : List Int)) := ⟨_, rfl⟩
                  replace H : ((spec_l20Rd_pick.f kj10 s0_0 t126 3).bind fun bt130 => (if 0 ≤ bt130.1 then (if bt130.1 < (y127.length : Int) then (some (rd y127 bt130.1, (wrap64 (1 + t112)), x121002_10, bt130.2)) else (none)) else (none))) = some (r1, r2, r3, r4) := by first | (rw [hy127]; with_reducible exact H) | (have H2_ := (Option.bind_some _ _).symm.trans H; rw [hy127]; with_reducible exact H2_) | (have H2_ := (Option.bind_some _ _).symm.trans H; with_reducible exact H2_) | with_reducible exact H | (rw [hy127]; exact H) | exact H
                  have Ny127 := Aside0.mk hy127
                  clear hy127
                  replace H := Option.bind_eq_some_iff.mp H
                  obtain ⟨⟨t130, t131⟩, A400, H⟩ := H
                  replace H : (if 0 ≤ t130 then (if t130 < (y127.length : Int) then (some (rd y127 t130, (wrap64 (1 + t112)), x121002_10, t131)) else (none)) else (none)) = some (r1, r2, r3, r4) := H
                  have A40 := Aside0.mk A400
                  clear A400
                  by_cases c41 : 0 ≤ t130
                  · rw [if_pos c41] at H
                    have c41b0 : decide (0 ≤ t130) = true := decide_eq_true c41
                    clear c41
                    by_cases c42 : t130 < (y127.length : Int)
                    · rw [if_pos c42] at H
                      have c42b0 : decide (t130 < (y127.length : Int)) = true := decide_eq_true c42
                      clear c42
                      simp only [Option.some.injEq, Prod.mk.injEq] at H
                      obtain ⟨rfl, rfl, rfl, rfl⟩ := H
                      go_wp2_with (first | ((with_reducible refine gate_callee (f := 29) rfl ?_); refine goesL_ (some 36) rfl rfl Try.func29 (by kernel_rfl) rfl #[.pointer (some ⟨g, 0, none⟩), .int .i64 a1] rfl (by (try simp only [List.map_toArray, List.map_cons, List.map_nil]); first | done | rfl | (simp only [List.length_drop, List.length_take]; rfl)) ?_; (with_reducible refine (spec_l20Rd_pick.calls kj10 g s0_0 t118 a1 t123 t124 w0 _ ?side1 ?side2 A36.out).mono ?_); (case side1 => repeat (first | (with_reducible first | exact HI0.out | apply IsS52.alloc | apply IsS52.drewN | apply IsS52.drew | apply IsS52.set_1 | refine IsS52.far ?_ NB0_105.out _ | refine IsS52.far ?_ NB0_120.out _) | exact HI0.out)); (case side2 => repeat (first | (with_reducible first | exact HB.out | apply below_alloc | apply pw_below_drewN | apply below_drew1 | refine below_set ?_ (IsS52.ge HI0.out) | refine below_set ?_ GE105.out | refine below_set ?_ GE120.out) | exact HB.out)); rintro e w43 ⟨rfl, hi, hb, hk⟩; refine ⟨_, rfl, ?_⟩; have n0_ := Aside0.mk (KeepBut.blk hk (g' := gb105) (o := .cells #[.int .i64 0, .int .i64 0, .int .i64 0] 24 (0, 0)) (by (with_reducible repeat (first | refine blk_drewN ?_ _ | refine blk_drew ?_ | refine blk_alloc ?_ _)); exact BK105.out) NB105_0.out (by simp)); have n1_ := Aside0.mk (KeepBut.blk hk (g' := gb120) (o := .cells #[.int .i64 (rd y106 t109), .int .i64 (wrap64 (1 + t112)), .int .i64 x121002_10] 24 (0, 0)) (by (with_reducible repeat (first | refine blk_drewN ?_ _ | refine blk_drew ?_ | refine blk_alloc ?_ _)); exact BK120.out) NB120_0.out (by simp)); have n2_ := Aside0.mk (KeepBut.trans (by repeat (first | (with_reducible first | exact HK.out | apply KeepBut.set_ | apply keep_drewN | apply keep_drew | apply keep_alloc | refine keep_far ?_ GW105.out _ | refine keep_far ?_ GW120.out _) | exact HK.out)) hk (.inl rfl)); have n3_ := Aside0.mk (hb); have n4_ := Aside0.mk (hi); clear BK105; clear BK120; clear HK; clear HB; clear HI0; have BK105 := n0_; have BK120 := n1_; have HK := n2_; have HB := n3_; have HI0 := n4_; clear n0_ n1_ n2_ n3_ n4_; (try clear hb); (try clear hb2); (try clear hk); (try clear hi)) | ((with_reducible refine gate_callee (f := 29) rfl ?_); refine goesL_ (some 39) rfl rfl Try.func29 (by kernel_rfl) rfl #[.pointer (some ⟨g, 0, none⟩), .int .i64 3] rfl (by (try simp only [List.map_toArray, List.map_cons, List.map_nil]); first | done | rfl | (simp only [List.length_drop, List.length_take]; rfl)) ?_; (with_reducible refine (spec_l20Rd_pick.calls kj10 g s0_0 t124 3 t125 t126 w0 _ ?side1 ?side2 A38.out).mono ?_); (case side1 => repeat (first | (with_reducible first | exact HI0.out | apply IsS52.alloc | apply IsS52.drewN | apply IsS52.drew | apply IsS52.set_1 | refine IsS52.far ?_ NB0_105.out _ | refine IsS52.far ?_ NB0_120.out _) | exact HI0.out)); (case side2 => repeat (first | (with_reducible first | exact HB.out | apply below_alloc | apply pw_below_drewN | apply below_drew1 | refine below_set ?_ (IsS52.ge HI0.out) | refine below_set ?_ GE105.out | refine below_set ?_ GE120.out) | exact HB.out)); rintro e w44 ⟨rfl, hi, hb, hk⟩; refine ⟨_, rfl, ?_⟩; have n0_ := Aside0.mk (KeepBut.blk hk (g' := gb105) (o := .cells #[.int .i64 0, .int .i64 0, .int .i64 0] 24 (0, 0)) (by (with_reducible repeat (first | refine blk_drewN ?_ _ | refine blk_drew ?_ | refine blk_alloc ?_ _)); exact BK105.out) NB105_0.out (by simp)); have n1_ := Aside0.mk (KeepBut.blk hk (g' := gb120) (o := .cells #[.int .i64 (rd y106 t109), .int .i64 (wrap64 (1 + t112)), .int .i64 x121002_10] 24 (0, 0)) (by (with_reducible repeat (first | refine blk_drewN ?_ _ | refine blk_drew ?_ | refine blk_alloc ?_ _)); exact BK120.out) NB120_0.out (by simp)); have n2_ := Aside0.mk (KeepBut.trans (by repeat (first | (with_reducible first | exact HK.out | apply KeepBut.set_ | apply keep_drewN | apply keep_drew | apply keep_alloc | refine keep_far ?_ GW105.out _ | refine keep_far ?_ GW120.out _) | exact HK.out)) hk (.inl rfl)); have n3_ := Aside0.mk (hb); have n4_ := Aside0.mk (hi); clear BK105; clear BK120; clear HK; clear HB; clear HI0; have BK105 := n0_; have BK120 := n1_; have HK := n2_; have HB := n3_; have HI0 := n4_; clear n0_ n1_ n2_ n3_ n4_; (try clear hb); (try clear hb2); (try clear hk); (try clear hi)) | ((with_reducible refine gate_dst (N := 48) rfl ?_); refine Kd.R_lit (Kd.int .i64) _ 3 ?hg (N := 48) ?hd (xs := ([1899, 2200, 2023] : List Int)) (inner := [.int .i64 1899, .int .i64 2200, .int .i64 2023]) (ok := fun _ => True) (okp := fun _ => True) ?hr ?hp (fun _ hk => hk) trivial (Below.refl _ _) (Nat.le_refl _) (by simp) ?_; (case hd => rfl); (case hg => rfl); (case hr => first | (go_simp; done) | (go_simp; rfl)); (case hp => exact (Reps.one (show Kd.M (Kd.int .i64) _ _ _ 1899 [.int .i64 1899] from rfl) (Reps.one (show Kd.M (Kd.int .i64) _ _ _ 2200 [.int .i64 2200] from rfl) (Reps.one (show Kd.M (Kd.int .i64) _ _ _ 2023 [.int .i64 2023] from rfl) (Reps.none _ _))))); intro v128 w45 ho46 hb hg_ hnew_; clear hg_ hnew_; (first | rw [← Ny127.out] at ho46 | (simp only [Int.reduceToNat] at ho46; rw [← Ny127.out] at ho46)); have n0_ := Aside0.mk (Kd.R_lower ho46 (keep_size (w := w) (g := g) (row := none) (by repeat (first | (with_reducible first | exact HK.out | apply KeepBut.set_ | apply keep_drewN | apply keep_drew | apply keep_alloc | refine keep_far ?_ GW105.out _ | refine keep_far ?_ GW120.out _) | exact HK.out)))); have n1_ := Aside0.mk (blk_below (g := gb105) (o := .cells #[.int .i64 0, .int .i64 0, .int .i64 0] 24 (0, 0)) (by (with_reducible repeat (first | refine blk_drewN ?_ _ | refine blk_drew ?_ | refine blk_alloc ?_ _)); exact BK105.out) hb); have n2_ := Aside0.mk (blk_below (g := gb120) (o := .cells #[.int .i64 (rd y106 t109), .int .i64 (wrap64 (1 + t112)), .int .i64 x121002_10] 24 (0, 0)) (by (with_reducible repeat (first | refine blk_drewN ?_ _ | refine blk_drew ?_ | refine blk_alloc ?_ _)); exact BK120.out) hb); have n3_ := Aside0.mk (IsS52.below (by repeat (first | (with_reducible first | exact HI0.out | apply IsS52.alloc | apply IsS52.drewN | apply IsS52.drew | apply IsS52.set_1 | refine IsS52.far ?_ NB0_105.out _ | refine IsS52.far ?_ NB0_120.out _) | exact HI0.out)) hb); have n4_ := Aside0.mk (KeepBut.trans (by repeat (first | (with_reducible first | exact HK.out | apply KeepBut.set_ | apply keep_drewN | apply keep_drew | apply keep_alloc | refine keep_far ?_ GW105.out _ | refine keep_far ?_ GW120.out _) | exact HK.out)) (KeepBut.of_below hb g none) (.inl rfl)); have n5_ := Aside0.mk (below_step (by repeat (first | (with_reducible first | exact HB.out | apply below_alloc | apply pw_below_drewN | apply below_drew1 | refine below_set ?_ (IsS52.ge HI0.out) | refine below_set ?_ GE105.out | refine below_set ?_ GE120.out) | exact HB.out)) hb); clear BK105; clear BK120; clear HI0; clear HK; clear HB; have HO129 := n0_; have BK105 := n1_; have BK120 := n2_; have HI0 := n3_; have HK := n4_; have HB := n5_; clear n0_ n1_ n2_ n3_ n4_ n5_; clear hb ho46) | ((with_reducible refine gate_callee (f := 29) rfl ?_); refine goesL_ (some 50) rfl rfl Try.func29 (by kernel_rfl) rfl #[.pointer (some ⟨g, 0, none⟩), .int .i64 3] rfl (by (try simp only [List.map_toArray, List.map_cons, List.map_nil]); first | done | rfl | (simp only [List.length_drop, List.length_take]; rfl)) ?_; (with_reducible refine (spec_l20Rd_pick.calls kj10 g s0_0 t126 3 t130 t131 w0 _ ?side1 ?side2 A40.out).mono ?_); (case side1 => repeat (first | (with_reducible first | exact HI0.out | apply IsS52.alloc | apply IsS52.drewN | apply IsS52.drew | apply IsS52.set_1 | refine IsS52.far ?_ NB0_105.out _ | refine IsS52.far ?_ NB0_120.out _) | exact HI0.out)); (case side2 => repeat (first | (with_reducible first | exact HB.out | apply below_alloc | apply pw_below_drewN | apply below_drew1 | refine below_set ?_ (IsS52.ge HI0.out) | refine below_set ?_ GE105.out | refine below_set ?_ GE120.out) | exact HB.out)); rintro e w47 ⟨rfl, hi, hb, hk⟩; refine ⟨_, rfl, ?_⟩; have n0_ := Aside0.mk (KeepBut.blk hk (g' := gb105) (o := .cells #[.int .i64 0, .int .i64 0, .int .i64 0] 24 (0, 0)) (by (with_reducible repeat (first | refine blk_drewN ?_ _ | refine blk_drew ?_ | refine blk_alloc ?_ _)); exact BK105.out) NB105_0.out (by simp)); have n1_ := Aside0.mk (KeepBut.blk hk (g' := gb120) (o := .cells #[.int .i64 (rd y106 t109), .int .i64 (wrap64 (1 + t112)), .int .i64 x121002_10] 24 (0, 0)) (by (with_reducible repeat (first | refine blk_drewN ?_ _ | refine blk_drew ?_ | refine blk_alloc ?_ _)); exact BK120.out) NB120_0.out (by simp)); have n2_ := Aside0.mk (Kd.R_mono (Kd.R_keep (IsS52.apart (show IsS52 w0 _ g s0_0 t126 from by repeat (first | (with_reducible first | exact HI0.out | apply IsS52.alloc | apply IsS52.drewN | apply IsS52.drew | apply IsS52.set_1 | refine IsS52.far ?_ NB0_105.out _ | refine IsS52.far ?_ NB0_120.out _) | exact HI0.out)) (by (with_reducible repeat (first | apply Kd.R_alloc | apply Kd.R_drewN | apply Kd.R_drew)); exact HO129.out) (by decide)) hk (fun _ h => h.2)) (fun _ h => h.1)); have n3_ := Aside0.mk (KeepBut.trans (by repeat (first | (with_reducible first | exact HK.out | apply KeepBut.set_ | apply keep_drewN | apply keep_drew | apply keep_alloc | refine keep_far ?_ GW105.out _ | refine keep_far ?_ GW120.out _) | exact HK.out)) hk (.inl rfl)); have n4_ := Aside0.mk (hb); have n5_ := Aside0.mk (hi); clear BK105; clear BK120; clear HO129; clear HK; clear HB; clear HI0; have BK105 := n0_; have BK120 := n1_; have HO129 := n2_; have HK := n3_; have HB := n4_; have HI0 := n5_; clear n0_ n1_ n2_ n3_ n4_ n5_; (try clear hb); (try clear hb2); (try clear hk); (try clear hi); obtain ⟨Ao48, co48, eo48⟩ := Kd.R_slice HO129.out; subst eo48; have p132 : 0 ≤ (t130 : Int) := of_decide_eq_true (by first | (with_reducible assumption) | assumption); have q132 : t130 < (y127.length : Int) := of_decide_eq_true (by first | (with_reducible assumption) | assumption); obtain ⟨ad132, e132, hx132_0⟩ := Kd.at_int (Kd.R_reads' HO129.out).2.2 t130 p132 q132; cases e132; replace p132 := eq_true p132; replace q132 := eq_true q132; have hnb49 := NB120_105.out; have hnc49 := NB105_120.out; have hnb50 := NB120_0.out; have hnc50 := NB0_120.out; have hcz51_0 : w47.cell? ⟨gb120, 0, none⟩ = some (.int .i64 (rd y106 t109)) := (blk_cell BK120.out 0).trans rfl; have hcz51_1 : w47.cell? ⟨gb120, 1, none⟩ = some (.int .i64 (wrap64 (1 + t112))) := (blk_cell BK120.out 1).trans rfl; have hcz51_2 : w47.cell? ⟨gb120, 2, none⟩ = some (.int .i64 x121002_10) := (blk_cell BK120.out 2).trans rfl; have hfz51_0 := blk_frozen BK120.out 0; have hfz51_1 := blk_frozen BK120.out 1; have hfz51_2 := blk_frozen BK120.out 2; have hnb52 := NB105_0.out; have hnc52 := NB0_105.out; have hcz53_0 : w47.cell? ⟨gb105, 0, none⟩ = some (.int .i64 0) := (blk_cell BK105.out 0).trans rfl; have hcz53_1 : w47.cell? ⟨gb105, 1, none⟩ = some (.int .i64 0) := (blk_cell BK105.out 1).trans rfl; have hcz53_2 : w47.cell? ⟨gb105, 2, none⟩ = some (.int .i64 0) := (blk_cell BK105.out 2).trans rfl; have hfz53_0 := blk_frozen BK105.out 0; have hfz53_1 := blk_frozen BK105.out 1; have hfz53_2 := blk_frozen BK105.out 2))
                      refine bodyPost_ret (results_cell_row rfl _ _ gb105 24 #[.int .i64 (rd y127 t130), .int .i64 (wrap64 (1 + t112)), .int .i64 x121002_10] (0, 0) _ rfl (by (with_reducible repeat (first | refine blk_drewN ?_ _ | refine blk_drew ?_ | refine blk_alloc ?_ _)); refine blk_put (cs := #[.int .i64 (rd y127 t130), .int .i64 (wrap64 (1 + t112)), .int .i64 0]) ?_ 2 _ rfl; (with_reducible repeat (first | refine blk_drewN ?_ _ | refine blk_drew ?_ | refine blk_alloc ?_ _)); refine blk_put (cs := #[.int .i64 (rd y127 t130), .int .i64 0, .int .i64 0]) ?_ 1 _ rfl; (with_reducible repeat (first | refine blk_drewN ?_ _ | refine blk_drew ?_ | refine blk_alloc ?_ _)); refine blk_put (cs := #[.int .i64 0, .int .i64 0, .int .i64 0]) ?_ 0 _ rfl; (with_reducible repeat (first | refine blk_drewN ?_ _ | refine blk_drew ?_ | refine blk_alloc ?_ _)); refine blk_far ?_ NB105_120.out _; (with_reducible repeat (first | refine blk_drewN ?_ _ | refine blk_drew ?_ | refine blk_alloc ?_ _)); exact BK105.out) Try.underlying24 rfl (by kernel_rfl)) rfl ?_
                      exact ⟨by first | rfl | (simp [errW_none, errW_some] <;> rfl) | (simp [*, errW_none, errW_some] <;> rfl), by repeat (first | (with_reducible first | exact HI0.out | apply IsS52.alloc | apply IsS52.drewN | apply IsS52.drew | apply IsS52.set_1 | refine IsS52.far ?_ NB0_105.out _ | refine IsS52.far ?_ NB0_120.out _) | exact HI0.out), by repeat (first | (with_reducible first | exact HB.out | apply below_alloc | apply pw_below_drewN | apply below_drew1 | refine below_set ?_ (IsS52.ge HI0.out) | refine below_set ?_ GE105.out | refine below_set ?_ GE120.out) | exact HB.out), by repeat (first | (with_reducible first | exact HK.out | apply KeepBut.set_ | apply keep_drewN | apply keep_drew | apply keep_alloc | refine keep_far ?_ GW105.out _ | refine keep_far ?_ GW120.out _) | exact HK.out)⟩
                    · rw [if_neg c42] at H
                      exact absurd H (by simp)
                  · rw [if_neg c41] at H
                    exact absurd H (by simp)
                · rw [if_neg c39] at H
                  have c39b0 : (t125 == 0) = false := beq_eq_false_iff_ne.mpr c39
                  have c39b1 : (t125 != 0) = true := bne_iff_ne.mpr c39
                  by_cases c54 : t125 = 1
                  · rw [if_pos c54] at H
                    have c54b0 : (t125 == 1) = true := beq_iff_eq.mpr c54
                    have c54b1 : (t125 != 1) = false := bne_eq_false_iff_eq.mpr c54
                    clear c54
                    obtain ⟨y133, hy133⟩ : ∃ y_ : List Int, y_ = (([0, 13, 2] : List Int)) := ⟨_, rfl⟩
                    replace H : ((spec_l20Rd_pick.f kj10 s0_0 t126 3).bind fun bt136 => (if 0 ≤ bt136.1 then (if bt136.1 < (y133.length : Int) then (some ((rd y106 t109), rd y133 bt136.1, x121002_10, bt136.2)) else (none)) else (none))) = some (r1, r2, r3, r4) := by first | (rw [hy133]; with_reducible exact H) | (have H2_ := (Option.bind_some _ _).symm.trans H; rw [hy133]; with_reducible exact H2_) | (have H2_ := (Option.bind_some _ _).symm.trans H; with_reducible exact H2_) | with_reducible exact H | (rw [hy133]; exact H) | exact H
                    have Ny133 := Aside0.mk hy133
                    clear hy133
                    replace H := Option.bind_eq_some_iff.mp H
                    obtain ⟨⟨t136, t137⟩, A550, H⟩ := H
                    replace H : (if 0 ≤ t136 then (if t136 < (y133.length : Int) then (some ((rd y106 t109), rd y133 t136, x121002_10, t137)) else (none)) else (none)) = some (r1, r2, r3, r4) := H
                    have A55 := Aside0.mk A550
                    clear A550
                    by_cases c56 : 0 ≤ t136
                    · rw [if_pos c56] at H
                      have c56b0 : decide (0 ≤ t136) = true := decide_eq_true c56
                      clear c56
                      by_cases c57 : t136 < (y133.length : Int)
                      · rw [if_pos c57] at H
                        have c57b0 : decide (t136 < (y133.length : Int)) = true := decide_eq_true c57
                        clear c57
                        simp only [Option.some.injEq, Prod.mk.injEq] at H
                        obtain ⟨rfl, rfl, rfl, rfl⟩ := H
                        go_wp2_with (first | ((with_reducible refine gate_callee (f := 29) rfl ?_); refine goesL_ (some 36) rfl rfl Try.func29 (by kernel_rfl) rfl #[.pointer (some ⟨g, 0, none⟩), .int .i64 a1] rfl (by (try simp only [List.map_toArray, List.map_cons, List.map_nil]); first | done | rfl | (simp only [List.length_drop, List.length_take]; rfl)) ?_; (with_reducible refine (spec_l20Rd_pick.calls kj10 g s0_0 t118 a1 t123 t124 w0 _ ?side1 ?side2 A36.out).mono ?_); (case side1 => repeat (first | (with_reducible first | exact HI0.out | apply IsS52.alloc | apply IsS52.drewN | apply IsS52.drew | apply IsS52.set_1 | refine IsS52.far ?_ NB0_105.out _ | refine IsS52.far ?_ NB0_120.out _) | exact HI0.out)); (case side2 => repeat (first | (with_reducible first | exact HB.out | apply below_alloc | apply pw_below_drewN | apply below_drew1 | refine below_set ?_ (IsS52.ge HI0.out) | refine below_set ?_ GE105.out | refine below_set ?_ GE120.out) | exact HB.out)); rintro e w58 ⟨rfl, hi, hb, hk⟩; refine ⟨_, rfl, ?_⟩; have n0_ := Aside0.mk (KeepBut.blk hk (g' := gb105) (o := .cells #[.int .i64 0, .int .i64 0, .int .i64 0] 24 (0, 0)) (by (with_reducible repeat (first | refine blk_drewN ?_ _ | refine blk_drew ?_ | refine blk_alloc ?_ _)); exact BK105.out) NB105_0.out (by simp)); have n1_ := Aside0.mk (KeepBut.blk hk (g' := gb120) (o := .cells #[.int .i64 (rd y106 t109), .int .i64 (wrap64 (1 + t112)), .int .i64 x121002_10] 24 (0, 0)) (by (with_reducible repeat (first | refine blk_drewN ?_ _ | refine blk_drew ?_ | refine blk_alloc ?_ _)); exact BK120.out) NB120_0.out (by simp)); have n2_ := Aside0.mk (KeepBut.trans (by repeat (first | (with_reducible first | exact HK.out | apply KeepBut.set_ | apply keep_drewN | apply keep_drew | apply keep_alloc | refine keep_far ?_ GW105.out _ | refine keep_far ?_ GW120.out _) | exact HK.out)) hk (.inl rfl)); have n3_ := Aside0.mk (hb); have n4_ := Aside0.mk (hi); clear BK105; clear BK120; clear HK; clear HB; clear HI0; have BK105 := n0_; have BK120 := n1_; have HK := n2_; have HB := n3_; have HI0 := n4_; clear n0_ n1_ n2_ n3_ n4_; (try clear hb); (try clear hb2); (try clear hk); (try clear hi)) | ((with_reducible refine gate_callee (f := 29) rfl ?_); refine goesL_ (some 39) rfl rfl Try.func29 (by kernel_rfl) rfl #[.pointer (some ⟨g, 0, none⟩), .int .i64 3] rfl (by (try simp only [List.map_toArray, List.map_cons, List.map_nil]); first | done | rfl | (simp only [List.length_drop, List.length_take]; rfl)) ?_; (with_reducible refine (spec_l20Rd_pick.calls kj10 g s0_0 t124 3 t125 t126 w0 _ ?side1 ?side2 A38.out).mono ?_); (case side1 => repeat (first | (with_reducible first | exact HI0.out | apply IsS52.alloc | apply IsS52.drewN | apply IsS52.drew | apply IsS52.set_1 | refine IsS52.far ?_ NB0_105.out _ | refine IsS52.far ?_ NB0_120.out _) | exact HI0.out)); (case side2 => repeat (first | (with_reducible first | exact HB.out | apply below_alloc | apply pw_below_drewN | apply below_drew1 | refine below_set ?_ (IsS52.ge HI0.out) | refine below_set ?_ GE105.out | refine below_set ?_ GE120.out) | exact HB.out)); rintro e w59 ⟨rfl, hi, hb, hk⟩; refine ⟨_, rfl, ?_⟩; have n0_ := Aside0.mk (KeepBut.blk hk (g' := gb105) (o := .cells #[.int .i64 0, .int .i64 0, .int .i64 0] 24 (0, 0)) (by (with_reducible repeat (first | refine blk_drewN ?_ _ | refine blk_drew ?_ | refine blk_alloc ?_ _)); exact BK105.out) NB105_0.out (by simp)); have n1_ := Aside0.mk (KeepBut.blk hk (g' := gb120) (o := .cells #[.int .i64 (rd y106 t109), .int .i64 (wrap64 (1 + t112)), .int .i64 x121002_10] 24 (0, 0)) (by (with_reducible repeat (first | refine blk_drewN ?_ _ | refine blk_drew ?_ | refine blk_alloc ?_ _)); exact BK120.out) NB120_0.out (by simp)); have n2_ := Aside0.mk (KeepBut.trans (by repeat (first | (with_reducible first | exact HK.out | apply KeepBut.set_ | apply keep_drewN | apply keep_drew | apply keep_alloc | refine keep_far ?_ GW105.out _ | refine keep_far ?_ GW120.out _) | exact HK.out)) hk (.inl rfl)); have n3_ := Aside0.mk (hb); have n4_ := Aside0.mk (hi); clear BK105; clear BK120; clear HK; clear HB; clear HI0; have BK105 := n0_; have BK120 := n1_; have HK := n2_; have HB := n3_; have HI0 := n4_; clear n0_ n1_ n2_ n3_ n4_; (try clear hb); (try clear hb2); (try clear hk); (try clear hi)) | ((with_reducible refine gate_dst (N := 56) rfl ?_); refine Kd.R_lit (Kd.int .i64) _ 3 ?hg (N := 56) ?hd (xs := ([0, 13, 2] : List Int)) (inner := [.int .i64 0, .int .i64 13, .int .i64 2]) (ok := fun _ => True) (okp := fun _ => True) ?hr ?hp (fun _ hk => hk) trivial (Below.refl _ _) (Nat.le_refl _) (by simp) ?_; (case hd => rfl); (case hg => rfl); (case hr => first | (go_simp; done) | (go_simp; rfl)); (case hp => exact (Reps.one (show Kd.M (Kd.int .i64) _ _ _ 0 [.int .i64 0] from rfl) (Reps.one (show Kd.M (Kd.int .i64) _ _ _ 13 [.int .i64 13] from rfl) (Reps.one (show Kd.M (Kd.int .i64) _ _ _ 2 [.int .i64 2] from rfl) (Reps.none _ _))))); intro v134 w60 ho61 hb hg_ hnew_; clear hg_ hnew_; (first | rw [← Ny133.out] at ho61 | (simp only [Int.reduceToNat] at ho61; rw [← Ny133.out] at ho61)); have n0_ := Aside0.mk (Kd.R_lower ho61 (keep_size (w := w) (g := g) (row := none) (by repeat (first | (with_reducible first | exact HK.out | apply KeepBut.set_ | apply keep_drewN | apply keep_drew | apply keep_alloc | refine keep_far ?_ GW105.out _ | refine keep_far ?_ GW120.out _) | exact HK.out)))); have n1_ := Aside0.mk (blk_below (g := gb105) (o := .cells #[.int .i64 0, .int .i64 0, .int .i64 0] 24 (0, 0)) (by (with_reducible repeat (first | refine blk_drewN ?_ _ | refine blk_drew ?_ | refine blk_alloc ?_ _)); exact BK105.out) hb); have n2_ := Aside0.mk (blk_below (g := gb120) (o := .cells #[.int .i64 (rd y106 t109), .int .i64 (wrap64 (1 + t112)), .int .i64 x121002_10] 24 (0, 0)) (by (with_reducible repeat (first | refine blk_drewN ?_ _ | refine blk_drew ?_ | refine blk_alloc ?_ _)); exact BK120.out) hb); have n3_ := Aside0.mk (IsS52.below (by repeat (first | (with_reducible first | exact HI0.out | apply IsS52.alloc | apply IsS52.drewN | apply IsS52.drew | apply IsS52.set_1 | refine IsS52.far ?_ NB0_105.out _ | refine IsS52.far ?_ NB0_120.out _) | exact HI0.out)) hb); have n4_ := Aside0.mk (KeepBut.trans (by repeat (first | (with_reducible first | exact HK.out | apply KeepBut.set_ | apply keep_drewN | apply keep_drew | apply keep_alloc | refine keep_far ?_ GW105.out _ | refine keep_far ?_ GW120.out _) | exact HK.out)) (KeepBut.of_below hb g none) (.inl rfl)); have n5_ := Aside0.mk (below_step (by repeat (first | (with_reducible first | exact HB.out | apply below_alloc | apply pw_below_drewN | apply below_drew1 | refine below_set ?_ (IsS52.ge HI0.out) | refine below_set ?_ GE105.out | refine below_set ?_ GE120.out) | exact HB.out)) hb); clear BK105; clear BK120; clear HI0; clear HK; clear HB; have HO135 := n0_; have BK105 := n1_; have BK120 := n2_; have HI0 := n3_; have HK := n4_; have HB := n5_; clear n0_ n1_ n2_ n3_ n4_ n5_; clear hb ho61) | ((with_reducible refine gate_callee (f := 29) rfl ?_); refine goesL_ (some 58) rfl rfl Try.func29 (by kernel_rfl) rfl #[.pointer (some ⟨g, 0, none⟩), .int .i64 3] rfl (by (try simp only [List.map_toArray, List.map_cons, List.map_nil]); first | done | rfl | (simp only [List.length_drop, List.length_take]; rfl)) ?_; (with_reducible refine (spec_l20Rd_pick.calls kj10 g s0_0 t126 3 t136 t137 w0 _ ?side1 ?side2 A55.out).mono ?_); (case side1 => repeat (first | (with_reducible first | exact HI0.out | apply IsS52.alloc | apply IsS52.drewN | apply IsS52.drew | apply IsS52.set_1 | refine IsS52.far ?_ NB0_105.out _ | refine IsS52.far ?_ NB0_120.out _) | exact HI0.out)); (case side2 => repeat (first | (with_reducible first | exact HB.out | apply below_alloc | apply pw_below_drewN | apply below_drew1 | refine below_set ?_ (IsS52.ge HI0.out) | refine below_set ?_ GE105.out | refine below_set ?_ GE120.out) | exact HB.out)); rintro e w62 ⟨rfl, hi, hb, hk⟩; refine ⟨_, rfl, ?_⟩; have n0_ := Aside0.mk (KeepBut.blk hk (g' := gb105) (o := .cells #[.int .i64 0, .int .i64 0, .int .i64 0] 24 (0, 0)) (by (with_reducible repeat (first | refine blk_drewN ?_ _ | refine blk_drew ?_ | refine blk_alloc ?_ _)); exact BK105.out) NB105_0.out (by simp)); have n1_ := Aside0.mk (KeepBut.blk hk (g' := gb120) (o := .cells #[.int .i64 (rd y106 t109), .int .i64 (wrap64 (1 + t112)), .int .i64 x121002_10] 24 (0, 0)) (by (with_reducible repeat (first | refine blk_drewN ?_ _ | refine blk_drew ?_ | refine blk_alloc ?_ _)); exact BK120.out) NB120_0.out (by simp)); have n2_ := Aside0.mk (Kd.R_mono (Kd.R_keep (IsS52.apart (show IsS52 w0 _ g s0_0 t126 from by repeat (first | (with_reducible first | exact HI0.out | apply IsS52.alloc | apply IsS52.drewN | apply IsS52.drew | apply IsS52.set_1 | refine IsS52.far ?_ NB0_105.out _ | refine IsS52.far ?_ NB0_120.out _) | exact HI0.out)) (by (with_reducible repeat (first | apply Kd.R_alloc | apply Kd.R_drewN | apply Kd.R_drew)); exact HO135.out) (by decide)) hk (fun _ h => h.2)) (fun _ h => h.1)); have n3_ := Aside0.mk (KeepBut.trans (by repeat (first | (with_reducible first | exact HK.out | apply KeepBut.set_ | apply keep_drewN | apply keep_drew | apply keep_alloc | refine keep_far ?_ GW105.out _ | refine keep_far ?_ GW120.out _) | exact HK.out)) hk (.inl rfl)); have n4_ := Aside0.mk (hb); have n5_ := Aside0.mk (hi); clear BK105; clear BK120; clear HO135; clear HK; clear HB; clear HI0; have BK105 := n0_; have BK120 := n1_; have HO135 := n2_; have HK := n3_; have HB := n4_; have HI0 := n5_; clear n0_ n1_ n2_ n3_ n4_ n5_; (try clear hb); (try clear hb2); (try clear hk); (try clear hi); obtain ⟨Ao63, co63, eo63⟩ := Kd.R_slice HO135.out; subst eo63; have p138 : 0 ≤ (t136 : Int) := of_decide_eq_true (by first | (with_reducible assumption) | assumption); have q138 : t136 < (y133.length : Int) := of_decide_eq_true (by first | (with_reducible assumption) | assumption); obtain ⟨ad138, e138, hx138_0⟩ := Kd.at_int (Kd.R_reads' HO135.out).2.2 t136 p138 q138; cases e138; replace p138 := eq_true p138; replace q138 := eq_true q138; have hnb64 := NB120_105.out; have hnc64 := NB105_120.out; have hnb65 := NB120_0.out; have hnc65 := NB0_120.out; have hcz66_0 : w62.cell? ⟨gb120, 0, none⟩ = some (.int .i64 (rd y106 t109)) := (blk_cell BK120.out 0).trans rfl; have hcz66_1 : w62.cell? ⟨gb120, 1, none⟩ = some (.int .i64 (wrap64 (1 + t112))) := (blk_cell BK120.out 1).trans rfl; have hcz66_2 : w62.cell? ⟨gb120, 2, none⟩ = some (.int .i64 x121002_10) := (blk_cell BK120.out 2).trans rfl; have hfz66_0 := blk_frozen BK120.out 0; have hfz66_1 := blk_frozen BK120.out 1; have hfz66_2 := blk_frozen BK120.out 2; have hnb67 := NB105_0.out; have hnc67 := NB0_105.out; have hcz68_0 : w62.cell? ⟨gb105, 0, none⟩ = some (.int .i64 0) := (blk_cell BK105.out 0).trans rfl; have hcz68_1 : w62.cell? ⟨gb105, 1, none⟩ = some (.int .i64 0) := (blk_cell BK105.out 1).trans rfl; have hcz68_2 : w62.cell? ⟨gb105, 2, none⟩ = some (.int .i64 0) := (blk_cell BK105.out 2).trans rfl; have hfz68_0 := blk_frozen BK105.out 0; have hfz68_1 := blk_frozen BK105.out 1; have hfz68_2 := blk_frozen BK105.out 2))
                        refine bodyPost_ret (results_cell_row rfl _ _ gb105 24 #[.int .i64 (rd y106 t109), .int .i64 (rd y133 t136), .int .i64 x121002_10] (0, 0) _ rfl (by (with_reducible repeat (first | refine blk_drewN ?_ _ | refine blk_drew ?_ | refine blk_alloc ?_ _)); refine blk_put (cs := #[.int .i64 (rd y106 t109), .int .i64 (rd y133 t136), .int .i64 0]) ?_ 2 _ rfl; (with_reducible repeat (first | refine blk_drewN ?_ _ | refine blk_drew ?_ | refine blk_alloc ?_ _)); refine blk_put (cs := #[.int .i64 (rd y106 t109), .int .i64 0, .int .i64 0]) ?_ 1 _ rfl; (with_reducible repeat (first | refine blk_drewN ?_ _ | refine blk_drew ?_ | refine blk_alloc ?_ _)); refine blk_put (cs := #[.int .i64 0, .int .i64 0, .int .i64 0]) ?_ 0 _ rfl; (with_reducible repeat (first | refine blk_drewN ?_ _ | refine blk_drew ?_ | refine blk_alloc ?_ _)); refine blk_far ?_ NB105_120.out _; (with_reducible repeat (first | refine blk_drewN ?_ _ | refine blk_drew ?_ | refine blk_alloc ?_ _)); exact BK105.out) Try.underlying24 rfl (by kernel_rfl)) rfl ?_
                        exact ⟨by first | rfl | (simp [errW_none, errW_some] <;> rfl) | (simp [*, errW_none, errW_some] <;> rfl), by repeat (first | (with_reducible first | exact HI0.out | apply IsS52.alloc | apply IsS52.drewN | apply IsS52.drew | apply IsS52.set_1 | refine IsS52.far ?_ NB0_105.out _ | refine IsS52.far ?_ NB0_120.out _) | exact HI0.out), by repeat (first | (with_reducible first | exact HB.out | apply below_alloc | apply pw_below_drewN | apply below_drew1 | refine below_set ?_ (IsS52.ge HI0.out) | refine below_set ?_ GE105.out | refine below_set ?_ GE120.out) | exact HB.out), by repeat (first | (with_reducible first | exact HK.out | apply KeepBut.set_ | apply keep_drewN | apply keep_drew | apply keep_alloc | refine keep_far ?_ GW105.out _ | refine keep_far ?_ GW120.out _) | exact HK.out)⟩
                      · rw [if_neg c57] at H
                        exact absurd H (by simp)
                    · rw [if_neg c56] at H
                      exact absurd H (by simp)
                  · rw [if_neg c54] at H
                    have c54b0 : (t125 == 1) = false := beq_eq_false_iff_ne.mpr c54
                    have c54b1 : (t125 != 1) = true := bne_iff_ne.mpr c54
                    obtain ⟨y139, hy139⟩ : ∃ y_ : List Int, y_ = (([0, 31, 30, 32] : List Int)) := ⟨_, rfl⟩
                    replace H : ((spec_l20Rd_pick.f kj10 s0_0 t126 4).bind fun bt142 => (if 0 ≤ bt142.1 then (if bt142.1 < (y139.length : Int) then (some ((rd y106 t109), (wrap64 (1 + t112)), rd y139 bt142.1, bt142.2)) else (none)) else (none))) = some (r1, r2, r3, r4) := by first | (rw [hy139]; with_reducible exact H) | (have H2_ := (Option.bind_some _ _).symm.trans H; rw [hy139]; with_reducible exact H2_) | (have H2_ := (Option.bind_some _ _).symm.trans H; with_reducible exact H2_) | with_reducible exact H | (rw [hy139]; exact H) | exact H
                    have Ny139 := Aside0.mk hy139
                    clear hy139
                    replace H := Option.bind_eq_some_iff.mp H
                    obtain ⟨⟨t142, t143⟩, A690, H⟩ := H
                    replace H : (if 0 ≤ t142 then (if t142 < (y139.length : Int) then (some ((rd y106 t109), (wrap64 (1 + t112)), rd y139 t142, t143)) else (none)) else (none)) = some (r1, r2, r3, r4) := H
                    have A69 := Aside0.mk A690
                    clear A690
                    by_cases c70 : 0 ≤ t142
                    · rw [if_pos c70] at H
                      have c70b0 : decide (0 ≤ t142) = true := decide_eq_true c70
                      clear c70
                      by_cases c71 : t142 < (y139.length : Int)
                      · rw [if_pos c71] at H
                        have c71b0 : decide (t142 < (y139.length : Int)) = true := decide_eq_true c71
                        clear c71
                        simp only [Option.some.injEq, Prod.mk.injEq] at H
                        obtain ⟨rfl, rfl, rfl, rfl⟩ := H
                        go_wp2_with (first | ((with_reducible refine gate_callee (f := 29) rfl ?_); refine goesL_ (some 36) rfl rfl Try.func29 (by kernel_rfl) rfl #[.pointer (some ⟨g, 0, none⟩), .int .i64 a1] rfl (by (try simp only [List.map_toArray, List.map_cons, List.map_nil]); first | done | rfl | (simp only [List.length_drop, List.length_take]; rfl)) ?_; (with_reducible refine (spec_l20Rd_pick.calls kj10 g s0_0 t118 a1 t123 t124 w0 _ ?side1 ?side2 A36.out).mono ?_); (case side1 => repeat (first | (with_reducible first | exact HI0.out | apply IsS52.alloc | apply IsS52.drewN | apply IsS52.drew | apply IsS52.set_1 | refine IsS52.far ?_ NB0_105.out _ | refine IsS52.far ?_ NB0_120.out _) | exact HI0.out)); (case side2 => repeat (first | (with_reducible first | exact HB.out | apply below_alloc | apply pw_below_drewN | apply below_drew1 | refine below_set ?_ (IsS52.ge HI0.out) | refine below_set ?_ GE105.out | refine below_set ?_ GE120.out) | exact HB.out)); rintro e w72 ⟨rfl, hi, hb, hk⟩; refine ⟨_, rfl, ?_⟩; have n0_ := Aside0.mk (KeepBut.blk hk (g' := gb105) (o := .cells #[.int .i64 0, .int .i64 0, .int .i64 0] 24 (0, 0)) (by (with_reducible repeat (first | refine blk_drewN ?_ _ | refine blk_drew ?_ | refine blk_alloc ?_ _)); exact BK105.out) NB105_0.out (by simp)); have n1_ := Aside0.mk (KeepBut.blk hk (g' := gb120) (o := .cells #[.int .i64 (rd y106 t109), .int .i64 (wrap64 (1 + t112)), .int .i64 x121002_10] 24 (0, 0)) (by (with_reducible repeat (first | refine blk_drewN ?_ _ | refine blk_drew ?_ | refine blk_alloc ?_ _)); exact BK120.out) NB120_0.out (by simp)); have n2_ := Aside0.mk (KeepBut.trans (by repeat (first | (with_reducible first | exact HK.out | apply KeepBut.set_ | apply keep_drewN | apply keep_drew | apply keep_alloc | refine keep_far ?_ GW105.out _ | refine keep_far ?_ GW120.out _) | exact HK.out)) hk (.inl rfl)); have n3_ := Aside0.mk (hb); have n4_ := Aside0.mk (hi); clear BK105; clear BK120; clear HK; clear HB; clear HI0; have BK105 := n0_; have BK120 := n1_; have HK := n2_; have HB := n3_; have HI0 := n4_; clear n0_ n1_ n2_ n3_ n4_; (try clear hb); (try clear hb2); (try clear hk); (try clear hi)) | ((with_reducible refine gate_callee (f := 29) rfl ?_); refine goesL_ (some 39) rfl rfl Try.func29 (by kernel_rfl) rfl #[.pointer (some ⟨g, 0, none⟩), .int .i64 3] rfl (by (try simp only [List.map_toArray, List.map_cons, List.map_nil]); first | done | rfl | (simp only [List.length_drop, List.length_take]; rfl)) ?_; (with_reducible refine (spec_l20Rd_pick.calls kj10 g s0_0 t124 3 t125 t126 w0 _ ?side1 ?side2 A38.out).mono ?_); (case side1 => repeat (first | (with_reducible first | exact HI0.out | apply IsS52.alloc | apply IsS52.drewN | apply IsS52.drew | apply IsS52.set_1 | refine IsS52.far ?_ NB0_105.out _ | refine IsS52.far ?_ NB0_120.out _) | exact HI0.out)); (case side2 => repeat (first | (with_reducible first | exact HB.out | apply below_alloc | apply pw_below_drewN | apply below_drew1 | refine below_set ?_ (IsS52.ge HI0.out) | refine below_set ?_ GE105.out | refine below_set ?_ GE120.out) | exact HB.out)); rintro e w73 ⟨rfl, hi, hb, hk⟩; refine ⟨_, rfl, ?_⟩; have n0_ := Aside0.mk (KeepBut.blk hk (g' := gb105) (o := .cells #[.int .i64 0, .int .i64 0, .int .i64 0] 24 (0, 0)) (by (with_reducible repeat (first | refine blk_drewN ?_ _ | refine blk_drew ?_ | refine blk_alloc ?_ _)); exact BK105.out) NB105_0.out (by simp)); have n1_ := Aside0.mk (KeepBut.blk hk (g' := gb120) (o := .cells #[.int .i64 (rd y106 t109), .int .i64 (wrap64 (1 + t112)), .int .i64 x121002_10] 24 (0, 0)) (by (with_reducible repeat (first | refine blk_drewN ?_ _ | refine blk_drew ?_ | refine blk_alloc ?_ _)); exact BK120.out) NB120_0.out (by simp)); have n2_ := Aside0.mk (KeepBut.trans (by repeat (first | (with_reducible first | exact HK.out | apply KeepBut.set_ | apply keep_drewN | apply keep_drew | apply keep_alloc | refine keep_far ?_ GW105.out _ | refine keep_far ?_ GW120.out _) | exact HK.out)) hk (.inl rfl)); have n3_ := Aside0.mk (hb); have n4_ := Aside0.mk (hi); clear BK105; clear BK120; clear HK; clear HB; clear HI0; have BK105 := n0_; have BK120 := n1_; have HK := n2_; have HB := n3_; have HI0 := n4_; clear n0_ n1_ n2_ n3_ n4_; (try clear hb); (try clear hb2); (try clear hk); (try clear hi)) | ((with_reducible refine gate_dst (N := 40) rfl ?_); refine Kd.R_lit (Kd.int .i64) _ 3 ?hg (N := 40) ?hd (xs := ([0, 31, 30, 32] : List Int)) (inner := [.int .i64 0, .int .i64 31, .int .i64 30, .int .i64 32]) (ok := fun _ => True) (okp := fun _ => True) ?hr ?hp (fun _ hk => hk) trivial (Below.refl _ _) (Nat.le_refl _) (by simp) ?_; (case hd => rfl); (case hg => rfl); (case hr => first | (go_simp; done) | (go_simp; rfl)); (case hp => exact (Reps.one (show Kd.M (Kd.int .i64) _ _ _ 0 [.int .i64 0] from rfl) (Reps.one (show Kd.M (Kd.int .i64) _ _ _ 31 [.int .i64 31] from rfl) (Reps.one (show Kd.M (Kd.int .i64) _ _ _ 30 [.int .i64 30] from rfl) (Reps.one (show Kd.M (Kd.int .i64) _ _ _ 32 [.int .i64 32] from rfl) (Reps.none _ _)))))); intro v140 w74 ho75 hb hg_ hnew_; clear hg_ hnew_; (first | rw [← Ny139.out] at ho75 | (simp only [Int.reduceToNat] at ho75; rw [← Ny139.out] at ho75)); have n0_ := Aside0.mk (Kd.R_lower ho75 (keep_size (w := w) (g := g) (row := none) (by repeat (first | (with_reducible first | exact HK.out | apply KeepBut.set_ | apply keep_drewN | apply keep_drew | apply keep_alloc | refine keep_far ?_ GW105.out _ | refine keep_far ?_ GW120.out _) | exact HK.out)))); have n1_ := Aside0.mk (blk_below (g := gb105) (o := .cells #[.int .i64 0, .int .i64 0, .int .i64 0] 24 (0, 0)) (by (with_reducible repeat (first | refine blk_drewN ?_ _ | refine blk_drew ?_ | refine blk_alloc ?_ _)); exact BK105.out) hb); have n2_ := Aside0.mk (blk_below (g := gb120) (o := .cells #[.int .i64 (rd y106 t109), .int .i64 (wrap64 (1 + t112)), .int .i64 x121002_10] 24 (0, 0)) (by (with_reducible repeat (first | refine blk_drewN ?_ _ | refine blk_drew ?_ | refine blk_alloc ?_ _)); exact BK120.out) hb); have n3_ := Aside0.mk (IsS52.below (by repeat (first | (with_reducible first | exact HI0.out | apply IsS52.alloc | apply IsS52.drewN | apply IsS52.drew | apply IsS52.set_1 | refine IsS52.far ?_ NB0_105.out _ | refine IsS52.far ?_ NB0_120.out _) | exact HI0.out)) hb); have n4_ := Aside0.mk (KeepBut.trans (by repeat (first | (with_reducible first | exact HK.out | apply KeepBut.set_ | apply keep_drewN | apply keep_drew | apply keep_alloc | refine keep_far ?_ GW105.out _ | refine keep_far ?_ GW120.out _) | exact HK.out)) (KeepBut.of_below hb g none) (.inl rfl)); have n5_ := Aside0.mk (below_step (by repeat (first | (with_reducible first | exact HB.out | apply below_alloc | apply pw_below_drewN | apply below_drew1 | refine below_set ?_ (IsS52.ge HI0.out) | refine below_set ?_ GE105.out | refine below_set ?_ GE120.out) | exact HB.out)) hb); clear BK105; clear BK120; clear HI0; clear HK; clear HB; have HO141 := n0_; have BK105 := n1_; have BK120 := n2_; have HI0 := n3_; have HK := n4_; have HB := n5_; clear n0_ n1_ n2_ n3_ n4_ n5_; clear hb ho75) | ((with_reducible refine gate_callee (f := 29) rfl ?_); refine goesL_ (some 42) rfl rfl Try.func29 (by kernel_rfl) rfl #[.pointer (some ⟨g, 0, none⟩), .int .i64 4] rfl (by (try simp only [List.map_toArray, List.map_cons, List.map_nil]); first | done | rfl | (simp only [List.length_drop, List.length_take]; rfl)) ?_; (with_reducible refine (spec_l20Rd_pick.calls kj10 g s0_0 t126 4 t142 t143 w0 _ ?side1 ?side2 A69.out).mono ?_); (case side1 => repeat (first | (with_reducible first | exact HI0.out | apply IsS52.alloc | apply IsS52.drewN | apply IsS52.drew | apply IsS52.set_1 | refine IsS52.far ?_ NB0_105.out _ | refine IsS52.far ?_ NB0_120.out _) | exact HI0.out)); (case side2 => repeat (first | (with_reducible first | exact HB.out | apply below_alloc | apply pw_below_drewN | apply below_drew1 | refine below_set ?_ (IsS52.ge HI0.out) | refine below_set ?_ GE105.out | refine below_set ?_ GE120.out) | exact HB.out)); rintro e w76 ⟨rfl, hi, hb, hk⟩; refine ⟨_, rfl, ?_⟩; have n0_ := Aside0.mk (KeepBut.blk hk (g' := gb105) (o := .cells #[.int .i64 0, .int .i64 0, .int .i64 0] 24 (0, 0)) (by (with_reducible repeat (first | refine blk_drewN ?_ _ | refine blk_drew ?_ | refine blk_alloc ?_ _)); exact BK105.out) NB105_0.out (by simp)); have n1_ := Aside0.mk (KeepBut.blk hk (g' := gb120) (o := .cells #[.int .i64 (rd y106 t109), .int .i64 (wrap64 (1 + t112)), .int .i64 x121002_10] 24 (0, 0)) (by (with_reducible repeat (first | refine blk_drewN ?_ _ | refine blk_drew ?_ | refine blk_alloc ?_ _)); exact BK120.out) NB120_0.out (by simp)); have n2_ := Aside0.mk (Kd.R_mono (Kd.R_keep (IsS52.apart (show IsS52 w0 _ g s0_0 t126 from by repeat (first | (with_reducible first | exact HI0.out | apply IsS52.alloc | apply IsS52.drewN | apply IsS52.drew | apply IsS52.set_1 | refine IsS52.far ?_ NB0_105.out _ | refine IsS52.far ?_ NB0_120.out _) | exact HI0.out)) (by (with_reducible repeat (first | apply Kd.R_alloc | apply Kd.R_drewN | apply Kd.R_drew)); exact HO141.out) (by decide)) hk (fun _ h => h.2)) (fun _ h => h.1)); have n3_ := Aside0.mk (KeepBut.trans (by repeat (first | (with_reducible first | exact HK.out | apply KeepBut.set_ | apply keep_drewN | apply keep_drew | apply keep_alloc | refine keep_far ?_ GW105.out _ | refine keep_far ?_ GW120.out _) | exact HK.out)) hk (.inl rfl)); have n4_ := Aside0.mk (hb); have n5_ := Aside0.mk (hi); clear BK105; clear BK120; clear HO141; clear HK; clear HB; clear HI0; have BK105 := n0_; have BK120 := n1_; have HO141 := n2_; have HK := n3_; have HB := n4_; have HI0 := n5_; clear n0_ n1_ n2_ n3_ n4_ n5_; (try clear hb); (try clear hb2); (try clear hk); (try clear hi); obtain ⟨Ao77, co77, eo77⟩ := Kd.R_slice HO141.out; subst eo77; have p144 : 0 ≤ (t142 : Int) := of_decide_eq_true (by first | (with_reducible assumption) | assumption); have q144 : t142 < (y139.length : Int) := of_decide_eq_true (by first | (with_reducible assumption) | assumption); obtain ⟨ad144, e144, hx144_0⟩ := Kd.at_int (Kd.R_reads' HO141.out).2.2 t142 p144 q144; cases e144; replace p144 := eq_true p144; replace q144 := eq_true q144; have hnb78 := NB120_105.out; have hnc78 := NB105_120.out; have hnb79 := NB120_0.out; have hnc79 := NB0_120.out; have hcz80_0 : w76.cell? ⟨gb120, 0, none⟩ = some (.int .i64 (rd y106 t109)) := (blk_cell BK120.out 0).trans rfl; have hcz80_1 : w76.cell? ⟨gb120, 1, none⟩ = some (.int .i64 (wrap64 (1 + t112))) := (blk_cell BK120.out 1).trans rfl; have hcz80_2 : w76.cell? ⟨gb120, 2, none⟩ = some (.int .i64 x121002_10) := (blk_cell BK120.out 2).trans rfl; have hfz80_0 := blk_frozen BK120.out 0; have hfz80_1 := blk_frozen BK120.out 1; have hfz80_2 := blk_frozen BK120.out 2; have hnb81 := NB105_0.out; have hnc81 := NB0_105.out; have hcz82_0 : w76.cell? ⟨gb105, 0, none⟩ = some (.int .i64 0) := (blk_cell BK105.out 0).trans rfl; have hcz82_1 : w76.cell? ⟨gb105, 1, none⟩ = some (.int .i64 0) := (blk_cell BK105.out 1).trans rfl; have hcz82_2 : w76.cell? ⟨gb105, 2, none⟩ = some (.int .i64 0) := (blk_cell BK105.out 2).trans rfl; have hfz82_0 := blk_frozen BK105.out 0; have hfz82_1 := blk_frozen BK105.out 1; have hfz82_2 := blk_frozen BK105.out 2))
                        refine bodyPost_ret (results_cell_row rfl _ _ gb105 24 #[.int .i64 (rd y106 t109), .int .i64 (wrap64 (1 + t112)), .int .i64 (rd y139 t142)] (0, 0) _ rfl (by (with_reducible repeat (first | refine blk_drewN ?_ _ | refine blk_drew ?_ | refine blk_alloc ?_ _)); refine blk_put (cs := #[.int .i64 (rd y106 t109), .int .i64 (wrap64 (1 + t112)), .int .i64 0]) ?_ 2 _ rfl; (with_reducible repeat (first | refine blk_drewN ?_ _ | refine blk_drew ?_ | refine blk_alloc ?_ _)); refine blk_put (cs := #[.int .i64 (rd y106 t109), .int .i64 0, .int .i64 0]) ?_ 1 _ rfl; (with_reducible repeat (first | refine blk_drewN ?_ _ | refine blk_drew ?_ | refine blk_alloc ?_ _)); refine blk_put (cs := #[.int .i64 0, .int .i64 0, .int .i64 0]) ?_ 0 _ rfl; (with_reducible repeat (first | refine blk_drewN ?_ _ | refine blk_drew ?_ | refine blk_alloc ?_ _)); refine blk_far ?_ NB105_120.out _; (with_reducible repeat (first | refine blk_drewN ?_ _ | refine blk_drew ?_ | refine blk_alloc ?_ _)); exact BK105.out) Try.underlying24 rfl (by kernel_rfl)) rfl ?_
                        exact ⟨by first | rfl | (simp [errW_none, errW_some] <;> rfl) | (simp [*, errW_none, errW_some] <;> rfl), by repeat (first | (with_reducible first | exact HI0.out | apply IsS52.alloc | apply IsS52.drewN | apply IsS52.drew | apply IsS52.set_1 | refine IsS52.far ?_ NB0_105.out _ | refine IsS52.far ?_ NB0_120.out _) | exact HI0.out), by repeat (first | (with_reducible first | exact HB.out | apply below_alloc | apply pw_below_drewN | apply below_drew1 | refine below_set ?_ (IsS52.ge HI0.out) | refine below_set ?_ GE105.out | refine below_set ?_ GE120.out) | exact HB.out), by repeat (first | (with_reducible first | exact HK.out | apply KeepBut.set_ | apply keep_drewN | apply keep_drew | apply keep_alloc | refine keep_far ?_ GW105.out _ | refine keep_far ?_ GW120.out _) | exact HK.out)⟩
                      · rw [if_neg c71] at H
                        exact absurd H (by simp)
                    · rw [if_neg c70] at H
                      exact absurd H (by simp)
              · rw [if_neg c37] at H
                have c37b0 : (t123 == 0) = false := beq_eq_false_iff_ne.mpr c37
                have c37b1 : (t123 != 0) = true := bne_iff_ne.mpr c37
                simp only [Option.some.injEq, Prod.mk.injEq] at H
                obtain ⟨rfl, rfl, rfl, rfl⟩ := H
                go_wp2_with (first | ((with_reducible refine gate_callee (f := 29) rfl ?_); refine goesL_ (some 36) rfl rfl Try.func29 (by kernel_rfl) rfl #[.pointer (some ⟨g, 0, none⟩), .int .i64 a1] rfl (by (try simp only [List.map_toArray, List.map_cons, List.map_nil]); first | done | rfl | (simp only [List.length_drop, List.length_take]; rfl)) ?_; (with_reducible refine (spec_l20Rd_pick.calls kj10 g s0_0 t118 a1 t123 t124 w0 _ ?side1 ?side2 A36.out).mono ?_); (case side1 => repeat (first | (with_reducible first | exact HI0.out | apply IsS52.alloc | apply IsS52.drewN | apply IsS52.drew | apply IsS52.set_1 | refine IsS52.far ?_ NB0_105.out _ | refine IsS52.far ?_ NB0_120.out _) | exact HI0.out)); (case side2 => repeat (first | (with_reducible first | exact HB.out | apply below_alloc | apply pw_below_drewN | apply below_drew1 | refine below_set ?_ (IsS52.ge HI0.out) | refine below_set ?_ GE105.out | refine below_set ?_ GE120.out) | exact HB.out)); rintro e w83 ⟨rfl, hi, hb, hk⟩; refine ⟨_, rfl, ?_⟩; have n0_ := Aside0.mk (KeepBut.blk hk (g' := gb105) (o := .cells #[.int .i64 0, .int .i64 0, .int .i64 0] 24 (0, 0)) (by (with_reducible repeat (first | refine blk_drewN ?_ _ | refine blk_drew ?_ | refine blk_alloc ?_ _)); exact BK105.out) NB105_0.out (by simp)); have n1_ := Aside0.mk (KeepBut.blk hk (g' := gb120) (o := .cells #[.int .i64 (rd y106 t109), .int .i64 (wrap64 (1 + t112)), .int .i64 x121002_10] 24 (0, 0)) (by (with_reducible repeat (first | refine blk_drewN ?_ _ | refine blk_drew ?_ | refine blk_alloc ?_ _)); exact BK120.out) NB120_0.out (by simp)); have n2_ := Aside0.mk (KeepBut.trans (by repeat (first | (with_reducible first | exact HK.out | apply KeepBut.set_ | apply keep_drewN | apply keep_drew | apply keep_alloc | refine keep_far ?_ GW105.out _ | refine keep_far ?_ GW120.out _) | exact HK.out)) hk (.inl rfl)); have n3_ := Aside0.mk (hb); have n4_ := Aside0.mk (hi); clear BK105; clear BK120; clear HK; clear HB; clear HI0; have BK105 := n0_; have BK120 := n1_; have HK := n2_; have HB := n3_; have HI0 := n4_; clear n0_ n1_ n2_ n3_ n4_; (try clear hb); (try clear hb2); (try clear hk); (try clear hi); have hnb84 := NB120_105.out; have hnc84 := NB105_120.out; have hnb85 := NB120_0.out; have hnc85 := NB0_120.out; have hcz86_0 : w83.cell? ⟨gb120, 0, none⟩ = some (.int .i64 (rd y106 t109)) := (blk_cell BK120.out 0).trans rfl; have hcz86_1 : w83.cell? ⟨gb120, 1, none⟩ = some (.int .i64 (wrap64 (1 + t112))) := (blk_cell BK120.out 1).trans rfl; have hcz86_2 : w83.cell? ⟨gb120, 2, none⟩ = some (.int .i64 x121002_10) := (blk_cell BK120.out 2).trans rfl; have hfz86_0 := blk_frozen BK120.out 0; have hfz86_1 := blk_frozen BK120.out 1; have hfz86_2 := blk_frozen BK120.out 2; have hnb87 := NB105_0.out; have hnc87 := NB0_105.out; have hcz88_0 : w83.cell? ⟨gb105, 0, none⟩ = some (.int .i64 0) := (blk_cell BK105.out 0).trans rfl; have hcz88_1 : w83.cell? ⟨gb105, 1, none⟩ = some (.int .i64 0) := (blk_cell BK105.out 1).trans rfl; have hcz88_2 : w83.cell? ⟨gb105, 2, none⟩ = some (.int .i64 0) := (blk_cell BK105.out 2).trans rfl; have hfz88_0 := blk_frozen BK105.out 0; have hfz88_1 := blk_frozen BK105.out 1; have hfz88_2 := blk_frozen BK105.out 2))
                refine bodyPost_ret (results_cell_row rfl _ _ gb105 24 #[.int .i64 (rd y106 t109), .int .i64 (wrap64 (1 + t112)), .int .i64 x121002_10] (0, 0) _ rfl (by (with_reducible repeat (first | refine blk_drewN ?_ _ | refine blk_drew ?_ | refine blk_alloc ?_ _)); refine blk_put (cs := #[.int .i64 (rd y106 t109), .int .i64 (wrap64 (1 + t112)), .int .i64 0]) ?_ 2 _ rfl; (with_reducible repeat (first | refine blk_drewN ?_ _ | refine blk_drew ?_ | refine blk_alloc ?_ _)); refine blk_put (cs := #[.int .i64 (rd y106 t109), .int .i64 0, .int .i64 0]) ?_ 1 _ rfl; (with_reducible repeat (first | refine blk_drewN ?_ _ | refine blk_drew ?_ | refine blk_alloc ?_ _)); refine blk_put (cs := #[.int .i64 0, .int .i64 0, .int .i64 0]) ?_ 0 _ rfl; (with_reducible repeat (first | refine blk_drewN ?_ _ | refine blk_drew ?_ | refine blk_alloc ?_ _)); exact BK105.out) Try.underlying24 rfl (by kernel_rfl)) rfl ?_
                exact ⟨by first | rfl | (simp [errW_none, errW_some] <;> rfl) | (simp [*, errW_none, errW_some] <;> rfl), by repeat (first | (with_reducible first | exact HI0.out | apply IsS52.alloc | apply IsS52.drewN | apply IsS52.drew | apply IsS52.set_1 | refine IsS52.far ?_ NB0_105.out _ | refine IsS52.far ?_ NB0_120.out _) | exact HI0.out), by repeat (first | (with_reducible first | exact HB.out | apply below_alloc | apply pw_below_drewN | apply below_drew1 | refine below_set ?_ (IsS52.ge HI0.out) | refine below_set ?_ GE105.out | refine below_set ?_ GE120.out) | exact HB.out), by repeat (first | (with_reducible first | exact HK.out | apply KeepBut.set_ | apply keep_drewN | apply keep_drew | apply keep_alloc | refine keep_far ?_ GW105.out _ | refine keep_far ?_ GW120.out _) | exact HK.out)⟩
        · rw [if_neg c9] at H
          exact absurd H (by simp)
      · rw [if_neg c8] at H
        exact absurd H (by simp)
    · rw [if_neg c5] at H
      exact absurd H (by simp)
  · rw [if_neg c4] at H
    exact absurd H (by simp)

end Go.Proofs.Ytpbmobgpipmldaa.All
