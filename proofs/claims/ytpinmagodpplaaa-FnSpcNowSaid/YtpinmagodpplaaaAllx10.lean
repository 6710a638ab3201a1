-- Written by the session's own program wip/allprint.py, which drives the kit's print; Lean checks it.
import Derived.Test.YtpinmagodpplaaaAllx0
import Derived.Test.YtpinmagodpplaaaAllx2
import Derived.Test.YtpinmagodpplaaaAllx3
namespace Go.Proofs.Ytpinmagodpplaaa.All
open Go.RowKit Go.Proofs.YtpinmagodpplaaaW.PrintWords Go.Proofs.YtpinmagodpplaaaW.PrintLast Go.Proofs.YtpinmagodpplaaaW.PrintMore
attribute [local go_sem] max2_int min2_int max_two min_two max_three min_three max_four min_four   -- for this text's walks alone
set_option linter.unusedVariables false
set_option linter.unusedSimpArgs false

/-! ### spec_l20Ask: function 60 -/
mutual
def spec_l20Ask.j0 : Nat → Bool → List Int → Int → Int → Int → Int → Int → Int → Int → Option (Int × Int × Int × Int × Int × Int × Int)
  | 0, _, _, _, _, _, _, _, _, _ => none
  | k + 1, x27, x1000, x1001, x291000, x291001, x291002, x291003, x291004, x291005 => if x27 = true then ((spec_l20Rd_pick.f k x1000 x1001 4).bind fun bt293 => (spec_l20Ask.j1 k bt293.1 x1000 bt293.2 x291000 x291001 x291002 x291003 x291004 x291005)) else (some (x291000, x291001, x291002, x291003, x291004, x291005, x1001))
def spec_l20Ask.j1 : Nat → Int → List Int → Int → Int → Int → Int → Int → Int → Int → Option (Int × Int × Int × Int × Int × Int × Int)
  | 0, _, _, _, _, _, _, _, _, _ => none
  | k + 1, x29, x1000, x1001, x291000, x291001, x291002, x291003, x291004, x291005 => if x29 = 0 then ((some (([0, 5, 1] : List Int) : List Int)).bind fun y295 => ((spec_l20Rd_pick.f k x1000 x1001 3).bind fun bt298 => (if 0 ≤ bt298.1 then (if bt298.1 < (y295.length : Int) then (some (rd y295 bt298.1, x291001, x291002, x291003, x291004, x291005, bt298.2)) else (none)) else (none)))) else (if x29 = 1 then ((spec_l20Dec.f k x1000 x1001 2).bind fun bt301 => (some (x291000, bt301.1, bt301.2.1, x291003, x291004, x291005, bt301.2.2))) else (if x29 = 2 then ((spec_l20Dec.f k x1000 x1001 2).bind fun bt304 => (some (x291000, x291001, x291002, bt304.1, bt304.2.1, x291005, bt304.2.2))) else ((some (([(-1), 4, 3] : List Int) : List Int)).bind fun y307 => ((spec_l20Rd_pick.f k x1000 x1001 3).bind fun bt310 => (if 0 ≤ bt310.1 then (if bt310.1 < (y307.length : Int) then (some (x291000, x291001, x291002, x291003, x291004, rd y307 bt310.1, bt310.2)) else (none)) else (none))))))
end
def spec_l20Ask.f (k : Nat) (s0_0 : List Int) (s0_1 : Int) (a1 : Int) (a2 : Int) : Option (Int × Int × Int × Int × Int × Int × Int) := (some (([0, 10, (-5)] : List Int) : List Int)).bind fun y276 => ((spec_l20Rd_pick.f k s0_0 s0_1 3).bind fun bt279 => (if 0 ≤ bt279.1 then (if bt279.1 < (y276.length : Int) then ((some (([20, 100, 15] : List Int) : List Int)).bind fun y282 => ((spec_l20Rd_pick.f k s0_0 bt279.2 3).bind fun bt285 => (if 0 ≤ bt285.1 then (if bt285.1 < (y282.length : Int) then ((spec_l20Rd_pick.f k s0_0 bt285.2 3).bind fun bt288 => ((spec_l20Rd_pick.f k s0_0 bt288.2 a2).bind fun bt291 => (spec_l20Ask.j0 k (bt291.1 == 0) s0_0 bt291.2 a1 (rd y276 bt279.1) 1 (rd y282 bt285.1) 1 bt288.1))) else (none)) else (none)))) else (none)) else (none)))
theorem spec_l20Ask.mono_l : ∀ k, (∀ y0 y1 y2 y3 y4 y5 y6 y7 y8, LeO (spec_l20Ask.j0 k y0 y1 y2 y3 y4 y5 y6 y7 y8) (spec_l20Ask.j0 (k + 1) y0 y1 y2 y3 y4 y5 y6 y7 y8)) ∧ (∀ y0 y1 y2 y3 y4 y5 y6 y7 y8, LeO (spec_l20Ask.j1 k y0 y1 y2 y3 y4 y5 y6 y7 y8) (spec_l20Ask.j1 (k + 1) y0 y1 y2 y3 y4 y5 y6 y7 y8))
  | 0 => ⟨fun _ _ _ _ _ _ _ _ _ r h => by simp [spec_l20Ask.j0] at h, fun _ _ _ _ _ _ _ _ _ r h => by simp [spec_l20Ask.j1] at h⟩
  | k + 1 => by
    obtain ⟨ih0, ih1⟩ := spec_l20Ask.mono_l k
    refine ⟨?_, ?_⟩
    · intro y0 y1 y2 y3 y4 y5 y6 y7 y8
      unfold spec_l20Ask.j0
      repeat' first
      | (with_reducible exact ih0 _ _ _ _ _ _ _ _ _)
      | (with_reducible exact ih1 _ _ _ _ _ _ _ _ _)
      | (with_reducible exact spec_l20Dec.mono _ _ _ _)
      | (with_reducible exact spec_l20Rd_pick.mono _ _ _ _)
      | (with_reducible exact LeO.refl _)
      | (with_reducible exact LeO.none _)
      | (with_reducible refine LeO.ite ?_ ?_)
      | (with_reducible refine LeO.bind ?_ (fun _ => ?_))
      | exact ih0 _ _ _ _ _ _ _ _ _
      | exact ih1 _ _ _ _ _ _ _ _ _
      | exact spec_l20Dec.mono _ _ _ _
      | exact spec_l20Rd_pick.mono _ _ _ _
      | exact LeO.none _
      | refine LeO.ite ?_ ?_
      | refine LeO.bind ?_ (fun _ => ?_)
    · intro y0 y1 y2 y3 y4 y5 y6 y7 y8
      unfold spec_l20Ask.j1
      repeat' first
      | (with_reducible exact ih0 _ _ _ _ _ _ _ _ _)
      | (with_reducible exact ih1 _ _ _ _ _ _ _ _ _)
      | (with_reducible exact spec_l20Dec.mono _ _ _ _)
      | (with_reducible exact spec_l20Rd_pick.mono _ _ _ _)
      | (with_reducible exact LeO.refl _)
      | (with_reducible exact LeO.none _)
      | (with_reducible refine LeO.ite ?_ ?_)
      | (with_reducible refine LeO.bind ?_ (fun _ => ?_))
      | exact ih0 _ _ _ _ _ _ _ _ _
      | exact ih1 _ _ _ _ _ _ _ _ _
      | exact spec_l20Dec.mono _ _ _ _
      | exact spec_l20Rd_pick.mono _ _ _ _
      | exact LeO.none _
      | refine LeO.ite ?_ ?_
      | refine LeO.bind ?_ (fun _ => ?_)
theorem spec_l20Ask.mono : ∀ a0 a1 a2 a3 k, LeO (spec_l20Ask.f k a0 a1 a2 a3) (spec_l20Ask.f (k + 1) a0 a1 a2 a3) := by
  intro a0 a1 a2 a3 k
  obtain ⟨ih0, ih1⟩ := spec_l20Ask.mono_l k
  unfold spec_l20Ask.f
  repeat' first
      | (with_reducible exact ih0 _ _ _ _ _ _ _ _ _)
      | (with_reducible exact ih1 _ _ _ _ _ _ _ _ _)
      | (with_reducible exact spec_l20Dec.mono _ _ _ _)
      | (with_reducible exact spec_l20Rd_pick.mono _ _ _ _)
      | (with_reducible exact LeO.refl _)
      | (with_reducible exact LeO.none _)
      | (with_reducible refine LeO.ite ?_ ?_)
      | (with_reducible refine LeO.bind ?_ (fun _ => ?_))
      | exact ih0 _ _ _ _ _ _ _ _ _
      | exact ih1 _ _ _ _ _ _ _ _ _
      | exact spec_l20Dec.mono _ _ _ _
      | exact spec_l20Rd_pick.mono _ _ _ _
      | exact LeO.none _
      | refine LeO.ite ?_ ?_
      | refine LeO.bind ?_ (fun _ => ?_)
def spec_l20Ask.T1 : Bool × List (List Nat × List Nat) := (true, [([], []), ([], []), ([], []), ([2], [2]), ([1, 3], [1, 3]), ([4], [4]), ([5], [5]), ([], []), ([], []), ([8, 3], [8]), ([7, 9], [7, 9]), ([10], [10]), ([11], [11]), ([], []), ([13, 9], [13]), ([0, 6, 12, 14], [0, 6, 12, 14]), ([], []), ([16, 15, 14, 0, 1, 2, 3, 4, 5, 6, 7, 8, 9, 10, 11, 12, 13, 14, 15, 16], [15, 16])])
def spec_l20Ask.B1 : List Nat := [0, 0, 0, 4, 14, 30, 62, 0, 0, 268, 908, 1932, 3980, 0, 8972, 32767, 0, 131071]
theorem spec_l20Ask.tab1 : rtab .any (opsOf Try.f60 1) = spec_l20Ask.T1 := by kernel_rfl
theorem spec_l20Ask.bits1 : waitsOk spec_l20Ask.T1.2 spec_l20Ask.B1 = true := by kernel_rfl
set_option maxHeartbeats 8000000 in
set_option maxRecDepth 100000 in
theorem spec_l20Ask.calls (k : Nat) (g : Nat) (s0_0 : List Int) (s0_1 : Int) (a1 : Int) (a2 : Int) (r1 : Int) (r2 : Int) (r3 : Int) (r4 : Int) (r5 : Int) (r6 : Int) (r7 : Int) (w0 w : World) (hI : IsS91 w0 w g s0_0 s0_1) (hB : Below w0.heap.size w0 w) (h : spec_l20Ask.f k s0_0 s0_1 a1 a2 = some (r1, r2, r3, r4, r5, r6, r7)) :
    Calls Try.prog 60 #[.pointer (some ⟨g, 0, none⟩), .int .i64 a1, .int .i64 a2] w fun e w' => e = .returned (.agg #[.int .i64 r1, .int .i64 r2, .int .i64 r3, .int .i64 r4, .int .i64 r5, .int .i64 r6]) ∧ IsS91 w0 w' g s0_0 r7 ∧ Below w0.heap.size w0 w' ∧ KeepBut w w' g none := by
  have hu27 := Try.underlying27
  have hu25 := Try.underlying25
  have HI0 := Aside0.mk hI
  have HGL := Aside0.mk (IsS91.lt hI)
  have HK := Aside0.mk (KeepBut.refl w g none)
  have HL := Aside0.mk hB.size
  clear hI
  have HW0 := Aside0.mk hB.size
  have HB := Aside0.mk hB
  clear hB
  have H : ((some (([0, 10, (-5)] : List Int) : List Int)).bind fun y276 => ((spec_l20Rd_pick.f k s0_0 s0_1 3).bind fun bt279 => (if 0 ≤ bt279.1 then (if bt279.1 < (y276.length : Int) then ((some (([20, 100, 15] : List Int) : List Int)).bind fun y282 => ((spec_l20Rd_pick.f k s0_0 bt279.2 3).bind fun bt285 => (if 0 ≤ bt285.1 then (if bt285.1 < (y282.length : Int) then ((spec_l20Rd_pick.f k s0_0 bt285.2 3).bind fun bt288 => ((spec_l20Rd_pick.f k s0_0 bt288.2 a2).bind fun bt291 => (spec_l20Ask.j0 k (bt291.1 == 0) s0_0 bt291.2 a1 (rd y276 bt279.1) 1 (rd y282 bt285.1) 1 bt288.1))) else (none)) else (none)))) else (none)) else (none)))) = some (r1, r2, r3, r4, r5, r6, r7) := h
  clear h
  obtain ⟨y276, hy276⟩ : ∃ y_ : List Int, y_ = (([0, 10, (-5)] : List Int)) := ⟨_, rfl⟩
  replace H : ((spec_l20Rd_pick.f k s0_0 s0_1 3).bind fun bt279 => (if 0 ≤ bt279.1 then (if bt279.1 < (y276.length : Int) then ((some (([20, 100, 15] : List Int) : List Int)).bind fun y282 => ((spec_l20Rd_pick.f k s0_0 bt279.2 3).bind fun bt285 => (if 0 ≤ bt285.1 then (if bt285.1 < (y282.length : Int) then ((spec_l20Rd_pick.f k s0_0 bt285.2 3).bind fun bt288 => ((spec_l20Rd_pick.f k s0_0 bt288.2 a2).bind fun bt291 => (spec_l20Ask.j0 k (bt291.1 == 0) s0_0 bt291.2 a1 (rd y276 bt279.1) 1 (rd y282 bt285.1) 1 bt288.1))) else (none)) else (none)))) else (none)) else (none))) = some (r1, r2, r3, r4, r5, r6, r7) := by first | (rw [hy276]; with_reducible exact H) | (have H2_ := (Option.bind_some _ _).symm.trans H; rw [hy276]; with_reducible exact H2_) | (have H2_ := (Option.bind_some _ _).symm.trans H; with_reducible exact H2_) | with_reducible exact H | (rw [hy276]; exact H) | exact H
  have Ny276 := Aside0.mk hy276
  clear hy276
  replace H := Option.bind_eq_some_iff.mp H
  obtain ⟨⟨t279, t280⟩, A40, H⟩ := H
  replace H : (if 0 ≤ t279 then (if t279 < (y276.length : Int) then ((some (([20, 100, 15] : List Int) : List Int)).bind fun y282 => ((spec_l20Rd_pick.f k s0_0 t280 3).bind fun bt285 => (if 0 ≤ bt285.1 then (if bt285.1 < (y282.length : Int) then ((spec_l20Rd_pick.f k s0_0 bt285.2 3).bind fun bt288 => ((spec_l20Rd_pick.f k s0_0 bt288.2 a2).bind fun bt291 => (spec_l20Ask.j0 k (bt291.1 == 0) s0_0 bt291.2 a1 (rd y276 t279) 1 (rd y282 bt285.1) 1 bt288.1))) else (none)) else (none)))) else (none)) else (none)) = some (r1, r2, r3, r4, r5, r6, r7) := H
  have A4 := Aside0.mk A40
  clear A40
  by_cases c5 : 0 ≤ t279
  · rw [if_pos c5] at H
    have c5b0 : decide (0 ≤ t279) = true := decide_eq_true c5
    clear c5
    by_cases c6 : t279 < (y276.length : Int)
    · rw [if_pos c6] at H
      have c6b0 : decide (t279 < (y276.length : Int)) = true := decide_eq_true c6
      clear c6
      obtain ⟨y282, hy282⟩ : ∃ y_ : List Int, y_ = (([20, 100, 15] : List Int)) := ⟨_, rfl⟩
      replace H : ((spec_l20Rd_pick.f k s0_0 t280 3).bind fun bt285 => (if 0 ≤ bt285.1 then (if bt285.1 < (y282.length : Int) then ((spec_l20Rd_pick.f k s0_0 bt285.2 3).bind fun bt288 => ((spec_l20Rd_pick.f k s0_0 bt288.2 a2).bind fun bt291 => (spec_l20Ask.j0 k (bt291.1 == 0) s0_0 bt291.2 a1 (rd y276 t279) 1 (rd y282 bt285.1) 1 bt288.1))) else (none)) else (none))) = some (r1, r2, r3, r4, r5, r6, r7) := by first | (rw [hy282]; with_reducible exact H) | (have H2_ := (Option.bind_some _ _).symm.trans H; rw [hy282]; with_reducible exact H2_) | (have H2_ := (Option.bind_some _ _).symm.trans H; with_reducible exact H2_) | with_reducible exact H | (rw [hy282]; exact H) | exact H
      have Ny282 := Aside0.mk hy282
      clear hy282
      replace H := Option.bind_eq_some_iff.mp H
      obtain ⟨⟨t285, t286⟩, A70, H⟩ := H
      replace H : (if 0 ≤ t285 then (if t285 < (y282.length : Int) then ((spec_l20Rd_pick.f k s0_0 t286 3).bind fun bt288 => ((spec_l20Rd_pick.f k s0_0 bt288.2 a2).bind fun bt291 => (spec_l20Ask.j0 k (bt291.1 == 0) s0_0 bt291.2 a1 (rd y276 t279) 1 (rd y282 t285) 1 bt288.1))) else (none)) else (none)) = some (r1, r2, r3, r4, r5, r6, r7) := H
      have A7 := Aside0.mk A70
      clear A70
      by_cases c8 : 0 ≤ t285
      · rw [if_pos c8] at H
        have c8b0 : decide (0 ≤ t285) = true := decide_eq_true c8
        clear c8
        by_cases c9 : t285 < (y282.length : Int)
        · rw [if_pos c9] at H
          have c9b0 : decide (t285 < (y282.length : Int)) = true := decide_eq_true c9
          clear c9
          replace H := Option.bind_eq_some_iff.mp H
          obtain ⟨⟨t288, t289⟩, A100, H⟩ := H
          replace H : ((spec_l20Rd_pick.f k s0_0 t289 a2).bind fun bt291 => (spec_l20Ask.j0 k (bt291.1 == 0) s0_0 bt291.2 a1 (rd y276 t279) 1 (rd y282 t285) 1 t288)) = some (r1, r2, r3, r4, r5, r6, r7) := H
          have A10 := Aside0.mk A100
          clear A100
          have HC11 := Aside0.mk H
          clear H
          go_enter Try.func60, Try.ntmps60
          try go_wp2_with (first | ((with_reducible refine gate_dst (N := 6) rfl ?_); refine box_event ?hg (N := 6) ?hd (cs := #[.int .i64 0, .int .i64 0, .int .i64 0, .int .i64 0, .int .i64 0, .int .i64 0]) (t := 27) ?hr ?_; (case hd => rfl); (case hg => rfl); (case hr => first | (go_simp; done) | (go_simp; rfl)); intro gb275 hg w12 hbox hb; have n0_ := Aside0.mk (IsS91.below (by repeat (first | (with_reducible first | exact HI0.out | apply IsS91.alloc | apply IsS91.drewN | apply IsS91.drew | apply IsS91.set_1) | exact HI0.out)) hb); have n1_ := Aside0.mk (KeepBut.trans (by repeat (first | (with_reducible first | exact HK.out | apply KeepBut.set_ | apply keep_drewN | apply keep_drew | apply keep_alloc) | exact HK.out)) (KeepBut.of_below hb g none) (.inl rfl)); have n2_ := Aside0.mk (below_step (by repeat (first | (with_reducible first | exact HB.out | apply below_alloc | apply pw_below_drewN | apply below_drew1 | refine below_set ?_ (IsS91.ge HI0.out)) | exact HB.out)) hb); have n3_ := Aside0.mk (hbox); have n4_ := Aside0.mk ((by rw [hg]; exact (keep_size (w := w) (g := g) (row := none) (by repeat (first | (with_reducible first | exact HK.out | apply KeepBut.set_ | apply keep_drewN | apply keep_drew | apply keep_alloc) | exact HK.out))) : w.heap.size ≤ gb275)); have n5_ := Aside0.mk ((Nat.le_trans HW0.out (by rw [hg]; exact (keep_size (w := w) (g := g) (row := none) (by repeat (first | (with_reducible first | exact HK.out | apply KeepBut.set_ | apply keep_drewN | apply keep_drew | apply keep_alloc) | exact HK.out))) : w.heap.size ≤ gb275) : w0.heap.size ≤ gb275)); have n6_ := Aside0.mk ((by rw [hg]; exact Nat.ne_of_lt (Nat.lt_of_lt_of_le HGL.out (keep_size (w := w) (g := g) (row := none) (by repeat (first | (with_reducible first | exact HK.out | apply KeepBut.set_ | apply keep_drewN | apply keep_drew | apply keep_alloc) | exact HK.out)))) : g ≠ gb275)); have n7_ := Aside0.mk ((by rw [hg]; exact Nat.ne_of_gt (Nat.lt_of_lt_of_le HGL.out (keep_size (w := w) (g := g) (row := none) (by repeat (first | (with_reducible first | exact HK.out | apply KeepBut.set_ | apply keep_drewN | apply keep_drew | apply keep_alloc) | exact HK.out)))) : gb275 ≠ g)); clear HI0; clear HK; clear HB; have HI0 := n0_; have HK := n1_; have HB := n2_; have BK275 := n3_; have GW275 := n4_; have GE275 := n5_; have NB0_275 := n6_; have NB275_0 := n7_; clear n0_ n1_ n2_ n3_ n4_ n5_ n6_ n7_; clear hb hbox hg))
          have pi281 : (0 ≤ (t279 : Int)) = True := eq_true (of_decide_eq_true (by first | (with_reducible assumption) | assumption))
          have qi281 : (t279 < (y276.length : Int)) = True := eq_true (of_decide_eq_true (by first | (with_reducible assumption) | assumption))
          have pi287 : (0 ≤ (t285 : Int)) = True := eq_true (of_decide_eq_true (by first | (with_reducible assumption) | assumption))
          have qi287 : (t285 < (y282.length : Int)) = True := eq_true (of_decide_eq_true (by first | (with_reducible assumption) | assumption))
          have n0_ := Aside0.mk (blk_drew BK275.out)
          have n1_ := Aside0.mk (IsS91.drew HI0.out)
          have n2_ := Aside0.mk (keep_drew HK.out)
          have n3_ := Aside0.mk (below_drew1 HB.out)
          clear BK275
          clear HI0
          clear HK
          clear HB
          have BK275 := n0_
          have HI0 := n1_
          have HK := n2_
          have HB := n3_
          clear n0_ n1_ n2_ n3_
          refine start_ (n := 18) (S := fun w' => True) (ds := []) #[false, false, false, false, false, false, false, false, false, false, false, false, false, false, false, false, false, false] (by kernel_rfl) rfl rfl trivial (fun hHeld => ?_); refine with_tabW spec_l20Ask.tab1 spec_l20Ask.bits1 (fun HT_ HW_ => ?_)
          generalize w12.drew = w13 at BK275 HI0 HK HB hHeld ⊢
          refine pure_ (i := 0) (N := some 8) (v := ?_) (a' := ?_) #[true, false, false, false, false, false, false, false, false, false, false, false, false, false, false, false, false, false] rfl rfl (any_of HT_.out (by kernel_rfl)) (fun _ _ _ h => h) (Or.inl ⟨by rfl, ?_⟩) ?_ ?_
          rotate_left
          · intro w'
            go_simp
            with_reducible rfl
          rotate_left
          · simp only [Act.put, List.setIfInBounds_toArray, List.set_cons_zero, List.set_cons_succ, i64_w, i32_w]
            rfl
          refine pure_ (i := 2) (N := some 10) (v := ?_) (a' := ?_) #[true, false, true, false, false, false, false, false, false, false, false, false, false, false, false, false, false, false] rfl rfl (any_of HT_.out (by kernel_rfl)) (fun _ _ _ h => h) (Or.inl ⟨by rfl, ?_⟩) ?_ ?_
          rotate_left
          · intro w'
            go_simp
            with_reducible rfl
          rotate_left
          · simp only [Act.put, List.setIfInBounds_toArray, List.set_cons_zero, List.set_cons_succ, i64_w, i32_w]
            rfl
          refine pure_ (i := 8) (N := some 16) (v := ?_) (a' := ?_) #[true, false, true, false, false, false, false, false, true, false, false, false, false, false, false, false, false, false] rfl rfl (any_of HT_.out (by kernel_rfl)) (fun _ _ _ h => h) (Or.inl ⟨by rfl, ?_⟩) ?_ ?_
          rotate_left
          · intro w'
            go_simp
            with_reducible rfl
          rotate_left
          · simp only [Act.put, List.setIfInBounds_toArray, List.set_cons_zero, List.set_cons_succ, i64_w, i32_w]
            rfl
          refine pure_ (i := 13) (N := some 21) (v := ?_) (a' := ?_) #[true, false, true, false, false, false, false, false, true, false, false, false, false, true, false, false, false, false] rfl rfl (any_of HT_.out (by kernel_rfl)) (fun _ _ _ h => h) (Or.inl ⟨by rfl, ?_⟩) ?_ ?_
          rotate_left
          · intro w'
            go_simp
            with_reducible rfl
          rotate_left
          · simp only [Act.put, List.setIfInBounds_toArray, List.set_cons_zero, List.set_cons_succ, i64_w, i32_w]
            rfl
          refine inv_at [1, 3, 4, 5, 6, 7, 9, 10, 11, 12, 14, 15, 16, 17] (fun a0_ b a w' => ∃ (v277 : Value) (adz_v277 : Addr) (v283 : Value) (adz_v283 : Addr) (gb290 : Nat) (m4_ : Value) (m10_ : Value) (m16_ : Value), a = putSel a0_ b [(1, 9, v277), (3, 11, .int .i64 t279), (4, 12, m4_), (5, 13, .int .i64 (rd y276 t279)), (6, 14, .agg #[.int .i64 (rd y276 t279), .int .i64 1]), (7, 15, v283), (9, 17, .int .i64 t285), (10, 18, m10_), (11, 19, .int .i64 (rd y282 t285)), (12, 20, .agg #[.int .i64 (rd y282 t285), .int .i64 1]), (14, 22, .int .i64 t288), (15, 23, .agg #[.int .i64 a1, .int .i64 (rd y276 t279), .int .i64 1, .int .i64 (rd y282 t285), .int .i64 1, .int .i64 t288]), (16, 7, m16_)] ∧ (w'.heap[gb275]? = some (.cells #[.int .i64 0, .int .i64 0, .int .i64 0, .int .i64 0, .int .i64 0, .int .i64 0] 27 (0, 0))) ∧ (b 3 = false → IsS91 w0 w' g s0_0 s0_1) ∧ (KeepBut w w' g none) ∧ (Below w0.heap.size w0 w') ∧ (b 1 = true → Kd.R (Kd.int .i64) 3 w' w.heap.size (fun _ => True) v277 y276) ∧ (b 1 = true → ∃ c_, (v277 : Value) = .slice (some adz_v277) y276.length c_) ∧ (b 3 = true → b 9 = false → IsS91 w0 w' g s0_0 t280) ∧ (b 7 = true → Kd.R (Kd.int .i64) 3 w' w.heap.size (fun _ => True) v283 y282) ∧ (b 7 = true → ∃ c_, (v283 : Value) = .slice (some adz_v283) y282.length c_) ∧ (b 9 = true → b 14 = false → IsS91 w0 w' g s0_0 t286) ∧ (b 14 = true → IsS91 w0 w' g s0_0 t289) ∧ (b 16 = true → b 17 = false → w'.heap[gb290]? = some (.cells #[.int .i64 0, .int .i64 0, .int .i64 0, .int .i64 0, .int .i64 0, .int .i64 0] 27 (0, 0))) ∧ (b 16 = true → w.heap.size ≤ gb290) ∧ (b 16 = true → w0.heap.size ≤ gb290) ∧ (b 16 = true → g ≠ gb290) ∧ (b 16 = true → gb290 ≠ g) ∧ (b 16 = true → gb275 ≠ gb290) ∧ (b 16 = true → gb290 ≠ gb275) ∧ (b 17 = true → w'.heap[gb290]? = some (.cells #[.int .i64 a1, .int .i64 (rd y276 t279), .int .i64 1, .int .i64 (rd y282 t285), .int .i64 1, .int .i64 t288] 27 (0, 0))) ∧ (b 4 = true → (m4_ : Value) = .pointer (some (adz_v277.add (t279).toNat))) ∧ (b 10 = true → (m10_ : Value) = .pointer (some (adz_v283.add (t285).toNat))) ∧ (b 16 = true → (m16_ : Value) = .pointer (some ⟨gb290, 0, none⟩))) HT_.out HW_.out (by kernel_rfl) (by kernel_rfl) ?_ ?_ ?_
          · exact ⟨.bool false, ⟨0, 0, none⟩, .bool false, ⟨0, 0, none⟩, 0, .bool false, .bool false, .bool false, by simp only [putSel, Bool.false_eq_true, if_false], BK275.out, fun _ => HI0.out, HK.out, HB.out, fun h_ => absurd h_ (by decide), fun h_ => absurd h_ (by decide), fun h_ => absurd h_ (by decide), fun h_ => absurd h_ (by decide), fun h_ => absurd h_ (by decide), fun h_ => absurd h_ (by decide), fun h_ => absurd h_ (by decide), fun h_ => absurd h_ (by decide), fun h_ => absurd h_ (by decide), fun h_ => absurd h_ (by decide), fun h_ => absurd h_ (by decide), fun h_ => absurd h_ (by decide), fun h_ => absurd h_ (by decide), fun h_ => absurd h_ (by decide), fun h_ => absurd h_ (by decide), fun h_ => absurd h_ (by decide), fun h_ => absurd h_ (by decide), fun h_ => absurd h_ (by decide)⟩
          · skip
            clear BK275 HB HI0 HK
            refine steps_cons ?_ ?_
            · rintro b a w' ⟨v277, adz_v277, v283, adz_v283, gb290, m4_, m10_, m16_, ha, Q_BK275, Q_HI0, Q_HK, Q_HB, Q_HO278, Q_HA_HO278, Q_HI0_e3, Q_HO284, Q_HA_HO284, Q_HI0_e9, Q_HI0_e14, Q_BK290, Q_GW290, Q_GE290, Q_NB0_290, Q_NB290_0, Q_NB275_290, Q_NB290_275, Q_BK290_e17, Q_X4_, Q_X10_, Q_X16_⟩ hb_ hon hoff
              refine ⟨_, rfl, fun K hK => ?_⟩
              replace ha := Aside0.mk ha
              have BK275 := Aside0.mk Q_BK275
              have HK := Aside0.mk Q_HK
              have HB := Aside0.mk Q_HB
              refine Kd.R_lit_step (Kd.int .i64) _ 3 ?hg (N := 9) ?hd (xs := ([0, 10, (-5)] : List Int)) (inner := [.int .i64 0, .int .i64 10, .int .i64 (-5)]) (ok := fun _ => True) (okp := fun _ => True) ?hr ?hp (fun _ hk => hk) trivial (Below.refl _ _) (Nat.le_refl _) (by simp) ?_; (case hd => rfl); (case hg => rfl); (case hr => first | (go_simp; done) | (go_simp; rfl)); (case hp => exact (Reps.one (show Kd.M (Kd.int .i64) _ _ _ 0 [.int .i64 0] from rfl) (Reps.one (show Kd.M (Kd.int .i64) _ _ _ 10 [.int .i64 10] from rfl) (Reps.one (show Kd.M (Kd.int .i64) _ _ _ (-5) [.int .i64 (-5)] from rfl) (Reps.none _ _)))))
              intro v277 w14 ho15 hb hg_ hnew_
              clear hg_ hnew_
              (first | rw [← Ny276.out] at ho15 | (simp only [Int.reduceToNat] at ho15; rw [← Ny276.out] at ho15))
              have n0_ := Aside0.mk (Kd.R_lower ho15 (keep_size (w := w) (g := g) (row := none) (by repeat (first | (with_reducible first | exact HK.out | apply KeepBut.set_ | apply keep_drewN | apply keep_drew | apply keep_alloc | refine keep_far ?_ GW275.out _) | exact HK.out))))
              have n2_ := Aside0.mk (blk_below (g := gb275) (o := .cells #[.int .i64 0, .int .i64 0, .int .i64 0, .int .i64 0, .int .i64 0, .int .i64 0] 27 (0, 0)) (by (with_reducible repeat (first | refine blk_drewN ?_ _ | refine blk_drew ?_ | refine blk_alloc ?_ _)); exact BK275.out) hb)
              have n3_ := Aside0.mk (KeepBut.trans (by repeat (first | (with_reducible first | exact HK.out | apply KeepBut.set_ | apply keep_drewN | apply keep_drew | apply keep_alloc | refine keep_far ?_ GW275.out _) | exact HK.out)) (KeepBut.of_below hb g none) (.inl rfl))
              have n4_ := Aside0.mk (below_step (by repeat (first | (with_reducible first | exact HB.out | apply below_alloc | apply pw_below_drewN | apply below_drew1 | refine below_set ?_ GE275.out) | exact HB.out)) hb)
              have z_HI0 := fun (h0_ : b 3 = false) => (show IsS91 w0 w14 g s0_0 s0_1 from by first | exact (IsS91.below (by repeat (first | (with_reducible first | exact (Q_HI0 h0_) | apply IsS91.alloc | apply IsS91.drewN | apply IsS91.drew | apply IsS91.set_1 | refine IsS91.far ?_ NB0_275.out _) | exact (Q_HI0 h0_))) hb))
              have z_HI0_e3 := fun (h0_ : b 3 = true) (h1_ : b 9 = false) => (show IsS91 w0 w14 g s0_0 t280 from by first | exact (IsS91.below (by repeat (first | (with_reducible first | exact (Q_HI0_e3 h0_ h1_) | apply IsS91.alloc | apply IsS91.drewN | apply IsS91.drew | apply IsS91.set_1 | refine IsS91.far ?_ NB0_275.out _) | exact (Q_HI0_e3 h0_ h1_))) hb))
              have z_HO284 := fun (h0_ : b 7 = true) => (show Kd.R (Kd.int .i64) 3 w14 w.heap.size (fun _ => True) v283 y282 from by first | exact (Kd.R_elder' (by (with_reducible repeat (first | apply Kd.R_alloc | apply Kd.R_drewN | apply Kd.R_drew)); exact (Q_HO284 h0_)) (Kd.R_base ho15) hb) | exact Kd.R_mono (Kd.R_elder' (by (with_reducible repeat (first | apply Kd.R_alloc | apply Kd.R_drewN | apply Kd.R_drew)); exact (Q_HO284 h0_)) (Kd.R_base ho15) hb) (fun _ h_ => by first | trivial | exact h_ | exact h_.1))
              have z_HI0_e9 := fun (h0_ : b 9 = true) (h1_ : b 14 = false) => (show IsS91 w0 w14 g s0_0 t286 from by first | exact (IsS91.below (by repeat (first | (with_reducible first | exact (Q_HI0_e9 h0_ h1_) | apply IsS91.alloc | apply IsS91.drewN | apply IsS91.drew | apply IsS91.set_1 | refine IsS91.far ?_ NB0_275.out _) | exact (Q_HI0_e9 h0_ h1_))) hb))
              have z_HI0_e14 := fun (h0_ : b 14 = true) => (show IsS91 w0 w14 g s0_0 t289 from by first | exact (IsS91.below (by repeat (first | (with_reducible first | exact (Q_HI0_e14 h0_) | apply IsS91.alloc | apply IsS91.drewN | apply IsS91.drew | apply IsS91.set_1 | refine IsS91.far ?_ NB0_275.out _) | exact (Q_HI0_e14 h0_))) hb))
              have z_BK290 := fun (h0_ : b 16 = true) (h1_ : b 17 = false) => (show w14.heap[gb290]? = some (.cells #[.int .i64 0, .int .i64 0, .int .i64 0, .int .i64 0, .int .i64 0, .int .i64 0] 27 (0, 0)) from by first | exact (blk_below (g := gb290) (o := .cells #[.int .i64 0, .int .i64 0, .int .i64 0, .int .i64 0, .int .i64 0, .int .i64 0] 27 (0, 0)) (by (with_reducible repeat (first | refine blk_drewN ?_ _ | refine blk_drew ?_ | refine blk_alloc ?_ _)); exact (Q_BK290 h0_ h1_)) hb))
              clear BK275
              clear HK
              clear HB
              have HO278 := n0_
              have BK275 := n2_
              have HK := n3_
              have HB := n4_
              clear n0_ n2_ n3_ n4_
              clear hb ho15
              obtain ⟨Ao16, co16, eo16⟩ := Kd.R_slice HO278.out
              subst eo16
              obtain ⟨ado16, fo16, _⟩ := Kd.at_int (Kd.R_reads' HO278.out).2.2 0 (by decide) (by rw [Ny276.out]; simp)
              cases fo16
              refine hK.out _ _ ⟨.slice (some ado16) y276.length co16, ado16, v283, adz_v283, gb290, m4_, m10_, m16_, (by rw [ha.out]; exact putSel_upk 0 hb_ rfl rfl rfl), (by (with_reducible repeat (first | refine blk_drewN ?_ _ | refine blk_drew ?_ | refine blk_alloc ?_ _)); exact BK275.out), z_HI0, (by repeat (first | (with_reducible first | exact HK.out | apply KeepBut.set_ | apply keep_drewN | apply keep_drew | apply keep_alloc | refine keep_far ?_ GW275.out _) | exact HK.out)), (by repeat (first | (with_reducible first | exact HB.out | apply below_alloc | apply pw_below_drewN | apply below_drew1 | refine below_set ?_ GE275.out) | exact HB.out)), fun _ => (by (with_reducible repeat (first | apply Kd.R_alloc | apply Kd.R_drewN | apply Kd.R_drew)); exact HO278.out), fun _ => ⟨_, rfl⟩, z_HI0_e3, z_HO284, Q_HA_HO284, z_HI0_e9, z_HI0_e14, z_BK290, Q_GW290, Q_GE290, Q_NB0_290, Q_NB290_0, Q_NB275_290, Q_NB290_275, fun h0_ => absurd ((hoff 17 (by kernel_rfl)).symm.trans h0_) (by decide), fun h0_ => absurd ((hoff 4 (by kernel_rfl)).symm.trans h0_) (by decide), Q_X10_, Q_X16_⟩
            refine steps_cons ?_ ?_
            · rintro b a w' ⟨v277, adz_v277, v283, adz_v283, gb290, m4_, m10_, m16_, ha, Q_BK275, Q_HI0, Q_HK, Q_HB, Q_HO278, Q_HA_HO278, Q_HI0_e3, Q_HO284, Q_HA_HO284, Q_HI0_e9, Q_HI0_e14, Q_BK290, Q_GW290, Q_GE290, Q_NB0_290, Q_NB290_0, Q_NB275_290, Q_NB290_275, Q_BK290_e17, Q_X4_, Q_X10_, Q_X16_⟩ hb_ hon hoff
              refine ⟨_, rfl, fun K hK => ?_⟩
              have e10 : a.tmps[10]? = some (.pointer (some ⟨g, 0, none⟩)) := by rw [ha]; exact (putSel_off rfl).trans rfl
              replace ha := Aside0.mk ha
              have BK275 := Aside0.mk Q_BK275
              have HI0 := Aside0.mk (Q_HI0 hb_)
              have HK := Aside0.mk Q_HK
              have HB := Aside0.mk Q_HB
              refine goes_ Try.func53 (by kernel_rfl) rfl #[.pointer (some ⟨g, 0, none⟩), .int .i64 3] (by rfl) rfl rfl (by first | (simp only [List.map_toArray, List.map_cons, List.map_nil, Act.eval, Array.getD_eq_getD_getElem?, Option.getD_some, e10]; done) | (simp only [List.map_toArray, List.map_cons, List.map_nil, Act.eval, Array.getD_eq_getD_getElem?, Option.getD_some, e10]; rfl)) ?_
              with_reducible refine (spec_l20Rd_pick.calls k g s0_0 s0_1 3 t279 t280 w0 _ ?side1 ?side2 A4.out).mono ?_
              (case side1 => repeat (first | (with_reducible first | exact HI0.out | apply IsS91.alloc | apply IsS91.drewN | apply IsS91.drew | apply IsS91.set_1 | refine IsS91.far ?_ NB0_275.out _) | exact HI0.out))
              (case side2 => repeat (first | (with_reducible first | exact HB.out | apply below_alloc | apply pw_below_drewN | apply below_drew1 | refine below_set ?_ (IsS91.ge HI0.out) | refine below_set ?_ GE275.out) | exact HB.out))
              rintro e w14 ⟨rfl, hi, hb, hk⟩
              refine ⟨_, rfl, ?_⟩
              have n0_ := Aside0.mk (KeepBut.blk hk (g' := gb275) (o := .cells #[.int .i64 0, .int .i64 0, .int .i64 0, .int .i64 0, .int .i64 0, .int .i64 0] 27 (0, 0)) (by (with_reducible repeat (first | refine blk_drewN ?_ _ | refine blk_drew ?_ | refine blk_alloc ?_ _)); exact BK275.out) NB275_0.out (by simp))
              have n1_ := Aside0.mk (KeepBut.trans (by repeat (first | (with_reducible first | exact HK.out | apply KeepBut.set_ | apply keep_drewN | apply keep_drew | apply keep_alloc | refine keep_far ?_ GW275.out _) | exact HK.out)) hk (.inl rfl))
              have n2_ := Aside0.mk (hb)
              have n3_ := Aside0.mk (hi)
              have z_HO278 := fun (h0_ : b 1 = true) => (show Kd.R (Kd.int .i64) 3 w14 w.heap.size (fun _ => True) v277 y276 from by first | exact (Kd.R_mono (Kd.R_keep (IsS91.apart (show IsS91 w0 _ g s0_0 s0_1 from by repeat (first | (with_reducible first | exact HI0.out | apply IsS91.alloc | apply IsS91.drewN | apply IsS91.drew | apply IsS91.set_1 | refine IsS91.far ?_ NB0_275.out _) | exact HI0.out)) (by (with_reducible repeat (first | apply Kd.R_alloc | apply Kd.R_drewN | apply Kd.R_drew)); exact (Q_HO278 h0_)) (by decide)) hk (fun _ h => h.2)) (fun _ h => h.1)) | exact Kd.R_mono (Kd.R_mono (Kd.R_keep (IsS91.apart (show IsS91 w0 _ g s0_0 s0_1 from by repeat (first | (with_reducible first | exact HI0.out | apply IsS91.alloc | apply IsS91.drewN | apply IsS91.drew | apply IsS91.set_1 | refine IsS91.far ?_ NB0_275.out _) | exact HI0.out)) (by (with_reducible repeat (first | apply Kd.R_alloc | apply Kd.R_drewN | apply Kd.R_drew)); exact (Q_HO278 h0_)) (by decide)) hk (fun _ h => h.2)) (fun _ h => h.1)) (fun _ h_ => by first | trivial | exact h_ | exact h_.1))
              have z_HO284 := fun (h0_ : b 7 = true) => (show Kd.R (Kd.int .i64) 3 w14 w.heap.size (fun _ => True) v283 y282 from by first | exact (Kd.R_mono (Kd.R_keep (IsS91.apart (show IsS91 w0 _ g s0_0 s0_1 from by repeat (first | (with_reducible first | exact HI0.out | apply IsS91.alloc | apply IsS91.drewN | apply IsS91.drew | apply IsS91.set_1 | refine IsS91.far ?_ NB0_275.out _) | exact HI0.out)) (by (with_reducible repeat (first | apply Kd.R_alloc | apply Kd.R_drewN | apply Kd.R_drew)); exact (Q_HO284 h0_)) (by decide)) hk (fun _ h => h.2)) (fun _ h => h.1)) | exact Kd.R_mono (Kd.R_mono (Kd.R_keep (IsS91.apart (show IsS91 w0 _ g s0_0 s0_1 from by repeat (first | (with_reducible first | exact HI0.out | apply IsS91.alloc | apply IsS91.drewN | apply IsS91.drew | apply IsS91.set_1 | refine IsS91.far ?_ NB0_275.out _) | exact HI0.out)) (by (with_reducible repeat (first | apply Kd.R_alloc | apply Kd.R_drewN | apply Kd.R_drew)); exact (Q_HO284 h0_)) (by decide)) hk (fun _ h => h.2)) (fun _ h => h.1)) (fun _ h_ => by first | trivial | exact h_ | exact h_.1))
              have z_BK290 := fun (h0_ : b 16 = true) (h1_ : b 17 = false) => (show w14.heap[gb290]? = some (.cells #[.int .i64 0, .int .i64 0, .int .i64 0, .int .i64 0, .int .i64 0, .int .i64 0] 27 (0, 0)) from by first | exact (KeepBut.blk hk (g' := gb290) (o := .cells #[.int .i64 0, .int .i64 0, .int .i64 0, .int .i64 0, .int .i64 0, .int .i64 0] 27 (0, 0)) (by (with_reducible repeat (first | refine blk_drewN ?_ _ | refine blk_drew ?_ | refine blk_alloc ?_ _)); exact (Q_BK290 h0_ h1_)) (Q_NB290_0 h0_) (by simp)))
              clear BK275
              clear HK
              clear HB
              clear HI0
              have BK275 := n0_
              have HK := n1_
              have HB := n2_
              have HI0 := n3_
              clear n0_ n1_ n2_ n3_
              (try clear hb)
              (try clear hb2)
              (try clear hk)
              (try clear hi)
              refine hK.out _ _ ⟨v277, adz_v277, v283, adz_v283, gb290, m4_, m10_, m16_, (by rw [ha.out]; exact putSel_upk 1 hb_ rfl rfl rfl), (by (with_reducible repeat (first | refine blk_drewN ?_ _ | refine blk_drew ?_ | refine blk_alloc ?_ _)); exact BK275.out), fun h0_ => absurd ((up_self b 3).symm.trans h0_) (by decide), (by repeat (first | (with_reducible first | exact HK.out | apply KeepBut.set_ | apply keep_drewN | apply keep_drew | apply keep_alloc | refine keep_far ?_ GW275.out _) | exact HK.out)), (by repeat (first | (with_reducible first | exact HB.out | apply below_alloc | apply pw_below_drewN | apply below_drew1 | refine below_set ?_ (IsS91.ge HI0.out) | refine below_set ?_ GE275.out) | exact HB.out)), z_HO278, Q_HA_HO278, fun _ _ => (by repeat (first | (with_reducible first | exact HI0.out | apply IsS91.alloc | apply IsS91.drewN | apply IsS91.drew | apply IsS91.set_1 | refine IsS91.far ?_ NB0_275.out _) | exact HI0.out)), z_HO284, Q_HA_HO284, fun h0_ _ => absurd ((hoff 9 (by kernel_rfl)).symm.trans h0_) (by decide), fun h0_ => absurd ((hoff 14 (by kernel_rfl)).symm.trans h0_) (by decide), z_BK290, Q_GW290, Q_GE290, Q_NB0_290, Q_NB290_0, Q_NB275_290, Q_NB290_275, fun h0_ => absurd ((hoff 17 (by kernel_rfl)).symm.trans h0_) (by decide), fun h0_ => absurd ((hoff 4 (by kernel_rfl)).symm.trans h0_) (by decide), fun h0_ => absurd ((hoff 10 (by kernel_rfl)).symm.trans h0_) (by decide), Q_X16_⟩
            refine steps_cons ?_ ?_
            · rintro b a w' ⟨v277, adz_v277, v283, adz_v283, gb290, m4_, m10_, m16_, ha, Q_BK275, Q_HI0, Q_HK, Q_HB, Q_HO278, Q_HA_HO278, Q_HI0_e3, Q_HO284, Q_HA_HO284, Q_HI0_e9, Q_HI0_e14, Q_BK290, Q_GW290, Q_GE290, Q_NB0_290, Q_NB290_0, Q_NB275_290, Q_NB290_275, Q_BK290_e17, Q_X4_, Q_X10_, Q_X16_⟩ hb_ hon hoff
              refine ⟨_, rfl, fun K hK => ?_⟩
              have e9 : a.tmps[9]? = some (v277) := by rw [ha]; exact putSel_on (e := (1, 9, v277)) 0 rfl rfl (hon 1 (by kernel_rfl)) rfl
              have e11 : a.tmps[11]? = some (.int .i64 t279) := by rw [ha]; exact putSel_on (e := (3, 11, .int .i64 t279)) 1 rfl rfl (hon 3 (by kernel_rfl)) rfl
              replace ha := Aside0.mk ha
              have BK275 := Aside0.mk Q_BK275
              have HK := Aside0.mk Q_HK
              have HB := Aside0.mk Q_HB
              have HO278 := Aside0.mk (Q_HO278 (hon 1 (by kernel_rfl)))
              have HA_HO278 := Aside0.mk (Q_HA_HO278 (hon 1 (by kernel_rfl)))
              obtain ⟨c_, hv_⟩ := HA_HO278.out
              rw [hv_] at e9
              refine value_ (w1 := w') (v := .pointer (some (adz_v277.add (t279).toNat))) (by rfl) rfl ?_ ?_
              · go_simp
                (try simp only [i64_w])
                try rfl
              refine hK.out _ _ ⟨v277, adz_v277, v283, adz_v283, gb290, (.pointer (some (adz_v277.add (t279).toNat))), m10_, m16_, (by rw [ha.out]; exact putSel_upk 2 hb_ rfl rfl rfl), Q_BK275, fun h0_ => absurd ((hon 3 (by kernel_rfl)).symm.trans h0_) (by decide), Q_HK, Q_HB, Q_HO278, Q_HA_HO278, Q_HI0_e3, Q_HO284, Q_HA_HO284, Q_HI0_e9, Q_HI0_e14, Q_BK290, Q_GW290, Q_GE290, Q_NB0_290, Q_NB290_0, Q_NB275_290, Q_NB290_275, fun h0_ => absurd ((hoff 17 (by kernel_rfl)).symm.trans h0_) (by decide), fun _ => rfl, Q_X10_, Q_X16_⟩
            refine steps_cons ?_ ?_
            · rintro b a w' ⟨v277, adz_v277, v283, adz_v283, gb290, m4_, m10_, m16_, ha, Q_BK275, Q_HI0, Q_HK, Q_HB, Q_HO278, Q_HA_HO278, Q_HI0_e3, Q_HO284, Q_HA_HO284, Q_HI0_e9, Q_HI0_e14, Q_BK290, Q_GW290, Q_GE290, Q_NB0_290, Q_NB290_0, Q_NB275_290, Q_NB290_275, Q_BK290_e17, Q_X4_, Q_X10_, Q_X16_⟩ hb_ hon hoff
              refine ⟨_, rfl, fun K hK => ?_⟩
              have e12 : a.tmps[12]? = some (m4_) := by rw [ha]; exact putSel_on (e := (4, 12, m4_)) 2 rfl rfl (hon 4 (by kernel_rfl)) rfl
              rw [Q_X4_ (hon 4 (by kernel_rfl))] at e12
              replace ha := Aside0.mk ha
              have BK275 := Aside0.mk Q_BK275
              have HK := Aside0.mk Q_HK
              have HB := Aside0.mk Q_HB
              have HO278 := Aside0.mk (Q_HO278 (hon 1 (by kernel_rfl)))
              have HA_HO278 := Aside0.mk (Q_HA_HO278 (hon 1 (by kernel_rfl)))
              obtain ⟨c_, hv_⟩ := HA_HO278.out
              have hF_ := HO278.out
              rw [hv_] at hF_
              obtain ⟨ad_, ea_, hx_⟩ := Kd.at_int (Kd.R_reads' hF_).2.2 t279 (of_eq_true pi281) (of_eq_true qi281)
              cases ea_
              refine value_ (w1 := w') (v := .int .i64 (rd y276 t279)) (by rfl) rfl ?_ ?_
              · go_simp
                (try simp only [i64_w])
                try rfl
              refine hK.out _ _ ⟨v277, adz_v277, v283, adz_v283, gb290, m4_, m10_, m16_, (by rw [ha.out]; exact putSel_upk 3 hb_ rfl rfl rfl), Q_BK275, fun h0_ => absurd ((hon 3 (by kernel_rfl)).symm.trans h0_) (by decide), Q_HK, Q_HB, Q_HO278, Q_HA_HO278, Q_HI0_e3, Q_HO284, Q_HA_HO284, Q_HI0_e9, Q_HI0_e14, Q_BK290, Q_GW290, Q_GE290, Q_NB0_290, Q_NB290_0, Q_NB275_290, Q_NB290_275, fun h0_ => absurd ((hoff 17 (by kernel_rfl)).symm.trans h0_) (by decide), Q_X4_, Q_X10_, Q_X16_⟩
            refine steps_cons ?_ ?_
            · rintro b a w' ⟨v277, adz_v277, v283, adz_v283, gb290, m4_, m10_, m16_, ha, Q_BK275, Q_HI0, Q_HK, Q_HB, Q_HO278, Q_HA_HO278, Q_HI0_e3, Q_HO284, Q_HA_HO284, Q_HI0_e9, Q_HI0_e14, Q_BK290, Q_GW290, Q_GE290, Q_NB0_290, Q_NB290_0, Q_NB275_290, Q_NB290_275, Q_BK290_e17, Q_X4_, Q_X10_, Q_X16_⟩ hb_ hon hoff
              refine ⟨_, rfl, fun K hK => ?_⟩
              have e13 : a.tmps[13]? = some (.int .i64 (rd y276 t279)) := by rw [ha]; exact putSel_on (e := (5, 13, .int .i64 (rd y276 t279))) 3 rfl rfl (hon 5 (by kernel_rfl)) rfl
              replace ha := Aside0.mk ha
              have BK275 := Aside0.mk Q_BK275
              have HK := Aside0.mk Q_HK
              have HB := Aside0.mk Q_HB
              have HO278 := Aside0.mk (Q_HO278 (hon 1 (by kernel_rfl)))
              have HA_HO278 := Aside0.mk (Q_HA_HO278 (hon 1 (by kernel_rfl)))
              refine value_ (w1 := w') (v := .agg #[.int .i64 (rd y276 t279), .int .i64 1]) (by rfl) rfl ?_ ?_
              · go_simp
                (try simp only [i64_w])
                try rfl
              refine hK.out _ _ ⟨v277, adz_v277, v283, adz_v283, gb290, m4_, m10_, m16_, (by rw [ha.out]; exact putSel_upk 4 hb_ rfl rfl rfl), Q_BK275, fun h0_ => absurd ((hon 3 (by kernel_rfl)).symm.trans h0_) (by decide), Q_HK, Q_HB, Q_HO278, Q_HA_HO278, Q_HI0_e3, Q_HO284, Q_HA_HO284, Q_HI0_e9, Q_HI0_e14, Q_BK290, Q_GW290, Q_GE290, Q_NB0_290, Q_NB290_0, Q_NB275_290, Q_NB290_275, fun h0_ => absurd ((hoff 17 (by kernel_rfl)).symm.trans h0_) (by decide), Q_X4_, Q_X10_, Q_X16_⟩
            refine steps_cons ?_ ?_
            · rintro b a w' ⟨v277, adz_v277, v283, adz_v283, gb290, m4_, m10_, m16_, ha, Q_BK275, Q_HI0, Q_HK, Q_HB, Q_HO278, Q_HA_HO278, Q_HI0_e3, Q_HO284, Q_HA_HO284, Q_HI0_e9, Q_HI0_e14, Q_BK290, Q_GW290, Q_GE290, Q_NB0_290, Q_NB290_0, Q_NB275_290, Q_NB290_275, Q_BK290_e17, Q_X4_, Q_X10_, Q_X16_⟩ hb_ hon hoff
              refine ⟨_, rfl, fun K hK => ?_⟩
              replace ha := Aside0.mk ha
              have BK275 := Aside0.mk Q_BK275
              have HK := Aside0.mk Q_HK
              have HB := Aside0.mk Q_HB
              refine Kd.R_lit_step (Kd.int .i64) _ 3 ?hg (N := 15) ?hd (xs := ([20, 100, 15] : List Int)) (inner := [.int .i64 20, .int .i64 100, .int .i64 15]) (ok := fun _ => True) (okp := fun _ => True) ?hr ?hp (fun _ hk => hk) trivial (Below.refl _ _) (Nat.le_refl _) (by simp) ?_; (case hd => rfl); (case hg => rfl); (case hr => first | (go_simp; done) | (go_simp; rfl)); (case hp => exact (Reps.one (show Kd.M (Kd.int .i64) _ _ _ 20 [.int .i64 20] from rfl) (Reps.one (show Kd.M (Kd.int .i64) _ _ _ 100 [.int .i64 100] from rfl) (Reps.one (show Kd.M (Kd.int .i64) _ _ _ 15 [.int .i64 15] from rfl) (Reps.none _ _)))))
              intro v283 w14 ho15 hb hg_ hnew_
              clear hg_ hnew_
              (first | rw [← Ny282.out] at ho15 | (simp only [Int.reduceToNat] at ho15; rw [← Ny282.out] at ho15))
              have n0_ := Aside0.mk (Kd.R_lower ho15 (keep_size (w := w) (g := g) (row := none) (by repeat (first | (with_reducible first | exact HK.out | apply KeepBut.set_ | apply keep_drewN | apply keep_drew | apply keep_alloc | refine keep_far ?_ GW275.out _) | exact HK.out))))
              have n2_ := Aside0.mk (blk_below (g := gb275) (o := .cells #[.int .i64 0, .int .i64 0, .int .i64 0, .int .i64 0, .int .i64 0, .int .i64 0] 27 (0, 0)) (by (with_reducible repeat (first | refine blk_drewN ?_ _ | refine blk_drew ?_ | refine blk_alloc ?_ _)); exact BK275.out) hb)
              have n3_ := Aside0.mk (KeepBut.trans (by repeat (first | (with_reducible first | exact HK.out | apply KeepBut.set_ | apply keep_drewN | apply keep_drew | apply keep_alloc | refine keep_far ?_ GW275.out _) | exact HK.out)) (KeepBut.of_below hb g none) (.inl rfl))
              have n4_ := Aside0.mk (below_step (by repeat (first | (with_reducible first | exact HB.out | apply below_alloc | apply pw_below_drewN | apply below_drew1 | refine below_set ?_ GE275.out) | exact HB.out)) hb)
              have z_HI0 := fun (h0_ : b 3 = false) => (show IsS91 w0 w14 g s0_0 s0_1 from by first | exact (IsS91.below (by repeat (first | (with_reducible first | exact (Q_HI0 h0_) | apply IsS91.alloc | apply IsS91.drewN | apply IsS91.drew | apply IsS91.set_1 | refine IsS91.far ?_ NB0_275.out _) | exact (Q_HI0 h0_))) hb))
              have z_HO278 := fun (h0_ : b 1 = true) => (show Kd.R (Kd.int .i64) 3 w14 w.heap.size (fun _ => True) v277 y276 from by first | exact (Kd.R_elder' (by (with_reducible repeat (first | apply Kd.R_alloc | apply Kd.R_drewN | apply Kd.R_drew)); exact (Q_HO278 h0_)) (Kd.R_base ho15) hb) | exact Kd.R_mono (Kd.R_elder' (by (with_reducible repeat (first | apply Kd.R_alloc | apply Kd.R_drewN | apply Kd.R_drew)); exact (Q_HO278 h0_)) (Kd.R_base ho15) hb) (fun _ h_ => by first | trivial | exact h_ | exact h_.1))
              have z_HI0_e3 := fun (h0_ : b 3 = true) (h1_ : b 9 = false) => (show IsS91 w0 w14 g s0_0 t280 from by first | exact (IsS91.below (by repeat (first | (with_reducible first | exact (Q_HI0_e3 h0_ h1_) | apply IsS91.alloc | apply IsS91.drewN | apply IsS91.drew | apply IsS91.set_1 | refine IsS91.far ?_ NB0_275.out _) | exact (Q_HI0_e3 h0_ h1_))) hb))
              have z_HI0_e9 := fun (h0_ : b 9 = true) (h1_ : b 14 = false) => (show IsS91 w0 w14 g s0_0 t286 from by first | exact (IsS91.below (by repeat (first | (with_reducible first | exact (Q_HI0_e9 h0_ h1_) | apply IsS91.alloc | apply IsS91.drewN | apply IsS91.drew | apply IsS91.set_1 | refine IsS91.far ?_ NB0_275.out _) | exact (Q_HI0_e9 h0_ h1_))) hb))
              have z_HI0_e14 := fun (h0_ : b 14 = true) => (show IsS91 w0 w14 g s0_0 t289 from by first | exact (IsS91.below (by repeat (first | (with_reducible first | exact (Q_HI0_e14 h0_) | apply IsS91.alloc | apply IsS91.drewN | apply IsS91.drew | apply IsS91.set_1 | refine IsS91.far ?_ NB0_275.out _) | exact (Q_HI0_e14 h0_))) hb))
              have z_BK290 := fun (h0_ : b 16 = true) (h1_ : b 17 = false) => (show w14.heap[gb290]? = some (.cells #[.int .i64 0, .int .i64 0, .int .i64 0, .int .i64 0, .int .i64 0, .int .i64 0] 27 (0, 0)) from by first | exact (blk_below (g := gb290) (o := .cells #[.int .i64 0, .int .i64 0, .int .i64 0, .int .i64 0, .int .i64 0, .int .i64 0] 27 (0, 0)) (by (with_reducible repeat (first | refine blk_drewN ?_ _ | refine blk_drew ?_ | refine blk_alloc ?_ _)); exact (Q_BK290 h0_ h1_)) hb))
              clear BK275
              clear HK
              clear HB
              have HO284 := n0_
              have BK275 := n2_
              have HK := n3_
              have HB := n4_
              clear n0_ n2_ n3_ n4_
              clear hb ho15
              obtain ⟨Ao16, co16, eo16⟩ := Kd.R_slice HO284.out
              subst eo16
              obtain ⟨ado16, fo16, _⟩ := Kd.at_int (Kd.R_reads' HO284.out).2.2 0 (by decide) (by rw [Ny282.out]; simp)
              cases fo16
              refine hK.out _ _ ⟨v277, adz_v277, .slice (some ado16) y282.length co16, ado16, gb290, m4_, m10_, m16_, (by rw [ha.out]; exact putSel_upk 5 hb_ rfl rfl rfl), (by (with_reducible repeat (first | refine blk_drewN ?_ _ | refine blk_drew ?_ | refine blk_alloc ?_ _)); exact BK275.out), z_HI0, (by repeat (first | (with_reducible first | exact HK.out | apply KeepBut.set_ | apply keep_drewN | apply keep_drew | apply keep_alloc | refine keep_far ?_ GW275.out _) | exact HK.out)), (by repeat (first | (with_reducible first | exact HB.out | apply below_alloc | apply pw_below_drewN | apply below_drew1 | refine below_set ?_ GE275.out) | exact HB.out)), z_HO278, Q_HA_HO278, z_HI0_e3, fun _ => (by (with_reducible repeat (first | apply Kd.R_alloc | apply Kd.R_drewN | apply Kd.R_drew)); exact HO284.out), fun _ => ⟨_, rfl⟩, z_HI0_e9, z_HI0_e14, z_BK290, Q_GW290, Q_GE290, Q_NB0_290, Q_NB290_0, Q_NB275_290, Q_NB290_275, fun h0_ => absurd ((hoff 17 (by kernel_rfl)).symm.trans h0_) (by decide), Q_X4_, fun h0_ => absurd ((hoff 10 (by kernel_rfl)).symm.trans h0_) (by decide), Q_X16_⟩
            refine steps_cons ?_ ?_
            · rintro b a w' ⟨v277, adz_v277, v283, adz_v283, gb290, m4_, m10_, m16_, ha, Q_BK275, Q_HI0, Q_HK, Q_HB, Q_HO278, Q_HA_HO278, Q_HI0_e3, Q_HO284, Q_HA_HO284, Q_HI0_e9, Q_HI0_e14, Q_BK290, Q_GW290, Q_GE290, Q_NB0_290, Q_NB290_0, Q_NB275_290, Q_NB290_275, Q_BK290_e17, Q_X4_, Q_X10_, Q_X16_⟩ hb_ hon hoff
              refine ⟨_, rfl, fun K hK => ?_⟩
              have e16 : a.tmps[16]? = some (.pointer (some ⟨g, 0, none⟩)) := by rw [ha]; exact (putSel_off rfl).trans rfl
              replace ha := Aside0.mk ha
              have BK275 := Aside0.mk Q_BK275
              have HK := Aside0.mk Q_HK
              have HB := Aside0.mk Q_HB
              have HI0 := Aside0.mk (Q_HI0_e3 (hon 3 (by kernel_rfl)) hb_)
              refine goes_ Try.func53 (by kernel_rfl) rfl #[.pointer (some ⟨g, 0, none⟩), .int .i64 3] (by rfl) rfl rfl (by first | (simp only [List.map_toArray, List.map_cons, List.map_nil, Act.eval, Array.getD_eq_getD_getElem?, Option.getD_some, e16]; done) | (simp only [List.map_toArray, List.map_cons, List.map_nil, Act.eval, Array.getD_eq_getD_getElem?, Option.getD_some, e16]; rfl)) ?_
              with_reducible refine (spec_l20Rd_pick.calls k g s0_0 t280 3 t285 t286 w0 _ ?side1 ?side2 A7.out).mono ?_
              (case side1 => repeat (first | (with_reducible first | exact HI0.out | apply IsS91.alloc | apply IsS91.drewN | apply IsS91.drew | apply IsS91.set_1 | refine IsS91.far ?_ NB0_275.out _) | exact HI0.out))
              (case side2 => repeat (first | (with_reducible first | exact HB.out | apply below_alloc | apply pw_below_drewN | apply below_drew1 | refine below_set ?_ (IsS91.ge HI0.out) | refine below_set ?_ GE275.out) | exact HB.out))
              rintro e w16 ⟨rfl, hi, hb, hk⟩
              refine ⟨_, rfl, ?_⟩
              have n0_ := Aside0.mk (KeepBut.blk hk (g' := gb275) (o := .cells #[.int .i64 0, .int .i64 0, .int .i64 0, .int .i64 0, .int .i64 0, .int .i64 0] 27 (0, 0)) (by (with_reducible repeat (first | refine blk_drewN ?_ _ | refine blk_drew ?_ | refine blk_alloc ?_ _)); exact BK275.out) NB275_0.out (by simp))
              have n1_ := Aside0.mk (KeepBut.trans (by repeat (first | (with_reducible first | exact HK.out | apply KeepBut.set_ | apply keep_drewN | apply keep_drew | apply keep_alloc | refine keep_far ?_ GW275.out _) | exact HK.out)) hk (.inl rfl))
              have n2_ := Aside0.mk (hb)
              have n3_ := Aside0.mk (hi)
              have z_HO278 := fun (h0_ : b 1 = true) => (show Kd.R (Kd.int .i64) 3 w16 w.heap.size (fun _ => True) v277 y276 from by first | exact (Kd.R_mono (Kd.R_keep (IsS91.apart (show IsS91 w0 _ g s0_0 t280 from by repeat (first | (with_reducible first | exact HI0.out | apply IsS91.alloc | apply IsS91.drewN | apply IsS91.drew | apply IsS91.set_1 | refine IsS91.far ?_ NB0_275.out _) | exact HI0.out)) (by (with_reducible repeat (first | apply Kd.R_alloc | apply Kd.R_drewN | apply Kd.R_drew)); exact (Q_HO278 h0_)) (by decide)) hk (fun _ h => h.2)) (fun _ h => h.1)) | exact Kd.R_mono (Kd.R_mono (Kd.R_keep (IsS91.apart (show IsS91 w0 _ g s0_0 t280 from by repeat (first | (with_reducible first | exact HI0.out | apply IsS91.alloc | apply IsS91.drewN | apply IsS91.drew | apply IsS91.set_1 | refine IsS91.far ?_ NB0_275.out _) | exact HI0.out)) (by (with_reducible repeat (first | apply Kd.R_alloc | apply Kd.R_drewN | apply Kd.R_drew)); exact (Q_HO278 h0_)) (by decide)) hk (fun _ h => h.2)) (fun _ h => h.1)) (fun _ h_ => by first | trivial | exact h_ | exact h_.1))
              have z_HO284 := fun (h0_ : b 7 = true) => (show Kd.R (Kd.int .i64) 3 w16 w.heap.size (fun _ => True) v283 y282 from by first | exact (Kd.R_mono (Kd.R_keep (IsS91.apart (show IsS91 w0 _ g s0_0 t280 from by repeat (first | (with_reducible first | exact HI0.out | apply IsS91.alloc | apply IsS91.drewN | apply IsS91.drew | apply IsS91.set_1 | refine IsS91.far ?_ NB0_275.out _) | exact HI0.out)) (by (with_reducible repeat (first | apply Kd.R_alloc | apply Kd.R_drewN | apply Kd.R_drew)); exact (Q_HO284 h0_)) (by decide)) hk (fun _ h => h.2)) (fun _ h => h.1)) | exact Kd.R_mono (Kd.R_mono (Kd.R_keep (IsS91.apart (show IsS91 w0 _ g s0_0 t280 from by repeat (first | (with_reducible first | exact HI0.out | apply IsS91.alloc | apply IsS91.drewN | apply IsS91.drew | apply IsS91.set_1 | refine IsS91.far ?_ NB0_275.out _) | exact HI0.out)) (by (with_reducible repeat (first | apply Kd.R_alloc | apply Kd.R_drewN | apply Kd.R_drew)); exact (Q_HO284 h0_)) (by decide)) hk (fun _ h => h.2)) (fun _ h => h.1)) (fun _ h_ => by first | trivial | exact h_ | exact h_.1))
              have z_BK290 := fun (h0_ : b 16 = true) (h1_ : b 17 = false) => (show w16.heap[gb290]? = some (.cells #[.int .i64 0, .int .i64 0, .int .i64 0, .int .i64 0, .int .i64 0, .int .i64 0] 27 (0, 0)) from by first | exact (KeepBut.blk hk (g' := gb290) (o := .cells #[.int .i64 0, .int .i64 0, .int .i64 0, .int .i64 0, .int .i64 0, .int .i64 0] 27 (0, 0)) (by (with_reducible repeat (first | refine blk_drewN ?_ _ | refine blk_drew ?_ | refine blk_alloc ?_ _)); exact (Q_BK290 h0_ h1_)) (Q_NB290_0 h0_) (by simp)))
              clear BK275
              clear HK
              clear HB
              clear HI0
              have BK275 := n0_
              have HK := n1_
              have HB := n2_
              have HI0 := n3_
              clear n0_ n1_ n2_ n3_
              (try clear hb)
              (try clear hb2)
              (try clear hk)
              (try clear hi)
              refine hK.out _ _ ⟨v277, adz_v277, v283, adz_v283, gb290, m4_, m10_, m16_, (by rw [ha.out]; exact putSel_upk 6 hb_ rfl rfl rfl), (by (with_reducible repeat (first | refine blk_drewN ?_ _ | refine blk_drew ?_ | refine blk_alloc ?_ _)); exact BK275.out), fun h0_ => absurd ((hon 3 (by kernel_rfl)).symm.trans h0_) (by decide), (by repeat (first | (with_reducible first | exact HK.out | apply KeepBut.set_ | apply keep_drewN | apply keep_drew | apply keep_alloc | refine keep_far ?_ GW275.out _) | exact HK.out)), (by repeat (first | (with_reducible first | exact HB.out | apply below_alloc | apply pw_below_drewN | apply below_drew1 | refine below_set ?_ (IsS91.ge HI0.out) | refine below_set ?_ GE275.out) | exact HB.out)), z_HO278, Q_HA_HO278, fun _ h1_ => absurd ((up_self b 9).symm.trans h1_) (by decide), z_HO284, Q_HA_HO284, fun _ _ => (by repeat (first | (with_reducible first | exact HI0.out | apply IsS91.alloc | apply IsS91.drewN | apply IsS91.drew | apply IsS91.set_1 | refine IsS91.far ?_ NB0_275.out _) | exact HI0.out)), fun h0_ => absurd ((hoff 14 (by kernel_rfl)).symm.trans h0_) (by decide), z_BK290, Q_GW290, Q_GE290, Q_NB0_290, Q_NB290_0, Q_NB275_290, Q_NB290_275, fun h0_ => absurd ((hoff 17 (by kernel_rfl)).symm.trans h0_) (by decide), Q_X4_, fun h0_ => absurd ((hoff 10 (by kernel_rfl)).symm.trans h0_) (by decide), Q_X16_⟩
            refine steps_cons ?_ ?_
            · rintro b a w' ⟨v277, adz_v277, v283, adz_v283, gb290, m4_, m10_, m16_, ha, Q_BK275, Q_HI0, Q_HK, Q_HB, Q_HO278, Q_HA_HO278, Q_HI0_e3, Q_HO284, Q_HA_HO284, Q_HI0_e9, Q_HI0_e14, Q_BK290, Q_GW290, Q_GE290, Q_NB0_290, Q_NB290_0, Q_NB275_290, Q_NB290_275, Q_BK290_e17, Q_X4_, Q_X10_, Q_X16_⟩ hb_ hon hoff
              refine ⟨_, rfl, fun K hK => ?_⟩
              have e15 : a.tmps[15]? = some (v283) := by rw [ha]; exact putSel_on (e := (7, 15, v283)) 5 rfl rfl (hon 7 (by kernel_rfl)) rfl
              have e17 : a.tmps[17]? = some (.int .i64 t285) := by rw [ha]; exact putSel_on (e := (9, 17, .int .i64 t285)) 6 rfl rfl (hon 9 (by kernel_rfl)) rfl
              replace ha := Aside0.mk ha
              have BK275 := Aside0.mk Q_BK275
              have HK := Aside0.mk Q_HK
              have HB := Aside0.mk Q_HB
              have HO284 := Aside0.mk (Q_HO284 (hon 7 (by kernel_rfl)))
              have HA_HO284 := Aside0.mk (Q_HA_HO284 (hon 7 (by kernel_rfl)))
              obtain ⟨c_, hv_⟩ := HA_HO284.out
              rw [hv_] at e15
              refine value_ (w1 := w') (v := .pointer (some (adz_v283.add (t285).toNat))) (by rfl) rfl ?_ ?_
              · go_simp
                (try simp only [i64_w])
                try rfl
              refine hK.out _ _ ⟨v277, adz_v277, v283, adz_v283, gb290, m4_, (.pointer (some (adz_v283.add (t285).toNat))), m16_, (by rw [ha.out]; exact putSel_upk 7 hb_ rfl rfl rfl), Q_BK275, fun h0_ => absurd ((hon 3 (by kernel_rfl)).symm.trans h0_) (by decide), Q_HK, Q_HB, Q_HO278, Q_HA_HO278, fun _ h1_ => absurd ((hon 9 (by kernel_rfl)).symm.trans h1_) (by decide), Q_HO284, Q_HA_HO284, Q_HI0_e9, Q_HI0_e14, Q_BK290, Q_GW290, Q_GE290, Q_NB0_290, Q_NB290_0, Q_NB275_290, Q_NB290_275, fun h0_ => absurd ((hoff 17 (by kernel_rfl)).symm.trans h0_) (by decide), Q_X4_, fun _ => rfl, Q_X16_⟩
            refine steps_cons ?_ ?_
            · rintro b a w' ⟨v277, adz_v277, v283, adz_v283, gb290, m4_, m10_, m16_, ha, Q_BK275, Q_HI0, Q_HK, Q_HB, Q_HO278, Q_HA_HO278, Q_HI0_e3, Q_HO284, Q_HA_HO284, Q_HI0_e9, Q_HI0_e14, Q_BK290, Q_GW290, Q_GE290, Q_NB0_290, Q_NB290_0, Q_NB275_290, Q_NB290_275, Q_BK290_e17, Q_X4_, Q_X10_, Q_X16_⟩ hb_ hon hoff
              refine ⟨_, rfl, fun K hK => ?_⟩
              have e18 : a.tmps[18]? = some (m10_) := by rw [ha]; exact putSel_on (e := (10, 18, m10_)) 7 rfl rfl (hon 10 (by kernel_rfl)) rfl
              rw [Q_X10_ (hon 10 (by kernel_rfl))] at e18
              replace ha := Aside0.mk ha
              have BK275 := Aside0.mk Q_BK275
              have HK := Aside0.mk Q_HK
              have HB := Aside0.mk Q_HB
              have HO284 := Aside0.mk (Q_HO284 (hon 7 (by kernel_rfl)))
              have HA_HO284 := Aside0.mk (Q_HA_HO284 (hon 7 (by kernel_rfl)))
              obtain ⟨c_, hv_⟩ := HA_HO284.out
              have hF_ := HO284.out
              rw [hv_] at hF_
              obtain ⟨ad_, ea_, hx_⟩ := Kd.at_int (Kd.R_reads' hF_).2.2 t285 (of_eq_true pi287) (of_eq_true qi287)
              cases ea_
              refine value_ (w1 := w') (v := .int .i64 (rd y282 t285)) (by rfl) rfl ?_ ?_
              · go_simp
                (try simp only [i64_w])
                try rfl
              refine hK.out _ _ ⟨v277, adz_v277, v283, adz_v283, gb290, m4_, m10_, m16_, (by rw [ha.out]; exact putSel_upk 8 hb_ rfl rfl rfl), Q_BK275, fun h0_ => absurd ((hon 3 (by kernel_rfl)).symm.trans h0_) (by decide), Q_HK, Q_HB, Q_HO278, Q_HA_HO278, fun _ h1_ => absurd ((hon 9 (by kernel_rfl)).symm.trans h1_) (by decide), Q_HO284, Q_HA_HO284, Q_HI0_e9, Q_HI0_e14, Q_BK290, Q_GW290, Q_GE290, Q_NB0_290, Q_NB290_0, Q_NB275_290, Q_NB290_275, fun h0_ => absurd ((hoff 17 (by kernel_rfl)).symm.trans h0_) (by decide), Q_X4_, Q_X10_, Q_X16_⟩
            refine steps_cons ?_ ?_
            · rintro b a w' ⟨v277, adz_v277, v283, adz_v283, gb290, m4_, m10_, m16_, ha, Q_BK275, Q_HI0, Q_HK, Q_HB, Q_HO278, Q_HA_HO278, Q_HI0_e3, Q_HO284, Q_HA_HO284, Q_HI0_e9, Q_HI0_e14, Q_BK290, Q_GW290, Q_GE290, Q_NB0_290, Q_NB290_0, Q_NB275_290, Q_NB290_275, Q_BK290_e17, Q_X4_, Q_X10_, Q_X16_⟩ hb_ hon hoff
              refine ⟨_, rfl, fun K hK => ?_⟩
              have e19 : a.tmps[19]? = some (.int .i64 (rd y282 t285)) := by rw [ha]; exact putSel_on (e := (11, 19, .int .i64 (rd y282 t285))) 8 rfl rfl (hon 11 (by kernel_rfl)) rfl
              replace ha := Aside0.mk ha
              have BK275 := Aside0.mk Q_BK275
              have HK := Aside0.mk Q_HK
              have HB := Aside0.mk Q_HB
              have HO284 := Aside0.mk (Q_HO284 (hon 7 (by kernel_rfl)))
              have HA_HO284 := Aside0.mk (Q_HA_HO284 (hon 7 (by kernel_rfl)))
              refine value_ (w1 := w') (v := .agg #[.int .i64 (rd y282 t285), .int .i64 1]) (by rfl) rfl ?_ ?_
              · go_simp
                (try simp only [i64_w])
                try rfl
              refine hK.out _ _ ⟨v277, adz_v277, v283, adz_v283, gb290, m4_, m10_, m16_, (by rw [ha.out]; exact putSel_upk 9 hb_ rfl rfl rfl), Q_BK275, fun h0_ => absurd ((hon 3 (by kernel_rfl)).symm.trans h0_) (by decide), Q_HK, Q_HB, Q_HO278, Q_HA_HO278, fun _ h1_ => absurd ((hon 9 (by kernel_rfl)).symm.trans h1_) (by decide), Q_HO284, Q_HA_HO284, Q_HI0_e9, Q_HI0_e14, Q_BK290, Q_GW290, Q_GE290, Q_NB0_290, Q_NB290_0, Q_NB275_290, Q_NB290_275, fun h0_ => absurd ((hoff 17 (by kernel_rfl)).symm.trans h0_) (by decide), Q_X4_, Q_X10_, Q_X16_⟩
            refine steps_cons ?_ ?_
            · rintro b a w' ⟨v277, adz_v277, v283, adz_v283, gb290, m4_, m10_, m16_, ha, Q_BK275, Q_HI0, Q_HK, Q_HB, Q_HO278, Q_HA_HO278, Q_HI0_e3, Q_HO284, Q_HA_HO284, Q_HI0_e9, Q_HI0_e14, Q_BK290, Q_GW290, Q_GE290, Q_NB0_290, Q_NB290_0, Q_NB275_290, Q_NB290_275, Q_BK290_e17, Q_X4_, Q_X10_, Q_X16_⟩ hb_ hon hoff
              refine ⟨_, rfl, fun K hK => ?_⟩
              have e21 : a.tmps[21]? = some (.pointer (some ⟨g, 0, none⟩)) := by rw [ha]; exact (putSel_off rfl).trans rfl
              replace ha := Aside0.mk ha
              have BK275 := Aside0.mk Q_BK275
              have HK := Aside0.mk Q_HK
              have HB := Aside0.mk Q_HB
              have HI0 := Aside0.mk (Q_HI0_e9 (hon 9 (by kernel_rfl)) hb_)
              refine goes_ Try.func53 (by kernel_rfl) rfl #[.pointer (some ⟨g, 0, none⟩), .int .i64 3] (by rfl) rfl rfl (by first | (simp only [List.map_toArray, List.map_cons, List.map_nil, Act.eval, Array.getD_eq_getD_getElem?, Option.getD_some, e21]; done) | (simp only [List.map_toArray, List.map_cons, List.map_nil, Act.eval, Array.getD_eq_getD_getElem?, Option.getD_some, e21]; rfl)) ?_
              with_reducible refine (spec_l20Rd_pick.calls k g s0_0 t286 3 t288 t289 w0 _ ?side1 ?side2 A10.out).mono ?_
              (case side1 => repeat (first | (with_reducible first | exact HI0.out | apply IsS91.alloc | apply IsS91.drewN | apply IsS91.drew | apply IsS91.set_1 | refine IsS91.far ?_ NB0_275.out _) | exact HI0.out))
              (case side2 => repeat (first | (with_reducible first | exact HB.out | apply below_alloc | apply pw_below_drewN | apply below_drew1 | refine below_set ?_ (IsS91.ge HI0.out) | refine below_set ?_ GE275.out) | exact HB.out))
              rintro e w17 ⟨rfl, hi, hb, hk⟩
              refine ⟨_, rfl, ?_⟩
              have n0_ := Aside0.mk (KeepBut.blk hk (g' := gb275) (o := .cells #[.int .i64 0, .int .i64 0, .int .i64 0, .int .i64 0, .int .i64 0, .int .i64 0] 27 (0, 0)) (by (with_reducible repeat (first | refine blk_drewN ?_ _ | refine blk_drew ?_ | refine blk_alloc ?_ _)); exact BK275.out) NB275_0.out (by simp))
              have n1_ := Aside0.mk (KeepBut.trans (by repeat (first | (with_reducible first | exact HK.out | apply KeepBut.set_ | apply keep_drewN | apply keep_drew | apply keep_alloc | refine keep_far ?_ GW275.out _) | exact HK.out)) hk (.inl rfl))
              have n2_ := Aside0.mk (hb)
              have n3_ := Aside0.mk (hi)
              have z_HO278 := fun (h0_ : b 1 = true) => (show Kd.R (Kd.int .i64) 3 w17 w.heap.size (fun _ => True) v277 y276 from by first | exact (Kd.R_mono (Kd.R_keep (IsS91.apart (show IsS91 w0 _ g s0_0 t286 from by repeat (first | (with_reducible first | exact HI0.out | apply IsS91.alloc | apply IsS91.drewN | apply IsS91.drew | apply IsS91.set_1 | refine IsS91.far ?_ NB0_275.out _) | exact HI0.out)) (by (with_reducible repeat (first | apply Kd.R_alloc | apply Kd.R_drewN | apply Kd.R_drew)); exact (Q_HO278 h0_)) (by decide)) hk (fun _ h => h.2)) (fun _ h => h.1)) | exact Kd.R_mono (Kd.R_mono (Kd.R_keep (IsS91.apart (show IsS91 w0 _ g s0_0 t286 from by repeat (first | (with_reducible first | exact HI0.out | apply IsS91.alloc | apply IsS91.drewN | apply IsS91.drew | apply IsS91.set_1 | refine IsS91.far ?_ NB0_275.out _) | exact HI0.out)) (by (with_reducible repeat (first | apply Kd.R_alloc | apply Kd.R_drewN | apply Kd.R_drew)); exact (Q_HO278 h0_)) (by decide)) hk (fun _ h => h.2)) (fun _ h => h.1)) (fun _ h_ => by first | trivial | exact h_ | exact h_.1))
              have z_HO284 := fun (h0_ : b 7 = true) => (show Kd.R (Kd.int .i64) 3 w17 w.heap.size (fun _ => True) v283 y282 from by first | exact (Kd.R_mono (Kd.R_keep (IsS91.apart (show IsS91 w0 _ g s0_0 t286 from by repeat (first | (with_reducible first | exact HI0.out | apply IsS91.alloc | apply IsS91.drewN | apply IsS91.drew | apply IsS91.set_1 | refine IsS91.far ?_ NB0_275.out _) | exact HI0.out)) (by (with_reducible repeat (first | apply Kd.R_alloc | apply Kd.R_drewN | apply Kd.R_drew)); exact (Q_HO284 h0_)) (by decide)) hk (fun _ h => h.2)) (fun _ h => h.1)) | exact Kd.R_mono (Kd.R_mono (Kd.R_keep (IsS91.apart (show IsS91 w0 _ g s0_0 t286 from by repeat (first | (with_reducible first | exact HI0.out | apply IsS91.alloc | apply IsS91.drewN | apply IsS91.drew | apply IsS91.set_1 | refine IsS91.far ?_ NB0_275.out _) | exact HI0.out)) (by (with_reducible repeat (first | apply Kd.R_alloc | apply Kd.R_drewN | apply Kd.R_drew)); exact (Q_HO284 h0_)) (by decide)) hk (fun _ h => h.2)) (fun _ h => h.1)) (fun _ h_ => by first | trivial | exact h_ | exact h_.1))
              have z_BK290 := fun (h0_ : b 16 = true) (h1_ : b 17 = false) => (show w17.heap[gb290]? = some (.cells #[.int .i64 0, .int .i64 0, .int .i64 0, .int .i64 0, .int .i64 0, .int .i64 0] 27 (0, 0)) from by first | exact (KeepBut.blk hk (g' := gb290) (o := .cells #[.int .i64 0, .int .i64 0, .int .i64 0, .int .i64 0, .int .i64 0, .int .i64 0] 27 (0, 0)) (by (with_reducible repeat (first | refine blk_drewN ?_ _ | refine blk_drew ?_ | refine blk_alloc ?_ _)); exact (Q_BK290 h0_ h1_)) (Q_NB290_0 h0_) (by simp)))
              clear BK275
              clear HK
              clear HB
              clear HI0
              have BK275 := n0_
              have HK := n1_
              have HB := n2_
              have HI0 := n3_
              clear n0_ n1_ n2_ n3_
              (try clear hb)
              (try clear hb2)
              (try clear hk)
              (try clear hi)
              refine hK.out _ _ ⟨v277, adz_v277, v283, adz_v283, gb290, m4_, m10_, m16_, (by rw [ha.out]; exact putSel_upk 10 hb_ rfl rfl rfl), (by (with_reducible repeat (first | refine blk_drewN ?_ _ | refine blk_drew ?_ | refine blk_alloc ?_ _)); exact BK275.out), fun h0_ => absurd ((hon 3 (by kernel_rfl)).symm.trans h0_) (by decide), (by repeat (first | (with_reducible first | exact HK.out | apply KeepBut.set_ | apply keep_drewN | apply keep_drew | apply keep_alloc | refine keep_far ?_ GW275.out _) | exact HK.out)), (by repeat (first | (with_reducible first | exact HB.out | apply below_alloc | apply pw_below_drewN | apply below_drew1 | refine below_set ?_ (IsS91.ge HI0.out) | refine below_set ?_ GE275.out) | exact HB.out)), z_HO278, Q_HA_HO278, fun _ h1_ => absurd ((hon 9 (by kernel_rfl)).symm.trans h1_) (by decide), z_HO284, Q_HA_HO284, fun _ h1_ => absurd ((up_self b 14).symm.trans h1_) (by decide), fun _ => (by repeat (first | (with_reducible first | exact HI0.out | apply IsS91.alloc | apply IsS91.drewN | apply IsS91.drew | apply IsS91.set_1 | refine IsS91.far ?_ NB0_275.out _) | exact HI0.out)), z_BK290, Q_GW290, Q_GE290, Q_NB0_290, Q_NB290_0, Q_NB275_290, Q_NB290_275, fun h0_ => absurd ((hoff 17 (by kernel_rfl)).symm.trans h0_) (by decide), Q_X4_, Q_X10_, Q_X16_⟩
            refine steps_cons ?_ ?_
            · rintro b a w' ⟨v277, adz_v277, v283, adz_v283, gb290, m4_, m10_, m16_, ha, Q_BK275, Q_HI0, Q_HK, Q_HB, Q_HO278, Q_HA_HO278, Q_HI0_e3, Q_HO284, Q_HA_HO284, Q_HI0_e9, Q_HI0_e14, Q_BK290, Q_GW290, Q_GE290, Q_NB0_290, Q_NB290_0, Q_NB275_290, Q_NB290_275, Q_BK290_e17, Q_X4_, Q_X10_, Q_X16_⟩ hb_ hon hoff
              refine ⟨_, rfl, fun K hK => ?_⟩
              have e8 : a.tmps[8]? = some (.int .i64 a1) := by rw [ha]; exact (putSel_off rfl).trans rfl
              have e14 : a.tmps[14]? = some (.agg #[.int .i64 (rd y276 t279), .int .i64 1]) := by rw [ha]; exact putSel_on (e := (6, 14, .agg #[.int .i64 (rd y276 t279), .int .i64 1])) 4 rfl rfl (hon 6 (by kernel_rfl)) rfl
              have e20 : a.tmps[20]? = some (.agg #[.int .i64 (rd y282 t285), .int .i64 1]) := by rw [ha]; exact putSel_on (e := (12, 20, .agg #[.int .i64 (rd y282 t285), .int .i64 1])) 9 rfl rfl (hon 12 (by kernel_rfl)) rfl
              have e22 : a.tmps[22]? = some (.int .i64 t288) := by rw [ha]; exact putSel_on (e := (14, 22, .int .i64 t288)) 10 rfl rfl (hon 14 (by kernel_rfl)) rfl
              replace ha := Aside0.mk ha
              have BK275 := Aside0.mk Q_BK275
              have HK := Aside0.mk Q_HK
              have HB := Aside0.mk Q_HB
              have HO278 := Aside0.mk (Q_HO278 (hon 1 (by kernel_rfl)))
              have HA_HO278 := Aside0.mk (Q_HA_HO278 (hon 1 (by kernel_rfl)))
              have HO284 := Aside0.mk (Q_HO284 (hon 7 (by kernel_rfl)))
              have HA_HO284 := Aside0.mk (Q_HA_HO284 (hon 7 (by kernel_rfl)))
              have HI0 := Aside0.mk (Q_HI0_e14 (hon 14 (by kernel_rfl)))
              refine value_ (w1 := w') (v := .agg #[.int .i64 a1, .int .i64 (rd y276 t279), .int .i64 1, .int .i64 (rd y282 t285), .int .i64 1, .int .i64 t288]) (by rfl) rfl ?_ ?_
              · go_simp
                (try simp only [i64_w])
                try rfl
              refine hK.out _ _ ⟨v277, adz_v277, v283, adz_v283, gb290, m4_, m10_, m16_, (by rw [ha.out]; exact putSel_upk 11 hb_ rfl rfl rfl), Q_BK275, fun h0_ => absurd ((hon 3 (by kernel_rfl)).symm.trans h0_) (by decide), Q_HK, Q_HB, Q_HO278, Q_HA_HO278, fun _ h1_ => absurd ((hon 9 (by kernel_rfl)).symm.trans h1_) (by decide), Q_HO284, Q_HA_HO284, fun _ h1_ => absurd ((hon 14 (by kernel_rfl)).symm.trans h1_) (by decide), Q_HI0_e14, Q_BK290, Q_GW290, Q_GE290, Q_NB0_290, Q_NB290_0, Q_NB275_290, Q_NB290_275, fun h0_ => absurd ((hoff 17 (by kernel_rfl)).symm.trans h0_) (by decide), Q_X4_, Q_X10_, Q_X16_⟩
            refine steps_cons ?_ ?_
            · rintro b a w' ⟨v277, adz_v277, v283, adz_v283, gb290, m4_, m10_, m16_, ha, Q_BK275, Q_HI0, Q_HK, Q_HB, Q_HO278, Q_HA_HO278, Q_HI0_e3, Q_HO284, Q_HA_HO284, Q_HI0_e9, Q_HI0_e14, Q_BK290, Q_GW290, Q_GE290, Q_NB0_290, Q_NB290_0, Q_NB275_290, Q_NB290_275, Q_BK290_e17, Q_X4_, Q_X10_, Q_X16_⟩ hb_ hon hoff
              refine ⟨_, rfl, fun K hK => ?_⟩
              replace ha := Aside0.mk ha
              have BK275 := Aside0.mk Q_BK275
              have HK := Aside0.mk Q_HK
              have HB := Aside0.mk Q_HB
              refine box_step ?hg (N := 7) ?hd (cs := #[.int .i64 0, .int .i64 0, .int .i64 0, .int .i64 0, .int .i64 0, .int .i64 0]) (t := 27) ?hr ?_; (case hd => rfl); (case hg => rfl); (case hr => first | (go_simp; done) | (go_simp; rfl))
              intro gb290 hg w14 hbox hb
              have n1_ := Aside0.mk (blk_below (g := gb275) (o := .cells #[.int .i64 0, .int .i64 0, .int .i64 0, .int .i64 0, .int .i64 0, .int .i64 0] 27 (0, 0)) (by (with_reducible repeat (first | refine blk_drewN ?_ _ | refine blk_drew ?_ | refine blk_alloc ?_ _)); exact BK275.out) hb)
              have n2_ := Aside0.mk (KeepBut.trans (by repeat (first | (with_reducible first | exact HK.out | apply KeepBut.set_ | apply keep_drewN | apply keep_drew | apply keep_alloc | refine keep_far ?_ GW275.out _) | exact HK.out)) (KeepBut.of_below hb g none) (.inl rfl))
              have n3_ := Aside0.mk (below_step (by repeat (first | (with_reducible first | exact HB.out | apply below_alloc | apply pw_below_drewN | apply below_drew1 | refine below_set ?_ GE275.out) | exact HB.out)) hb)
              have n4_ := Aside0.mk (hbox)
              have n5_ := Aside0.mk ((by rw [hg]; exact (keep_size (w := w) (g := g) (row := none) (by repeat (first | (with_reducible first | exact HK.out | apply KeepBut.set_ | apply keep_drewN | apply keep_drew | apply keep_alloc | refine keep_far ?_ GW275.out _) | exact HK.out))) : w.heap.size ≤ gb290))
              have n6_ := Aside0.mk ((Nat.le_trans HW0.out (by rw [hg]; exact (keep_size (w := w) (g := g) (row := none) (by repeat (first | (with_reducible first | exact HK.out | apply KeepBut.set_ | apply keep_drewN | apply keep_drew | apply keep_alloc | refine keep_far ?_ GW275.out _) | exact HK.out))) : w.heap.size ≤ gb290) : w0.heap.size ≤ gb290))
              have n7_ := Aside0.mk ((by rw [hg]; exact Nat.ne_of_lt (blk_lt (g := gb275) (o := .cells #[.int .i64 0, .int .i64 0, .int .i64 0, .int .i64 0, .int .i64 0, .int .i64 0] 27 (0, 0)) (by (with_reducible repeat (first | refine blk_drewN ?_ _ | refine blk_drew ?_ | refine blk_alloc ?_ _)); exact BK275.out)) : gb275 ≠ gb290))
              have n8_ := Aside0.mk ((by rw [hg]; exact Nat.ne_of_gt (blk_lt (g := gb275) (o := .cells #[.int .i64 0, .int .i64 0, .int .i64 0, .int .i64 0, .int .i64 0, .int .i64 0] 27 (0, 0)) (by (with_reducible repeat (first | refine blk_drewN ?_ _ | refine blk_drew ?_ | refine blk_alloc ?_ _)); exact BK275.out)) : gb290 ≠ gb275))
              have n9_ := Aside0.mk ((by rw [hg]; exact Nat.ne_of_lt (Nat.lt_of_lt_of_le HGL.out (keep_size (w := w) (g := g) (row := none) (by repeat (first | (with_reducible first | exact HK.out | apply KeepBut.set_ | apply keep_drewN | apply keep_drew | apply keep_alloc | refine keep_far ?_ GW275.out _) | exact HK.out)))) : g ≠ gb290))
              have n10_ := Aside0.mk ((by rw [hg]; exact Nat.ne_of_gt (Nat.lt_of_lt_of_le HGL.out (keep_size (w := w) (g := g) (row := none) (by repeat (first | (with_reducible first | exact HK.out | apply KeepBut.set_ | apply keep_drewN | apply keep_drew | apply keep_alloc | refine keep_far ?_ GW275.out _) | exact HK.out)))) : gb290 ≠ g))
              have z_HI0 := fun (h0_ : b 3 = false) => (show IsS91 w0 w14 g s0_0 s0_1 from by first | exact (IsS91.below (by repeat (first | (with_reducible first | exact (Q_HI0 h0_) | apply IsS91.alloc | apply IsS91.drewN | apply IsS91.drew | apply IsS91.set_1 | refine IsS91.far ?_ NB0_275.out _) | exact (Q_HI0 h0_))) hb))
              have z_HO278 := fun (h0_ : b 1 = true) => (show Kd.R (Kd.int .i64) 3 w14 w.heap.size (fun _ => True) v277 y276 from by first | exact (Kd.R_below (by (with_reducible repeat (first | apply Kd.R_alloc | apply Kd.R_drewN | apply Kd.R_drew)); exact (Q_HO278 h0_)) hb) | exact Kd.R_mono (Kd.R_below (by (with_reducible repeat (first | apply Kd.R_alloc | apply Kd.R_drewN | apply Kd.R_drew)); exact (Q_HO278 h0_)) hb) (fun _ h_ => by first | trivial | exact h_ | exact h_.1))
              have z_HI0_e3 := fun (h0_ : b 3 = true) (h1_ : b 9 = false) => (show IsS91 w0 w14 g s0_0 t280 from by first | exact (IsS91.below (by repeat (first | (with_reducible first | exact (Q_HI0_e3 h0_ h1_) | apply IsS91.alloc | apply IsS91.drewN | apply IsS91.drew | apply IsS91.set_1 | refine IsS91.far ?_ NB0_275.out _) | exact (Q_HI0_e3 h0_ h1_))) hb))
              have z_HO284 := fun (h0_ : b 7 = true) => (show Kd.R (Kd.int .i64) 3 w14 w.heap.size (fun _ => True) v283 y282 from by first | exact (Kd.R_below (by (with_reducible repeat (first | apply Kd.R_alloc | apply Kd.R_drewN | apply Kd.R_drew)); exact (Q_HO284 h0_)) hb) | exact Kd.R_mono (Kd.R_below (by (with_reducible repeat (first | apply Kd.R_alloc | apply Kd.R_drewN | apply Kd.R_drew)); exact (Q_HO284 h0_)) hb) (fun _ h_ => by first | trivial | exact h_ | exact h_.1))
              have z_HI0_e9 := fun (h0_ : b 9 = true) (h1_ : b 14 = false) => (show IsS91 w0 w14 g s0_0 t286 from by first | exact (IsS91.below (by repeat (first | (with_reducible first | exact (Q_HI0_e9 h0_ h1_) | apply IsS91.alloc | apply IsS91.drewN | apply IsS91.drew | apply IsS91.set_1 | refine IsS91.far ?_ NB0_275.out _) | exact (Q_HI0_e9 h0_ h1_))) hb))
              have z_HI0_e14 := fun (h0_ : b 14 = true) => (show IsS91 w0 w14 g s0_0 t289 from by first | exact (IsS91.below (by repeat (first | (with_reducible first | exact (Q_HI0_e14 h0_) | apply IsS91.alloc | apply IsS91.drewN | apply IsS91.drew | apply IsS91.set_1 | refine IsS91.far ?_ NB0_275.out _) | exact (Q_HI0_e14 h0_))) hb))
              clear BK275
              clear HK
              clear HB
              have BK275 := n1_
              have HK := n2_
              have HB := n3_
              have BK290 := n4_
              have GW290 := n5_
              have GE290 := n6_
              have NB275_290 := n7_
              have NB290_275 := n8_
              have NB0_290 := n9_
              have NB290_0 := n10_
              clear n1_ n2_ n3_ n4_ n5_ n6_ n7_ n8_ n9_ n10_
              clear hb hbox hg
              refine hK.out _ _ ⟨v277, adz_v277, v283, adz_v283, gb290, m4_, m10_, (.pointer (some ⟨gb290, 0, none⟩)), (by rw [ha.out]; exact putSel_upk 12 hb_ rfl rfl rfl), (by (with_reducible repeat (first | refine blk_drewN ?_ _ | refine blk_drew ?_ | refine blk_alloc ?_ _)); exact BK275.out), z_HI0, (by repeat (first | (with_reducible first | exact HK.out | apply KeepBut.set_ | apply keep_drewN | apply keep_drew | apply keep_alloc | refine keep_far ?_ GW275.out _ | refine keep_far ?_ GW290.out _) | exact HK.out)), (by repeat (first | (with_reducible first | exact HB.out | apply below_alloc | apply pw_below_drewN | apply below_drew1 | refine below_set ?_ GE275.out | refine below_set ?_ GE290.out) | exact HB.out)), z_HO278, Q_HA_HO278, z_HI0_e3, z_HO284, Q_HA_HO284, z_HI0_e9, z_HI0_e14, fun _ _ => (by (with_reducible repeat (first | refine blk_drewN ?_ _ | refine blk_drew ?_ | refine blk_alloc ?_ _)); exact BK290.out), fun _ => GW290.out, fun _ => GE290.out, fun _ => NB0_290.out, fun _ => NB290_0.out, fun _ => NB275_290.out, fun _ => NB290_275.out, fun h0_ => absurd ((hoff 17 (by kernel_rfl)).symm.trans h0_) (by decide), Q_X4_, Q_X10_, fun _ => rfl⟩
            refine steps_cons ?_ ?_
            · rintro b a w' ⟨v277, adz_v277, v283, adz_v283, gb290, m4_, m10_, m16_, ha, Q_BK275, Q_HI0, Q_HK, Q_HB, Q_HO278, Q_HA_HO278, Q_HI0_e3, Q_HO284, Q_HA_HO284, Q_HI0_e9, Q_HI0_e14, Q_BK290, Q_GW290, Q_GE290, Q_NB0_290, Q_NB290_0, Q_NB275_290, Q_NB290_275, Q_BK290_e17, Q_X4_, Q_X10_, Q_X16_⟩ hb_ hon hoff
              refine ⟨_, rfl, fun K hK => ?_⟩
              have e7 : a.tmps[7]? = some (m16_) := by rw [ha]; exact putSel_on (e := (16, 7, m16_)) 12 rfl rfl (hon 16 (by kernel_rfl)) rfl
              rw [Q_X16_ (hon 16 (by kernel_rfl))] at e7
              have e23 : a.tmps[23]? = some (.agg #[.int .i64 a1, .int .i64 (rd y276 t279), .int .i64 1, .int .i64 (rd y282 t285), .int .i64 1, .int .i64 t288]) := by rw [ha]; exact putSel_on (e := (15, 23, .agg #[.int .i64 a1, .int .i64 (rd y276 t279), .int .i64 1, .int .i64 (rd y282 t285), .int .i64 1, .int .i64 t288])) 11 rfl rfl (hon 15 (by kernel_rfl)) rfl
              replace ha := Aside0.mk ha
              have BK275 := Aside0.mk Q_BK275
              have HK := Aside0.mk Q_HK
              have HB := Aside0.mk Q_HB
              have HO278 := Aside0.mk (Q_HO278 (hon 1 (by kernel_rfl)))
              have HA_HO278 := Aside0.mk (Q_HA_HO278 (hon 1 (by kernel_rfl)))
              have HO284 := Aside0.mk (Q_HO284 (hon 7 (by kernel_rfl)))
              have HA_HO284 := Aside0.mk (Q_HA_HO284 (hon 7 (by kernel_rfl)))
              have HI0 := Aside0.mk (Q_HI0_e14 (hon 14 (by kernel_rfl)))
              have BK290 := Aside0.mk (Q_BK290 (hon 16 (by kernel_rfl)) hb_)
              have GW290 := Aside0.mk (Q_GW290 (hon 16 (by kernel_rfl)))
              have GE290 := Aside0.mk (Q_GE290 (hon 16 (by kernel_rfl)))
              have NB0_290 := Aside0.mk (Q_NB0_290 (hon 16 (by kernel_rfl)))
              have NB290_0 := Aside0.mk (Q_NB290_0 (hon 16 (by kernel_rfl)))
              have NB275_290 := Aside0.mk (Q_NB275_290 (hon 16 (by kernel_rfl)))
              have NB290_275 := Aside0.mk (Q_NB290_275 (hon 16 (by kernel_rfl)))
              obtain ⟨co25, eo25⟩ := HA_HO278.out
              clear HA_HO278
              subst eo25
              obtain ⟨co26, eo26⟩ := HA_HO284.out
              clear HA_HO284
              subst eo26
              have hs27 : w'.cell? ⟨gb290, 0, none⟩ = some (.int .i64 0) := (blk_cell BK290.out 0).trans rfl
              have hfs27 := blk_frozen BK290.out 0
              have hns27_0 := NB275_290.out
              have hms27_0 := NB290_275.out
              have hs28 : w'.cell? ⟨gb290, 1, none⟩ = some (.int .i64 0) := (blk_cell BK290.out 1).trans rfl
              have hfs28 := blk_frozen BK290.out 1
              have hns28_0 := NB275_290.out
              have hms28_0 := NB290_275.out
              have hs29 : w'.cell? ⟨gb290, 2, none⟩ = some (.int .i64 0) := (blk_cell BK290.out 2).trans rfl
              have hfs29 := blk_frozen BK290.out 2
              have hns29_0 := NB275_290.out
              have hms29_0 := NB290_275.out
              have hs30 : w'.cell? ⟨gb290, 3, none⟩ = some (.int .i64 0) := (blk_cell BK290.out 3).trans rfl
              have hfs30 := blk_frozen BK290.out 3
              have hns30_0 := NB275_290.out
              have hms30_0 := NB290_275.out
              have hs31 : w'.cell? ⟨gb290, 4, none⟩ = some (.int .i64 0) := (blk_cell BK290.out 4).trans rfl
              have hfs31 := blk_frozen BK290.out 4
              have hns31_0 := NB275_290.out
              have hms31_0 := NB290_275.out
              have hs32 : w'.cell? ⟨gb290, 5, none⟩ = some (.int .i64 0) := (blk_cell BK290.out 5).trans rfl
              have hfs32 := blk_frozen BK290.out 5
              have hns32_0 := NB275_290.out
              have hms32_0 := NB290_275.out
              refine skip_ (w1 := ?_) (by rfl) rfl ?_ ?_
              rotate_left
              · go_simp
                rfl
              refine hK.out _ _ ⟨.slice (some adz_v277) y276.length co25, adz_v277, .slice (some adz_v283) y282.length co26, adz_v283, gb290, m4_, m10_, m16_, (by rw [ha.out]; exact putSel_none (v := undef) rfl), (by (with_reducible repeat (first | refine blk_drewN ?_ _ | refine blk_drew ?_ | refine blk_alloc ?_ _)); refine blk_far ?_ NB275_290.out _; (with_reducible repeat (first | refine blk_drewN ?_ _ | refine blk_drew ?_ | refine blk_alloc ?_ _)); refine blk_far ?_ NB275_290.out _; (with_reducible repeat (first | refine blk_drewN ?_ _ | refine blk_drew ?_ | refine blk_alloc ?_ _)); refine blk_far ?_ NB275_290.out _; (with_reducible repeat (first | refine blk_drewN ?_ _ | refine blk_drew ?_ | refine blk_alloc ?_ _)); refine blk_far ?_ NB275_290.out _; (with_reducible repeat (first | refine blk_drewN ?_ _ | refine blk_drew ?_ | refine blk_alloc ?_ _)); refine blk_far ?_ NB275_290.out _; (with_reducible repeat (first | refine blk_drewN ?_ _ | refine blk_drew ?_ | refine blk_alloc ?_ _)); refine blk_far ?_ NB275_290.out _; (with_reducible repeat (first | refine blk_drewN ?_ _ | refine blk_drew ?_ | refine blk_alloc ?_ _)); exact BK275.out), fun h0_ => absurd ((hon 3 (by kernel_rfl)).symm.trans h0_) (by decide), (by repeat (first | (with_reducible first | exact HK.out | apply KeepBut.set_ | apply keep_drewN | apply keep_drew | apply keep_alloc | refine keep_far ?_ GW275.out _ | refine keep_far ?_ GW290.out _) | exact HK.out)), (by repeat (first | (with_reducible first | exact HB.out | apply below_alloc | apply pw_below_drewN | apply below_drew1 | refine below_set ?_ (IsS91.ge HI0.out) | refine below_set ?_ GE275.out | refine below_set ?_ GE290.out) | exact HB.out)), fun _ => (by (with_reducible repeat (first | apply Kd.R_alloc | apply Kd.R_drewN | apply Kd.R_drew)); exact Kd.R_mono (Kd.R_far (p := ⟨gb290, 5, none⟩) (Kd.R_far (p := ⟨gb290, 4, none⟩) (Kd.R_far (p := ⟨gb290, 3, none⟩) (Kd.R_far (p := ⟨gb290, 2, none⟩) (Kd.R_far (p := ⟨gb290, 1, none⟩) (Kd.R_far (p := ⟨gb290, 0, none⟩) (Kd.R_types HO278.out BK290.out (by decide)) (fun _ hk => hk.2) (.int .i64 a1)) (fun _ hk => hk.2) (.int .i64 (rd y276 t279))) (fun _ hk => hk.2) (.int .i64 1)) (fun _ hk => hk.2) (.int .i64 (rd y282 t285))) (fun _ hk => hk.2) (.int .i64 1)) (fun _ hk => hk.2) (.int .i64 t288)) (fun _ hk => hk.1)), fun _ => ⟨_, rfl⟩, fun _ h1_ => absurd ((hon 9 (by kernel_rfl)).symm.trans h1_) (by decide), fun _ => (by (with_reducible repeat (first | apply Kd.R_alloc | apply Kd.R_drewN | apply Kd.R_drew)); exact Kd.R_mono (Kd.R_far (p := ⟨gb290, 5, none⟩) (Kd.R_far (p := ⟨gb290, 4, none⟩) (Kd.R_far (p := ⟨gb290, 3, none⟩) (Kd.R_far (p := ⟨gb290, 2, none⟩) (Kd.R_far (p := ⟨gb290, 1, none⟩) (Kd.R_far (p := ⟨gb290, 0, none⟩) (Kd.R_types HO284.out BK290.out (by decide)) (fun _ hk => hk.2) (.int .i64 a1)) (fun _ hk => hk.2) (.int .i64 (rd y276 t279))) (fun _ hk => hk.2) (.int .i64 1)) (fun _ hk => hk.2) (.int .i64 (rd y282 t285))) (fun _ hk => hk.2) (.int .i64 1)) (fun _ hk => hk.2) (.int .i64 t288)) (fun _ hk => hk.1)), fun _ => ⟨_, rfl⟩, fun _ h1_ => absurd ((hon 14 (by kernel_rfl)).symm.trans h1_) (by decide), fun _ => (by repeat (first | (with_reducible first | exact HI0.out | apply IsS91.alloc | apply IsS91.drewN | apply IsS91.drew | apply IsS91.set_1 | refine IsS91.far ?_ NB0_275.out _ | refine IsS91.far ?_ NB0_290.out _) | exact HI0.out)), fun _ h1_ => absurd ((up_self b 17).symm.trans h1_) (by decide), fun _ => GW290.out, fun _ => GE290.out, fun _ => NB0_290.out, fun _ => NB290_0.out, fun _ => NB275_290.out, fun _ => NB290_275.out, fun _ => (by (with_reducible repeat (first | refine blk_drewN ?_ _ | refine blk_drew ?_ | refine blk_alloc ?_ _)); refine blk_put (cs := #[.int .i64 a1, .int .i64 (rd y276 t279), .int .i64 1, .int .i64 (rd y282 t285), .int .i64 1, .int .i64 0]) ?_ 5 _ rfl; (with_reducible repeat (first | refine blk_drewN ?_ _ | refine blk_drew ?_ | refine blk_alloc ?_ _)); refine blk_put (cs := #[.int .i64 a1, .int .i64 (rd y276 t279), .int .i64 1, .int .i64 (rd y282 t285), .int .i64 0, .int .i64 0]) ?_ 4 _ rfl; (with_reducible repeat (first | refine blk_drewN ?_ _ | refine blk_drew ?_ | refine blk_alloc ?_ _)); refine blk_put (cs := #[.int .i64 a1, .int .i64 (rd y276 t279), .int .i64 1, .int .i64 0, .int .i64 0, .int .i64 0]) ?_ 3 _ rfl; (with_reducible repeat (first | refine blk_drewN ?_ _ | refine blk_drew ?_ | refine blk_alloc ?_ _)); refine blk_put (cs := #[.int .i64 a1, .int .i64 (rd y276 t279), .int .i64 0, .int .i64 0, .int .i64 0, .int .i64 0]) ?_ 2 _ rfl; (with_reducible repeat (first | refine blk_drewN ?_ _ | refine blk_drew ?_ | refine blk_alloc ?_ _)); refine blk_put (cs := #[.int .i64 a1, .int .i64 0, .int .i64 0, .int .i64 0, .int .i64 0, .int .i64 0]) ?_ 1 _ rfl; (with_reducible repeat (first | refine blk_drewN ?_ _ | refine blk_drew ?_ | refine blk_alloc ?_ _)); refine blk_put (cs := #[.int .i64 0, .int .i64 0, .int .i64 0, .int .i64 0, .int .i64 0, .int .i64 0]) ?_ 0 _ rfl; (with_reducible repeat (first | refine blk_drewN ?_ _ | refine blk_drew ?_ | refine blk_alloc ?_ _)); exact BK290.out), Q_X4_, Q_X10_, Q_X16_⟩
            exact steps_nil
          rintro b a w30 hall ⟨v277, adz_v277, v283, adz_v283, gb290, m4_, m10_, m16_, ha, Q_BK275, Q_HI0, Q_HK, Q_HB, Q_HO278, Q_HA_HO278, Q_HI0_e3, Q_HO284, Q_HA_HO284, Q_HI0_e9, Q_HI0_e14, Q_BK290, Q_GW290, Q_GE290, Q_NB0_290, Q_NB290_0, Q_NB275_290, Q_NB290_275, Q_BK290_e17, Q_X4_, Q_X10_, Q_X16_⟩
          clear BK275 HB HI0 HK
          have hb1_ := hall 1 (by kernel_rfl)
          have hb3_ := hall 3 (by kernel_rfl)
          have hb4_ := hall 4 (by kernel_rfl)
          have hb5_ := hall 5 (by kernel_rfl)
          have hb6_ := hall 6 (by kernel_rfl)
          have hb7_ := hall 7 (by kernel_rfl)
          have hb9_ := hall 9 (by kernel_rfl)
          have hb10_ := hall 10 (by kernel_rfl)
          have hb11_ := hall 11 (by kernel_rfl)
          have hb12_ := hall 12 (by kernel_rfl)
          have hb14_ := hall 14 (by kernel_rfl)
          have hb15_ := hall 15 (by kernel_rfl)
          have hb16_ := hall 16 (by kernel_rfl)
          have hb17_ := hall 17 (by kernel_rfl)
          subst ha
          obtain rfl := Q_X4_ hb4_
          obtain rfl := Q_X10_ hb10_
          obtain rfl := Q_X16_ hb16_
          simp only [putSel, hb1_, hb3_, hb4_, hb5_, hb6_, hb7_, hb9_, hb10_, hb11_, hb12_, hb14_, hb15_, hb16_, hb17_, if_true, Act.put, List.setIfInBounds_toArray, List.set_cons_zero, List.set_cons_succ]
          have BK275 := Aside0.mk Q_BK275
          clear Q_BK275
          clear Q_HI0
          have HK := Aside0.mk Q_HK
          clear Q_HK
          have HB := Aside0.mk Q_HB
          clear Q_HB
          have HO278 := Aside0.mk (Q_HO278 hb1_)
          clear Q_HO278
          have HA_HO278 := Aside0.mk (Q_HA_HO278 hb1_)
          clear Q_HA_HO278
          clear Q_HI0_e3
          have HO284 := Aside0.mk (Q_HO284 hb7_)
          clear Q_HO284
          have HA_HO284 := Aside0.mk (Q_HA_HO284 hb7_)
          clear Q_HA_HO284
          clear Q_HI0_e9
          have HI0 := Aside0.mk (Q_HI0_e14 hb14_)
          clear Q_HI0_e14
          clear Q_BK290
          have GW290 := Aside0.mk (Q_GW290 hb16_)
          clear Q_GW290
          have GE290 := Aside0.mk (Q_GE290 hb16_)
          clear Q_GE290
          have NB0_290 := Aside0.mk (Q_NB0_290 hb16_)
          clear Q_NB0_290
          have NB290_0 := Aside0.mk (Q_NB290_0 hb16_)
          clear Q_NB290_0
          have NB275_290 := Aside0.mk (Q_NB275_290 hb16_)
          clear Q_NB275_290
          have NB290_275 := Aside0.mk (Q_NB290_275 hb16_)
          clear Q_NB290_275
          have BK290 := Aside0.mk (Q_BK290_e17 hb17_)
          clear Q_BK290_e17
          clear hall hb1_ hb3_ hb4_ hb5_ hb6_ hb7_ hb9_ hb10_ hb11_ hb12_ hb14_ hb15_ hb16_ hb17_
          obtain ⟨co31, eo31⟩ := HA_HO278.out
          clear HA_HO278
          subst eo31
          obtain ⟨co32, eo32⟩ := HA_HO284.out
          clear HA_HO284
          subst eo32
          go_upto_region 2 with (fail)
          go_cut [27] (fun v27 wc => ∃ (kq : Nat) (x27_10 : Bool) (x1001_10 : Int), v27 = .bool x27_10 ∧ Aside0 (spec_l20Ask.j0 kq x27_10 s0_0 x1001_10 a1 (rd y276 t279) 1 (rd y282 t285) 1 t288 = some (r1, r2, r3, r4, r5, r6, r7)) ∧ Aside0 (kq ≤ k) ∧ Aside0 (wc.heap[gb275]? = some (.cells #[.int .i64 0, .int .i64 0, .int .i64 0, .int .i64 0, .int .i64 0, .int .i64 0] 27 (0, 0))) ∧ Aside0 (wc.heap[gb290]? = some (.cells #[.int .i64 a1, .int .i64 (rd y276 t279), .int .i64 1, .int .i64 (rd y282 t285), .int .i64 1, .int .i64 t288] 27 (0, 0))) ∧ Aside0 (IsS91 w0 wc g s0_0 x1001_10) ∧ Aside0 (KeepBut w wc g none) ∧ Aside0 (Below w0.heap.size w0 wc))
          case first =>
            have H := HC11.out
            clear HC11
            replace H := Option.bind_eq_some_iff.mp H
            obtain ⟨⟨t291, t292⟩, A330, H⟩ := H
            replace H : (spec_l20Ask.j0 k (t291 == 0) s0_0 t292 a1 (rd y276 t279) 1 (rd y282 t285) 1 t288) = some (r1, r2, r3, r4, r5, r6, r7) := H
            have A33 := Aside0.mk A330
            clear A330
            have H' := Aside0.mk H
            clear H
            go_wp2_with (first | ((with_reducible refine gate_callee (f := 53) rfl ?_); refine goesL_ (some 26) rfl rfl Try.func53 (by kernel_rfl) rfl #[.pointer (some ⟨g, 0, none⟩), .int .i64 a2] rfl (by (try simp only [List.map_toArray, List.map_cons, List.map_nil]); first | done | rfl | (simp only [List.length_drop, List.length_take]; rfl)) ?_; (with_reducible refine (spec_l20Rd_pick.calls k g s0_0 t289 a2 t291 t292 w0 _ ?side1 ?side2 A33.out).mono ?_); (case side1 => repeat (first | (with_reducible first | exact HI0.out | apply IsS91.alloc | apply IsS91.drewN | apply IsS91.drew | apply IsS91.set_1 | refine IsS91.far ?_ NB0_275.out _ | refine IsS91.far ?_ NB0_290.out _) | exact HI0.out)); (case side2 => repeat (first | (with_reducible first | exact HB.out | apply below_alloc | apply pw_below_drewN | apply below_drew1 | refine below_set ?_ (IsS91.ge HI0.out) | refine below_set ?_ GE275.out | refine below_set ?_ GE290.out) | exact HB.out)); rintro e w34 ⟨rfl, hi, hb, hk⟩; refine ⟨_, rfl, ?_⟩; have n0_ := Aside0.mk (KeepBut.blk hk (g' := gb275) (o := .cells #[.int .i64 0, .int .i64 0, .int .i64 0, .int .i64 0, .int .i64 0, .int .i64 0] 27 (0, 0)) (by (with_reducible repeat (first | refine blk_drewN ?_ _ | refine blk_drew ?_ | refine blk_alloc ?_ _)); exact BK275.out) NB275_0.out (by simp)); have n1_ := Aside0.mk (Kd.R_mono (Kd.R_keep (IsS91.apart (show IsS91 w0 _ g s0_0 t289 from by repeat (first | (with_reducible first | exact HI0.out | apply IsS91.alloc | apply IsS91.drewN | apply IsS91.drew | apply IsS91.set_1 | refine IsS91.far ?_ NB0_275.out _ | refine IsS91.far ?_ NB0_290.out _) | exact HI0.out)) (by (with_reducible repeat (first | apply Kd.R_alloc | apply Kd.R_drewN | apply Kd.R_drew)); exact HO278.out) (by decide)) hk (fun _ h => h.2)) (fun _ h => h.1)); have n2_ := Aside0.mk (Kd.R_mono (Kd.R_keep (IsS91.apart (show IsS91 w0 _ g s0_0 t289 from by repeat (first | (with_reducible first | exact HI0.out | apply IsS91.alloc | apply IsS91.drewN | apply IsS91.drew | apply IsS91.set_1 | refine IsS91.far ?_ NB0_275.out _ | refine IsS91.far ?_ NB0_290.out _) | exact HI0.out)) (by (with_reducible repeat (first | apply Kd.R_alloc | apply Kd.R_drewN | apply Kd.R_drew)); exact HO284.out) (by decide)) hk (fun _ h => h.2)) (fun _ h => h.1)); have n3_ := Aside0.mk (KeepBut.blk hk (g' := gb290) (o := .cells #[.int .i64 a1, .int .i64 (rd y276 t279), .int .i64 1, .int .i64 (rd y282 t285), .int .i64 1, .int .i64 t288] 27 (0, 0)) (by (with_reducible repeat (first | refine blk_drewN ?_ _ | refine blk_drew ?_ | refine blk_alloc ?_ _)); exact BK290.out) NB290_0.out (by simp)); have n4_ := Aside0.mk (KeepBut.trans (by repeat (first | (with_reducible first | exact HK.out | apply KeepBut.set_ | apply keep_drewN | apply keep_drew | apply keep_alloc | refine keep_far ?_ GW275.out _ | refine keep_far ?_ GW290.out _) | exact HK.out)) hk (.inl rfl)); have n5_ := Aside0.mk (hb); have n6_ := Aside0.mk (hi); clear BK275; clear HO278; clear HO284; clear BK290; clear HK; clear HB; clear HI0; have BK275 := n0_; have HO278 := n1_; have HO284 := n2_; have BK290 := n3_; have HK := n4_; have HB := n5_; have HI0 := n6_; clear n0_ n1_ n2_ n3_ n4_ n5_ n6_; (try clear hb); (try clear hb2); (try clear hk); (try clear hi)))
            go_meet
            case rel => exact ⟨_, ((t291 == 0)), (t292), (by first | rfl | (simp; done) | (simp [*]; done)), H', ⟨by first | omega | exact Nat.le_refl _⟩, ⟨by (with_reducible repeat (first | refine blk_drewN ?_ _ | refine blk_drew ?_ | refine blk_alloc ?_ _)); exact BK275.out⟩, ⟨by (with_reducible repeat (first | refine blk_drewN ?_ _ | refine blk_drew ?_ | refine blk_alloc ?_ _)); exact BK290.out⟩, ⟨by repeat (first | (with_reducible first | exact HI0.out | apply IsS91.alloc | apply IsS91.drewN | apply IsS91.drew | apply IsS91.set_1 | refine IsS91.far ?_ NB0_275.out _ | refine IsS91.far ?_ NB0_290.out _) | exact HI0.out)⟩, ⟨by repeat (first | (with_reducible first | exact HK.out | apply KeepBut.set_ | apply keep_drewN | apply keep_drew | apply keep_alloc | refine keep_far ?_ GW275.out _ | refine keep_far ?_ GW290.out _) | exact HK.out)⟩, ⟨by repeat (first | (with_reducible first | exact HB.out | apply below_alloc | apply pw_below_drewN | apply below_drew1 | refine below_set ?_ (IsS91.ge HI0.out) | refine below_set ?_ GE275.out | refine below_set ?_ GE290.out) | exact HB.out)⟩⟩
          case rest =>
            clear HC11
            try clear p2
            try clear qi2
            try clear c5
            try clear c5b0
            try clear c6
            try clear c6b0
            try clear c8
            try clear c8b0
            try clear c9
            try clear c9b0
            try clear qi28
            obtain ⟨kq, x27_10, x1001_10, rfl, HA, HJ10, BK275, BK290, HI0, HK, HB⟩ := hcut
            cases kq with
            | zero => exact absurd HA.out (by simp [spec_l20Ask.j0])
            | succ kj10 =>
              have H := HA.out
              clear HA
              simp only [spec_l20Ask.j0] at H
              by_cases c35 : x27_10 = true
              · subst c35
                have H1 : ((spec_l20Rd_pick.f kj10 s0_0 x1001_10 4).bind fun bt293 => (spec_l20Ask.j1 kj10 bt293.1 s0_0 bt293.2 a1 (rd y276 t279) 1 (rd y282 t285) 1 t288)) = some (r1, r2, r3, r4, r5, r6, r7) := by rw [if_pos rfl] at H; exact H
                clear H
                have H := H1
                clear H1
                have HC36 := Aside0.mk H
                clear H
                go_upto_region 3 with (fail)
                go_cut [29] (fun v29 wc => ∃ (kq : Nat) (x29_35 : Int) (x1001_35 : Int), v29 = .int .i64 x29_35 ∧ Aside0 (spec_l20Ask.j1 kq x29_35 s0_0 x1001_35 a1 (rd y276 t279) 1 (rd y282 t285) 1 t288 = some (r1, r2, r3, r4, r5, r6, r7)) ∧ Aside0 (kq ≤ kj10) ∧ Aside0 (wc.heap[gb275]? = some (.cells #[.int .i64 0, .int .i64 0, .int .i64 0, .int .i64 0, .int .i64 0, .int .i64 0] 27 (0, 0))) ∧ Aside0 (wc.heap[gb290]? = some (.cells #[.int .i64 a1, .int .i64 (rd y276 t279), .int .i64 1, .int .i64 (rd y282 t285), .int .i64 1, .int .i64 t288] 27 (0, 0))) ∧ Aside0 (IsS91 w0 wc g s0_0 x1001_35) ∧ Aside0 (KeepBut w wc g none) ∧ Aside0 (Below w0.heap.size w0 wc))
                case first =>
                  have H := HC36.out
                  clear HC36
                  replace H := Option.bind_eq_some_iff.mp H
                  obtain ⟨⟨t293, t294⟩, A370, H⟩ := H
                  replace H : (spec_l20Ask.j1 kj10 t293 s0_0 t294 a1 (rd y276 t279) 1 (rd y282 t285) 1 t288) = some (r1, r2, r3, r4, r5, r6, r7) := H
                  have A37 := Aside0.mk A370
                  clear A370
                  have H' := Aside0.mk H
                  clear H
                  go_wp2_with (first | ((with_reducible refine gate_callee (f := 53) rfl ?_); refine goesL_ (some 29) rfl rfl Try.func53 (by kernel_rfl) rfl #[.pointer (some ⟨g, 0, none⟩), .int .i64 4] rfl (by (try simp only [List.map_toArray, List.map_cons, List.map_nil]); first | done | rfl | (simp only [List.length_drop, List.length_take]; rfl)) ?_; (with_reducible refine (spec_l20Rd_pick.calls kj10 g s0_0 x1001_10 4 t293 t294 w0 _ ?side1 ?side2 A37.out).mono ?_); (case side1 => repeat (first | (with_reducible first | exact HI0.out | apply IsS91.alloc | apply IsS91.drewN | apply IsS91.drew | apply IsS91.set_1 | refine IsS91.far ?_ NB0_275.out _ | refine IsS91.far ?_ NB0_290.out _) | exact HI0.out)); (case side2 => repeat (first | (with_reducible first | exact HB.out | apply below_alloc | apply pw_below_drewN | apply below_drew1 | refine below_set ?_ (IsS91.ge HI0.out) | refine below_set ?_ GE275.out | refine below_set ?_ GE290.out) | exact HB.out)); rintro e w38 ⟨rfl, hi, hb, hk⟩; refine ⟨_, rfl, ?_⟩; have n0_ := Aside0.mk (KeepBut.blk hk (g' := gb275) (o := .cells #[.int .i64 0, .int .i64 0, .int .i64 0, .int .i64 0, .int .i64 0, .int .i64 0] 27 (0, 0)) (by (with_reducible repeat (first | refine blk_drewN ?_ _ | refine blk_drew ?_ | refine blk_alloc ?_ _)); exact BK275.out) NB275_0.out (by simp)); have n1_ := Aside0.mk (KeepBut.blk hk (g' := gb290) (o := .cells #[.int .i64 a1, .int .i64 (rd y276 t279), .int .i64 1, .int .i64 (rd y282 t285), .int .i64 1, .int .i64 t288] 27 (0, 0)) (by (with_reducible repeat (first | refine blk_drewN ?_ _ | refine blk_drew ?_ | refine blk_alloc ?_ _)); exact BK290.out) NB290_0.out (by simp)); have n2_ := Aside0.mk (KeepBut.trans (by repeat (first | (with_reducible first | exact HK.out | apply KeepBut.set_ | apply keep_drewN | apply keep_drew | apply keep_alloc | refine keep_far ?_ GW275.out _ | refine keep_far ?_ GW290.out _) | exact HK.out)) hk (.inl rfl)); have n3_ := Aside0.mk (hb); have n4_ := Aside0.mk (hi); clear BK275; clear BK290; clear HK; clear HB; clear HI0; have BK275 := n0_; have BK290 := n1_; have HK := n2_; have HB := n3_; have HI0 := n4_; clear n0_ n1_ n2_ n3_ n4_; (try clear hb); (try clear hb2); (try clear hk); (try clear hi)))
                  go_meet
                  case rel => exact ⟨_, (t293), (t294), (by first | rfl | (simp; done) | (simp [*]; done)), H', ⟨by have := HJ10.out; first | omega | exact Nat.le_refl _⟩, ⟨by (with_reducible repeat (first | refine blk_drewN ?_ _ | refine blk_drew ?_ | refine blk_alloc ?_ _)); exact BK275.out⟩, ⟨by (with_reducible repeat (first | refine blk_drewN ?_ _ | refine blk_drew ?_ | refine blk_alloc ?_ _)); exact BK290.out⟩, ⟨by repeat (first | (with_reducible first | exact HI0.out | apply IsS91.alloc | apply IsS91.drewN | apply IsS91.drew | apply IsS91.set_1 | refine IsS91.far ?_ NB0_275.out _ | refine IsS91.far ?_ NB0_290.out _) | exact HI0.out)⟩, ⟨by repeat (first | (with_reducible first | exact HK.out | apply KeepBut.set_ | apply keep_drewN | apply keep_drew | apply keep_alloc | refine keep_far ?_ GW275.out _ | refine keep_far ?_ GW290.out _) | exact HK.out)⟩, ⟨by repeat (first | (with_reducible first | exact HB.out | apply below_alloc | apply pw_below_drewN | apply below_drew1 | refine below_set ?_ (IsS91.ge HI0.out) | refine below_set ?_ GE275.out | refine below_set ?_ GE290.out) | exact HB.out)⟩⟩
                case rest =>
                  clear HC36
                  try clear p2
                  try clear qi2
                  try clear c3
                  try clear c5
                  try clear c5b0
                  try clear c6
                  try clear c6b0
                  try clear c8
                  try clear c8b0
                  try clear c9
                  try clear c9b0
                  try clear qi28
                  try clear c35
                  try clear p2
                  obtain ⟨kq, x29_35, x1001_35, rfl, HA, HJ35, BK275, BK290, HI0, HK, HB⟩ := hcut
                  cases kq with
                  | zero => exact absurd HA.out (by simp [spec_l20Ask.j1])
                  | succ kj35 =>
                    have H := HA.out
                    clear HA
                    simp only [spec_l20Ask.j1] at H
                    by_cases c39 : x29_35 = 0
                    · rw [if_pos c39] at H
                      have c39b0 : (x29_35 == 0) = true := beq_iff_eq.mpr c39
                      have c39b1 : (x29_35 != 0) = false := bne_eq_false_iff_eq.mpr c39
                      clear c39
                      obtain ⟨y295, hy295⟩ : ∃ y_ : List Int, y_ = (([0, 5, 1] : List Int)) := ⟨_, rfl⟩
                      replace H : ((spec_l20Rd_pick.f kj35 s0_0 x1001_35 3).bind fun bt298 => (if 0 ≤ bt298.1 then (if bt298.1 < (y295.length : Int) then (some (rd y295 bt298.1, (rd y276 t279), 1, (rd y282 t285), 1, t288, bt298.2)) else (none)) else (none))) = some (r1, r2, r3, r4, r5, r6, r7) := by first | (rw [hy295]; with_reducible exact H) | (have H2_ := (Option.bind_some _ _).symm.trans H; rw [hy295]; with_reducible exact H2_) | (have H2_ := (Option.bind_some _ _).symm.trans H; with_reducible exact H2_) | with_reducible exact H | (rw [hy295]; exact H) | exact H
                      have Ny295 := Aside0.mk hy295
                      clear hy295
                      replace H := Option.bind_eq_some_iff.mp H
                      obtain ⟨⟨t298, t299⟩, A400, H⟩ := H
                      replace H : (if 0 ≤ t298 then (if t298 < (y295.length : Int) then (some (rd y295 t298, (rd y276 t279), 1, (rd y282 t285), 1, t288, t299)) else (none)) else (none)) = some (r1, r2, r3, r4, r5, r6, r7) := H
                      have A40 := Aside0.mk A400
                      clear A400
                      by_cases c41 : 0 ≤ t298
                      · rw [if_pos c41] at H
                        have c41b0 : decide (0 ≤ t298) = true := decide_eq_true c41
                        clear c41
                        by_cases c42 : t298 < (y295.length : Int)
                        · rw [if_pos c42] at H
                          have c42b0 : decide (t298 < (y295.length : Int)) = true := decide_eq_true c42
                          clear c42
                          simp only [Option.some.injEq, Prod.mk.injEq] at H
                          obtain ⟨rfl, rfl, rfl, rfl, rfl, rfl, rfl⟩ := H
                          go_wp2_with (first | ((with_reducible refine gate_dst (N := 38) rfl ?_); refine Kd.R_lit (Kd.int .i64) _ 3 ?hg (N := 38) ?hd (xs := ([0, 5, 1] : List Int)) (inner := [.int .i64 0, .int .i64 5, .int .i64 1]) (ok := fun _ => True) (okp := fun _ => True) ?hr ?hp (fun _ hk => hk) trivial (Below.refl _ _) (Nat.le_refl _) (by simp) ?_; (case hd => rfl); (case hg => rfl); (case hr => first | (go_simp; done) | (go_simp; rfl)); (case hp => exact (Reps.one (show Kd.M (Kd.int .i64) _ _ _ 0 [.int .i64 0] from rfl) (Reps.one (show Kd.M (Kd.int .i64) _ _ _ 5 [.int .i64 5] from rfl) (Reps.one (show Kd.M (Kd.int .i64) _ _ _ 1 [.int .i64 1] from rfl) (Reps.none _ _))))); intro v296 w43 ho44 hb hg_ hnew_; clear hg_ hnew_; (first | rw [← Ny295.out] at ho44 | (simp only [Int.reduceToNat] at ho44; rw [← Ny295.out] at ho44)); have n0_ := Aside0.mk (Kd.R_lower ho44 (keep_size (w := w) (g := g) (row := none) (by repeat (first | (with_reducible first | exact HK.out | apply KeepBut.set_ | apply keep_drewN | apply keep_drew | apply keep_alloc | refine keep_far ?_ GW275.out _ | refine keep_far ?_ GW290.out _) | exact HK.out)))); have n1_ := Aside0.mk (blk_below (g := gb275) (o := .cells #[.int .i64 0, .int .i64 0, .int .i64 0, .int .i64 0, .int .i64 0, .int .i64 0] 27 (0, 0)) (by (with_reducible repeat (first | refine blk_drewN ?_ _ | refine blk_drew ?_ | refine blk_alloc ?_ _)); exact BK275.out) hb); have n2_ := Aside0.mk (blk_below (g := gb290) (o := .cells #[.int .i64 a1, .int .i64 (rd y276 t279), .int .i64 1, .int .i64 (rd y282 t285), .int .i64 1, .int .i64 t288] 27 (0, 0)) (by (with_reducible repeat (first | refine blk_drewN ?_ _ | refine blk_drew ?_ | refine blk_alloc ?_ _)); exact BK290.out) hb); have n3_ := Aside0.mk (IsS91.below (by repeat (first | (with_reducible first | exact HI0.out | apply IsS91.alloc | apply IsS91.drewN | apply IsS91.drew | apply IsS91.set_1 | refine IsS91.far ?_ NB0_275.out _ | refine IsS91.far ?_ NB0_290.out _) | exact HI0.out)) hb); have n4_ := Aside0.mk (KeepBut.trans (by repeat (first | (with_reducible first | exact HK.out | apply KeepBut.set_ | apply keep_drewN | apply keep_drew | apply keep_alloc | refine keep_far ?_ GW275.out _ | refine keep_far ?_ GW290.out _) | exact HK.out)) (KeepBut.of_below hb g none) (.inl rfl)); have n5_ := Aside0.mk (below_step (by repeat (first | (with_reducible first | exact HB.out | apply below_alloc | apply pw_below_drewN | apply below_drew1 | refine below_set ?_ (IsS91.ge HI0.out) | refine below_set ?_ GE275.out | refine below_set ?_ GE290.out) | exact HB.out)) hb); clear BK275; clear BK290; clear HI0; clear HK; clear HB; have HO297 := n0_; have BK275 := n1_; have BK290 := n2_; have HI0 := n3_; have HK := n4_; have HB := n5_; clear n0_ n1_ n2_ n3_ n4_ n5_; clear hb ho44) | ((with_reducible refine gate_callee (f := 53) rfl ?_); refine goesL_ (some 40) rfl rfl Try.func53 (by kernel_rfl) rfl #[.pointer (some ⟨g, 0, none⟩), .int .i64 3] rfl (by (try simp only [List.map_toArray, List.map_cons, List.map_nil]); first | done | rfl | (simp only [List.length_drop, List.length_take]; rfl)) ?_; (with_reducible refine (spec_l20Rd_pick.calls kj35 g s0_0 x1001_35 3 t298 t299 w0 _ ?side1 ?side2 A40.out).mono ?_); (case side1 => repeat (first | (with_reducible first | exact HI0.out | apply IsS91.alloc | apply IsS91.drewN | apply IsS91.drew | apply IsS91.set_1 | refine IsS91.far ?_ NB0_275.out _ | refine IsS91.far ?_ NB0_290.out _) | exact HI0.out)); (case side2 => repeat (first | (with_reducible first | exact HB.out | apply below_alloc | apply pw_below_drewN | apply below_drew1 | refine below_set ?_ (IsS91.ge HI0.out) | refine below_set ?_ GE275.out | refine below_set ?_ GE290.out) | exact HB.out)); rintro e w45 ⟨rfl, hi, hb, hk⟩; refine ⟨_, rfl, ?_⟩; have n0_ := Aside0.mk (KeepBut.blk hk (g' := gb275) (o := .cells #[.int .i64 0, .int .i64 0, .int .i64 0, .int .i64 0, .int .i64 0, .int .i64 0] 27 (0, 0)) (by (with_reducible repeat (first | refine blk_drewN ?_ _ | refine blk_drew ?_ | refine blk_alloc ?_ _)); exact BK275.out) NB275_0.out (by simp)); have n1_ := Aside0.mk (KeepBut.blk hk (g' := gb290) (o := .cells #[.int .i64 a1, .int .i64 (rd y276 t279), .int .i64 1, .int .i64 (rd y282 t285), .int .i64 1, .int .i64 t288] 27 (0, 0)) (by (with_reducible repeat (first | refine blk_drewN ?_ _ | refine blk_drew ?_ | refine blk_alloc ?_ _)); exact BK290.out) NB290_0.out (by simp)); have n2_ := Aside0.mk (Kd.R_mono (Kd.R_keep (IsS91.apart (show IsS91 w0 _ g s0_0 x1001_35 from by repeat (first | (with_reducible first | exact HI0.out | apply IsS91.alloc | apply IsS91.drewN | apply IsS91.drew | apply IsS91.set_1 | refine IsS91.far ?_ NB0_275.out _ | refine IsS91.far ?_ NB0_290.out _) | exact HI0.out)) (by (with_reducible repeat (first | apply Kd.R_alloc | apply Kd.R_drewN | apply Kd.R_drew)); exact HO297.out) (by decide)) hk (fun _ h => h.2)) (fun _ h => h.1)); have n3_ := Aside0.mk (KeepBut.trans (by repeat (first | (with_reducible first | exact HK.out | apply KeepBut.set_ | apply keep_drewN | apply keep_drew | apply keep_alloc | refine keep_far ?_ GW275.out _ | refine keep_far ?_ GW290.out _) | exact HK.out)) hk (.inl rfl)); have n4_ := Aside0.mk (hb); have n5_ := Aside0.mk (hi); clear BK275; clear BK290; clear HO297; clear HK; clear HB; clear HI0; have BK275 := n0_; have BK290 := n1_; have HO297 := n2_; have HK := n3_; have HB := n4_; have HI0 := n5_; clear n0_ n1_ n2_ n3_ n4_ n5_; (try clear hb); (try clear hb2); (try clear hk); (try clear hi); obtain ⟨Ao46, co46, eo46⟩ := Kd.R_slice HO297.out; subst eo46; have p300 : 0 ≤ (t298 : Int) := of_decide_eq_true (by first | (with_reducible assumption) | assumption); have q300 : t298 < (y295.length : Int) := of_decide_eq_true (by first | (with_reducible assumption) | assumption); obtain ⟨ad300, e300, hx300_0⟩ := Kd.at_int (Kd.R_reads' HO297.out).2.2 t298 p300 q300; cases e300; replace p300 := eq_true p300; replace q300 := eq_true q300; have hnb47 := NB290_275.out; have hnc47 := NB275_290.out; have hnb48 := NB290_0.out; have hnc48 := NB0_290.out; have hcz49_0 : w45.cell? ⟨gb290, 0, none⟩ = some (.int .i64 a1) := (blk_cell BK290.out 0).trans rfl; have hcz49_1 : w45.cell? ⟨gb290, 1, none⟩ = some (.int .i64 (rd y276 t279)) := (blk_cell BK290.out 1).trans rfl; have hcz49_2 : w45.cell? ⟨gb290, 2, none⟩ = some (.int .i64 1) := (blk_cell BK290.out 2).trans rfl; have hcz49_3 : w45.cell? ⟨gb290, 3, none⟩ = some (.int .i64 (rd y282 t285)) := (blk_cell BK290.out 3).trans rfl; have hcz49_4 : w45.cell? ⟨gb290, 4, none⟩ = some (.int .i64 1) := (blk_cell BK290.out 4).trans rfl; have hcz49_5 : w45.cell? ⟨gb290, 5, none⟩ = some (.int .i64 t288) := (blk_cell BK290.out 5).trans rfl; have hfz49_0 := blk_frozen BK290.out 0; have hfz49_1 := blk_frozen BK290.out 1; have hfz49_2 := blk_frozen BK290.out 2; have hfz49_3 := blk_frozen BK290.out 3; have hfz49_4 := blk_frozen BK290.out 4; have hfz49_5 := blk_frozen BK290.out 5; have hnb50 := NB275_0.out; have hnc50 := NB0_275.out; have hcz51_0 : w45.cell? ⟨gb275, 0, none⟩ = some (.int .i64 0) := (blk_cell BK275.out 0).trans rfl; have hcz51_1 : w45.cell? ⟨gb275, 1, none⟩ = some (.int .i64 0) := (blk_cell BK275.out 1).trans rfl; have hcz51_2 : w45.cell? ⟨gb275, 2, none⟩ = some (.int .i64 0) := (blk_cell BK275.out 2).trans rfl; have hcz51_3 : w45.cell? ⟨gb275, 3, none⟩ = some (.int .i64 0) := (blk_cell BK275.out 3).trans rfl; have hcz51_4 : w45.cell? ⟨gb275, 4, none⟩ = some (.int .i64 0) := (blk_cell BK275.out 4).trans rfl; have hcz51_5 : w45.cell? ⟨gb275, 5, none⟩ = some (.int .i64 0) := (blk_cell BK275.out 5).trans rfl; have hfz51_0 := blk_frozen BK275.out 0; have hfz51_1 := blk_frozen BK275.out 1; have hfz51_2 := blk_frozen BK275.out 2; have hfz51_3 := blk_frozen BK275.out 3; have hfz51_4 := blk_frozen BK275.out 4; have hfz51_5 := blk_frozen BK275.out 5))
                          refine bodyPost_ret (results_cell_row rfl _ _ gb275 27 #[.int .i64 (rd y295 t298), .int .i64 (rd y276 t279), .int .i64 1, .int .i64 (rd y282 t285), .int .i64 1, .int .i64 t288] (0, 0) _ rfl (by (with_reducible repeat (first | refine blk_drewN ?_ _ | refine blk_drew ?_ | refine blk_alloc ?_ _)); refine blk_put (cs := #[.int .i64 (rd y295 t298), .int .i64 (rd y276 t279), .int .i64 1, .int .i64 (rd y282 t285), .int .i64 1, .int .i64 0]) ?_ 5 _ rfl; (with_reducible repeat (first | refine blk_drewN ?_ _ | refine blk_drew ?_ | refine blk_alloc ?_ _)); refine blk_put (cs := #[.int .i64 (rd y295 t298), .int .i64 (rd y276 t279), .int .i64 1, .int .i64 (rd y282 t285), .int .i64 0, .int .i64 0]) ?_ 4 _ rfl; (with_reducible repeat (first | refine blk_drewN ?_ _ | refine blk_drew ?_ | refine blk_alloc ?_ _)); refine blk_put (cs := #[.int .i64 (rd y295 t298), .int .i64 (rd y276 t279), .int .i64 1, .int .i64 0, .int .i64 0, .int .i64 0]) ?_ 3 _ rfl; (with_reducible repeat (first | refine blk_drewN ?_ _ | refine blk_drew ?_ | refine blk_alloc ?_ _)); refine blk_put (cs := #[.int .i64 (rd y295 t298), .int .i64 (rd y276 t279), .int .i64 0, .int .i64 0, .int .i64 0, .int .i64 0]) ?_ 2 _ rfl; (with_reducible repeat (first | refine blk_drewN ?_ _ | refine blk_drew ?_ | refine blk_alloc ?_ _)); refine blk_put (cs := #[.int .i64 (rd y295 t298), .int .i64 0, .int .i64 0, .int .i64 0, .int .i64 0, .int .i64 0]) ?_ 1 _ rfl; (with_reducible repeat (first | refine blk_drewN ?_ _ | refine blk_drew ?_ | refine blk_alloc ?_ _)); refine blk_put (cs := #[.int .i64 0, .int .i64 0, .int .i64 0, .int .i64 0, .int .i64 0, .int .i64 0]) ?_ 0 _ rfl; (with_reducible repeat (first | refine blk_drewN ?_ _ | refine blk_drew ?_ | refine blk_alloc ?_ _)); refine blk_far ?_ NB275_290.out _; (with_reducible repeat (first | refine blk_drewN ?_ _ | refine blk_drew ?_ | refine blk_alloc ?_ _)); exact BK275.out) Try.underlying27 rfl (by kernel_rfl)) rfl ?_
                          exact ⟨by first | rfl | (simp [errW_none, errW_some] <;> rfl) | (simp [*, errW_none, errW_some] <;> rfl), by repeat (first | (with_reducible first | exact HI0.out | apply IsS91.alloc | apply IsS91.drewN | apply IsS91.drew | apply IsS91.set_1 | refine IsS91.far ?_ NB0_275.out _ | refine IsS91.far ?_ NB0_290.out _) | exact HI0.out), by repeat (first | (with_reducible first | exact HB.out | apply below_alloc | apply pw_below_drewN | apply below_drew1 | refine below_set ?_ (IsS91.ge HI0.out) | refine below_set ?_ GE275.out | refine below_set ?_ GE290.out) | exact HB.out), by repeat (first | (with_reducible first | exact HK.out | apply KeepBut.set_ | apply keep_drewN | apply keep_drew | apply keep_alloc | refine keep_far ?_ GW275.out _ | refine keep_far ?_ GW290.out _) | exact HK.out)⟩
                        · rw [if_neg c42] at H
                          exact absurd H (by simp)
                      · rw [if_neg c41] at H
                        exact absurd H (by simp)
                    · rw [if_neg c39] at H
                      have c39b0 : (x29_35 == 0) = false := beq_eq_false_iff_ne.mpr c39
                      have c39b1 : (x29_35 != 0) = true := bne_iff_ne.mpr c39
                      by_cases c52 : x29_35 = 1
                      · rw [if_pos c52] at H
                        have c52b0 : (x29_35 == 1) = true := beq_iff_eq.mpr c52
                        have c52b1 : (x29_35 != 1) = false := bne_eq_false_iff_eq.mpr c52
                        clear c52
                        replace H := Option.bind_eq_some_iff.mp H
                        obtain ⟨⟨t301, t302, t303⟩, A530, H⟩ := H
                        replace H : (some (a1, t301, t302, (rd y282 t285), 1, t288, t303)) = some (r1, r2, r3, r4, r5, r6, r7) := H
                        have A53 := Aside0.mk A530
                        clear A530
                        simp only [Option.some.injEq, Prod.mk.injEq] at H
                        obtain ⟨rfl, rfl, rfl, rfl, rfl, rfl, rfl⟩ := H
                        go_wp2_with (first | ((with_reducible refine gate_callee (f := 62) rfl ?_); refine goesL_ (some 47) rfl rfl Try.func62 (by kernel_rfl) rfl #[.pointer (some ⟨g, 0, none⟩), .int .i64 2] rfl (by (try simp only [List.map_toArray, List.map_cons, List.map_nil]); first | done | rfl | (simp only [List.length_drop, List.length_take]; rfl)) ?_; (with_reducible refine (spec_l20Dec.calls kj35 g s0_0 x1001_35 2 t301 t302 t303 w0 _ ?side1 ?side2 A53.out).mono ?_); (case side1 => repeat (first | (with_reducible first | exact HI0.out | apply IsS91.alloc | apply IsS91.drewN | apply IsS91.drew | apply IsS91.set_1 | refine IsS91.far ?_ NB0_275.out _ | refine IsS91.far ?_ NB0_290.out _) | exact HI0.out)); (case side2 => repeat (first | (with_reducible first | exact HB.out | apply below_alloc | apply pw_below_drewN | apply below_drew1 | refine below_set ?_ (IsS91.ge HI0.out) | refine below_set ?_ GE275.out | refine below_set ?_ GE290.out) | exact HB.out)); rintro e w54 ⟨rfl, hi, hb, hk⟩; refine ⟨_, rfl, ?_⟩; have n0_ := Aside0.mk (KeepBut.blk hk (g' := gb275) (o := .cells #[.int .i64 0, .int .i64 0, .int .i64 0, .int .i64 0, .int .i64 0, .int .i64 0] 27 (0, 0)) (by (with_reducible repeat (first | refine blk_drewN ?_ _ | refine blk_drew ?_ | refine blk_alloc ?_ _)); exact BK275.out) NB275_0.out (by simp)); have n1_ := Aside0.mk (KeepBut.blk hk (g' := gb290) (o := .cells #[.int .i64 a1, .int .i64 (rd y276 t279), .int .i64 1, .int .i64 (rd y282 t285), .int .i64 1, .int .i64 t288] 27 (0, 0)) (by (with_reducible repeat (first | refine blk_drewN ?_ _ | refine blk_drew ?_ | refine blk_alloc ?_ _)); exact BK290.out) NB290_0.out (by simp)); have n2_ := Aside0.mk (KeepBut.trans (by repeat (first | (with_reducible first | exact HK.out | apply KeepBut.set_ | apply keep_drewN | apply keep_drew | apply keep_alloc | refine keep_far ?_ GW275.out _ | refine keep_far ?_ GW290.out _) | exact HK.out)) hk (.inl rfl)); have n3_ := Aside0.mk (hb); have n4_ := Aside0.mk (hi); clear BK275; clear BK290; clear HK; clear HB; clear HI0; have BK275 := n0_; have BK290 := n1_; have HK := n2_; have HB := n3_; have HI0 := n4_; clear n0_ n1_ n2_ n3_ n4_; (try clear hb); (try clear hb2); (try clear hk); (try clear hi); have hnb55 := NB290_275.out; have hnc55 := NB275_290.out; have hnb56 := NB290_0.out; have hnc56 := NB0_290.out; have hcz57_0 : w54.cell? ⟨gb290, 0, none⟩ = some (.int .i64 a1) := (blk_cell BK290.out 0).trans rfl; have hcz57_1 : w54.cell? ⟨gb290, 1, none⟩ = some (.int .i64 (rd y276 t279)) := (blk_cell BK290.out 1).trans rfl; have hcz57_2 : w54.cell? ⟨gb290, 2, none⟩ = some (.int .i64 1) := (blk_cell BK290.out 2).trans rfl; have hcz57_3 : w54.cell? ⟨gb290, 3, none⟩ = some (.int .i64 (rd y282 t285)) := (blk_cell BK290.out 3).trans rfl; have hcz57_4 : w54.cell? ⟨gb290, 4, none⟩ = some (.int .i64 1) := (blk_cell BK290.out 4).trans rfl; have hcz57_5 : w54.cell? ⟨gb290, 5, none⟩ = some (.int .i64 t288) := (blk_cell BK290.out 5).trans rfl; have hfz57_0 := blk_frozen BK290.out 0; have hfz57_1 := blk_frozen BK290.out 1; have hfz57_2 := blk_frozen BK290.out 2; have hfz57_3 := blk_frozen BK290.out 3; have hfz57_4 := blk_frozen BK290.out 4; have hfz57_5 := blk_frozen BK290.out 5; have hnb58 := NB275_0.out; have hnc58 := NB0_275.out; have hcz59_0 : w54.cell? ⟨gb275, 0, none⟩ = some (.int .i64 0) := (blk_cell BK275.out 0).trans rfl; have hcz59_1 : w54.cell? ⟨gb275, 1, none⟩ = some (.int .i64 0) := (blk_cell BK275.out 1).trans rfl; have hcz59_2 : w54.cell? ⟨gb275, 2, none⟩ = some (.int .i64 0) := (blk_cell BK275.out 2).trans rfl; have hcz59_3 : w54.cell? ⟨gb275, 3, none⟩ = some (.int .i64 0) := (blk_cell BK275.out 3).trans rfl; have hcz59_4 : w54.cell? ⟨gb275, 4, none⟩ = some (.int .i64 0) := (blk_cell BK275.out 4).trans rfl; have hcz59_5 : w54.cell? ⟨gb275, 5, none⟩ = some (.int .i64 0) := (blk_cell BK275.out 5).trans rfl; have hfz59_0 := blk_frozen BK275.out 0; have hfz59_1 := blk_frozen BK275.out 1; have hfz59_2 := blk_frozen BK275.out 2; have hfz59_3 := blk_frozen BK275.out 3; have hfz59_4 := blk_frozen BK275.out 4; have hfz59_5 := blk_frozen BK275.out 5))
                        refine bodyPost_ret (results_cell_row rfl _ _ gb275 27 #[.int .i64 a1, .int .i64 t301, .int .i64 t302, .int .i64 (rd y282 t285), .int .i64 1, .int .i64 t288] (0, 0) _ rfl (by (with_reducible repeat (first | refine blk_drewN ?_ _ | refine blk_drew ?_ | refine blk_alloc ?_ _)); refine blk_put (cs := #[.int .i64 a1, .int .i64 t301, .int .i64 t302, .int .i64 (rd y282 t285), .int .i64 1, .int .i64 0]) ?_ 5 _ rfl; (with_reducible repeat (first | refine blk_drewN ?_ _ | refine blk_drew ?_ | refine blk_alloc ?_ _)); refine blk_put (cs := #[.int .i64 a1, .int .i64 t301, .int .i64 t302, .int .i64 (rd y282 t285), .int .i64 0, .int .i64 0]) ?_ 4 _ rfl; (with_reducible repeat (first | refine blk_drewN ?_ _ | refine blk_drew ?_ | refine blk_alloc ?_ _)); refine blk_put (cs := #[.int .i64 a1, .int .i64 t301, .int .i64 t302, .int .i64 0, .int .i64 0, .int .i64 0]) ?_ 3 _ rfl; (with_reducible repeat (first | refine blk_drewN ?_ _ | refine blk_drew ?_ | refine blk_alloc ?_ _)); refine blk_put (cs := #[.int .i64 a1, .int .i64 t301, .int .i64 0, .int .i64 0, .int .i64 0, .int .i64 0]) ?_ 2 _ rfl; (with_reducible repeat (first | refine blk_drewN ?_ _ | refine blk_drew ?_ | refine blk_alloc ?_ _)); refine blk_put (cs := #[.int .i64 a1, .int .i64 0, .int .i64 0, .int .i64 0, .int .i64 0, .int .i64 0]) ?_ 1 _ rfl; (with_reducible repeat (first | refine blk_drewN ?_ _ | refine blk_drew ?_ | refine blk_alloc ?_ _)); refine blk_put (cs := #[.int .i64 0, .int .i64 0, .int .i64 0, .int .i64 0, .int .i64 0, .int .i64 0]) ?_ 0 _ rfl; (with_reducible repeat (first | refine blk_drewN ?_ _ | refine blk_drew ?_ | refine blk_alloc ?_ _)); refine blk_far ?_ NB275_290.out _; (with_reducible repeat (first | refine blk_drewN ?_ _ | refine blk_drew ?_ | refine blk_alloc ?_ _)); refine blk_far ?_ NB275_290.out _; (with_reducible repeat (first | refine blk_drewN ?_ _ | refine blk_drew ?_ | refine blk_alloc ?_ _)); exact BK275.out) Try.underlying27 rfl (by kernel_rfl)) rfl ?_
                        exact ⟨by first | rfl | (simp [errW_none, errW_some] <;> rfl) | (simp [*, errW_none, errW_some] <;> rfl), by repeat (first | (with_reducible first | exact HI0.out | apply IsS91.alloc | apply IsS91.drewN | apply IsS91.drew | apply IsS91.set_1 | refine IsS91.far ?_ NB0_275.out _ | refine IsS91.far ?_ NB0_290.out _) | exact HI0.out), by repeat (first | (with_reducible first | exact HB.out | apply below_alloc | apply pw_below_drewN | apply below_drew1 | refine below_set ?_ (IsS91.ge HI0.out) | refine below_set ?_ GE275.out | refine below_set ?_ GE290.out) | exact HB.out), by repeat (first | (with_reducible first | exact HK.out | apply KeepBut.set_ | apply keep_drewN | apply keep_drew | apply keep_alloc | refine keep_far ?_ GW275.out _ | refine keep_far ?_ GW290.out _) | exact HK.out)⟩
                      · rw [if_neg c52] at H
                        have c52b0 : (x29_35 == 1) = false := beq_eq_false_iff_ne.mpr c52
                        have c52b1 : (x29_35 != 1) = true := bne_iff_ne.mpr c52
                        by_cases c60 : x29_35 = 2
                        · rw [if_pos c60] at H
                          have c60b0 : (x29_35 == 2) = true := beq_iff_eq.mpr c60
                          have c60b1 : (x29_35 != 2) = false := bne_eq_false_iff_eq.mpr c60
                          clear c60
                          replace H := Option.bind_eq_some_iff.mp H
                          obtain ⟨⟨t304, t305, t306⟩, A610, H⟩ := H
                          replace H : (some (a1, (rd y276 t279), 1, t304, t305, t288, t306)) = some (r1, r2, r3, r4, r5, r6, r7) := H
                          have A61 := Aside0.mk A610
                          clear A610
                          simp only [Option.some.injEq, Prod.mk.injEq] at H
                          obtain ⟨rfl, rfl, rfl, rfl, rfl, rfl, rfl⟩ := H
                          go_wp2_with (first | ((with_reducible refine gate_callee (f := 62) rfl ?_); refine goesL_ (some 52) rfl rfl Try.func62 (by kernel_rfl) rfl #[.pointer (some ⟨g, 0, none⟩), .int .i64 2] rfl (by (try simp only [List.map_toArray, List.map_cons, List.map_nil]); first | done | rfl | (simp only [List.length_drop, List.length_take]; rfl)) ?_; (with_reducible refine (spec_l20Dec.calls kj35 g s0_0 x1001_35 2 t304 t305 t306 w0 _ ?side1 ?side2 A61.out).mono ?_); (case side1 => repeat (first | (with_reducible first | exact HI0.out | apply IsS91.alloc | apply IsS91.drewN | apply IsS91.drew | apply IsS91.set_1 | refine IsS91.far ?_ NB0_275.out _ | refine IsS91.far ?_ NB0_290.out _) | exact HI0.out)); (case side2 => repeat (first | (with_reducible first | exact HB.out | apply below_alloc | apply pw_below_drewN | apply below_drew1 | refine below_set ?_ (IsS91.ge HI0.out) | refine below_set ?_ GE275.out | refine below_set ?_ GE290.out) | exact HB.out)); rintro e w62 ⟨rfl, hi, hb, hk⟩; refine ⟨_, rfl, ?_⟩; have n0_ := Aside0.mk (KeepBut.blk hk (g' := gb275) (o := .cells #[.int .i64 0, .int .i64 0, .int .i64 0, .int .i64 0, .int .i64 0, .int .i64 0] 27 (0, 0)) (by (with_reducible repeat (first | refine blk_drewN ?_ _ | refine blk_drew ?_ | refine blk_alloc ?_ _)); exact BK275.out) NB275_0.out (by simp)); have n1_ := Aside0.mk (KeepBut.blk hk (g' := gb290) (o := .cells #[.int .i64 a1, .int .i64 (rd y276 t279), .int .i64 1, .int .i64 (rd y282 t285), .int .i64 1, .int .i64 t288] 27 (0, 0)) (by (with_reducible repeat (first | refine blk_drewN ?_ _ | refine blk_drew ?_ | refine blk_alloc ?_ _)); exact BK290.out) NB290_0.out (by simp)); have n2_ := Aside0.mk (KeepBut.trans (by repeat (first | (with_reducible first | exact HK.out | apply KeepBut.set_ | apply keep_drewN | apply keep_drew | apply keep_alloc | refine keep_far ?_ GW275.out _ | refine keep_far ?_ GW290.out _) | exact HK.out)) hk (.inl rfl)); have n3_ := Aside0.mk (hb); have n4_ := Aside0.mk (hi); clear BK275; clear BK290; clear HK; clear HB; clear HI0; have BK275 := n0_; have BK290 := n1_; have HK := n2_; have HB := n3_; have HI0 := n4_; clear n0_ n1_ n2_ n3_ n4_; (try clear hb); (try clear hb2); (try clear hk); (try clear hi); have hnb63 := NB290_275.out; have hnc63 := NB275_290.out; have hnb64 := NB290_0.out; have hnc64 := NB0_290.out; have hcz65_0 : w62.cell? ⟨gb290, 0, none⟩ = some (.int .i64 a1) := (blk_cell BK290.out 0).trans rfl; have hcz65_1 : w62.cell? ⟨gb290, 1, none⟩ = some (.int .i64 (rd y276 t279)) := (blk_cell BK290.out 1).trans rfl; have hcz65_2 : w62.cell? ⟨gb290, 2, none⟩ = some (.int .i64 1) := (blk_cell BK290.out 2).trans rfl; have hcz65_3 : w62.cell? ⟨gb290, 3, none⟩ = some (.int .i64 (rd y282 t285)) := (blk_cell BK290.out 3).trans rfl; have hcz65_4 : w62.cell? ⟨gb290, 4, none⟩ = some (.int .i64 1) := (blk_cell BK290.out 4).trans rfl; have hcz65_5 : w62.cell? ⟨gb290, 5, none⟩ = some (.int .i64 t288) := (blk_cell BK290.out 5).trans rfl; have hfz65_0 := blk_frozen BK290.out 0; have hfz65_1 := blk_frozen BK290.out 1; have hfz65_2 := blk_frozen BK290.out 2; have hfz65_3 := blk_frozen BK290.out 3; have hfz65_4 := blk_frozen BK290.out 4; have hfz65_5 := blk_frozen BK290.out 5; have hnb66 := NB275_0.out; have hnc66 := NB0_275.out; have hcz67_0 : w62.cell? ⟨gb275, 0, none⟩ = some (.int .i64 0) := (blk_cell BK275.out 0).trans rfl; have hcz67_1 : w62.cell? ⟨gb275, 1, none⟩ = some (.int .i64 0) := (blk_cell BK275.out 1).trans rfl; have hcz67_2 : w62.cell? ⟨gb275, 2, none⟩ = some (.int .i64 0) := (blk_cell BK275.out 2).trans rfl; have hcz67_3 : w62.cell? ⟨gb275, 3, none⟩ = some (.int .i64 0) := (blk_cell BK275.out 3).trans rfl; have hcz67_4 : w62.cell? ⟨gb275, 4, none⟩ = some (.int .i64 0) := (blk_cell BK275.out 4).trans rfl; have hcz67_5 : w62.cell? ⟨gb275, 5, none⟩ = some (.int .i64 0) := (blk_cell BK275.out 5).trans rfl; have hfz67_0 := blk_frozen BK275.out 0; have hfz67_1 := blk_frozen BK275.out 1; have hfz67_2 := blk_frozen BK275.out 2; have hfz67_3 := blk_frozen BK275.out 3; have hfz67_4 := blk_frozen BK275.out 4; have hfz67_5 := blk_frozen BK275.out 5))
                          refine bodyPost_ret (results_cell_row rfl _ _ gb275 27 #[.int .i64 a1, .int .i64 (rd y276 t279), .int .i64 1, .int .i64 t304, .int .i64 t305, .int .i64 t288] (0, 0) _ rfl (by (with_reducible repeat (first | refine blk_drewN ?_ _ | refine blk_drew ?_ | refine blk_alloc ?_ _)); refine blk_put (cs := #[.int .i64 a1, .int .i64 (rd y276 t279), .int .i64 1, .int .i64 t304, .int .i64 t305, .int .i64 0]) ?_ 5 _ rfl; (with_reducible repeat (first | refine blk_drewN ?_ _ | refine blk_drew ?_ | refine blk_alloc ?_ _)); refine blk_put (cs := #[.int .i64 a1, .int .i64 (rd y276 t279), .int .i64 1, .int .i64 t304, .int .i64 0, .int .i64 0]) ?_ 4 _ rfl; (with_reducible repeat (first | refine blk_drewN ?_ _ | refine blk_drew ?_ | refine blk_alloc ?_ _)); refine blk_put (cs := #[.int .i64 a1, .int .i64 (rd y276 t279), .int .i64 1, .int .i64 0, .int .i64 0, .int .i64 0]) ?_ 3 _ rfl; (with_reducible repeat (first | refine blk_drewN ?_ _ | refine blk_drew ?_ | refine blk_alloc ?_ _)); refine blk_put (cs := #[.int .i64 a1, .int .i64 (rd y276 t279), .int .i64 0, .int .i64 0, .int .i64 0, .int .i64 0]) ?_ 2 _ rfl; (with_reducible repeat (first | refine blk_drewN ?_ _ | refine blk_drew ?_ | refine blk_alloc ?_ _)); refine blk_put (cs := #[.int .i64 a1, .int .i64 0, .int .i64 0, .int .i64 0, .int .i64 0, .int .i64 0]) ?_ 1 _ rfl; (with_reducible repeat (first | refine blk_drewN ?_ _ | refine blk_drew ?_ | refine blk_alloc ?_ _)); refine blk_put (cs := #[.int .i64 0, .int .i64 0, .int .i64 0, .int .i64 0, .int .i64 0, .int .i64 0]) ?_ 0 _ rfl; (with_reducible repeat (first | refine blk_drewN ?_ _ | refine blk_drew ?_ | refine blk_alloc ?_ _)); refine blk_far ?_ NB275_290.out _; (with_reducible repeat (first | refine blk_drewN ?_ _ | refine blk_drew ?_ | refine blk_alloc ?_ _)); refine blk_far ?_ NB275_290.out _; (with_reducible repeat (first | refine blk_drewN ?_ _ | refine blk_drew ?_ | refine blk_alloc ?_ _)); exact BK275.out) Try.underlying27 rfl (by kernel_rfl)) rfl ?_
                          exact ⟨by first | rfl | (simp [errW_none, errW_some] <;> rfl) | (simp [*, errW_none, errW_some] <;> rfl), by repeat (first | (with_reducible first | exact HI0.out | apply IsS91.alloc | apply IsS91.drewN | apply IsS91.drew | apply IsS91.set_1 | refine IsS91.far ?_ NB0_275.out _ | refine IsS91.far ?_ NB0_290.out _) | exact HI0.out), by repeat (first | (with_reducible first | exact HB.out | apply below_alloc | apply pw_below_drewN | apply below_drew1 | refine below_set ?_ (IsS91.ge HI0.out) | refine below_set ?_ GE275.out | refine below_set ?_ GE290.out) | exact HB.out), by repeat (first | (with_reducible first | exact HK.out | apply KeepBut.set_ | apply keep_drewN | apply keep_drew | apply keep_alloc | refine keep_far ?_ GW275.out _ | refine keep_far ?_ GW290.out _) | exact HK.out)⟩
                        · rw [if_neg c60] at H
                          have c60b0 : (x29_35 == 2) = false := beq_eq_false_iff_ne.mpr c60
                          have c60b1 : (x29_35 != 2) = true := bne_iff_ne.mpr c60
                          obtain ⟨y307, hy307⟩ : ∃ y_ : List Int, y_ = (([(-1), 4, 3] : List Int)) := ⟨_, rfl⟩
                          replace H : ((spec_l20Rd_pick.f kj35 s0_0 x1001_35 3).bind fun bt310 => (if 0 ≤ bt310.1 then (if bt310.1 < (y307.length : Int) then (some (a1, (rd y276 t279), 1, (rd y282 t285), 1, rd y307 bt310.1, bt310.2)) else (none)) else (none))) = some (r1, r2, r3, r4, r5, r6, r7) := by first | (rw [hy307]; with_reducible exact H) | (have H2_ := (Option.bind_some _ _).symm.trans H; rw [hy307]; with_reducible exact H2_) | (have H2_ := (Option.bind_some _ _).symm.trans H; with_reducible exact H2_) | with_reducible exact H | (rw [hy307]; exact H) | exact H
                          have Ny307 := Aside0.mk hy307
                          clear hy307
                          replace H := Option.bind_eq_some_iff.mp H
                          obtain ⟨⟨t310, t311⟩, A680, H⟩ := H
                          replace H : (if 0 ≤ t310 then (if t310 < (y307.length : Int) then (some (a1, (rd y276 t279), 1, (rd y282 t285), 1, rd y307 t310, t311)) else (none)) else (none)) = some (r1, r2, r3, r4, r5, r6, r7) := H
                          have A68 := Aside0.mk A680
                          clear A680
                          by_cases c69 : 0 ≤ t310
                          · rw [if_pos c69] at H
                            have c69b0 : decide (0 ≤ t310) = true := decide_eq_true c69
                            clear c69
                            by_cases c70 : t310 < (y307.length : Int)
                            · rw [if_pos c70] at H
                              have c70b0 : decide (t310 < (y307.length : Int)) = true := decide_eq_true c70
                              clear c70
                              simp only [Option.some.injEq, Prod.mk.injEq] at H
                              obtain ⟨rfl, rfl, rfl, rfl, rfl, rfl, rfl⟩ := H
                              go_wp2_with (first | ((with_reducible refine gate_dst (N := 30) rfl ?_); refine Kd.R_lit (Kd.int .i64) _ 3 ?hg (N := 30) ?hd (xs := ([(-1), 4, 3] : List Int)) (inner := [.int .i64 (-1), .int .i64 4, .int .i64 3]) (ok := fun _ => True) (okp := fun _ => True) ?hr ?hp (fun _ hk => hk) trivial (Below.refl _ _) (Nat.le_refl _) (by simp) ?_; (case hd => rfl); (case hg => rfl); (case hr => first | (go_simp; done) | (go_simp; rfl)); (case hp => exact (Reps.one (show Kd.M (Kd.int .i64) _ _ _ (-1) [.int .i64 (-1)] from rfl) (Reps.one (show Kd.M (Kd.int .i64) _ _ _ 4 [.int .i64 4] from rfl) (Reps.one (show Kd.M (Kd.int .i64) _ _ _ 3 [.int .i64 3] from rfl) (Reps.none _ _))))); intro v308 w71 ho72 hb hg_ hnew_; clear hg_ hnew_; (first | rw [← Ny307.out] at ho72 | (simp only [Int.reduceToNat] at ho72; rw [← Ny307.out] at ho72)); have n0_ := Aside0.mk (Kd.R_lower ho72 (keep_size (w := w) (g := g) (row := none) (by repeat (first | (with_reducible first | exact HK.out | apply KeepBut.set_ | apply keep_drewN | apply keep_drew | apply keep_alloc | refine keep_far ?_ GW275.out _ | refine keep_far ?_ GW290.out _) | exact HK.out)))); have n1_ := Aside0.mk (blk_below (g := gb275) (o := .cells #[.int .i64 0, .int .i64 0, .int .i64 0, .int .i64 0, .int .i64 0, .int .i64 0] 27 (0, 0)) (by (with_reducible repeat (first | refine blk_drewN ?_ _ | refine blk_drew ?_ | refine blk_alloc ?_ _)); exact BK275.out) hb); have n2_ := Aside0.mk (blk_below (g := gb290) (o := .cells #[.int .i64 a1, .int .i64 (rd y276 t279), .int .i64 1, .int .i64 (rd y282 t285), .int .i64 1, .int .i64 t288] 27 (0, 0)) (by (with_reducible repeat (first | refine blk_drewN ?_ _ | refine blk_drew ?_ | refine blk_alloc ?_ _)); exact BK290.out) hb); have n3_ := Aside0.mk (IsS91.below (by repeat (first | (with_reducible first | exact HI0.out | apply IsS91.alloc | apply IsS91.drewN | apply IsS91.drew | apply IsS91.set_1 | refine IsS91.far ?_ NB0_275.out _ | refine IsS91.far ?_ NB0_290.out _) | exact HI0.out)) hb); have n4_ := Aside0.mk (KeepBut.trans (by repeat (first | (with_reducible first | exact HK.out | apply KeepBut.set_ | apply keep_drewN | apply keep_drew | apply keep_alloc | refine keep_far ?_ GW275.out _ | refine keep_far ?_ GW290.out _) | exact HK.out)) (KeepBut.of_below hb g none) (.inl rfl)); have n5_ := Aside0.mk (below_step (by repeat (first | (with_reducible first | exact HB.out | apply below_alloc | apply pw_below_drewN | apply below_drew1 | refine below_set ?_ (IsS91.ge HI0.out) | refine below_set ?_ GE275.out | refine below_set ?_ GE290.out) | exact HB.out)) hb); clear BK275; clear BK290; clear HI0; clear HK; clear HB; have HO309 := n0_; have BK275 := n1_; have BK290 := n2_; have HI0 := n3_; have HK := n4_; have HB := n5_; clear n0_ n1_ n2_ n3_ n4_ n5_; clear hb ho72) | ((with_reducible refine gate_callee (f := 53) rfl ?_); refine goesL_ (some 32) rfl rfl Try.func53 (by kernel_rfl) rfl #[.pointer (some ⟨g, 0, none⟩), .int .i64 3] rfl (by (try simp only [List.map_toArray, List.map_cons, List.map_nil]); first | done | rfl | (simp only [List.length_drop, List.length_take]; rfl)) ?_; (with_reducible refine (spec_l20Rd_pick.calls kj35 g s0_0 x1001_35 3 t310 t311 w0 _ ?side1 ?side2 A68.out).mono ?_); (case side1 => repeat (first | (with_reducible first | exact HI0.out | apply IsS91.alloc | apply IsS91.drewN | apply IsS91.drew | apply IsS91.set_1 | refine IsS91.far ?_ NB0_275.out _ | refine IsS91.far ?_ NB0_290.out _) | exact HI0.out)); (case side2 => repeat (first | (with_reducible first | exact HB.out | apply below_alloc | apply pw_below_drewN | apply below_drew1 | refine below_set ?_ (IsS91.ge HI0.out) | refine below_set ?_ GE275.out | refine below_set ?_ GE290.out) | exact HB.out)); rintro e w73 ⟨rfl, hi, hb, hk⟩; refine ⟨_, rfl, ?_⟩; have n0_ := Aside0.mk (KeepBut.blk hk (g' := gb275) (o := .cells #[.int .i64 0, .int .i64 0, .int .i64 0, .int .i64 0, .int .i64 0, .int .i64 0] 27 (0, 0)) (by (with_reducible repeat (first | refine blk_drewN ?_ _ | refine blk_drew ?_ | refine blk_alloc ?_ _)); exact BK275.out) NB275_0.out (by simp)); have n1_ := Aside0.mk (KeepBut.blk hk (g' := gb290) (o := .cells #[.int .i64 a1, .int .i64 (rd y276 t279), .int .i64 1, .int .i64 (rd y282 t285), .int .i64 1, .int .i64 t288] 27 (0, 0)) (by (with_reducible repeat (first | refine blk_drewN ?_ _ | refine blk_drew ?_ | refine blk_alloc ?_ _)); exact BK290.out) NB290_0.out (by simp)); have n2_ := Aside0.mk (Kd.R_mono (Kd.R_keep (IsS91.apart (show IsS91 w0 _ g s0_0 x1001_35 from by repeat (first | (with_reducible first | exact HI0.out | apply IsS91.alloc | apply IsS91.drewN | apply IsS91.drew | apply IsS91.set_1 | refine IsS91.far ?_ NB0_275.out _ | refine IsS91.far ?_ NB0_290.out _) | exact HI0.out)) (by (with_reducible repeat (first | apply Kd.R_alloc | apply Kd.R_drewN | apply Kd.R_drew)); exact HO309.out) (by decide)) hk (fun _ h => h.2)) (fun _ h => h.1)); have n3_ := Aside0.mk (KeepBut.trans (by repeat (first | (with_reducible first | exact HK.out | apply KeepBut.set_ | apply keep_drewN | apply keep_drew | apply keep_alloc | refine keep_far ?_ GW275.out _ | refine keep_far ?_ GW290.out _) | exact HK.out)) hk (.inl rfl)); have n4_ := Aside0.mk (hb); have n5_ := Aside0.mk (hi); clear BK275; clear BK290; clear HO309; clear HK; clear HB; clear HI0; have BK275 := n0_; have BK290 := n1_; have HO309 := n2_; have HK := n3_; have HB := n4_; have HI0 := n5_; clear n0_ n1_ n2_ n3_ n4_ n5_; (try clear hb); (try clear hb2); (try clear hk); (try clear hi); obtain ⟨Ao74, co74, eo74⟩ := Kd.R_slice HO309.out; subst eo74; have p312 : 0 ≤ (t310 : Int) := of_decide_eq_true (by first | (with_reducible assumption) | assumption); have q312 : t310 < (y307.length : Int) := of_decide_eq_true (by first | (with_reducible assumption) | assumption); obtain ⟨ad312, e312, hx312_0⟩ := Kd.at_int (Kd.R_reads' HO309.out).2.2 t310 p312 q312; cases e312; replace p312 := eq_true p312; replace q312 := eq_true q312; have hnb75 := NB290_275.out; have hnc75 := NB275_290.out; have hnb76 := NB290_0.out; have hnc76 := NB0_290.out; have hcz77_0 : w73.cell? ⟨gb290, 0, none⟩ = some (.int .i64 a1) := (blk_cell BK290.out 0).trans rfl; have hcz77_1 : w73.cell? ⟨gb290, 1, none⟩ = some (.int .i64 (rd y276 t279)) := (blk_cell BK290.out 1).trans rfl; have hcz77_2 : w73.cell? ⟨gb290, 2, none⟩ = some (.int .i64 1) := (blk_cell BK290.out 2).trans rfl; have hcz77_3 : w73.cell? ⟨gb290, 3, none⟩ = some (.int .i64 (rd y282 t285)) := (blk_cell BK290.out 3).trans rfl; have hcz77_4 : w73.cell? ⟨gb290, 4, none⟩ = some (.int .i64 1) := (blk_cell BK290.out 4).trans rfl; have hcz77_5 : w73.cell? ⟨gb290, 5, none⟩ = some (.int .i64 t288) := (blk_cell BK290.out 5).trans rfl; have hfz77_0 := blk_frozen BK290.out 0; have hfz77_1 := blk_frozen BK290.out 1; have hfz77_2 := blk_frozen BK290.out 2; have hfz77_3 := blk_frozen BK290.out 3; have hfz77_4 := blk_frozen BK290.out 4; have hfz77_5 := blk_frozen BK290.out 5; have hnb78 := NB275_0.out; have hnc78 := NB0_275.out; have hcz79_0 : w73.cell? ⟨gb275, 0, none⟩ = some (.int .i64 0) := (blk_cell BK275.out 0).trans rfl; have hcz79_1 : w73.cell? ⟨gb275, 1, none⟩ = some (.int .i64 0) := (blk_cell BK275.out 1).trans rfl; have hcz79_2 : w73.cell? ⟨gb275, 2, none⟩ = some (.int .i64 0) := (blk_cell BK275.out 2).trans rfl; have hcz79_3 : w73.cell? ⟨gb275, 3, none⟩ = some (.int .i64 0) := (blk_cell BK275.out 3).trans rfl; have hcz79_4 : w73.cell? ⟨gb275, 4, none⟩ = some (.int .i64 0) := (blk_cell BK275.out 4).trans rfl; have hcz79_5 : w73.cell? ⟨gb275, 5, none⟩ = some (.int .i64 0) := (blk_cell BK275.out 5).trans rfl; have hfz79_0 := blk_frozen BK275.out 0; have hfz79_1 := blk_frozen BK275.out 1; have hfz79_2 := blk_frozen BK275.out 2; have hfz79_3 := blk_frozen BK275.out 3; have hfz79_4 := blk_frozen BK275.out 4; have hfz79_5 := blk_frozen BK275.out 5))
                              refine bodyPost_ret (results_cell_row rfl _ _ gb275 27 #[.int .i64 a1, .int .i64 (rd y276 t279), .int .i64 1, .int .i64 (rd y282 t285), .int .i64 1, .int .i64 (rd y307 t310)] (0, 0) _ rfl (by (with_reducible repeat (first | refine blk_drewN ?_ _ | refine blk_drew ?_ | refine blk_alloc ?_ _)); refine blk_put (cs := #[.int .i64 a1, .int .i64 (rd y276 t279), .int .i64 1, .int .i64 (rd y282 t285), .int .i64 1, .int .i64 0]) ?_ 5 _ rfl; (with_reducible repeat (first | refine blk_drewN ?_ _ | refine blk_drew ?_ | refine blk_alloc ?_ _)); refine blk_put (cs := #[.int .i64 a1, .int .i64 (rd y276 t279), .int .i64 1, .int .i64 (rd y282 t285), .int .i64 0, .int .i64 0]) ?_ 4 _ rfl; (with_reducible repeat (first | refine blk_drewN ?_ _ | refine blk_drew ?_ | refine blk_alloc ?_ _)); refine blk_put (cs := #[.int .i64 a1, .int .i64 (rd y276 t279), .int .i64 1, .int .i64 0, .int .i64 0, .int .i64 0]) ?_ 3 _ rfl; (with_reducible repeat (first | refine blk_drewN ?_ _ | refine blk_drew ?_ | refine blk_alloc ?_ _)); refine blk_put (cs := #[.int .i64 a1, .int .i64 (rd y276 t279), .int .i64 0, .int .i64 0, .int .i64 0, .int .i64 0]) ?_ 2 _ rfl; (with_reducible repeat (first | refine blk_drewN ?_ _ | refine blk_drew ?_ | refine blk_alloc ?_ _)); refine blk_put (cs := #[.int .i64 a1, .int .i64 0, .int .i64 0, .int .i64 0, .int .i64 0, .int .i64 0]) ?_ 1 _ rfl; (with_reducible repeat (first | refine blk_drewN ?_ _ | refine blk_drew ?_ | refine blk_alloc ?_ _)); refine blk_put (cs := #[.int .i64 0, .int .i64 0, .int .i64 0, .int .i64 0, .int .i64 0, .int .i64 0]) ?_ 0 _ rfl; (with_reducible repeat (first | refine blk_drewN ?_ _ | refine blk_drew ?_ | refine blk_alloc ?_ _)); refine blk_far ?_ NB275_290.out _; (with_reducible repeat (first | refine blk_drewN ?_ _ | refine blk_drew ?_ | refine blk_alloc ?_ _)); exact BK275.out) Try.underlying27 rfl (by kernel_rfl)) rfl ?_
                              exact ⟨by first | rfl | (simp [errW_none, errW_some] <;> rfl) | (simp [*, errW_none, errW_some] <;> rfl), by repeat (first | (with_reducible first | exact HI0.out | apply IsS91.alloc | apply IsS91.drewN | apply IsS91.drew | apply IsS91.set_1 | refine IsS91.far ?_ NB0_275.out _ | refine IsS91.far ?_ NB0_290.out _) | exact HI0.out), by repeat (first | (with_reducible first | exact HB.out | apply below_alloc | apply pw_below_drewN | apply below_drew1 | refine below_set ?_ (IsS91.ge HI0.out) | refine below_set ?_ GE275.out | refine below_set ?_ GE290.out) | exact HB.out), by repeat (first | (with_reducible first | exact HK.out | apply KeepBut.set_ | apply keep_drewN | apply keep_drew | apply keep_alloc | refine keep_far ?_ GW275.out _ | refine keep_far ?_ GW290.out _) | exact HK.out)⟩
                            · rw [if_neg c70] at H
                              exact absurd H (by simp)
                          · rw [if_neg c69] at H
                            exact absurd H (by simp)
              · replace c35 := Bool.eq_false_iff.mpr c35
                subst c35
                have H1 : (some (a1, (rd y276 t279), 1, (rd y282 t285), 1, t288, x1001_10)) = some (r1, r2, r3, r4, r5, r6, r7) := by rw [if_neg (show ¬ (false = true) by decide)] at H; exact H
                clear H
                have H := H1
                clear H1
                simp only [Option.some.injEq, Prod.mk.injEq] at H
                obtain ⟨rfl, rfl, rfl, rfl, rfl, rfl, rfl⟩ := H
                have hnb80 := NB290_275.out
                have hnc80 := NB275_290.out
                have hnb81 := NB290_0.out
                have hnc81 := NB0_290.out
                have hcz82_0 : wc.cell? ⟨gb290, 0, none⟩ = some (.int .i64 a1) := (blk_cell BK290.out 0).trans rfl
                have hcz82_1 : wc.cell? ⟨gb290, 1, none⟩ = some (.int .i64 (rd y276 t279)) := (blk_cell BK290.out 1).trans rfl
                have hcz82_2 : wc.cell? ⟨gb290, 2, none⟩ = some (.int .i64 1) := (blk_cell BK290.out 2).trans rfl
                have hcz82_3 : wc.cell? ⟨gb290, 3, none⟩ = some (.int .i64 (rd y282 t285)) := (blk_cell BK290.out 3).trans rfl
                have hcz82_4 : wc.cell? ⟨gb290, 4, none⟩ = some (.int .i64 1) := (blk_cell BK290.out 4).trans rfl
                have hcz82_5 : wc.cell? ⟨gb290, 5, none⟩ = some (.int .i64 t288) := (blk_cell BK290.out 5).trans rfl
                have hfz82_0 := blk_frozen BK290.out 0
                have hfz82_1 := blk_frozen BK290.out 1
                have hfz82_2 := blk_frozen BK290.out 2
                have hfz82_3 := blk_frozen BK290.out 3
                have hfz82_4 := blk_frozen BK290.out 4
                have hfz82_5 := blk_frozen BK290.out 5
                have hnb83 := NB275_0.out
                have hnc83 := NB0_275.out
                have hcz84_0 : wc.cell? ⟨gb275, 0, none⟩ = some (.int .i64 0) := (blk_cell BK275.out 0).trans rfl
                have hcz84_1 : wc.cell? ⟨gb275, 1, none⟩ = some (.int .i64 0) := (blk_cell BK275.out 1).trans rfl
                have hcz84_2 : wc.cell? ⟨gb275, 2, none⟩ = some (.int .i64 0) := (blk_cell BK275.out 2).trans rfl
                have hcz84_3 : wc.cell? ⟨gb275, 3, none⟩ = some (.int .i64 0) := (blk_cell BK275.out 3).trans rfl
                have hcz84_4 : wc.cell? ⟨gb275, 4, none⟩ = some (.int .i64 0) := (blk_cell BK275.out 4).trans rfl
                have hcz84_5 : wc.cell? ⟨gb275, 5, none⟩ = some (.int .i64 0) := (blk_cell BK275.out 5).trans rfl
                have hfz84_0 := blk_frozen BK275.out 0
                have hfz84_1 := blk_frozen BK275.out 1
                have hfz84_2 := blk_frozen BK275.out 2
                have hfz84_3 := blk_frozen BK275.out 3
                have hfz84_4 := blk_frozen BK275.out 4
                have hfz84_5 := blk_frozen BK275.out 5
                go_wp2
                refine bodyPost_ret (results_cell_row rfl _ _ gb275 27 #[.int .i64 a1, .int .i64 (rd y276 t279), .int .i64 1, .int .i64 (rd y282 t285), .int .i64 1, .int .i64 t288] (0, 0) _ rfl (by (with_reducible repeat (first | refine blk_drewN ?_ _ | refine blk_drew ?_ | refine blk_alloc ?_ _)); refine blk_put (cs := #[.int .i64 a1, .int .i64 (rd y276 t279), .int .i64 1, .int .i64 (rd y282 t285), .int .i64 1, .int .i64 0]) ?_ 5 _ rfl; (with_reducible repeat (first | refine blk_drewN ?_ _ | refine blk_drew ?_ | refine blk_alloc ?_ _)); refine blk_put (cs := #[.int .i64 a1, .int .i64 (rd y276 t279), .int .i64 1, .int .i64 (rd y282 t285), .int .i64 0, .int .i64 0]) ?_ 4 _ rfl; (with_reducible repeat (first | refine blk_drewN ?_ _ | refine blk_drew ?_ | refine blk_alloc ?_ _)); refine blk_put (cs := #[.int .i64 a1, .int .i64 (rd y276 t279), .int .i64 1, .int .i64 0, .int .i64 0, .int .i64 0]) ?_ 3 _ rfl; (with_reducible repeat (first | refine blk_drewN ?_ _ | refine blk_drew ?_ | refine blk_alloc ?_ _)); refine blk_put (cs := #[.int .i64 a1, .int .i64 (rd y276 t279), .int .i64 0, .int .i64 0, .int .i64 0, .int .i64 0]) ?_ 2 _ rfl; (with_reducible repeat (first | refine blk_drewN ?_ _ | refine blk_drew ?_ | refine blk_alloc ?_ _)); refine blk_put (cs := #[.int .i64 a1, .int .i64 0, .int .i64 0, .int .i64 0, .int .i64 0, .int .i64 0]) ?_ 1 _ rfl; (with_reducible repeat (first | refine blk_drewN ?_ _ | refine blk_drew ?_ | refine blk_alloc ?_ _)); refine blk_put (cs := #[.int .i64 0, .int .i64 0, .int .i64 0, .int .i64 0, .int .i64 0, .int .i64 0]) ?_ 0 _ rfl; (with_reducible repeat (first | refine blk_drewN ?_ _ | refine blk_drew ?_ | refine blk_alloc ?_ _)); exact BK275.out) Try.underlying27 rfl (by kernel_rfl)) rfl ?_
                exact ⟨by first | rfl | (simp [errW_none, errW_some] <;> rfl) | (simp [*, errW_none, errW_some] <;> rfl), by repeat (first | (with_reducible first | exact HI0.out | apply IsS91.alloc | apply IsS91.drewN | apply IsS91.drew | apply IsS91.set_1 | refine IsS91.far ?_ NB0_275.out _ | refine IsS91.far ?_ NB0_290.out _) | exact HI0.out), by repeat (first | (with_reducible first | exact HB.out | apply below_alloc | apply pw_below_drewN | apply below_drew1 | refine below_set ?_ (IsS91.ge HI0.out) | refine below_set ?_ GE275.out | refine below_set ?_ GE290.out) | exact HB.out), by repeat (first | (with_reducible first | exact HK.out | apply KeepBut.set_ | apply keep_drewN | apply keep_drew | apply keep_alloc | refine keep_far ?_ GW275.out _ | refine keep_far ?_ GW290.out _) | exact HK.out)⟩
        · rw [if_neg c9] at H
          exact absurd H (by simp)
      · rw [if_neg c8] at H
        exact absurd H (by simp)
    · rw [if_neg c6] at H
      exact absurd H (by simp)
  · rw [if_neg c5] at H
    exact absurd H (by simp)

end Go.Proofs.Ytpinmagodpplaaa.All
