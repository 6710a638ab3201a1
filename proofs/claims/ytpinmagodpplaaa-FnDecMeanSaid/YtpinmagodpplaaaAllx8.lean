-- Written by the session's own program wip/allprint.py, which drives the kit's print; Lean checks it.
import Derived.Test.YtpinmagodpplaaaAllx0
import Derived.Test.YtpinmagodpplaaaAllx1
import Derived.Test.YtpinmagodpplaaaAllx3
import Derived.Test.YtpinmagodpplaaaAllx4
import Derived.Test.YtpinmagodpplaaaAllx5
import Derived.Test.YtpinmagodpplaaaAllx6
import Derived.Test.YtpinmagodpplaaaAllx7
namespace Go.Proofs.Ytpinmagodpplaaa.All
open Go.RowKit Go.Proofs.YtpinmagodpplaaaW.PrintWords Go.Proofs.YtpinmagodpplaaaW.PrintLast Go.Proofs.YtpinmagodpplaaaW.PrintMore
attribute [local go_sem] max2_int min2_int max_two min_two max_three min_three max_four min_four   -- for this text's walks alone
set_option linter.unusedVariables false
set_option linter.unusedSimpArgs false

attribute [local go_sem high] eqA25
/-! ### laws_FnDecMean: function 7 -/
mutual
def laws_FnDecMean.j0 : Nat → List (S25) → Int → Bool → Int → Int → Option (Bool)
 | 0, _, _, _, _, _ => none
 | k + 1, x3, x4, x6, x233000, x233001 => laws_FnDecMean.l0 k x3 x4 x6 (([] : List (S25))) 0 x233000 x233001
def laws_FnDecMean.l0 : Nat → List (S25) → Int → Bool → List (S25) → Int → Int → Int → Option (Bool)
 | 0, _, _, _, _, _, _, _ => none
 | k + 1, x3, x4, x6, x7, x8, x233000, x233001 => if x8 < (x3.length : Int) then (if x6 = true then (if 0 ≤ x8 then ((impl_DecOk.f k ((rd_T25 x3 x8).f0) ((rd_T25 x3 x8).f1)).bind fun t239 => (if 0 ≤ (wrap64 ((wrap64 ((x3.length : Int) - 1)) - x8)) then (if (wrap64 ((wrap64 ((x3.length : Int) - 1)) - x8)) < (x3.length : Int) then (if x7.length < 8796093022208 then (laws_FnDecMean.l0 k x3 x4 t239 (x7 ++ [(⟨(rd_T25 x3 (wrap64 ((wrap64 ((x3.length : Int) - 1)) - x8))).f0, (rd_T25 x3 (wrap64 ((wrap64 ((x3.length : Int) - 1)) - x8))).f1⟩ : S25)]) (wrap64 (x8 + 1)) x233000 x233001) else (none)) else (none)) else (none))) else (none)) else (if 0 ≤ (wrap64 ((wrap64 ((x3.length : Int) - 1)) - x8)) then (if (wrap64 ((wrap64 ((x3.length : Int) - 1)) - x8)) < (x3.length : Int) then (if x7.length < 8796093022208 then (laws_FnDecMean.l0 k x3 x4 false (x7 ++ [(⟨(rd_T25 x3 (wrap64 ((wrap64 ((x3.length : Int) - 1)) - x8))).f0, (rd_T25 x3 (wrap64 ((wrap64 ((x3.length : Int) - 1)) - x8))).f1⟩ : S25)]) (wrap64 (x8 + 1)) x233000 x233001) else (none)) else (none)) else (none))) else (if x6 = true then (if 0 < (x3.length : Int) then ((impl_DecAt.f k ((rd_T25 x3 0).f0) ((rd_T25 x3 0).f1) x4).bind fun bt250 => ((impl_DecAt.f k ((rd_T25 x3 0).f0) ((rd_T25 x3 0).f1) x4).bind fun bt253 => (laws_FnDecMean.l1 k x3 x4 x7 0 x233000 x233001 bt250.1 bt250.2 bt253.1 bt253.2))) else (none)) else (if (x233000 == 0 && (x233001 == 0)) = true then ((laws_cuOk.f).bind fun t248 => (some t248)) else (some false)))
def laws_FnDecMean.l1 : Nat → List (S25) → Int → List (S25) → Int → Int → Int → Int → Int → Int → Int → Option (Bool)
 | 0, _, _, _, _, _, _, _, _, _, _ => none
 | k + 1, x3, x4, x7, x11, x233000, x233001, x256000, x256001, x257000, x257001 => if x11 < (x3.length : Int) then (if 0 ≤ x11 then ((impl_DecAt.f k ((rd_T25 x3 x11).f0) ((rd_T25 x3 x11).f1) x4).bind fun bt258 => ((impl_DecCmp.f k bt258.1 bt258.2 x256000 x256001).bind fun t261 => (if t261 < 0 then (laws_FnDecMean.j3 k x3 x4 x7 x11 x233000 x233001 bt258.1 bt258.2 x257000 x257001 bt258.1 bt258.2) else (laws_FnDecMean.j3 k x3 x4 x7 x11 x233000 x233001 x256000 x256001 x257000 x257001 bt258.1 bt258.2)))) else (none)) else ((impl_DecCmp.f k x256000 x256001 x233000 x233001).bind fun t263 => (if t263 ≤ 0 then ((impl_DecCmp.f k x233000 x233001 x257000 x257001).bind fun t264 => (if t264 ≤ 0 then (if x233001 = x4 then ((impl_DecMean.f k x7 x4).bind fun bt265 => (if (bt265.1 == x233000 && (bt265.2 == x233001)) = true then (if 1 ≤ (x3.length : Int) then ((impl_DecMean.f k (x3.take 1) x4).bind fun bt271 => (if 0 < (x3.length : Int) then ((impl_DecAt.f k ((rd_T25 x3 0).f0) ((rd_T25 x3 0).f1) x4).bind fun bt274 => (some (bt271.1 == bt274.1 && (bt271.2 == bt274.2)))) else (none))) else (none)) else (some false))) else (some false)) else (some false))) else (some false)))
def laws_FnDecMean.j3 : Nat → List (S25) → Int → List (S25) → Int → Int → Int → Int → Int → Int → Int → Int → Int → Option (Bool)
 | 0, _, _, _, _, _, _, _, _, _, _, _, _ => none
 | k + 1, x3, x4, x7, x11, x233000, x233001, x256000, x256001, x257000, x257001, x261000, x261001 => (impl_DecCmp.f k x261000 x261001 x257000 x257001).bind fun t262 => (if t262 > 0 then (laws_FnDecMean.l1 k x3 x4 x7 (wrap64 (x11 + 1)) x233000 x233001 x256000 x256001 x261000 x261001) else (laws_FnDecMean.l1 k x3 x4 x7 (wrap64 (x11 + 1)) x233000 x233001 x256000 x256001 x257000 x257001))
end
def laws_FnDecMean.f (k : Nat) (l0 : List Int) : Option (Bool) := if (l0.length : Int) > 1048576 then (some true) else ((spec_DrawDecMean.f k l0).bind fun bt226 => ((impl_DecMean.f k bt226.1 bt226.2).bind fun bt230 => ((spec_DecMean.f k bt226.1 bt226.2).bind fun bt233 => (if (!(bt230.1 == bt233.1) || (!(bt230.2 == bt233.2))) = true then (some false) else (if (bt226.1.length : Int) > 0 then (if (bt226.1.length : Int) ≤ 100 then (if bt226.2 ≥ 0 then (laws_FnDecMean.j0 k bt226.1 bt226.2 (decide (bt226.2 ≤ 3)) bt230.1 bt230.2) else (laws_FnDecMean.j0 k bt226.1 bt226.2 false bt230.1 bt230.2)) else (laws_FnDecMean.j0 k bt226.1 bt226.2 false bt230.1 bt230.2)) else (laws_FnDecMean.j0 k bt226.1 bt226.2 false bt230.1 bt230.2))))))
theorem laws_FnDecMean.mono_l : ∀ k, (∀ y0 y1 y2 y3 y4, LeO (laws_FnDecMean.j0 k y0 y1 y2 y3 y4) (laws_FnDecMean.j0 (k + 1) y0 y1 y2 y3 y4)) ∧ (∀ y0 y1 y2 y3 y4 y5 y6, LeO (laws_FnDecMean.l0 k y0 y1 y2 y3 y4 y5 y6) (laws_FnDecMean.l0 (k + 1) y0 y1 y2 y3 y4 y5 y6)) ∧ (∀ y0 y1 y2 y3 y4 y5 y6 y7 y8 y9, LeO (laws_FnDecMean.l1 k y0 y1 y2 y3 y4 y5 y6 y7 y8 y9) (laws_FnDecMean.l1 (k + 1) y0 y1 y2 y3 y4 y5 y6 y7 y8 y9)) ∧ (∀ y0 y1 y2 y3 y4 y5 y6 y7 y8 y9 y10 y11, LeO (laws_FnDecMean.j3 k y0 y1 y2 y3 y4 y5 y6 y7 y8 y9 y10 y11) (laws_FnDecMean.j3 (k + 1) y0 y1 y2 y3 y4 y5 y6 y7 y8 y9 y10 y11))
 | 0 => ⟨fun _ _ _ _ _ r h => by simp [laws_FnDecMean.j0] at h, fun _ _ _ _ _ _ _ r h => by simp [laws_FnDecMean.l0] at h, fun _ _ _ _ _ _ _ _ _ _ r h => by simp [laws_FnDecMean.l1] at h, fun _ _ _ _ _ _ _ _ _ _ _ _ r h => by simp [laws_FnDecMean.j3] at h⟩
 | k + 1 => by
  obtain ⟨ih0, ih1, ih2, ih3⟩ := laws_FnDecMean.mono_l k
  refine ⟨?_, ?_, ?_, ?_⟩
  ·intro y0 y1 y2 y3 y4
   unfold laws_FnDecMean.j0
   repeat' first
   | (with_reducible exact ih0 _ _ _ _ _)
   | (with_reducible exact ih1 _ _ _ _ _ _ _)
   | (with_reducible exact ih2 _ _ _ _ _ _ _ _ _ _)
   | (with_reducible exact ih3 _ _ _ _ _ _ _ _ _ _ _ _)
   | (with_reducible exact impl_DecAt.mono _ _ _ _)
   | (with_reducible exact impl_DecCmp.mono _ _ _ _ _)
   | (with_reducible exact impl_DecMean.mono _ _ _)
   | (with_reducible exact impl_DecOk.mono _ _ _)
   | (with_reducible exact spec_DecMean.mono _ _ _)
   | (with_reducible exact spec_DrawDecMean.mono _ _)
   | (with_reducible exact LeO.refl _)
   | (with_reducible exact LeO.none _)
   | (with_reducible refine LeO.ite ?_ ?_)
   | (with_reducible refine LeO.bind ?_ (fun _ => ?_))
   | exact ih0 _ _ _ _ _
   | exact ih1 _ _ _ _ _ _ _
   | exact ih2 _ _ _ _ _ _ _ _ _ _
   | exact ih3 _ _ _ _ _ _ _ _ _ _ _ _
   | exact impl_DecAt.mono _ _ _ _
   | exact impl_DecCmp.mono _ _ _ _ _
   | exact impl_DecMean.mono _ _ _
   | exact impl_DecOk.mono _ _ _
   | exact spec_DecMean.mono _ _ _
   | exact spec_DrawDecMean.mono _ _
   | exact LeO.none _
   | refine LeO.ite ?_ ?_
   | refine LeO.bind ?_ (fun _ => ?_)
  ·intro y0 y1 y2 y3 y4 y5 y6
   unfold laws_FnDecMean.l0
   repeat' first
   | (with_reducible exact ih0 _ _ _ _ _)
   | (with_reducible exact ih1 _ _ _ _ _ _ _)
   | (with_reducible exact ih2 _ _ _ _ _ _ _ _ _ _)
   | (with_reducible exact ih3 _ _ _ _ _ _ _ _ _ _ _ _)
   | (with_reducible exact impl_DecAt.mono _ _ _ _)
   | (with_reducible exact impl_DecCmp.mono _ _ _ _ _)
   | (with_reducible exact impl_DecMean.mono _ _ _)
   | (with_reducible exact impl_DecOk.mono _ _ _)
   | (with_reducible exact spec_DecMean.mono _ _ _)
   | (with_reducible exact spec_DrawDecMean.mono _ _)
   | (with_reducible exact LeO.refl _)
   | (with_reducible exact LeO.none _)
   | (with_reducible refine LeO.ite ?_ ?_)
   | (with_reducible refine LeO.bind ?_ (fun _ => ?_))
   | exact ih0 _ _ _ _ _
   | exact ih1 _ _ _ _ _ _ _
   | exact ih2 _ _ _ _ _ _ _ _ _ _
   | exact ih3 _ _ _ _ _ _ _ _ _ _ _ _
   | exact impl_DecAt.mono _ _ _ _
   | exact impl_DecCmp.mono _ _ _ _ _
   | exact impl_DecMean.mono _ _ _
   | exact impl_DecOk.mono _ _ _
   | exact spec_DecMean.mono _ _ _
   | exact spec_DrawDecMean.mono _ _
   | exact LeO.none _
   | refine LeO.ite ?_ ?_
   | refine LeO.bind ?_ (fun _ => ?_)
  ·intro y0 y1 y2 y3 y4 y5 y6 y7 y8 y9
   unfold laws_FnDecMean.l1
   repeat' first
   | (with_reducible exact ih0 _ _ _ _ _)
   | (with_reducible exact ih1 _ _ _ _ _ _ _)
   | (with_reducible exact ih2 _ _ _ _ _ _ _ _ _ _)
   | (with_reducible exact ih3 _ _ _ _ _ _ _ _ _ _ _ _)
   | (with_reducible exact impl_DecAt.mono _ _ _ _)
   | (with_reducible exact impl_DecCmp.mono _ _ _ _ _)
   | (with_reducible exact impl_DecMean.mono _ _ _)
   | (with_reducible exact impl_DecOk.mono _ _ _)
   | (with_reducible exact spec_DecMean.mono _ _ _)
   | (with_reducible exact spec_DrawDecMean.mono _ _)
   | (with_reducible exact LeO.refl _)
   | (with_reducible exact LeO.none _)
   | (with_reducible refine LeO.ite ?_ ?_)
   | (with_reducible refine LeO.bind ?_ (fun _ => ?_))
   | exact ih0 _ _ _ _ _
   | exact ih1 _ _ _ _ _ _ _
   | exact ih2 _ _ _ _ _ _ _ _ _ _
   | exact ih3 _ _ _ _ _ _ _ _ _ _ _ _
   | exact impl_DecAt.mono _ _ _ _
   | exact impl_DecCmp.mono _ _ _ _ _
   | exact impl_DecMean.mono _ _ _
   | exact impl_DecOk.mono _ _ _
   | exact spec_DecMean.mono _ _ _
   | exact spec_DrawDecMean.mono _ _
   | exact LeO.none _
   | refine LeO.ite ?_ ?_
   | refine LeO.bind ?_ (fun _ => ?_)
  ·intro y0 y1 y2 y3 y4 y5 y6 y7 y8 y9 y10 y11
   unfold laws_FnDecMean.j3
   repeat' first
   | (with_reducible exact ih0 _ _ _ _ _)
   | (with_reducible exact ih1 _ _ _ _ _ _ _)
   | (with_reducible exact ih2 _ _ _ _ _ _ _ _ _ _)
   | (with_reducible exact ih3 _ _ _ _ _ _ _ _ _ _ _ _)
   | (with_reducible exact impl_DecAt.mono _ _ _ _)
   | (with_reducible exact impl_DecCmp.mono _ _ _ _ _)
   | (with_reducible exact impl_DecMean.mono _ _ _)
   | (with_reducible exact impl_DecOk.mono _ _ _)
   | (with_reducible exact spec_DecMean.mono _ _ _)
   | (with_reducible exact spec_DrawDecMean.mono _ _)
   | (with_reducible exact LeO.refl _)
   | (with_reducible exact LeO.none _)
   | (with_reducible refine LeO.ite ?_ ?_)
   | (with_reducible refine LeO.bind ?_ (fun _ => ?_))
   | exact ih0 _ _ _ _ _
   | exact ih1 _ _ _ _ _ _ _
   | exact ih2 _ _ _ _ _ _ _ _ _ _
   | exact ih3 _ _ _ _ _ _ _ _ _ _ _ _
   | exact impl_DecAt.mono _ _ _ _
   | exact impl_DecCmp.mono _ _ _ _ _
   | exact impl_DecMean.mono _ _ _
   | exact impl_DecOk.mono _ _ _
   | exact spec_DecMean.mono _ _ _
   | exact spec_DrawDecMean.mono _ _
   | exact LeO.none _
   | refine LeO.ite ?_ ?_
   | refine LeO.bind ?_ (fun _ => ?_)
theorem laws_FnDecMean.mono : ∀ a0 k, LeO (laws_FnDecMean.f k a0) (laws_FnDecMean.f (k + 1) a0) := by
 intro a0 k
 obtain ⟨ih0, ih1, ih2, ih3⟩ := laws_FnDecMean.mono_l k
 unfold laws_FnDecMean.f
 repeat' first
   | (with_reducible exact ih0 _ _ _ _ _)
   | (with_reducible exact ih1 _ _ _ _ _ _ _)
   | (with_reducible exact ih2 _ _ _ _ _ _ _ _ _ _)
   | (with_reducible exact ih3 _ _ _ _ _ _ _ _ _ _ _ _)
   | (with_reducible exact impl_DecAt.mono _ _ _ _)
   | (with_reducible exact impl_DecCmp.mono _ _ _ _ _)
   | (with_reducible exact impl_DecMean.mono _ _ _)
   | (with_reducible exact impl_DecOk.mono _ _ _)
   | (with_reducible exact spec_DecMean.mono _ _ _)
   | (with_reducible exact spec_DrawDecMean.mono _ _)
   | (with_reducible exact LeO.refl _)
   | (with_reducible exact LeO.none _)
   | (with_reducible refine LeO.ite ?_ ?_)
   | (with_reducible refine LeO.bind ?_ (fun _ => ?_))
   | exact ih0 _ _ _ _ _
   | exact ih1 _ _ _ _ _ _ _
   | exact ih2 _ _ _ _ _ _ _ _ _ _
   | exact ih3 _ _ _ _ _ _ _ _ _ _ _ _
   | exact impl_DecAt.mono _ _ _ _
   | exact impl_DecCmp.mono _ _ _ _ _
   | exact impl_DecMean.mono _ _ _
   | exact impl_DecOk.mono _ _ _
   | exact spec_DecMean.mono _ _ _
   | exact spec_DrawDecMean.mono _ _
   | exact LeO.none _
   | refine LeO.ite ?_ ?_
   | refine LeO.bind ?_ (fun _ => ?_)
def laws_FnDecMean.T16 : Bool × List (List Nat × List Nat) := (true, [([], []), ([0], [0]), ([1], [1]), ([], []), ([2, 3], [2, 3]), ([], []), ([5], [5]), ([6], [6]), ([], []), ([7, 8, 4], [7, 8]), ([], []), ([], []), ([10, 4, 9, 0, 1, 2, 3, 4, 10, 11], [4, 10]), ([11, 9, 12, 0, 1, 2, 3, 4, 5, 6, 7, 8, 9, 10, 11, 12], [9, 11])])
def laws_FnDecMean.B16 : List Nat := [0, 1, 3, 0, 15, 0, 32, 96, 0, 511, 0, 0, 4095, 8191]
theorem laws_FnDecMean.tab16 : rtab .any (opsOf Try.f7 16) = laws_FnDecMean.T16 := by kernel_rfl
theorem laws_FnDecMean.bits16 : waitsOk laws_FnDecMean.T16.2 laws_FnDecMean.B16 = true := by kernel_rfl
def laws_FnDecMean.T25 : Bool × List (List Nat × List Nat) := (true, [([], []), ([], []), ([0, 1], [0, 1]), ([2], [2]), ([3, 2], [3]), ([4], [4]), ([4], [4]), ([5, 6, 4, 4], [4, 5, 6]), ([7, 4], [4, 7]), ([4, 8], [4, 8]), ([9, 7], [9]), ([10], [10]), ([11, 10], [10, 11]), ([10], [10]), ([12, 13, 10], [10, 12, 13]), ([10, 14], [10, 14]), ([15, 10], [15]), ([16], [16]), ([16], [16]), ([17, 18, 16, 16], [16, 17, 18]), ([16], [16]), ([19, 20, 16], [16, 19, 20]), ([16, 21], [16, 21]), ([22, 19], [22]), ([23], [23]), ([24, 23], [23, 24]), ([23], [23]), ([25, 26, 23, 23], [23, 25, 26]), ([23], [23]), ([28, 23], [23, 28]), ([29, 23], [23, 29]), ([23], [23]), ([30, 31, 27, 23], [23, 30, 31]), ([27, 32, 23], [23, 27, 32]), ([23, 33], [23, 33]), ([34, 32, 0, 1, 2, 3, 4, 5, 6, 7, 8, 9, 10, 11, 12, 13, 14, 15, 16, 17, 18, 19, 20, 21, 22, 23, 24, 25, 26, 27, 28, 29, 30, 31, 32, 33, 34], [34])])
def laws_FnDecMean.B25 : List Nat := [0, 0, 3, 7, 15, 31, 31, 127, 255, 511, 1023, 2047, 4095, 2047, 16383, 32767, 65535, 131071, 131071, 524287, 131071, 2097151, 4194303, 8388607, 16777215, 33554431, 16777215, 134217727, 16777215, 285212671, 822083583, 16777215, 4294967295, 8589934591, 17179869183, 34359738367]
theorem laws_FnDecMean.tab25 : rtab .any (opsOf Try.f7 25) = laws_FnDecMean.T25 := by kernel_rfl
theorem laws_FnDecMean.bits25 : waitsOk laws_FnDecMean.T25.2 laws_FnDecMean.B25 = true := by kernel_rfl
abbrev laws_FnDecMean.m0 : Array Bool := #[false, false, false, false, false]
abbrev laws_FnDecMean.m1 : Array Bool := #[false, true, false, false, false]
abbrev laws_FnDecMean.m2 : Array Bool := #[false, true, true, false, false]
abbrev laws_FnDecMean.m3 : Array Bool := #[true, true, true, false, false]
abbrev laws_FnDecMean.m4 : Array Bool := #[true, true, true, true, false]
abbrev laws_FnDecMean.m5 : Array Bool := #[true, true, true, true, true]
abbrev laws_FnDecMean.m6 : Array Bool := #[false, false, false, false, false, false, false, false, false, false, false, false, false, false]
abbrev laws_FnDecMean.m7 : Array Bool := #[true, false, false, false, false, false, false, false, false, false, false, false, false, false]
abbrev laws_FnDecMean.m8 : Array Bool := #[true, true, false, false, false, false, false, false, false, false, false, false, false, false]
abbrev laws_FnDecMean.m9 : Array Bool := #[true, true, false, true, false, false, false, false, false, false, false, false, false, false]
abbrev laws_FnDecMean.m10 : Array Bool := #[true, true, false, true, false, true, false, false, false, false, false, false, false, false]
abbrev laws_FnDecMean.m11 : Array Bool := #[true, true, false, true, false, true, true, false, false, false, false, false, false, false]
abbrev laws_FnDecMean.m12 : Array Bool := #[true, true, false, true, false, true, true, false, true, false, false, false, false, false]
abbrev laws_FnDecMean.m13 : Array Bool := #[true, true, true, true, false, true, true, false, true, false, false, false, false, false]
abbrev laws_FnDecMean.m14 : Array Bool := #[true, true, true, true, false, true, true, true, true, false, false, false, false, false]
abbrev laws_FnDecMean.m15 : Array Bool := #[true, true, true, true, true, true, true, true, true, true, true, true, false, false]
abbrev laws_FnDecMean.m16 : Array Bool := #[true, true, true, true, true, true, true, true, true, true, true, false, false, false]
abbrev laws_FnDecMean.m17 : Array Bool := #[true, true, true, true, true, true, true, true, true, true, false, true, false, false]
abbrev laws_FnDecMean.m18 : Array Bool := #[true, true, true, true, true, true, true, true, true, false, true, true, false, false]
abbrev laws_FnDecMean.m19 : Array Bool := #[true, true, true, true, true, true, true, true, true, true, false, false, false, false]
abbrev laws_FnDecMean.m20 : Array Bool := #[true, true, true, true, true, true, true, true, true, false, true, false, false, false]
abbrev laws_FnDecMean.m21 : Array Bool := #[true, true, true, true, true, true, true, true, true, false, false, true, false, false]
abbrev laws_FnDecMean.m22 : Array Bool := #[true, true, true, true, false, true, true, true, true, false, true, true, false, false]
abbrev laws_FnDecMean.m23 : Array Bool := #[true, true, true, true, true, true, true, true, true, false, false, false, false, false]
abbrev laws_FnDecMean.m24 : Array Bool := #[true, true, true, true, false, true, true, true, true, false, true, false, false, false]
abbrev laws_FnDecMean.m25 : Array Bool := #[true, true, true, true, false, true, true, true, true, false, false, true, false, false]
abbrev laws_FnDecMean.m26 : Array Bool := #[true, true, true, true, true, true, true, true, true, true, true, true, true, false]
abbrev laws_FnDecMean.m27 : Array Bool := #[true, true, true, true, true, true, true, true, true, true, true, true, true, true]
abbrev laws_FnDecMean.m28 : Array Bool := #[false, false, false, false, false, false, false, false, false, false, false, false, false, false, false, false, false, false, false, false, false, false, false, false, false, false, false, false, false, false, false, false, false, false, false, false]
abbrev laws_FnDecMean.m29 : Array Bool := #[true, false, false, false, false, false, false, false, false, false, false, false, false, false, false, false, false, false, false, false, false, false, false, false, false, false, false, false, false, false, false, false, false, false, false, false]
abbrev laws_FnDecMean.m30 : Array Bool := #[true, true, false, false, false, false, false, false, false, false, false, false, false, false, false, false, false, false, false, false, false, false, false, false, false, false, false, false, false, false, false, false, false, false, false, false]
abbrev laws_FnDecMean.m31 : Array Bool := #[true, true, true, false, false, false, false, false, false, false, false, false, false, false, false, false, false, false, false, false, false, false, false, false, false, false, false, false, false, false, false, false, false, false, false, false]
abbrev laws_FnDecMean.m32 : Array Bool := #[true, true, true, true, false, false, false, false, false, false, false, false, false, false, false, false, false, false, false, false, false, false, false, false, false, false, false, false, false, false, false, false, false, false, false, false]
abbrev laws_FnDecMean.m33 : Array Bool := #[true, true, true, true, true, false, false, false, false, false, false, false, false, false, false, false, false, false, false, false, false, false, false, false, false, false, false, false, false, false, false, false, false, false, false, false]
abbrev laws_FnDecMean.m34 : Array Bool := #[true, true, true, true, true, true, false, false, false, false, false, false, false, false, false, false, false, false, false, false, false, false, false, false, false, false, false, false, false, false, false, false, false, false, false, false]
abbrev laws_FnDecMean.m35 : Array Bool := #[true, true, true, true, true, true, true, false, false, false, false, false, false, false, false, false, false, false, false, false, false, false, false, false, false, false, false, false, false, false, false, false, false, false, false, false]
abbrev laws_FnDecMean.m36 : Array Bool := #[true, true, true, true, true, true, true, true, false, false, false, false, false, false, false, false, false, false, false, false, false, false, false, false, false, false, false, false, false, false, false, false, false, false, false, false]
abbrev laws_FnDecMean.m37 : Array Bool := #[true, true, true, true, true, true, true, true, true, false, false, false, false, false, false, false, false, false, false, false, false, false, false, false, false, false, false, false, false, false, false, false, false, false, false, false]
abbrev laws_FnDecMean.m38 : Array Bool := #[true, true, true, true, true, true, true, true, true, true, false, false, false, false, false, false, false, false, false, false, false, false, false, false, false, false, false, false, false, false, false, false, false, false, false, false]
abbrev laws_FnDecMean.m39 : Array Bool := #[true, true, true, true, true, true, true, true, true, true, true, false, false, false, false, false, false, false, false, false, false, false, false, false, false, false, false, false, false, false, false, false, false, false, false, false]
abbrev laws_FnDecMean.m40 : Array Bool := #[true, true, true, true, true, true, true, true, true, true, true, true, false, false, false, false, false, false, false, false, false, false, false, false, false, false, false, false, false, false, false, false, false, false, false, false]
abbrev laws_FnDecMean.m41 : Array Bool := #[true, true, true, true, true, true, true, true, true, true, true, true, false, true, false, false, false, false, false, false, false, false, false, false, false, false, false, false, false, false, false, false, false, false, false, false]
abbrev laws_FnDecMean.m42 : Array Bool := #[true, true, true, true, true, true, true, true, true, true, true, true, true, true, false, false, false, false, false, false, false, false, false, false, false, false, false, false, false, false, false, false, false, false, false, false]
abbrev laws_FnDecMean.m43 : Array Bool := #[true, true, true, true, true, true, true, true, true, true, true, true, true, true, true, false, false, false, false, false, false, false, false, false, false, false, false, false, false, false, false, false, false, false, false, false]
abbrev laws_FnDecMean.m44 : Array Bool := #[true, true, true, true, true, true, true, true, true, true, true, true, true, true, true, true, false, false, false, false, false, false, false, false, false, false, false, false, false, false, false, false, false, false, false, false]
abbrev laws_FnDecMean.m45 : Array Bool := #[true, true, true, true, true, true, true, true, true, true, true, true, true, true, true, true, true, false, false, false, false, false, false, false, false, false, false, false, false, false, false, false, false, false, false, false]
abbrev laws_FnDecMean.m46 : Array Bool := #[true, true, true, true, true, true, true, true, true, true, true, true, true, true, true, true, true, true, false, false, false, false, false, false, false, false, false, false, false, false, false, false, false, false, false, false]
abbrev laws_FnDecMean.m47 : Array Bool := #[true, true, true, true, true, true, true, true, true, true, true, true, true, true, true, true, true, true, true, false, false, false, false, false, false, false, false, false, false, false, false, false, false, false, false, false]
abbrev laws_FnDecMean.m48 : Array Bool := #[true, true, true, true, true, true, true, true, true, true, true, true, true, true, true, true, true, true, true, false, true, false, false, false, false, false, false, false, false, false, false, false, false, false, false, false]
abbrev laws_FnDecMean.m49 : Array Bool := #[true, true, true, true, true, true, true, true, true, true, true, true, true, true, true, true, true, true, true, true, true, false, false, false, false, false, false, false, false, false, false, false, false, false, false, false]
abbrev laws_FnDecMean.m50 : Array Bool := #[true, true, true, true, true, true, true, true, true, true, true, true, true, true, true, true, true, true, true, true, true, true, false, false, false, false, false, false, false, false, false, false, false, false, false, false]
abbrev laws_FnDecMean.m51 : Array Bool := #[true, true, true, true, true, true, true, true, true, true, true, true, true, true, true, true, true, true, true, true, true, true, true, false, false, false, false, false, false, false, false, false, false, false, false, false]
abbrev laws_FnDecMean.m52 : Array Bool := #[true, true, true, true, true, true, true, true, true, true, true, true, true, true, true, true, true, true, true, true, true, true, true, true, false, false, false, false, false, false, false, false, false, false, false, false]
abbrev laws_FnDecMean.m53 : Array Bool := #[true, true, true, true, true, true, true, true, true, true, true, true, true, true, true, true, true, true, true, true, true, true, true, true, true, false, false, false, false, false, false, false, false, false, false, false]
abbrev laws_FnDecMean.m54 : Array Bool := #[true, true, true, true, true, true, true, true, true, true, true, true, true, true, true, true, true, true, true, true, true, true, true, true, true, true, false, false, false, false, false, false, false, false, false, false]
abbrev laws_FnDecMean.m55 : Array Bool := #[true, true, true, true, true, true, true, true, true, true, true, true, true, true, true, true, true, true, true, true, true, true, true, true, true, true, true, false, false, false, false, false, false, false, false, false]
abbrev laws_FnDecMean.m56 : Array Bool := #[true, true, true, true, true, true, true, true, true, true, true, true, true, true, true, true, true, true, true, true, true, true, true, true, true, true, true, false, true, false, false, false, false, false, false, false]
abbrev laws_FnDecMean.m57 : Array Bool := #[true, true, true, true, true, true, true, true, true, true, true, true, true, true, true, true, true, true, true, true, true, true, true, true, true, true, true, false, true, true, false, false, false, false, false, false]
abbrev laws_FnDecMean.m58 : Array Bool := #[true, true, true, true, true, true, true, true, true, true, true, true, true, true, true, true, true, true, true, true, true, true, true, true, true, true, true, false, true, true, false, true, false, false, false, false]
abbrev laws_FnDecMean.m59 : Array Bool := #[true, true, true, true, true, true, true, true, true, true, true, true, true, true, true, true, true, true, true, true, true, true, true, true, true, true, true, false, true, true, true, true, false, false, false, false]
abbrev laws_FnDecMean.m60 : Array Bool := #[true, true, true, true, true, true, true, true, true, true, true, true, true, true, true, true, true, true, true, true, true, true, true, true, true, true, true, true, true, true, true, true, false, false, false, false]
abbrev laws_FnDecMean.m61 : Array Bool := #[true, true, true, true, true, true, true, true, true, true, true, true, true, true, true, true, true, true, true, true, true, true, true, true, true, true, true, true, true, true, true, true, true, false, false, false]
abbrev laws_FnDecMean.m62 : Array Bool := #[true, true, true, true, true, true, true, true, true, true, true, true, true, true, true, true, true, true, true, true, true, true, true, true, true, true, true, true, true, true, true, true, true, true, false, false]
abbrev laws_FnDecMean.m63 : Array Bool := #[true, true, true, true, true, true, true, true, true, true, true, true, true, true, true, true, true, true, true, true, true, true, true, true, true, true, true, true, true, true, true, true, true, true, true, false]
abbrev laws_FnDecMean.m64 : Array Bool := #[true, true, true, true, true, true, true, true, true, true, true, true, true, true, true, true, true, true, true, true, true, true, true, true, true, true, true, true, true, true, true, true, true, true, true, true]
abbrev laws_FnDecMean.m65 : Array Bool := #[true, true, true, true, true, true, true, true, true, true, true, true, true, true, true, true, true, true, true, true, true, true, true, true, true, true, true, true, false, false, false, false, false, false, false, false]
abbrev laws_FnDecMean.m66 : Array Bool := #[true, true, true, true, true, true, true, true, true, true, true, true, true, true, true, true, true, true, true, true, true, true, true, true, true, true, true, true, true, false, false, false, false, false, false, false]
abbrev laws_FnDecMean.m67 : Array Bool := #[true, true, true, true, true, true, true, true, true, true, true, true, true, true, true, true, true, true, true, true, true, true, true, true, true, true, true, true, true, true, false, false, false, false, false, false]
abbrev laws_FnDecMean.m68 : Array Bool := #[true, true, true, true, true, true, true, true, true, true, true, true, true, true, true, true, true, true, true, true, true, true, true, true, true, true, true, true, true, true, true, false, false, false, false, false]
abbrev laws_FnDecMean.m69 : Array Bool := #[true, true, true, true, true, true, true, true, true, true, true, true, true, true, true, true, true, true, true, true, false, false, false, false, false, false, false, false, false, false, false, false, false, false, false, false]
abbrev laws_FnDecMean.m70 : Array Bool := #[true, true, true, true, true, true, true, true, true, true, true, true, true, false, false, false, false, false, false, false, false, false, false, false, false, false, false, false, false, false, false, false, false, false, false, false]
theorem laws_FnDecMean.sA {α : Type} (l : List α) (i : Nat) (a : α) : l.toArray.setIfInBounds i a = (l.set i a).toArray := List.setIfInBounds_toArray ..
theorem laws_FnDecMean.s0 {α : Type} (l : List α) (a b : α) : (a :: l).set 0 b = b :: l := rfl
theorem laws_FnDecMean.s1 {α : Type} (l : List α) (a b : α) (n : Nat) : (a :: l).set (n + 1) b = a :: l.set n b := rfl
theorem laws_FnDecMean.pw {P : Program} {md : Region.Mode} {ops : Array Oper} {Q : Exit → Act → World → Prop} {S : World → Prop} {ds : List Nat} {T} (i : Nat) (n : Tmp) (l' : Array Bool) (hT : Aside0 (rtab md ops = T)) {oi : Oper} {v : Value} {a' : Act} {fuel : Nat} {l : Array Bool} {a : Act} {w : World} (h : wpAnyLast P md ops Q S ds fuel l' a' w) (hi : ops[i]? = some oi := by rfl) (hN : oi.dst = some n := by rfl) (hc : anyT T l.toList l'.toList i = true := by kernel_rfl) (hQ : ∀ c a w, Q (.panic c) (a.put oi.dst v) w → Q (.panic c) a w := by exact fun _ _ _ h => h) (hy : Yields P ops oi v a := by exact Or.inl ⟨by rfl, by intro w'; go_simp; with_reducible rfl⟩) (ha : a.put (some n) v = a' := by simp only [Act.put, sA, s0, s1, i64_w, i32_w]; rfl) : wpAnyLast P md ops Q S ds (fuel + 1) l a w := pure_ l' hi hN (any_of hT.out hc) hQ hy ha h
theorem laws_FnDecMean.pu {P : Program} {md : Region.Mode} {ops : Array Oper} {Q : Exit → Act → World → Prop} {S : World → Prop} {ds : List Nat} {T} (i : Nat) (n : Tmp) (l' : Array Bool) (hT : Aside0 (rtab md ops = T)) {oi : Oper} {a' : Act} {fuel : Nat} {l : Array Bool} {a : Act} {w : World} (h : wpAnyLast P md ops Q S ds fuel l' a' w) (hi : ops[i]? = some oi := by rfl) (hN : oi.dst = some n := by rfl) (hc : anyT T l.toList l'.toList i = true := by kernel_rfl) (hQ : ∀ c a w, Q (.panic c) (a.put oi.dst undef) w → Q (.panic c) a w := by exact fun _ _ _ h => h) (hy : Yields P ops oi undef a := by exact Or.inr ⟨by rfl, rfl⟩) (ha : a.put (some n) undef = a' := by simp only [Act.put, sA, s0, s1, i64_w, i32_w]; rfl) : wpAnyLast P md ops Q S ds (fuel + 1) l a w := pure_ l' hi hN (any_of hT.out hc) hQ hy ha h
theorem laws_FnDecMean.pt {P : Program} {md : Region.Mode} {ops : Array Oper} {Q : Exit → Act → World → Prop} {S : World → Prop} {ds : List Nat} {T} {B : List Nat} (i : Nat) (n : Tmp) (l' : Array Bool) {oi : Oper} (hi : ops[i]? = some oi) (hT : Aside0 (rtab md ops = T)) (hB : Aside0 (waitsOk T.2 B = true)) {v : Value} {a' : Act} {fuel : Nat} {l : Array Bool} {a : Act} {w : World} (hS : S w) (h : wpAnyLast P md ops Q S ds fuel l' a' w) (hy : YieldsIf P ops S oi v a) (hN : oi.dst = some n := by rfl) (hc : takeW T B ds l.toList l'.toList i = true := by kernel_rfl) (hQ : ∀ c a w, Q (.panic c) (a.put oi.dst v) w → Q (.panic c) a w := by exact fun _ _ _ h => h) (ha : a.put (some n) v = a' := by simp only [Act.put, sA, s0, s1, i64_w, i32_w]; rfl) : wpAnyLast P md ops Q S ds (fuel + 1) l a w := take_ l' hi hN (take_ofW hT.out hB.out hc) hQ hy hS ha h
theorem laws_FnDecMean.vR {p q : Prop} (x : q) (f : q → p := by intro x; (with_reducible repeat (first | apply Kd.R_alloc | apply Kd.R_drewN | apply Kd.R_drew)); exact x) : p := f x
theorem laws_FnDecMean.vB {p q : Prop} (x : q) (f : q → p := by intro x; (with_reducible repeat (first | refine blk_drewN ?_ _ | refine blk_drew ?_ | refine blk_alloc ?_ _)); exact x) : p := f x
theorem laws_FnDecMean.vW0 {p q : Prop} (x : q) (f : q → p := by intro x; repeat (first | (with_reducible first | exact x | apply below_alloc | apply pw_below_drewN | apply below_drew1) | exact x)) : p := f x
theorem laws_FnDecMean.vW1 {p q r0 : Prop} (x : q) (z0 : r0) (f : q → r0 → p := by intro x z0; repeat (first | (with_reducible first | exact x | apply below_alloc | apply pw_below_drewN | apply below_drew1 | refine below_set ?_ z0) | exact x)) : p := f x z0
theorem laws_FnDecMean.vW2 {p q r0 r1 : Prop} (x : q) (z0 : r0) (z1 : r1) (f : q → r0 → r1 → p := by intro x z0 z1; repeat (first | (with_reducible first | exact x | apply below_alloc | apply pw_below_drewN | apply below_drew1 | refine below_set ?_ z0 | refine below_set ?_ z1) | exact x)) : p := f x z0 z1
theorem laws_FnDecMean.vW3 {p q r0 r1 r2 : Prop} (x : q) (z0 : r0) (z1 : r1) (z2 : r2) (f : q → r0 → r1 → r2 → p := by intro x z0 z1 z2; repeat (first | (with_reducible first | exact x | apply below_alloc | apply pw_below_drewN | apply below_drew1 | refine below_set ?_ z0 | refine below_set ?_ z1 | refine below_set ?_ z2) | exact x)) : p := f x z0 z1 z2
theorem laws_FnDecMean.vW4 {p q r0 r1 r2 r3 : Prop} (x : q) (z0 : r0) (z1 : r1) (z2 : r2) (z3 : r3) (f : q → r0 → r1 → r2 → r3 → p := by intro x z0 z1 z2 z3; repeat (first | (with_reducible first | exact x | apply below_alloc | apply pw_below_drewN | apply below_drew1 | refine below_set ?_ z0 | refine below_set ?_ z1 | refine below_set ?_ z2 | refine below_set ?_ z3) | exact x)) : p := f x z0 z1 z2 z3
theorem laws_FnDecMean.vW5 {p q r0 r1 r2 r3 r4 : Prop} (x : q) (z0 : r0) (z1 : r1) (z2 : r2) (z3 : r3) (z4 : r4) (f : q → r0 → r1 → r2 → r3 → r4 → p := by intro x z0 z1 z2 z3 z4; repeat (first | (with_reducible first | exact x | apply below_alloc | apply pw_below_drewN | apply below_drew1 | refine below_set ?_ z0 | refine below_set ?_ z1 | refine below_set ?_ z2 | refine below_set ?_ z3 | refine below_set ?_ z4) | exact x)) : p := f x z0 z1 z2 z3 z4
theorem laws_FnDecMean.vW6 {p q r0 r1 r2 r3 r4 r5 : Prop} (x : q) (z0 : r0) (z1 : r1) (z2 : r2) (z3 : r3) (z4 : r4) (z5 : r5) (f : q → r0 → r1 → r2 → r3 → r4 → r5 → p := by intro x z0 z1 z2 z3 z4 z5; repeat (first | (with_reducible first | exact x | apply below_alloc | apply pw_below_drewN | apply below_drew1 | refine below_set ?_ z0 | refine below_set ?_ z1 | refine below_set ?_ z2 | refine below_set ?_ z3 | refine below_set ?_ z4 | refine below_set ?_ z5) | exact x)) : p := f x z0 z1 z2 z3 z4 z5
theorem laws_FnDecMean.vW7 {p q r0 r1 r2 r3 r4 r5 r6 : Prop} (x : q) (z0 : r0) (z1 : r1) (z2 : r2) (z3 : r3) (z4 : r4) (z5 : r5) (z6 : r6) (f : q → r0 → r1 → r2 → r3 → r4 → r5 → r6 → p := by intro x z0 z1 z2 z3 z4 z5 z6; repeat (first | (with_reducible first | exact x | apply below_alloc | apply pw_below_drewN | apply below_drew1 | refine below_set ?_ z0 | refine below_set ?_ z1 | refine below_set ?_ z2 | refine below_set ?_ z3 | refine below_set ?_ z4 | refine below_set ?_ z5 | refine below_set ?_ z6) | exact x)) : p := f x z0 z1 z2 z3 z4 z5 z6
theorem laws_FnDecMean.vC {w w' : World} {a : Addr} {v : Value} (hb : Below w.heap.size w w') (h : w.cell? a = some v) : w'.cell? a = some v := (hb.cell (World.block_lt_of_cell? _ _ h)).trans h
set_option maxHeartbeats 8000000 in
set_option maxRecDepth 100000 in
theorem laws_FnDecMean.calls (k : Nat) (A0 : Option Addr) (c0 : Nat) (l0 : List Int) (r : Bool) (w : World) (hr0 : Kd.C (Kd.int .u8) w A0 l0.length l0) (hc0 : l0.length ≤ c0) (h : laws_FnDecMean.f k l0 = some r) :
  Calls Try.prog 7 #[.slice A0 l0.length c0] w fun e w' => e = .returned (.bool r) ∧ Below w.heap.size w w' := by
 have hu25 := Try.underlying25
 have HR0 := Aside0.mk hr0
 have HC0 := Aside0.mk hc0; clear hr0 hc0
 have HB := Aside0.mk (Below.refl w.heap.size w)
 have H : (if (l0.length : Int) > 1048576 then (some true) else ((spec_DrawDecMean.f k l0).bind fun bt226 => ((impl_DecMean.f k bt226.1 bt226.2).bind fun bt230 => ((spec_DecMean.f k bt226.1 bt226.2).bind fun bt233 => (if (!(bt230.1 == bt233.1) || (!(bt230.2 == bt233.2))) = true then (some false) else (if (bt226.1.length : Int) > 0 then (if (bt226.1.length : Int) ≤ 100 then (if bt226.2 ≥ 0 then (laws_FnDecMean.j0 k bt226.1 bt226.2 (decide (bt226.2 ≤ 3)) bt230.1 bt230.2) else (laws_FnDecMean.j0 k bt226.1 bt226.2 false bt230.1 bt230.2)) else (laws_FnDecMean.j0 k bt226.1 bt226.2 false bt230.1 bt230.2)) else (laws_FnDecMean.j0 k bt226.1 bt226.2 false bt230.1 bt230.2))))))) = some r := h
 clear h
 by_cases c2 : (l0.length : Int) > 1048576
 ·rw [if_pos c2] at H
  have c2b0 : decide (1048576 < (l0.length : Int)) = true := decide_eq_true c2
  have c2b1 : decide (1048576 < l0.length) = true := decide_eq_true (by omega)
  clear c2
  obtain rfl := Option.some.inj H
  go_enter Try.func7, Try.ntmps7
  go_wp2
  go_ret
  exact ⟨by first | rfl | (simp [errW_none, errW_some] <;> rfl) | (simp [*, errW_none, errW_some] <;> rfl), by repeat (first | (with_reducible first | exact HB.out | apply below_alloc | apply pw_below_drewN | apply below_drew1) | exact HB.out)⟩
 ·rw [if_neg c2] at H
  have c2b0 : decide (1048576 < (l0.length : Int)) = false := decide_eq_false c2
  have c2b1 : decide (1048576 < l0.length) = false := decide_eq_false (by omega)
  clear c2
  replace H := Option.bind_eq_some_iff.mp H
  obtain ⟨⟨t226, t227⟩, A30, H⟩ := H
  replace H : ((impl_DecMean.f k t226 t227).bind fun bt230 => ((spec_DecMean.f k t226 t227).bind fun bt233 => (if (!(bt230.1 == bt233.1) || (!(bt230.2 == bt233.2))) = true then (some false) else (if (t226.length : Int) > 0 then (if (t226.length : Int) ≤ 100 then (if t227 ≥ 0 then (laws_FnDecMean.j0 k t226 t227 (decide (t227 ≤ 3)) bt230.1 bt230.2) else (laws_FnDecMean.j0 k t226 t227 false bt230.1 bt230.2)) else (laws_FnDecMean.j0 k t226 t227 false bt230.1 bt230.2)) else (laws_FnDecMean.j0 k t226 t227 false bt230.1 bt230.2))))) = some r := H
  have A3 := Aside0.mk A30; clear A30
  replace H := Option.bind_eq_some_iff.mp H
  obtain ⟨⟨t230, t231⟩, A40, H⟩ := H
  replace H : ((spec_DecMean.f k t226 t227).bind fun bt233 => (if (!(t230 == bt233.1) || (!(t231 == bt233.2))) = true then (some false) else (if (t226.length : Int) > 0 then (if (t226.length : Int) ≤ 100 then (if t227 ≥ 0 then (laws_FnDecMean.j0 k t226 t227 (decide (t227 ≤ 3)) t230 t231) else (laws_FnDecMean.j0 k t226 t227 false t230 t231)) else (laws_FnDecMean.j0 k t226 t227 false t230 t231)) else (laws_FnDecMean.j0 k t226 t227 false t230 t231)))) = some r := H
  have A4 := Aside0.mk A40; clear A40
  replace H := Option.bind_eq_some_iff.mp H
  obtain ⟨⟨t233, t234⟩, A50, H⟩ := H
  replace H : (if (!(t230 == t233) || (!(t231 == t234))) = true then (some false) else (if (t226.length : Int) > 0 then (if (t226.length : Int) ≤ 100 then (if t227 ≥ 0 then (laws_FnDecMean.j0 k t226 t227 (decide (t227 ≤ 3)) t230 t231) else (laws_FnDecMean.j0 k t226 t227 false t230 t231)) else (laws_FnDecMean.j0 k t226 t227 false t230 t231)) else (laws_FnDecMean.j0 k t226 t227 false t230 t231))) = some r := H
  have A5 := Aside0.mk A50; clear A50
  by_cases c6 : (!(t230 == t233) || (!(t231 == t234))) = true
  ·rw [if_pos c6] at H
   have c6b0 : (!(t230 == t233) || (!(t231 == t234))) = true := c6
   clear c6
   obtain rfl := Option.some.inj H
   go_enter Try.func7, Try.ntmps7
   try go_wp2_with (first | ((with_reducible refine gate_callee (f := 28) rfl ?_); refine goesL_ (some 18) rfl rfl Try.func28 (by kernel_rfl) rfl #[.slice A0 l0.length c0] rfl (by (try simp only [List.map_toArray, List.map_cons, List.map_nil]); first | done | rfl | (simp only [List.length_drop, List.length_take]; rfl)) ?_; (with_reducible refine (spec_DrawDecMean.calls k _ _ l0 t226 t227 _ ?side1 ?side2 A3.out).mono ?_); (case side1 => repeat (first | exact HR0.out | (with_reducible refine Kd.C_alloc ?_ _) | (with_reducible refine Kd.C_drewN ?_ _) | (with_reducible refine Kd.C_drew ?_))); (case side2 => exact HC0.out); rintro e w7 ⟨v228, rfl, ho0, hb⟩; refine ⟨_, rfl, ?_⟩; have n0_ := Aside0.mk (Kd.R_lower ho0 (below_size (vW0 HB.out))); have n1_ := Aside0.mk (below_step (vW0 HB.out) hb); clear HB; have HO229 := n0_; have HB := n1_; clear n0_ n1_; (try clear hb); (try clear hb2); (try clear hk); (try clear hi); (try clear ho0); obtain ⟨Ao8, co8, eo8⟩ := Kd.R_slice HO229.out; subst eo8) | ((with_reducible refine gate_callee (f := 18) rfl ?_); refine goesL_ (some 23) rfl rfl Try.func18 (by kernel_rfl) rfl #[.slice Ao8 t226.length co8, .int .i64 t227] rfl (by (try simp only [List.map_toArray, List.map_cons, List.map_nil]); first | done | rfl | (simp only [List.length_drop, List.length_take]; rfl)) ?_; (with_reducible refine (impl_DecMean.calls k _ _ t226 t227 t230 t231 _ ?side1 ?side2 A4.out).mono ?_); (case side1 => repeat (first | exact (Kd.R_reads' HO229.out).2.2 | (with_reducible refine Kd.C_alloc ?_ _) | (with_reducible refine Kd.C_drewN ?_ _) | (with_reducible refine Kd.C_drew ?_))); (case side2 => exact (Kd.R_reads' HO229.out).2.1); rintro e w9 ⟨rfl, hb⟩; refine ⟨_, rfl, ?_⟩; have n0_ := Aside0.mk (Kd.R_below (vR HO229.out) hb); have n1_ := Aside0.mk (below_step (vW0 HB.out) hb); clear HO229; clear HB; have HO229 := n0_; have HB := n1_; clear n0_ n1_; (try clear hb); (try clear hb2); (try clear hk); (try clear hi)) | ((with_reducible refine gate_dst (N := 5) rfl ?_); (try (refine gate_guard (by rfl) ?_; dsimp only)); refine box_event ?hg (N := 5) ?hd (cs := #[.int .i64 0, .int .i64 0]) (t := 25) ?hr ?_; (case hd => rfl); (case hg => rfl); (case hr => first | (go_simp; done) | (go_simp; rfl)); intro gb232 hg w10 hbox hb; have n0_ := Aside0.mk (Kd.R_below (Kd.R_elderB (vR HO229.out) gb232 (Nat.le_of_eq hg.symm)) hb); have n1_ := Aside0.mk (below_step (vW0 HB.out) hb); have n2_ := Aside0.mk (hbox); have n3_ := Aside0.mk ((by rw [hg]; exact (below_size (vW0 HB.out)) : w.heap.size ≤ gb232)); have n4_ := Aside0.mk ((by rw [hg]; exact (below_size (vW0 HB.out)) : w.heap.size ≤ gb232)); clear HO229; clear HB; have HO229 := n0_; have HB := n1_; have BK232 := n2_; have GW232 := n3_; have GE232 := n4_; clear n0_ n1_ n2_ n3_ n4_; clear hb hbox hg; have hcz11_0 : w10.cell? ⟨gb232, 0, none⟩ = some (.int .i64 0) := (blk_cell BK232.out 0).trans rfl; have hcz11_1 : w10.cell? ⟨gb232, 1, none⟩ = some (.int .i64 0) := (blk_cell BK232.out 1).trans rfl; have hfz11_0 := blk_frozen BK232.out 0; have hfz11_1 := blk_frozen BK232.out 1))
   have n0_ : Aside0 (Kd.R k25 25 ((w10.setCell ⟨gb232, 0, none⟩ (.int .i64 t230)).setCell ⟨gb232, 1, none⟩ (.int .i64 t231)) w.heap.size (fun k_ => k_ ≠ gb232) (.slice Ao8 t226.length co8) t226) := ⟨by (with_reducible repeat (first | apply Kd.R_alloc | apply Kd.R_drewN | apply Kd.R_drew)); exact Kd.R_mono (Kd.R_far (p := ⟨gb232, 1, none⟩) (Kd.R_far (p := ⟨gb232, 0, none⟩) (Kd.R_mono HO229.out (fun k_ hk => (⟨hk, hk.2⟩ : _ ∧ k_ ≠ gb232))) (fun _ hk => hk.2) (.int .i64 t230)) (fun _ hk => hk.2) (.int .i64 t231)) (fun _ hk => hk.1.2)⟩
   have n1_ : Aside0 (((w10.setCell ⟨gb232, 0, none⟩ (.int .i64 t230)).setCell ⟨gb232, 1, none⟩ (.int .i64 t231)).heap[gb232]? = some (.cells #[.int .i64 t230, .int .i64 t231] 25 (0, 0))) := ⟨by (with_reducible repeat (first | refine blk_drewN ?_ _ | refine blk_drew ?_ | refine blk_alloc ?_ _)); refine blk_put (cs := #[.int .i64 t230, .int .i64 0]) ?_ 1 _ rfl; (with_reducible repeat (first | refine blk_drewN ?_ _ | refine blk_drew ?_ | refine blk_alloc ?_ _)); refine blk_put (cs := #[.int .i64 0, .int .i64 0]) ?_ 0 _ rfl; (with_reducible repeat (first | refine blk_drewN ?_ _ | refine blk_drew ?_ | refine blk_alloc ?_ _)); exact BK232.out⟩
   have n2_ : Aside0 (Below w.heap.size w ((w10.setCell ⟨gb232, 0, none⟩ (.int .i64 t230)).setCell ⟨gb232, 1, none⟩ (.int .i64 t231))) := ⟨by repeat (first | (with_reducible first | exact HB.out | apply below_alloc | apply pw_below_drewN | apply below_drew1 | refine below_set ?_ GE232.out) | exact HB.out)⟩
   (try clear HO229)
   (try clear BK232)
   (try clear HB)
   generalize ((w10.setCell ⟨gb232, 0, none⟩ (.int .i64 t230)).setCell ⟨gb232, 1, none⟩ (.int .i64 t231)) = w12 at n0_ n1_ n2_ ⊢
   have HO229 := n0_; have BK232 := n1_; have HB := n2_; clear n0_ n1_ n2_; have n0_ := Aside0.mk (Kd.R_drew HO229.out); have n1_ := Aside0.mk (blk_drew BK232.out); have n2_ := Aside0.mk (below_drew1 HB.out); clear HO229; clear BK232; clear HB; have HO229 := n0_; have BK232 := n1_; have HB := n2_; clear n0_ n1_ n2_
   refine start_ (n := 5) (S := fun w' => w'.cell? ⟨gb232, 0, none⟩ = some (.int .i64 t230) ∧ w'.cell? ⟨gb232, 1, none⟩ = some (.int .i64 t231)) (ds := []) m0 (by kernel_rfl) rfl rfl ⟨(blk_cell BK232.out 0).trans rfl, (blk_cell BK232.out 1).trans rfl⟩ (fun hHeld => ?_)
   generalize w12.drew = w13 at HO229 BK232 HB hHeld ⊢
   refine pure_ (i := 1) (N := some 25) (v := ?_) (a' := ?_) m1 rfl rfl (by kernel_rfl) (fun _ _ _ h => h) (Or.inl ⟨by rfl, ?_⟩) ?_ ?_; rotate_left; (intro w'; go_simp; with_reducible rfl); rotate_left; (simp only [Act.put, sA, s0, s1, i64_w, i32_w]; rfl)
   refine pure_ (i := 2) (N := some 26) (v := ?_) (a' := ?_) m2 rfl rfl (by kernel_rfl) (fun _ _ _ h => h) (Or.inl ⟨by rfl, ?_⟩) ?_ ?_; rotate_left; (intro w'; go_simp; with_reducible rfl); rotate_left; (simp only [Act.put, sA, s0, s1, i64_w, i32_w]; rfl)
   refine take_ (i := 0) (N := some 24) (v := ?_) (a' := ?_) m3 rfl rfl (by kernel_rfl) (fun _ _ _ h => h) (Or.inl ⟨by rfl, ?_⟩) hHeld ?_ ?_; rotate_left; (rintro w' ⟨s0, s1⟩; go_simp; with_reducible rfl); rotate_left; (simp only [Act.put, sA, s0, s1, i64_w, i32_w]; rfl)
   refine one_ (i := 3) (N := some 27) m4 rfl rfl (by kernel_rfl) (by decide) (fun K hK => ?_)
   refine goes_ Try.func16 (by kernel_rfl) rfl #[.slice Ao8 t226.length co8, .int .i64 t227] (by rfl) rfl rfl (by (try simp only [List.map_toArray, List.map_cons, List.map_nil]); first | done | rfl | (simp only [List.length_drop, List.length_take]; rfl)) ?_
   with_reducible refine (spec_DecMean.calls k _ _ t226 t227 t233 t234 _ ?side1 ?side2 A5.out).mono ?_
   (case side1 => repeat (first | exact (Kd.R_reads' HO229.out).2.2 | (with_reducible refine Kd.C_alloc ?_ _) | (with_reducible refine Kd.C_drewN ?_ _) | (with_reducible refine Kd.C_drew ?_)))
   (case side2 => exact (Kd.R_reads' HO229.out).2.1)
   rintro e w14 ⟨rfl, hb⟩
   refine ⟨_, rfl, ?_⟩
   have n0_ := Aside0.mk (Kd.R_below (vR HO229.out) hb); have n1_ := Aside0.mk (blk_below (g := gb232) (o := .cells #[.int .i64 t230, .int .i64 t231] 25 (0, 0)) (vB BK232.out) hb); have n2_ := Aside0.mk (below_step (vW1 HB.out GE232.out) hb); clear HO229; clear BK232; clear HB; have HO229 := n0_; have BK232 := n1_; have HB := n2_; clear n0_ n1_ n2_
   (try clear hb)
   (try clear hb2)
   (try clear hk)
   (try clear hi)
   refine hK.out _ _ ⟨(blk_cell BK232.out 0).trans rfl, (blk_cell BK232.out 1).trans rfl⟩ (fun hHeld => ?_)
   clear hK K
   refine norm_ (a' := ?_) ?_ ?_
   rotate_left
   ·show Act.put _ (some 27) _ = _
    simp only [Act.put, sA, s0, s1, i64_w, i32_w]
    rfl
   refine pure_ (i := 4) (N := some 28) (v := ?_) (a' := ?_) m5 rfl rfl (by kernel_rfl) (fun _ _ _ h => h) (Or.inl ⟨by rfl, ?_⟩) ?_ ?_; rotate_left; (intro w'; go_simp; with_reducible rfl); rotate_left; (simp only [Act.put, sA, s0, s1, i64_w, i32_w]; rfl)
   refine done_ (by kernel_rfl) ?_
   try go_wp2
   go_ret
   exact ⟨by first | rfl | (simp [errW_none, errW_some] <;> rfl) | (simp [*, errW_none, errW_some] <;> rfl), by repeat (first | (with_reducible first | exact HB.out | apply below_alloc | apply pw_below_drewN | apply below_drew1 | refine below_set ?_ GE232.out) | exact HB.out)⟩
  ·rw [if_neg c6] at H
   have c6b0 : (!(t230 == t233) || (!(t231 == t234))) = false := by simpa using c6
   clear c6
   have HC15 := Aside0.mk H; clear H
   go_enter Try.func7, Try.ntmps7
   try go_wp2_with (first | ((with_reducible refine gate_callee (f := 28) rfl ?_); refine goesL_ (some 18) rfl rfl Try.func28 (by kernel_rfl) rfl #[.slice A0 l0.length c0] rfl (by (try simp only [List.map_toArray, List.map_cons, List.map_nil]); first | done | rfl | (simp only [List.length_drop, List.length_take]; rfl)) ?_; (with_reducible refine (spec_DrawDecMean.calls k _ _ l0 t226 t227 _ ?side1 ?side2 A3.out).mono ?_); (case side1 => repeat (first | exact HR0.out | (with_reducible refine Kd.C_alloc ?_ _) | (with_reducible refine Kd.C_drewN ?_ _) | (with_reducible refine Kd.C_drew ?_))); (case side2 => exact HC0.out); rintro e w16 ⟨v228, rfl, ho0, hb⟩; refine ⟨_, rfl, ?_⟩; have n0_ := Aside0.mk (Kd.R_lower ho0 (below_size (vW0 HB.out))); have n1_ := Aside0.mk (below_step (vW0 HB.out) hb); clear HB; have HO229 := n0_; have HB := n1_; clear n0_ n1_; (try clear hb); (try clear hb2); (try clear hk); (try clear hi); (try clear ho0); obtain ⟨Ao17, co17, eo17⟩ := Kd.R_slice HO229.out; subst eo17) | ((with_reducible refine gate_callee (f := 18) rfl ?_); refine goesL_ (some 23) rfl rfl Try.func18 (by kernel_rfl) rfl #[.slice Ao17 t226.length co17, .int .i64 t227] rfl (by (try simp only [List.map_toArray, List.map_cons, List.map_nil]); first | done | rfl | (simp only [List.length_drop, List.length_take]; rfl)) ?_; (with_reducible refine (impl_DecMean.calls k _ _ t226 t227 t230 t231 _ ?side1 ?side2 A4.out).mono ?_); (case side1 => repeat (first | exact (Kd.R_reads' HO229.out).2.2 | (with_reducible refine Kd.C_alloc ?_ _) | (with_reducible refine Kd.C_drewN ?_ _) | (with_reducible refine Kd.C_drew ?_))); (case side2 => exact (Kd.R_reads' HO229.out).2.1); rintro e w18 ⟨rfl, hb⟩; refine ⟨_, rfl, ?_⟩; have n0_ := Aside0.mk (Kd.R_below (vR HO229.out) hb); have n1_ := Aside0.mk (below_step (vW0 HB.out) hb); clear HO229; clear HB; have HO229 := n0_; have HB := n1_; clear n0_ n1_; (try clear hb); (try clear hb2); (try clear hk); (try clear hi)) | ((with_reducible refine gate_dst (N := 5) rfl ?_); (try (refine gate_guard (by rfl) ?_; dsimp only)); refine box_event ?hg (N := 5) ?hd (cs := #[.int .i64 0, .int .i64 0]) (t := 25) ?hr ?_; (case hd => rfl); (case hg => rfl); (case hr => first | (go_simp; done) | (go_simp; rfl)); intro gb232 hg w19 hbox hb; have n0_ := Aside0.mk (Kd.R_below (Kd.R_elderB (vR HO229.out) gb232 (Nat.le_of_eq hg.symm)) hb); have n1_ := Aside0.mk (below_step (vW0 HB.out) hb); have n2_ := Aside0.mk (hbox); have n3_ := Aside0.mk ((by rw [hg]; exact (below_size (vW0 HB.out)) : w.heap.size ≤ gb232)); have n4_ := Aside0.mk ((by rw [hg]; exact (below_size (vW0 HB.out)) : w.heap.size ≤ gb232)); clear HO229; clear HB; have HO229 := n0_; have HB := n1_; have BK232 := n2_; have GW232 := n3_; have GE232 := n4_; clear n0_ n1_ n2_ n3_ n4_; clear hb hbox hg; have hcz20_0 : w19.cell? ⟨gb232, 0, none⟩ = some (.int .i64 0) := (blk_cell BK232.out 0).trans rfl; have hcz20_1 : w19.cell? ⟨gb232, 1, none⟩ = some (.int .i64 0) := (blk_cell BK232.out 1).trans rfl; have hfz20_0 := blk_frozen BK232.out 0; have hfz20_1 := blk_frozen BK232.out 1))
   have n0_ : Aside0 (Kd.R k25 25 ((w19.setCell ⟨gb232, 0, none⟩ (.int .i64 t230)).setCell ⟨gb232, 1, none⟩ (.int .i64 t231)) w.heap.size (fun k_ => k_ ≠ gb232) (.slice Ao17 t226.length co17) t226) := ⟨by (with_reducible repeat (first | apply Kd.R_alloc | apply Kd.R_drewN | apply Kd.R_drew)); exact Kd.R_mono (Kd.R_far (p := ⟨gb232, 1, none⟩) (Kd.R_far (p := ⟨gb232, 0, none⟩) (Kd.R_mono HO229.out (fun k_ hk => (⟨hk, hk.2⟩ : _ ∧ k_ ≠ gb232))) (fun _ hk => hk.2) (.int .i64 t230)) (fun _ hk => hk.2) (.int .i64 t231)) (fun _ hk => hk.1.2)⟩
   have n1_ : Aside0 (((w19.setCell ⟨gb232, 0, none⟩ (.int .i64 t230)).setCell ⟨gb232, 1, none⟩ (.int .i64 t231)).heap[gb232]? = some (.cells #[.int .i64 t230, .int .i64 t231] 25 (0, 0))) := ⟨by (with_reducible repeat (first | refine blk_drewN ?_ _ | refine blk_drew ?_ | refine blk_alloc ?_ _)); refine blk_put (cs := #[.int .i64 t230, .int .i64 0]) ?_ 1 _ rfl; (with_reducible repeat (first | refine blk_drewN ?_ _ | refine blk_drew ?_ | refine blk_alloc ?_ _)); refine blk_put (cs := #[.int .i64 0, .int .i64 0]) ?_ 0 _ rfl; (with_reducible repeat (first | refine blk_drewN ?_ _ | refine blk_drew ?_ | refine blk_alloc ?_ _)); exact BK232.out⟩
   have n2_ : Aside0 (Below w.heap.size w ((w19.setCell ⟨gb232, 0, none⟩ (.int .i64 t230)).setCell ⟨gb232, 1, none⟩ (.int .i64 t231))) := ⟨by repeat (first | (with_reducible first | exact HB.out | apply below_alloc | apply pw_below_drewN | apply below_drew1 | refine below_set ?_ GE232.out) | exact HB.out)⟩
   (try clear HO229)
   (try clear BK232)
   (try clear HB)
   generalize ((w19.setCell ⟨gb232, 0, none⟩ (.int .i64 t230)).setCell ⟨gb232, 1, none⟩ (.int .i64 t231)) = w21 at n0_ n1_ n2_ ⊢
   have HO229 := n0_; have BK232 := n1_; have HB := n2_; clear n0_ n1_ n2_; have n0_ := Aside0.mk (Kd.R_drew HO229.out); have n1_ := Aside0.mk (blk_drew BK232.out); have n2_ := Aside0.mk (below_drew1 HB.out); clear HO229; clear BK232; clear HB; have HO229 := n0_; have BK232 := n1_; have HB := n2_; clear n0_ n1_ n2_
   refine start_ (n := 5) (S := fun w' => w'.cell? ⟨gb232, 0, none⟩ = some (.int .i64 t230) ∧ w'.cell? ⟨gb232, 1, none⟩ = some (.int .i64 t231)) (ds := []) m0 (by kernel_rfl) rfl rfl ⟨(blk_cell BK232.out 0).trans rfl, (blk_cell BK232.out 1).trans rfl⟩ (fun hHeld => ?_)
   generalize w21.drew = w22 at HO229 BK232 HB hHeld ⊢
   refine pure_ (i := 1) (N := some 25) (v := ?_) (a' := ?_) m1 rfl rfl (by kernel_rfl) (fun _ _ _ h => h) (Or.inl ⟨by rfl, ?_⟩) ?_ ?_; rotate_left; (intro w'; go_simp; with_reducible rfl); rotate_left; (simp only [Act.put, sA, s0, s1, i64_w, i32_w]; rfl)
   refine pure_ (i := 2) (N := some 26) (v := ?_) (a' := ?_) m2 rfl rfl (by kernel_rfl) (fun _ _ _ h => h) (Or.inl ⟨by rfl, ?_⟩) ?_ ?_; rotate_left; (intro w'; go_simp; with_reducible rfl); rotate_left; (simp only [Act.put, sA, s0, s1, i64_w, i32_w]; rfl)
   refine take_ (i := 0) (N := some 24) (v := ?_) (a' := ?_) m3 rfl rfl (by kernel_rfl) (fun _ _ _ h => h) (Or.inl ⟨by rfl, ?_⟩) hHeld ?_ ?_; rotate_left; (rintro w' ⟨s0, s1⟩; go_simp; with_reducible rfl); rotate_left; (simp only [Act.put, sA, s0, s1, i64_w, i32_w]; rfl)
   refine one_ (i := 3) (N := some 27) m4 rfl rfl (by kernel_rfl) (by decide) (fun K hK => ?_)
   refine goes_ Try.func16 (by kernel_rfl) rfl #[.slice Ao17 t226.length co17, .int .i64 t227] (by rfl) rfl rfl (by (try simp only [List.map_toArray, List.map_cons, List.map_nil]); first | done | rfl | (simp only [List.length_drop, List.length_take]; rfl)) ?_
   with_reducible refine (spec_DecMean.calls k _ _ t226 t227 t233 t234 _ ?side1 ?side2 A5.out).mono ?_
   (case side1 => repeat (first | exact (Kd.R_reads' HO229.out).2.2 | (with_reducible refine Kd.C_alloc ?_ _) | (with_reducible refine Kd.C_drewN ?_ _) | (with_reducible refine Kd.C_drew ?_)))
   (case side2 => exact (Kd.R_reads' HO229.out).2.1)
   rintro e w23 ⟨rfl, hb⟩
   refine ⟨_, rfl, ?_⟩
   have n0_ := Aside0.mk (Kd.R_below (vR HO229.out) hb); have n1_ := Aside0.mk (blk_below (g := gb232) (o := .cells #[.int .i64 t230, .int .i64 t231] 25 (0, 0)) (vB BK232.out) hb); have n2_ := Aside0.mk (below_step (vW1 HB.out GE232.out) hb); clear HO229; clear BK232; clear HB; have HO229 := n0_; have BK232 := n1_; have HB := n2_; clear n0_ n1_ n2_
   (try clear hb)
   (try clear hb2)
   (try clear hk)
   (try clear hi)
   refine hK.out _ _ ⟨(blk_cell BK232.out 0).trans rfl, (blk_cell BK232.out 1).trans rfl⟩ (fun hHeld => ?_)
   clear hK K
   refine norm_ (a' := ?_) ?_ ?_
   rotate_left
   ·show Act.put _ (some 27) _ = _
    simp only [Act.put, sA, s0, s1, i64_w, i32_w]
    rfl
   refine pure_ (i := 4) (N := some 28) (v := ?_) (a' := ?_) m5 rfl rfl (by kernel_rfl) (fun _ _ _ h => h) (Or.inl ⟨by rfl, ?_⟩) ?_ ?_; rotate_left; (intro w'; go_simp; with_reducible rfl); rotate_left; (simp only [Act.put, sA, s0, s1, i64_w, i32_w]; rfl)
   refine done_ (by kernel_rfl) ?_
   go_upto_region 7 with (fail)
   go_cut [6] (fun v6 wc => ∃ (kq : Nat) (x6_14 : Bool), v6 = .bool x6_14 ∧ Aside0 (laws_FnDecMean.j0 kq t226 t227 x6_14 t230 t231 = some r) ∧ Aside0 (kq ≤ k) ∧ Aside0 (Kd.R k25 25 wc w.heap.size (fun k_ => k_ ≠ gb232) (.slice Ao17 t226.length co17) t226) ∧ Aside0 (wc.heap[gb232]? = some (.cells #[.int .i64 t230, .int .i64 t231] 25 (0, 0))) ∧ Aside0 (Below w.heap.size w wc))
   case first =>
    have H := HC15.out; clear HC15
    by_cases c24 : (t226.length : Int) > 0
    ·rw [if_pos c24] at H
     have c24b0 : decide (0 < (t226.length : Int)) = true := decide_eq_true c24
     have c24b1 : decide (0 < t226.length) = true := decide_eq_true (by omega)
     clear c24
     (first | rw [c24b0] | (simp only [i64_w, i32_w]; rw [c24b0]) | skip)
     by_cases c25 : (t226.length : Int) ≤ 100
     ·rw [if_pos c25] at H
      have c25b0 : decide ((t226.length : Int) ≤ 100) = true := decide_eq_true c25
      have c25b1 : decide (t226.length ≤ 100) = true := decide_eq_true (by omega)
      clear c25
      by_cases c26 : t227 ≥ 0
      ·rw [if_pos c26] at H
       have c26b0 : decide (0 ≤ t227) = true := decide_eq_true c26
       clear c26
       have H' := Aside0.mk H
       clear H
       go_wp2
       go_meet
       case rel => exact ⟨_, (decide (t227 ≤ 3)), (by first | rfl | (simp; done) | (simp [*]; done)), H', ⟨by first | omega | exact Nat.le_refl _⟩, ⟨by (with_reducible repeat (first | apply Kd.R_alloc | apply Kd.R_drewN | apply Kd.R_drew)); exact HO229.out⟩, ⟨by (with_reducible repeat (first | refine blk_drewN ?_ _ | refine blk_drew ?_ | refine blk_alloc ?_ _)); exact BK232.out⟩, ⟨by repeat (first | (with_reducible first | exact HB.out | apply below_alloc | apply pw_below_drewN | apply below_drew1 | refine below_set ?_ GE232.out) | exact HB.out)⟩⟩
      ·rw [if_neg c26] at H
       have c26b0 : decide (0 ≤ t227) = false := decide_eq_false c26
       clear c26
       have H' := Aside0.mk H
       clear H
       go_wp2
       go_meet
       case rel => exact ⟨_, (false), (by first | rfl | (simp; done) | (simp [*]; done)), H', ⟨by first | omega | exact Nat.le_refl _⟩, ⟨by (with_reducible repeat (first | apply Kd.R_alloc | apply Kd.R_drewN | apply Kd.R_drew)); exact HO229.out⟩, ⟨by (with_reducible repeat (first | refine blk_drewN ?_ _ | refine blk_drew ?_ | refine blk_alloc ?_ _)); exact BK232.out⟩, ⟨by repeat (first | (with_reducible first | exact HB.out | apply below_alloc | apply pw_below_drewN | apply below_drew1 | refine below_set ?_ GE232.out) | exact HB.out)⟩⟩
     ·rw [if_neg c25] at H
      have c25b0 : decide ((t226.length : Int) ≤ 100) = false := decide_eq_false c25
      have c25b1 : decide (t226.length ≤ 100) = false := decide_eq_false (by omega)
      clear c25
      have H' := Aside0.mk H
      clear H
      go_wp2
      go_meet
      case rel => exact ⟨_, (false), (by first | rfl | (simp; done) | (simp [*]; done)), H', ⟨by first | omega | exact Nat.le_refl _⟩, ⟨by (with_reducible repeat (first | apply Kd.R_alloc | apply Kd.R_drewN | apply Kd.R_drew)); exact HO229.out⟩, ⟨by (with_reducible repeat (first | refine blk_drewN ?_ _ | refine blk_drew ?_ | refine blk_alloc ?_ _)); exact BK232.out⟩, ⟨by repeat (first | (with_reducible first | exact HB.out | apply below_alloc | apply pw_below_drewN | apply below_drew1 | refine below_set ?_ GE232.out) | exact HB.out)⟩⟩
    ·rw [if_neg c24] at H
     have c24b0 : decide (0 < (t226.length : Int)) = false := decide_eq_false c24
     have c24b1 : decide (0 < t226.length) = false := decide_eq_false (by omega)
     clear c24
     (first | rw [c24b0] | (simp only [i64_w, i32_w]; rw [c24b0]) | skip)
     have H' := Aside0.mk H
     clear H
     go_wp2
     go_meet
     case rel => exact ⟨_, (false), (by first | rfl | (simp; done) | (simp [*]; done)), H', ⟨by first | omega | exact Nat.le_refl _⟩, ⟨by (with_reducible repeat (first | apply Kd.R_alloc | apply Kd.R_drewN | apply Kd.R_drew)); exact HO229.out⟩, ⟨by (with_reducible repeat (first | refine blk_drewN ?_ _ | refine blk_drew ?_ | refine blk_alloc ?_ _)); exact BK232.out⟩, ⟨by repeat (first | (with_reducible first | exact HB.out | apply below_alloc | apply pw_below_drewN | apply below_drew1 | refine below_set ?_ GE232.out) | exact HB.out)⟩⟩
   case rest =>
    clear HC15
    try clear c1
    try clear c2
    try clear c2b0
    try clear c2b1
    try clear p2
    try clear c6
    try clear c6b0
    try clear c7
    try clear c16
    try clear c18
    try clear c24
    try clear c24b0
    try clear c24b1
    try clear c25
    try clear c25b0
    try clear c25b1
    try clear c26
    try clear c26b0
    try clear hcz11_0
    try clear hcz11_1
    try clear hcz20_0
    try clear hcz20_1
    try clear hfz11_0
    try clear hfz11_1
    try clear hfz20_0
    try clear hfz20_1
    obtain ⟨kq, x6_14, rfl, HA, HJ14, HO_3, BK232, HB⟩ := hcut
    cases kq with
    | zero => exact absurd HA.out (by simp [laws_FnDecMean.j0])
    | succ kj14 =>
     have H := HA.out; clear HA
     simp only [laws_FnDecMean.j0] at H
     obtain ⟨y235, hy235⟩ : ∃ y_ : List (S25), y_ = (([] : List (S25))) := ⟨_, rfl⟩
     replace H : (laws_FnDecMean.l0 kj14 t226 t227 x6_14 y235 0 t230 t231) = some r := by first | (rw [hy235]; with_reducible exact H) | (have H2_ := (Option.bind_some _ _).symm.trans H; rw [hy235]; with_reducible exact H2_) | (have H2_ := (Option.bind_some _ _).symm.trans H; with_reducible exact H2_) | with_reducible exact H | (rw [hy235]; exact H) | exact H
     have Ny235 := Aside0.mk hy235; clear hy235
     have H' := Aside0.mk H
     clear H
     go_wp2_with (first | ((with_reducible refine gate_dst (N := 45) rfl ?_); (try (refine gate_guard (by rfl) ?_; dsimp only)); refine Kd.R_lit k25 _ 25 ?hg (N := 45) ?hd (xs := ([] : List (S25))) (inner := []) (ok := fun _ => True) (okp := fun _ => True) ?hr ?hp (fun _ hk => hk) trivial (Below.refl _ _) (Nat.le_refl _) (by simp) ?_; (case hd => rfl); (case hg => rfl); (case hr => first | (go_simp; done) | (go_simp; rfl)); (case hp => exact (Reps.none _ _)); intro v236 w27 ho28 hb hg_ hnew_; clear hg_ hnew_; (first | rw [← Ny235.out] at ho28 | (simp only [Int.reduceToNat] at ho28; rw [← Ny235.out] at ho28)); have n0_ := Aside0.mk (Kd.R_elder' (vR HO_3.out) (Kd.R_base ho28) hb); have n1_ := Aside0.mk (Kd.R_lower (Kd.R_newB (Kd.R_new' ho28 (Kd.R_lt (vR HO_3.out))) (g := gb232) (o := .cells #[.int .i64 t230, .int .i64 t231] 25 (0, 0)) (vB BK232.out)) (below_size (vW1 HB.out GE232.out))); have n2_ := Aside0.mk (blk_below (g := gb232) (o := .cells #[.int .i64 t230, .int .i64 t231] 25 (0, 0)) (vB BK232.out) hb); have n3_ := Aside0.mk (below_step (vW1 HB.out GE232.out) hb); clear HO_3; clear BK232; clear HB; have HO_3 := n0_; have HO237 := n1_; have BK232 := n2_; have HB := n3_; clear n0_ n1_ n2_ n3_; clear hb ho28))
     go_loopg [6, 7, 8] kj14 (fun kq v6 v7 v8 w' => ∃ (x6_2 : Bool) (x7_2 : List (S25)) (x8_2 : Int), v6 = .bool x6_2 ∧ v8 = .int .i64 x8_2 ∧ Aside0 (laws_FnDecMean.l0 kq t226 t227 x6_2 x7_2 x8_2 t230 t231 = some r) ∧ Aside0 (kq ≤ kj14) ∧ Aside0 (Kd.R k25 25 w' w.heap.size (fun k_ => some k_ ≠ (v7 : Value).ownBlock ∧ k_ ≠ gb232) (.slice Ao17 t226.length co17) t226) ∧ Aside0 (Kd.R k25 25 w' w.heap.size (fun k_ => some k_ ≠ ((.slice Ao17 t226.length co17) : Value).ownBlock ∧ k_ ≠ gb232) v7 x7_2) ∧ Aside0 (w'.heap[gb232]? = some (.cells #[.int .i64 t230, .int .i64 t231] 25 (0, 0))) ∧ Aside0 (Below w.heap.size w w'))
     case atStart => exact ⟨(x6_14), (y235), (0), (by first | rfl | (simp; done) | (simp [*]; done)), (by first | rfl | (simp; done) | (simp [*]; done)), H', ⟨Nat.le_refl _⟩, ⟨by (with_reducible repeat (first | apply Kd.R_alloc | apply Kd.R_drewN | apply Kd.R_drew)); exact Kd.R_mono HO_3.out (fun _ hk => ⟨hk.2, hk.1⟩)⟩, ⟨by (with_reducible repeat (first | apply Kd.R_alloc | apply Kd.R_drewN | apply Kd.R_drew)); exact Kd.R_mono HO237.out (fun _ hk => ⟨hk.1.2, hk.2⟩)⟩, ⟨by (with_reducible repeat (first | refine blk_drewN ?_ _ | refine blk_drew ?_ | refine blk_alloc ?_ _)); exact BK232.out⟩, ⟨by repeat (first | (with_reducible first | exact HB.out | apply below_alloc | apply pw_below_drewN | apply below_drew1 | refine below_set ?_ GE232.out) | exact HB.out)⟩⟩
     case round =>
      clear H'
      try clear c1
      try clear c2
      try clear c2b0
      try clear c2b1
      try clear p2
      try clear c6
      try clear c6b0
      try clear c7
      try clear c16
      try clear c18
      try clear c24
      try clear c24b0
      try clear c24b1
      try clear c25
      try clear c25b0
      try clear c25b1
      try clear c26
      try clear c26b0
      try clear c28
      try clear hcz11_0
      try clear hcz11_1
      try clear hcz20_0
      try clear hcz20_1
      try clear hfz11_0
      try clear hfz11_1
      try clear hfz20_0
      try clear hfz20_1
      try clear p2
      obtain ⟨x6_2, x7_2, x8_2, rfl, rfl, HA, HK2, HO_3, HO_7, BK232, HB⟩ := hrel
      cases gk with
      | zero => exact absurd HA.out (by simp [laws_FnDecMean.l0])
      | succ k2 =>
       have H := HA.out; clear HA
       simp only [laws_FnDecMean.l0] at H
       by_cases c29 : x8_2 < (t226.length : Int)
       ·rw [if_pos c29] at H
        have c29b0 : decide (x8_2 < (t226.length : Int)) = true := decide_eq_true c29
        clear c29
        by_cases c30 : x6_2 = true
        ·subst c30
         have H1 : (if 0 ≤ x8_2 then ((impl_DecOk.f k2 ((rd_T25 t226 x8_2).f0) ((rd_T25 t226 x8_2).f1)).bind fun t239 => (if 0 ≤ (wrap64 ((wrap64 ((t226.length : Int) - 1)) - x8_2)) then (if (wrap64 ((wrap64 ((t226.length : Int) - 1)) - x8_2)) < (t226.length : Int) then (if x7_2.length < 8796093022208 then (laws_FnDecMean.l0 k2 t226 t227 t239 (x7_2 ++ [(⟨(rd_T25 t226 (wrap64 ((wrap64 ((t226.length : Int) - 1)) - x8_2))).f0, (rd_T25 t226 (wrap64 ((wrap64 ((t226.length : Int) - 1)) - x8_2))).f1⟩ : S25)]) (wrap64 (x8_2 + 1)) t230 t231) else (none)) else (none)) else (none))) else (none)) = some r := by rw [if_pos rfl] at H; exact H
         clear H; have H := H1; clear H1
         by_cases c31 : 0 ≤ x8_2
         ·rw [if_pos c31] at H
          have c31b0 : decide (0 ≤ x8_2) = true := decide_eq_true c31
          clear c31
          replace H := Option.bind_eq_some_iff.mp H
          obtain ⟨t239, A320, H⟩ := H
          replace H : (if 0 ≤ (wrap64 ((wrap64 ((t226.length : Int) - 1)) - x8_2)) then (if (wrap64 ((wrap64 ((t226.length : Int) - 1)) - x8_2)) < (t226.length : Int) then (if x7_2.length < 8796093022208 then (laws_FnDecMean.l0 k2 t226 t227 t239 (x7_2 ++ [(⟨(rd_T25 t226 (wrap64 ((wrap64 ((t226.length : Int) - 1)) - x8_2))).f0, (rd_T25 t226 (wrap64 ((wrap64 ((t226.length : Int) - 1)) - x8_2))).f1⟩ : S25)]) (wrap64 (x8_2 + 1)) t230 t231) else (none)) else (none)) else (none)) = some r := H
          have A32 := Aside0.mk A320; clear A320
          obtain ⟨ji33, hji33⟩ : ∃ j_ : Int, (wrap64 ((wrap64 ((t226.length : Int) - 1)) - x8_2)) = j_ := ⟨_, rfl⟩
          replace H : (if 0 ≤ (ji33) then (if (ji33) < (t226.length : Int) then (if x7_2.length < 8796093022208 then (laws_FnDecMean.l0 k2 t226 t227 t239 (x7_2 ++ [(⟨(rd_T25 t226 (ji33)).f0, (rd_T25 t226 (ji33)).f1⟩ : S25)]) (wrap64 (x8_2 + 1)) t230 t231) else (none)) else (none)) else (none)) = some r := by first | (rw [hji33] at H; exact H) | (simp only [hji33] at H ⊢; exact H)
          (try rw [hji33] at A32)
          have hji33w : (IntKind.i64.wrap ((wrap64 ((t226.length : Int) - 1)) - x8_2)) = ji33 := (i64_w _).trans hji33
          by_cases c34 : 0 ≤ (ji33)
          ·rw [if_pos c34] at H
           have c34b0 : decide (0 ≤ (ji33)) = true := decide_eq_true c34
           clear c34
           by_cases c35 : (ji33) < (t226.length : Int)
           ·rw [if_pos c35] at H
            have c35b0 : decide ((ji33) < (t226.length : Int)) = true := decide_eq_true c35
            clear c35
            by_cases c36 : x7_2.length < 8796093022208
            ·rw [if_pos c36] at H
             have LMc36 := Aside0.mk c36; clear c36
             obtain ⟨y241, hy241⟩ : ∃ y_ : List (S25), y_ = (x7_2 ++ [(⟨(rd_T25 t226 (ji33)).f0, (rd_T25 t226 (ji33)).f1⟩ : S25)]) := ⟨_, rfl⟩
             replace H : (laws_FnDecMean.l0 k2 t226 t227 t239 y241 (wrap64 (x8_2 + 1)) t230 t231) = some r := by first | (rw [hy241]; with_reducible exact H) | (have H2_ := (Option.bind_some _ _).symm.trans H; rw [hy241]; with_reducible exact H2_) | (have H2_ := (Option.bind_some _ _).symm.trans H; with_reducible exact H2_) | with_reducible exact H | (rw [hy241]; exact H) | exact H
             have Ny241 := Aside0.mk hy241; clear hy241
             have H' := Aside0.mk H
             clear H
             have p238 : 0 ≤ (x8_2 : Int) := of_decide_eq_true (by first | (with_reducible assumption) | assumption)
             have q238 : x8_2 < (t226.length : Int) := of_decide_eq_true (by first | (with_reducible assumption) | assumption)
             obtain ⟨ad238, e238, hx238_0, hx238_1⟩ := at_T25 (Kd.R_reads' HO_3.out).2.2 x8_2 p238 q238
             cases e238
             replace p238 := eq_true p238; replace q238 := eq_true q238
             go_wp2_with (first | (go_at_call 29; (with_reducible refine (impl_DecOk.calls k2 ((rd_T25 t226 x8_2).f0) ((rd_T25 t226 x8_2).f1) t239 _ A32.out).mono ?_); rintro e w37 ⟨rfl, hb⟩; have n0_ := Aside0.mk (Kd.R_below (vR HO_3.out) hb); have n1_ := Aside0.mk (Kd.R_below (vR HO_7.out) hb); have n2_ := Aside0.mk (blk_below (g := gb232) (o := .cells #[.int .i64 t230, .int .i64 t231] 25 (0, 0)) (vB BK232.out) hb); have n3_ := Aside0.mk (below_step (vW1 HB.out GE232.out) hb); clear HO_3; clear HO_7; clear BK232; clear HB; have HO_3 := n0_; have HO_7 := n1_; have BK232 := n2_; have HB := n3_; clear n0_ n1_ n2_ n3_; (try clear hb); (try clear hb2); (try clear hk); (try clear hi); have p240 : 0 ≤ ((ji33) : Int) := of_decide_eq_true (by first | (with_reducible assumption) | assumption); have q240 : (ji33) < (t226.length : Int) := of_decide_eq_true (by first | (with_reducible assumption) | assumption); obtain ⟨ad240, e240, hx240_0, hx240_1⟩ := at_T25 (Kd.R_reads' HO_3.out).2.2 (ji33) p240 q240; obtain rfl : ad238 = ad240 := (by injection e240); replace p240 := eq_true p240; replace q240 := eq_true q240) | ((with_reducible refine gate_builtin (b := .append) (xs := #[.tmp 60, .tmp 69]) rfl ?_); (try (refine gate_guard (by rfl) ?_; dsimp only)); at_builtin; refine Kd.R_append k25 (w0 := w) w.heap.size rfl (.tmp 60) (.tmp 69) 38 25 (.agg #[(.int .i64 0), (.int .i64 0)]) 16 rfl Try.underlying38 info25 rfl (by decide) (by omega) u7 x7_2 (⟨(rd_T25 t226 (ji33)).f0, (rd_T25 t226 (ji33)).f1⟩ : S25) [.int .i64 ((rd_T25 t226 (ji33)).f0), .int .i64 ((rd_T25 t226 (ji33)).f1)] (fun k_ => some k_ ≠ (.slice (some ad238) t226.length co17 : Value).ownBlock ∧ k_ ≠ gb232) (fun _ => False) rfl rfl ?aP (fun _ hk => hk.elim) ?aF ?aO ?aB ?aS ?aL ?_; (case aP => exact k25_mkM _ _ _ (⟨(rd_T25 t226 (ji33)).f0, (rd_T25 t226 (ji33)).f1⟩ : S25)); (case aB => exact (vW1 HB.out GE232.out)); (case aF => exact (fun k_ hk => ⟨Kd.fresh' (Kd.R_lt (vR HO_3.out)) k_ hk, Kd.freshB (g := gb232) (o := .cells #[.int .i64 t230, .int .i64 t231] 25 (0, 0)) (vB BK232.out) k_ hk⟩)); (case aO => exact (vR HO_7.out)); (case aS => exact (below_size (vW1 HB.out GE232.out))); (case aL => have := LMc36.out; omega); intro v242 w38 ho hb hg hat; rw [← Ny241.out] at ho; have n0_ := Aside0.mk (Kd.R_after (ok := (fun k_ => k_ ≠ gb232)) (by (with_reducible repeat (first | apply Kd.R_alloc | apply Kd.R_drewN | apply Kd.R_drew)); exact Kd.R_mono HO_3.out (fun _ hk => ⟨hk.2, hk.1⟩)) hg hat); have n1_ := Aside0.mk (blk_grown (g := gb232) (o := .cells #[.int .i64 t230, .int .i64 t231] 25 (0, 0)) (vB BK232.out) hg (Kd.R_away HO_7.out (fun _ hk => hk.2))); have n2_ := Aside0.mk (hb); have n3_ := Aside0.mk (ho); clear HO_3; clear BK232; clear HB; clear HO_7; have HO_3 := n0_; have BK232 := n1_; have HB := n2_; have HO243 := n3_; clear n0_ n1_ n2_ n3_; clear ho hb hg hat))
             go_roundg k2
             case measure => have := HJ14.out; have := HK2.out; omega
             case rel => exact ⟨(t239), (y241), (wrap64 (x8_2 + 1)), (by first | rfl | (simp; done) | (simp [*]; done)), (by first | rfl | (simp; done) | (simp [*]; done)), H', ⟨by have := HJ14.out; have := HK2.out; omega⟩, ⟨by (with_reducible repeat (first | apply Kd.R_alloc | apply Kd.R_drewN | apply Kd.R_drew)); exact Kd.R_mono HO_3.out (fun _ hk => ⟨hk.2, hk.1⟩)⟩, ⟨by (with_reducible repeat (first | apply Kd.R_alloc | apply Kd.R_drewN | apply Kd.R_drew)); exact HO243.out⟩, ⟨by (with_reducible repeat (first | refine blk_drewN ?_ _ | refine blk_drew ?_ | refine blk_alloc ?_ _)); exact BK232.out⟩, ⟨by repeat (first | (with_reducible first | exact HB.out | apply below_alloc | apply pw_below_drewN | apply below_drew1 | refine below_set ?_ GE232.out) | exact HB.out)⟩⟩
            ·rw [if_neg c36] at H
             exact absurd H (by simp)
           ·rw [if_neg c35] at H
            exact absurd H (by simp)
          ·rw [if_neg c34] at H
           exact absurd H (by simp)
         ·rw [if_neg c31] at H
          exact absurd H (by simp)
        ·replace c30 := Bool.eq_false_iff.mpr c30
         subst c30
         have H1 : (if 0 ≤ (wrap64 ((wrap64 ((t226.length : Int) - 1)) - x8_2)) then (if (wrap64 ((wrap64 ((t226.length : Int) - 1)) - x8_2)) < (t226.length : Int) then (if x7_2.length < 8796093022208 then (laws_FnDecMean.l0 k2 t226 t227 false (x7_2 ++ [(⟨(rd_T25 t226 (wrap64 ((wrap64 ((t226.length : Int) - 1)) - x8_2))).f0, (rd_T25 t226 (wrap64 ((wrap64 ((t226.length : Int) - 1)) - x8_2))).f1⟩ : S25)]) (wrap64 (x8_2 + 1)) t230 t231) else (none)) else (none)) else (none)) = some r := by rw [if_neg (show ¬ (false = true) by decide)] at H; exact H
         clear H; have H := H1; clear H1
         obtain ⟨ji39, hji39⟩ : ∃ j_ : Int, (wrap64 ((wrap64 ((t226.length : Int) - 1)) - x8_2)) = j_ := ⟨_, rfl⟩
         replace H : (if 0 ≤ (ji39) then (if (ji39) < (t226.length : Int) then (if x7_2.length < 8796093022208 then (laws_FnDecMean.l0 k2 t226 t227 false (x7_2 ++ [(⟨(rd_T25 t226 (ji39)).f0, (rd_T25 t226 (ji39)).f1⟩ : S25)]) (wrap64 (x8_2 + 1)) t230 t231) else (none)) else (none)) else (none)) = some r := by first | (rw [hji39] at H; exact H) | (simp only [hji39] at H ⊢; exact H)
         have hji39w : (IntKind.i64.wrap ((wrap64 ((t226.length : Int) - 1)) - x8_2)) = ji39 := (i64_w _).trans hji39
         by_cases c40 : 0 ≤ (ji39)
         ·rw [if_pos c40] at H
          have c40b0 : decide (0 ≤ (ji39)) = true := decide_eq_true c40
          clear c40
          by_cases c41 : (ji39) < (t226.length : Int)
          ·rw [if_pos c41] at H
           have c41b0 : decide ((ji39) < (t226.length : Int)) = true := decide_eq_true c41
           clear c41
           by_cases c42 : x7_2.length < 8796093022208
           ·rw [if_pos c42] at H
            have LMc42 := Aside0.mk c42; clear c42
            obtain ⟨y245, hy245⟩ : ∃ y_ : List (S25), y_ = (x7_2 ++ [(⟨(rd_T25 t226 (ji39)).f0, (rd_T25 t226 (ji39)).f1⟩ : S25)]) := ⟨_, rfl⟩
            replace H : (laws_FnDecMean.l0 k2 t226 t227 false y245 (wrap64 (x8_2 + 1)) t230 t231) = some r := by first | (rw [hy245]; with_reducible exact H) | (have H2_ := (Option.bind_some _ _).symm.trans H; rw [hy245]; with_reducible exact H2_) | (have H2_ := (Option.bind_some _ _).symm.trans H; with_reducible exact H2_) | with_reducible exact H | (rw [hy245]; exact H) | exact H
            have Ny245 := Aside0.mk hy245; clear hy245
            have H' := Aside0.mk H
            clear H
            have p244 : 0 ≤ ((ji39) : Int) := of_decide_eq_true (by first | (with_reducible assumption) | assumption)
            have q244 : (ji39) < (t226.length : Int) := of_decide_eq_true (by first | (with_reducible assumption) | assumption)
            obtain ⟨ad244, e244, hx244_0, hx244_1⟩ := at_T25 (Kd.R_reads' HO_3.out).2.2 (ji39) p244 q244
            cases e244
            replace p244 := eq_true p244; replace q244 := eq_true q244
            go_wp2_with (first | ((with_reducible refine gate_builtin (b := .append) (xs := #[.tmp 60, .tmp 69]) rfl ?_); (try (refine gate_guard (by rfl) ?_; dsimp only)); at_builtin; refine Kd.R_append k25 (w0 := w) w.heap.size rfl (.tmp 60) (.tmp 69) 38 25 (.agg #[(.int .i64 0), (.int .i64 0)]) 16 rfl Try.underlying38 info25 rfl (by decide) (by omega) u7 x7_2 (⟨(rd_T25 t226 (ji39)).f0, (rd_T25 t226 (ji39)).f1⟩ : S25) [.int .i64 ((rd_T25 t226 (ji39)).f0), .int .i64 ((rd_T25 t226 (ji39)).f1)] (fun k_ => some k_ ≠ (.slice (some ad244) t226.length co17 : Value).ownBlock ∧ k_ ≠ gb232) (fun _ => False) rfl rfl ?aP (fun _ hk => hk.elim) ?aF ?aO ?aB ?aS ?aL ?_; (case aP => exact k25_mkM _ _ _ (⟨(rd_T25 t226 (ji39)).f0, (rd_T25 t226 (ji39)).f1⟩ : S25)); (case aB => exact (vW1 HB.out GE232.out)); (case aF => exact (fun k_ hk => ⟨Kd.fresh' (Kd.R_lt (vR HO_3.out)) k_ hk, Kd.freshB (g := gb232) (o := .cells #[.int .i64 t230, .int .i64 t231] 25 (0, 0)) (vB BK232.out) k_ hk⟩)); (case aO => exact (vR HO_7.out)); (case aS => exact (below_size (vW1 HB.out GE232.out))); (case aL => have := LMc42.out; omega); intro v246 w43 ho hb hg hat; rw [← Ny245.out] at ho; have n0_ := Aside0.mk (Kd.R_after (ok := (fun k_ => k_ ≠ gb232)) (by (with_reducible repeat (first | apply Kd.R_alloc | apply Kd.R_drewN | apply Kd.R_drew)); exact Kd.R_mono HO_3.out (fun _ hk => ⟨hk.2, hk.1⟩)) hg hat); have n1_ := Aside0.mk (blk_grown (g := gb232) (o := .cells #[.int .i64 t230, .int .i64 t231] 25 (0, 0)) (vB BK232.out) hg (Kd.R_away HO_7.out (fun _ hk => hk.2))); have n2_ := Aside0.mk (hb); have n3_ := Aside0.mk (ho); clear HO_3; clear BK232; clear HB; clear HO_7; have HO_3 := n0_; have BK232 := n1_; have HB := n2_; have HO247 := n3_; clear n0_ n1_ n2_ n3_; clear ho hb hg hat))
            go_roundg k2
            case measure => have := HJ14.out; have := HK2.out; omega
            case rel => exact ⟨(false), (y245), (wrap64 (x8_2 + 1)), (by first | rfl | (simp; done) | (simp [*]; done)), (by first | rfl | (simp; done) | (simp [*]; done)), H', ⟨by have := HJ14.out; have := HK2.out; omega⟩, ⟨by (with_reducible repeat (first | apply Kd.R_alloc | apply Kd.R_drewN | apply Kd.R_drew)); exact Kd.R_mono HO_3.out (fun _ hk => ⟨hk.2, hk.1⟩)⟩, ⟨by (with_reducible repeat (first | apply Kd.R_alloc | apply Kd.R_drewN | apply Kd.R_drew)); exact HO247.out⟩, ⟨by (with_reducible repeat (first | refine blk_drewN ?_ _ | refine blk_drew ?_ | refine blk_alloc ?_ _)); exact BK232.out⟩, ⟨by repeat (first | (with_reducible first | exact HB.out | apply below_alloc | apply pw_below_drewN | apply below_drew1 | refine below_set ?_ GE232.out) | exact HB.out)⟩⟩
           ·rw [if_neg c42] at H
            exact absurd H (by simp)
          ·rw [if_neg c41] at H
           exact absurd H (by simp)
         ·rw [if_neg c40] at H
          exact absurd H (by simp)
       ·rw [if_neg c29] at H
        have c29b0 : decide (x8_2 < (t226.length : Int)) = false := decide_eq_false c29
        clear c29
        by_cases c44 : x6_2 = true
        ·subst c44
         have H1 : (if 0 < (t226.length : Int) then ((impl_DecAt.f k2 ((rd_T25 t226 0).f0) ((rd_T25 t226 0).f1) t227).bind fun bt250 => ((impl_DecAt.f k2 ((rd_T25 t226 0).f0) ((rd_T25 t226 0).f1) t227).bind fun bt253 => (laws_FnDecMean.l1 k2 t226 t227 x7_2 0 t230 t231 bt250.1 bt250.2 bt253.1 bt253.2))) else (none)) = some r := by rw [if_pos rfl] at H; exact H
         clear H; have H := H1; clear H1
         by_cases c45 : 0 < (t226.length : Int)
         ·rw [if_pos c45] at H
          have c45b0 : decide (0 < (t226.length : Int)) = true := decide_eq_true c45
          have c45b1 : decide (0 < t226.length) = true := decide_eq_true (by omega)
          clear c45
          replace H := Option.bind_eq_some_iff.mp H
          obtain ⟨⟨t250, t251⟩, A460, H⟩ := H
          replace H : ((impl_DecAt.f k2 ((rd_T25 t226 0).f0) ((rd_T25 t226 0).f1) t227).bind fun bt253 => (laws_FnDecMean.l1 k2 t226 t227 x7_2 0 t230 t231 t250 t251 bt253.1 bt253.2)) = some r := H
          have A46 := Aside0.mk A460; clear A460
          replace H := Option.bind_eq_some_iff.mp H
          obtain ⟨⟨t253, t254⟩, A470, H⟩ := H
          replace H : (laws_FnDecMean.l1 k2 t226 t227 x7_2 0 t230 t231 t250 t251 t253 t254) = some r := H
          have A47 := Aside0.mk A470; clear A470
          have H' := Aside0.mk H
          clear H
          try go_wp2
          have n0_ := Aside0.mk (Kd.R_drew HO_3.out); have n1_ := Aside0.mk (Kd.R_drew HO_7.out); have n2_ := Aside0.mk (blk_drew BK232.out); have n3_ := Aside0.mk (below_drew1 HB.out); clear HO_3; clear HO_7; clear BK232; clear HB; have HO_3 := n0_; have HO_7 := n1_; have BK232 := n2_; have HB := n3_; clear n0_ n1_ n2_ n3_
          have p249 : 0 ≤ (0 : Int) := (by omega)
          have q249 : 0 < (t226.length : Int) := of_decide_eq_true (by first | (with_reducible assumption) | assumption)
          obtain ⟨ad249, e249, hx249_0, hx249_1⟩ := at_T25 (Kd.R_reads' HO_3.out).2.2 0 p249 q249
          cases e249
          have qi249 : (0 < t226.length) = True := eq_true (by omega)
          (try rw [show ((0 : Int)).toNat = 0 from rfl] at hx249_0)
          (try rw [show 0 * 2 = 0 from rfl] at hx249_0)
          (try rw [Addr.add_zero'] at hx249_0)
          (try rw [show ((0 : Int)).toNat = 0 from rfl] at hx249_1)
          (try rw [show 0 * 2 = 0 from rfl] at hx249_1)
          (try rw [Addr.add_zero'] at hx249_1)
          replace p249 := eq_true p249; replace q249 := eq_true q249
          have p252 : 0 ≤ (0 : Int) := (by omega)
          have q252 : 0 < (t226.length : Int) := of_decide_eq_true (by first | (with_reducible assumption) | assumption)
          obtain ⟨ad252, e252, hx252_0, hx252_1⟩ := at_T25 (Kd.R_reads' HO_3.out).2.2 0 p252 q252
          obtain rfl : ad249 = ad252 := (by injection e252)
          have qi252 : (0 < t226.length) = True := eq_true (by omega)
          (try rw [show ((0 : Int)).toNat = 0 from rfl] at hx252_0)
          (try rw [show 0 * 2 = 0 from rfl] at hx252_0)
          (try rw [Addr.add_zero'] at hx252_0)
          (try rw [show ((0 : Int)).toNat = 0 from rfl] at hx252_1)
          (try rw [show 0 * 2 = 0 from rfl] at hx252_1)
          (try rw [Addr.add_zero'] at hx252_1)
          replace p252 := eq_true p252; replace q252 := eq_true q252
          refine start_ (n := 14) (S := fun w' => w'.cell? ad249 = some (.int .i64 ((rd_T25 t226 0).f0)) ∧ w'.cell? ⟨ad249.block, ad249.off + 1, none⟩ = some (.int .i64 ((rd_T25 t226 0).f1)) ∧ w'.cell? ad249 = some (.int .i64 ((rd_T25 t226 0).f0)) ∧ w'.cell? ⟨ad249.block, ad249.off + 1, none⟩ = some (.int .i64 ((rd_T25 t226 0).f1))) (ds := []) m6 (by kernel_rfl) rfl rfl ⟨hx249_0, hx249_1, hx252_0, hx252_1⟩ (fun hHeld => ?_); refine with_tabW laws_FnDecMean.tab16 laws_FnDecMean.bits16 (fun HT_ HW_ => ?_)
          generalize wr.drew = w48 at HO_3 HO_7 BK232 HB hx249_0 hx249_1 hx252_0 hx252_1 hHeld ⊢
          refine pw 0 79 m7 HT_ ?_
          refine pw 1 80 m8 HT_ ?_
          refine pw 3 82 m9 HT_ ?_
          refine pw 5 84 m10 HT_ ?_
          refine pw 6 85 m11 HT_ ?_
          refine pw 8 87 m12 HT_ ?_
          refine pt 2 81 m13 rfl HT_ HW_ hHeld ?_ (Or.inl ⟨by rfl, by rintro w' ⟨s0, s1, s2, s3⟩; go_simp; with_reducible rfl⟩)
          refine pt 7 86 m14 rfl HT_ HW_ hHeld ?_ (Or.inl ⟨by rfl, by rintro w' ⟨s0, s1, s2, s3⟩; go_simp; with_reducible rfl⟩)
          refine join_ (σ := Nat × Nat) 2 m15 (fun s_ => [(83, .agg #[.int .i64 t250, .int .i64 t251]), (88, .agg #[.int .i64 t253, .int .i64 t254]), (9, .pointer (some ⟨s_.1, 0, none⟩)), (10, .pointer (some ⟨s_.2, 0, none⟩))]) (fun s_ w' => (w'.cell? ad249 = some (.int .i64 ((rd_T25 t226 0).f0)) ∧ w'.cell? ⟨ad249.block, ad249.off + 1, none⟩ = some (.int .i64 ((rd_T25 t226 0).f1)) ∧ w'.cell? ad249 = some (.int .i64 ((rd_T25 t226 0).f0)) ∧ w'.cell? ⟨ad249.block, ad249.off + 1, none⟩ = some (.int .i64 ((rd_T25 t226 0).f1))) ∧ (Kd.R k25 25 w' w.heap.size (fun k_ => some k_ ≠ (u7 : Value).ownBlock ∧ k_ ≠ gb232 ∧ k_ ≠ s_.1 ∧ k_ ≠ s_.2) (.slice (some ad249) t226.length co17) t226) ∧ (Kd.R k25 25 w' w.heap.size (fun k_ => some k_ ≠ (.slice (some ad249) t226.length co17 : Value).ownBlock ∧ k_ ≠ gb232 ∧ k_ ≠ s_.1 ∧ k_ ≠ s_.2) u7 x7_2) ∧ (w'.heap[gb232]? = some (.cells #[.int .i64 t230, .int .i64 t231] 25 (0, 0))) ∧ (w'.heap[s_.1]? = some (.cells #[.int .i64 0, .int .i64 0] 25 (0, 0))) ∧ (w'.heap[s_.2]? = some (.cells #[.int .i64 0, .int .i64 0] 25 (0, 0))) ∧ (w.heap.size ≤ s_.1) ∧ (w.heap.size ≤ s_.1) ∧ (gb232 ≠ s_.1) ∧ (s_.1 ≠ gb232) ∧ (s_.2 ≠ s_.1) ∧ (s_.1 ≠ s_.2) ∧ (w.heap.size ≤ s_.2) ∧ (w.heap.size ≤ s_.2) ∧ (gb232 ≠ s_.2) ∧ (s_.2 ≠ gb232) ∧ (Below w.heap.size w w')) ?_ ?_
          rotate_left
          ·intro hJ4_9_10_11
           refine join_ (σ := Nat) 3 m16 (fun s_ => [(83, .agg #[.int .i64 t250, .int .i64 t251]), (88, .agg #[.int .i64 t253, .int .i64 t254]), (9, .pointer (some ⟨s_, 0, none⟩))]) (fun s_ w' => (w'.cell? ad249 = some (.int .i64 ((rd_T25 t226 0).f0)) ∧ w'.cell? ⟨ad249.block, ad249.off + 1, none⟩ = some (.int .i64 ((rd_T25 t226 0).f1)) ∧ w'.cell? ad249 = some (.int .i64 ((rd_T25 t226 0).f0)) ∧ w'.cell? ⟨ad249.block, ad249.off + 1, none⟩ = some (.int .i64 ((rd_T25 t226 0).f1))) ∧ (Kd.R k25 25 w' w.heap.size (fun k_ => some k_ ≠ (u7 : Value).ownBlock ∧ k_ ≠ gb232 ∧ k_ ≠ s_) (.slice (some ad249) t226.length co17) t226) ∧ (Kd.R k25 25 w' w.heap.size (fun k_ => some k_ ≠ (.slice (some ad249) t226.length co17 : Value).ownBlock ∧ k_ ≠ gb232 ∧ k_ ≠ s_) u7 x7_2) ∧ (w'.heap[gb232]? = some (.cells #[.int .i64 t230, .int .i64 t231] 25 (0, 0))) ∧ (w'.heap[s_]? = some (.cells #[.int .i64 0, .int .i64 0] 25 (0, 0))) ∧ (w.heap.size ≤ s_) ∧ (w.heap.size ≤ s_) ∧ (gb232 ≠ s_) ∧ (s_ ≠ gb232) ∧ (Below w.heap.size w w')) ?_ ?_
           rotate_left
           ·intro hJ4_9_10
            refine join_ (σ := Nat) 3 m17 (fun s_ => [(83, .agg #[.int .i64 t250, .int .i64 t251]), (88, .agg #[.int .i64 t253, .int .i64 t254]), (10, .pointer (some ⟨s_, 0, none⟩))]) (fun s_ w' => (w'.cell? ad249 = some (.int .i64 ((rd_T25 t226 0).f0)) ∧ w'.cell? ⟨ad249.block, ad249.off + 1, none⟩ = some (.int .i64 ((rd_T25 t226 0).f1)) ∧ w'.cell? ad249 = some (.int .i64 ((rd_T25 t226 0).f0)) ∧ w'.cell? ⟨ad249.block, ad249.off + 1, none⟩ = some (.int .i64 ((rd_T25 t226 0).f1))) ∧ (Kd.R k25 25 w' w.heap.size (fun k_ => some k_ ≠ (u7 : Value).ownBlock ∧ k_ ≠ gb232 ∧ k_ ≠ s_) (.slice (some ad249) t226.length co17) t226) ∧ (Kd.R k25 25 w' w.heap.size (fun k_ => some k_ ≠ (.slice (some ad249) t226.length co17 : Value).ownBlock ∧ k_ ≠ gb232 ∧ k_ ≠ s_) u7 x7_2) ∧ (w'.heap[gb232]? = some (.cells #[.int .i64 t230, .int .i64 t231] 25 (0, 0))) ∧ (w'.heap[s_]? = some (.cells #[.int .i64 0, .int .i64 0] 25 (0, 0))) ∧ (w.heap.size ≤ s_) ∧ (w.heap.size ≤ s_) ∧ (gb232 ≠ s_) ∧ (s_ ≠ gb232) ∧ (Below w.heap.size w w')) ?_ ?_
            rotate_left
            ·intro hJ4_9_11
             refine join_ (σ := Nat × Nat) 3 m18 (fun s_ => [(83, .agg #[.int .i64 t250, .int .i64 t251]), (9, .pointer (some ⟨s_.1, 0, none⟩)), (10, .pointer (some ⟨s_.2, 0, none⟩))]) (fun s_ w' => (w'.cell? ad249 = some (.int .i64 ((rd_T25 t226 0).f0)) ∧ w'.cell? ⟨ad249.block, ad249.off + 1, none⟩ = some (.int .i64 ((rd_T25 t226 0).f1)) ∧ w'.cell? ad249 = some (.int .i64 ((rd_T25 t226 0).f0)) ∧ w'.cell? ⟨ad249.block, ad249.off + 1, none⟩ = some (.int .i64 ((rd_T25 t226 0).f1))) ∧ (Kd.R k25 25 w' w.heap.size (fun k_ => some k_ ≠ (u7 : Value).ownBlock ∧ k_ ≠ gb232 ∧ k_ ≠ s_.1 ∧ k_ ≠ s_.2) (.slice (some ad249) t226.length co17) t226) ∧ (Kd.R k25 25 w' w.heap.size (fun k_ => some k_ ≠ (.slice (some ad249) t226.length co17 : Value).ownBlock ∧ k_ ≠ gb232 ∧ k_ ≠ s_.1 ∧ k_ ≠ s_.2) u7 x7_2) ∧ (w'.heap[gb232]? = some (.cells #[.int .i64 t230, .int .i64 t231] 25 (0, 0))) ∧ (w'.heap[s_.1]? = some (.cells #[.int .i64 0, .int .i64 0] 25 (0, 0))) ∧ (w'.heap[s_.2]? = some (.cells #[.int .i64 0, .int .i64 0] 25 (0, 0))) ∧ (w.heap.size ≤ s_.1) ∧ (w.heap.size ≤ s_.1) ∧ (gb232 ≠ s_.1) ∧ (s_.1 ≠ gb232) ∧ (s_.2 ≠ s_.1) ∧ (s_.1 ≠ s_.2) ∧ (w.heap.size ≤ s_.2) ∧ (w.heap.size ≤ s_.2) ∧ (gb232 ≠ s_.2) ∧ (s_.2 ≠ gb232) ∧ (Below w.heap.size w w')) ?_ ?_
             rotate_left
             ·intro hJ4_10_11
              refine join_ (σ := Unit) 4 m19 (fun s_ => [(83, .agg #[.int .i64 t250, .int .i64 t251]), (88, .agg #[.int .i64 t253, .int .i64 t254])]) (fun s_ w' => (w'.cell? ad249 = some (.int .i64 ((rd_T25 t226 0).f0)) ∧ w'.cell? ⟨ad249.block, ad249.off + 1, none⟩ = some (.int .i64 ((rd_T25 t226 0).f1)) ∧ w'.cell? ad249 = some (.int .i64 ((rd_T25 t226 0).f0)) ∧ w'.cell? ⟨ad249.block, ad249.off + 1, none⟩ = some (.int .i64 ((rd_T25 t226 0).f1))) ∧ (Kd.R k25 25 w' w.heap.size (fun k_ => some k_ ≠ (u7 : Value).ownBlock ∧ k_ ≠ gb232) (.slice (some ad249) t226.length co17) t226) ∧ (Kd.R k25 25 w' w.heap.size (fun k_ => some k_ ≠ (.slice (some ad249) t226.length co17 : Value).ownBlock ∧ k_ ≠ gb232) u7 x7_2) ∧ (w'.heap[gb232]? = some (.cells #[.int .i64 t230, .int .i64 t231] 25 (0, 0))) ∧ (Below w.heap.size w w')) ?_ ?_
              rotate_left
              ·intro hJ4_9
               refine join_ (σ := Nat) 4 m20 (fun s_ => [(83, .agg #[.int .i64 t250, .int .i64 t251]), (9, .pointer (some ⟨s_, 0, none⟩))]) (fun s_ w' => (w'.cell? ad249 = some (.int .i64 ((rd_T25 t226 0).f0)) ∧ w'.cell? ⟨ad249.block, ad249.off + 1, none⟩ = some (.int .i64 ((rd_T25 t226 0).f1)) ∧ w'.cell? ad249 = some (.int .i64 ((rd_T25 t226 0).f0)) ∧ w'.cell? ⟨ad249.block, ad249.off + 1, none⟩ = some (.int .i64 ((rd_T25 t226 0).f1))) ∧ (Kd.R k25 25 w' w.heap.size (fun k_ => some k_ ≠ (u7 : Value).ownBlock ∧ k_ ≠ gb232 ∧ k_ ≠ s_) (.slice (some ad249) t226.length co17) t226) ∧ (Kd.R k25 25 w' w.heap.size (fun k_ => some k_ ≠ (.slice (some ad249) t226.length co17 : Value).ownBlock ∧ k_ ≠ gb232 ∧ k_ ≠ s_) u7 x7_2) ∧ (w'.heap[gb232]? = some (.cells #[.int .i64 t230, .int .i64 t231] 25 (0, 0))) ∧ (w'.heap[s_]? = some (.cells #[.int .i64 0, .int .i64 0] 25 (0, 0))) ∧ (w.heap.size ≤ s_) ∧ (w.heap.size ≤ s_) ∧ (gb232 ≠ s_) ∧ (s_ ≠ gb232) ∧ (Below w.heap.size w w')) ?_ ?_
               rotate_left
               ·intro hJ4_10
                refine join_ (σ := Nat) 4 m21 (fun s_ => [(83, .agg #[.int .i64 t250, .int .i64 t251]), (10, .pointer (some ⟨s_, 0, none⟩))]) (fun s_ w' => (w'.cell? ad249 = some (.int .i64 ((rd_T25 t226 0).f0)) ∧ w'.cell? ⟨ad249.block, ad249.off + 1, none⟩ = some (.int .i64 ((rd_T25 t226 0).f1)) ∧ w'.cell? ad249 = some (.int .i64 ((rd_T25 t226 0).f0)) ∧ w'.cell? ⟨ad249.block, ad249.off + 1, none⟩ = some (.int .i64 ((rd_T25 t226 0).f1))) ∧ (Kd.R k25 25 w' w.heap.size (fun k_ => some k_ ≠ (u7 : Value).ownBlock ∧ k_ ≠ gb232 ∧ k_ ≠ s_) (.slice (some ad249) t226.length co17) t226) ∧ (Kd.R k25 25 w' w.heap.size (fun k_ => some k_ ≠ (.slice (some ad249) t226.length co17 : Value).ownBlock ∧ k_ ≠ gb232 ∧ k_ ≠ s_) u7 x7_2) ∧ (w'.heap[gb232]? = some (.cells #[.int .i64 t230, .int .i64 t231] 25 (0, 0))) ∧ (w'.heap[s_]? = some (.cells #[.int .i64 0, .int .i64 0] 25 (0, 0))) ∧ (w.heap.size ≤ s_) ∧ (w.heap.size ≤ s_) ∧ (gb232 ≠ s_) ∧ (s_ ≠ gb232) ∧ (Below w.heap.size w w')) ?_ ?_
                rotate_left
                ·intro hJ4_11
                 refine join_ (σ := Nat × Nat) 4 m22 (fun s_ => [(9, .pointer (some ⟨s_.1, 0, none⟩)), (10, .pointer (some ⟨s_.2, 0, none⟩))]) (fun s_ w' => (w'.cell? ad249 = some (.int .i64 ((rd_T25 t226 0).f0)) ∧ w'.cell? ⟨ad249.block, ad249.off + 1, none⟩ = some (.int .i64 ((rd_T25 t226 0).f1)) ∧ w'.cell? ad249 = some (.int .i64 ((rd_T25 t226 0).f0)) ∧ w'.cell? ⟨ad249.block, ad249.off + 1, none⟩ = some (.int .i64 ((rd_T25 t226 0).f1))) ∧ (Kd.R k25 25 w' w.heap.size (fun k_ => some k_ ≠ (u7 : Value).ownBlock ∧ k_ ≠ gb232 ∧ k_ ≠ s_.1 ∧ k_ ≠ s_.2) (.slice (some ad249) t226.length co17) t226) ∧ (Kd.R k25 25 w' w.heap.size (fun k_ => some k_ ≠ (.slice (some ad249) t226.length co17 : Value).ownBlock ∧ k_ ≠ gb232 ∧ k_ ≠ s_.1 ∧ k_ ≠ s_.2) u7 x7_2) ∧ (w'.heap[gb232]? = some (.cells #[.int .i64 t230, .int .i64 t231] 25 (0, 0))) ∧ (w'.heap[s_.1]? = some (.cells #[.int .i64 0, .int .i64 0] 25 (0, 0))) ∧ (w'.heap[s_.2]? = some (.cells #[.int .i64 0, .int .i64 0] 25 (0, 0))) ∧ (w.heap.size ≤ s_.1) ∧ (w.heap.size ≤ s_.1) ∧ (gb232 ≠ s_.1) ∧ (s_.1 ≠ gb232) ∧ (s_.2 ≠ s_.1) ∧ (s_.1 ≠ s_.2) ∧ (w.heap.size ≤ s_.2) ∧ (w.heap.size ≤ s_.2) ∧ (gb232 ≠ s_.2) ∧ (s_.2 ≠ gb232) ∧ (Below w.heap.size w w')) ?_ ?_
                 rotate_left
                 ·intro hJ10_11
                  refine join_ (σ := Unit) 5 m23 (fun s_ => [(83, .agg #[.int .i64 t250, .int .i64 t251])]) (fun s_ w' => (w'.cell? ad249 = some (.int .i64 ((rd_T25 t226 0).f0)) ∧ w'.cell? ⟨ad249.block, ad249.off + 1, none⟩ = some (.int .i64 ((rd_T25 t226 0).f1)) ∧ w'.cell? ad249 = some (.int .i64 ((rd_T25 t226 0).f0)) ∧ w'.cell? ⟨ad249.block, ad249.off + 1, none⟩ = some (.int .i64 ((rd_T25 t226 0).f1))) ∧ (Kd.R k25 25 w' w.heap.size (fun k_ => some k_ ≠ (u7 : Value).ownBlock ∧ k_ ≠ gb232) (.slice (some ad249) t226.length co17) t226) ∧ (Kd.R k25 25 w' w.heap.size (fun k_ => some k_ ≠ (.slice (some ad249) t226.length co17 : Value).ownBlock ∧ k_ ≠ gb232) u7 x7_2) ∧ (w'.heap[gb232]? = some (.cells #[.int .i64 t230, .int .i64 t231] 25 (0, 0))) ∧ (Below w.heap.size w w')) ?_ ?_
                  rotate_left
                  ·intro hJ4
                   refine join_ (σ := Nat) 5 m24 (fun s_ => [(9, .pointer (some ⟨s_, 0, none⟩))]) (fun s_ w' => (w'.cell? ad249 = some (.int .i64 ((rd_T25 t226 0).f0)) ∧ w'.cell? ⟨ad249.block, ad249.off + 1, none⟩ = some (.int .i64 ((rd_T25 t226 0).f1)) ∧ w'.cell? ad249 = some (.int .i64 ((rd_T25 t226 0).f0)) ∧ w'.cell? ⟨ad249.block, ad249.off + 1, none⟩ = some (.int .i64 ((rd_T25 t226 0).f1))) ∧ (Kd.R k25 25 w' w.heap.size (fun k_ => some k_ ≠ (u7 : Value).ownBlock ∧ k_ ≠ gb232 ∧ k_ ≠ s_) (.slice (some ad249) t226.length co17) t226) ∧ (Kd.R k25 25 w' w.heap.size (fun k_ => some k_ ≠ (.slice (some ad249) t226.length co17 : Value).ownBlock ∧ k_ ≠ gb232 ∧ k_ ≠ s_) u7 x7_2) ∧ (w'.heap[gb232]? = some (.cells #[.int .i64 t230, .int .i64 t231] 25 (0, 0))) ∧ (w'.heap[s_]? = some (.cells #[.int .i64 0, .int .i64 0] 25 (0, 0))) ∧ (w.heap.size ≤ s_) ∧ (w.heap.size ≤ s_) ∧ (gb232 ≠ s_) ∧ (s_ ≠ gb232) ∧ (Below w.heap.size w w')) ?_ ?_
                   rotate_left
                   ·intro hJ10
                    refine join_ (σ := Nat) 5 m25 (fun s_ => [(10, .pointer (some ⟨s_, 0, none⟩))]) (fun s_ w' => (w'.cell? ad249 = some (.int .i64 ((rd_T25 t226 0).f0)) ∧ w'.cell? ⟨ad249.block, ad249.off + 1, none⟩ = some (.int .i64 ((rd_T25 t226 0).f1)) ∧ w'.cell? ad249 = some (.int .i64 ((rd_T25 t226 0).f0)) ∧ w'.cell? ⟨ad249.block, ad249.off + 1, none⟩ = some (.int .i64 ((rd_T25 t226 0).f1))) ∧ (Kd.R k25 25 w' w.heap.size (fun k_ => some k_ ≠ (u7 : Value).ownBlock ∧ k_ ≠ gb232 ∧ k_ ≠ s_) (.slice (some ad249) t226.length co17) t226) ∧ (Kd.R k25 25 w' w.heap.size (fun k_ => some k_ ≠ (.slice (some ad249) t226.length co17 : Value).ownBlock ∧ k_ ≠ gb232 ∧ k_ ≠ s_) u7 x7_2) ∧ (w'.heap[gb232]? = some (.cells #[.int .i64 t230, .int .i64 t231] 25 (0, 0))) ∧ (w'.heap[s_]? = some (.cells #[.int .i64 0, .int .i64 0] 25 (0, 0))) ∧ (w.heap.size ≤ s_) ∧ (w.heap.size ≤ s_) ∧ (gb232 ≠ s_) ∧ (s_ ≠ gb232) ∧ (Below w.heap.size w w')) ?_ ?_
                    rotate_left
                    ·intro hJ11
                     refine three_ (i := 4) (j := 10) (k := 11) (Ni := some 83) (Nj := some 9) (Nk := some 10) m23 m24 m25 rfl rfl rfl rfl rfl rfl (three_of HT_.out (by kernel_rfl)) (by decide) (by decide) (by decide) (fun K hK => ?_) (fun K hK => ?_) (fun K hK => ?_)
                     ·skip
                      refine goes_ Try.func30 (by kernel_rfl) rfl #[.agg #[.int .i64 ((rd_T25 t226 0).f0), .int .i64 ((rd_T25 t226 0).f1)], .int .i64 t227] (by rfl) rfl rfl (by (try simp only [List.map_toArray, List.map_cons, List.map_nil]); first | done | rfl | (simp only [List.length_drop, List.length_take]; rfl)) ?_
                      with_reducible refine (impl_DecAt.calls k2 ((rd_T25 t226 0).f0) ((rd_T25 t226 0).f1) t227 t250 t251 _ A46.out).mono ?_
                      rintro e w49 ⟨rfl, hb⟩
                      have HS0_ := vC hb hHeld.1; have HS1_ := vC hb hHeld.2.1; have HS2_ := vC hb hHeld.2.2.1; have HS3_ := vC hb hHeld.2.2.2
                      refine ⟨_, rfl, ?_⟩
                      have n0_ := Aside0.mk (Kd.R_below (vR HO_3.out) hb); have n1_ := Aside0.mk (Kd.R_below (vR HO_7.out) hb); have n2_ := Aside0.mk (blk_below (g := gb232) (o := .cells #[.int .i64 t230, .int .i64 t231] 25 (0, 0)) (vB BK232.out) hb); have n3_ := Aside0.mk (below_step (vW1 HB.out GE232.out) hb); clear HO_3; clear HO_7; clear BK232; clear HB; have HO_3 := n0_; have HO_7 := n1_; have BK232 := n2_; have HB := n3_; clear n0_ n1_ n2_ n3_
                      (try clear hb)
                      (try clear hb2)
                      (try clear hk)
                      (try clear hi)
                      refine hK.out _ _ ⟨HS0_, HS1_, HS2_, HS3_⟩ (fun hHeld => ?_)
                      clear hK K
                      refine norm_ (a' := ?_) ?_ ?_
                      rotate_left
                      ·show Act.put _ (some 83) _ = _
                       simp only [Act.put, sA, s0, s1, i64_w, i32_w]
                       rfl
                      exact norm_ (by first | (simp only [putAll, Act.put, sA, s0, s1]; done) | (simp only [putAll, Act.put, sA, s0, s1]; rfl)) (hJ4 () _ ⟨hHeld, (vR HO_3.out), (vR HO_7.out), (vB BK232.out), (vW1 HB.out GE232.out)⟩)
                     ·skip
                      refine box_step ?hg (N := 9) ?hd (cs := #[.int .i64 0, .int .i64 0]) (t := 25) ?hr ?_; (case hd => rfl); (case hg => rfl); (case hr => first | (go_simp; done) | (go_simp; rfl))
                      intro gb255 hg w49 hbox hb
                      have HS0_ := vC hb hHeld.1; have HS1_ := vC hb hHeld.2.1; have HS2_ := vC hb hHeld.2.2.1; have HS3_ := vC hb hHeld.2.2.2; have n0_ := Aside0.mk (Kd.R_below (Kd.R_elderB (vR HO_3.out) gb255 (Nat.le_of_eq hg.symm)) hb); have n1_ := Aside0.mk (Kd.R_below (Kd.R_elderB (vR HO_7.out) gb255 (Nat.le_of_eq hg.symm)) hb); have n2_ := Aside0.mk (blk_below (g := gb232) (o := .cells #[.int .i64 t230, .int .i64 t231] 25 (0, 0)) (vB BK232.out) hb); have n3_ := Aside0.mk (below_step (vW1 HB.out GE232.out) hb); have n4_ := Aside0.mk (hbox); have n5_ := Aside0.mk ((by rw [hg]; exact (below_size (vW1 HB.out GE232.out)) : w.heap.size ≤ gb255)); have n6_ := Aside0.mk ((by rw [hg]; exact (below_size (vW1 HB.out GE232.out)) : w.heap.size ≤ gb255)); have n7_ := Aside0.mk ((by rw [hg]; exact Nat.ne_of_lt (blk_lt (g := gb232) (o := .cells #[.int .i64 t230, .int .i64 t231] 25 (0, 0)) (vB BK232.out)) : gb232 ≠ gb255)); have n8_ := Aside0.mk ((by rw [hg]; exact Nat.ne_of_gt (blk_lt (g := gb232) (o := .cells #[.int .i64 t230, .int .i64 t231] 25 (0, 0)) (vB BK232.out)) : gb255 ≠ gb232)); clear HO_3; clear HO_7; clear BK232; clear HB; have HO_3 := n0_; have HO_7 := n1_; have BK232 := n2_; have HB := n3_; have BK255 := n4_; have GW255 := n5_; have GE255 := n6_; have NB232_255 := n7_; have NB255_232 := n8_; clear n0_ n1_ n2_ n3_ n4_ n5_ n6_ n7_ n8_; clear hb hbox hg
                      refine hK.out _ _ ⟨HS0_, HS1_, HS2_, HS3_⟩ (fun hHeld => ?_)
                      clear hK K
                      refine norm_ (a' := ?_) ?_ ?_
                      rotate_left
                      ·show Act.put _ (some 9) _ = _
                       simp only [Act.put, sA, s0, s1, i64_w, i32_w]
                       rfl
                      exact norm_ (by first | (simp only [putAll, Act.put, sA, s0, s1]; done) | (simp only [putAll, Act.put, sA, s0, s1]; rfl)) (hJ10 (gb255) _ ⟨hHeld, (by (with_reducible repeat (first | apply Kd.R_alloc | apply Kd.R_drewN | apply Kd.R_drew)); exact Kd.R_mono HO_3.out (fun _ hk => ⟨hk.1.1, ⟨hk.1.2, hk.2⟩⟩)), (by (with_reducible repeat (first | apply Kd.R_alloc | apply Kd.R_drewN | apply Kd.R_drew)); exact Kd.R_mono HO_7.out (fun _ hk => ⟨hk.1.1, ⟨hk.1.2, hk.2⟩⟩)), (vB BK232.out), (vB BK255.out), GW255.out, GE255.out, NB232_255.out, NB255_232.out, (vW2 HB.out GE232.out GE255.out)⟩)
                     ·skip
                      refine box_step ?hg (N := 10) ?hd (cs := #[.int .i64 0, .int .i64 0]) (t := 25) ?hr ?_; (case hd => rfl); (case hg => rfl); (case hr => first | (go_simp; done) | (go_simp; rfl))
                      intro gb256 hg w49 hbox hb
                      have HS0_ := vC hb hHeld.1; have HS1_ := vC hb hHeld.2.1; have HS2_ := vC hb hHeld.2.2.1; have HS3_ := vC hb hHeld.2.2.2; have n0_ := Aside0.mk (Kd.R_below (Kd.R_elderB (vR HO_3.out) gb256 (Nat.le_of_eq hg.symm)) hb); have n1_ := Aside0.mk (Kd.R_below (Kd.R_elderB (vR HO_7.out) gb256 (Nat.le_of_eq hg.symm)) hb); have n2_ := Aside0.mk (blk_below (g := gb232) (o := .cells #[.int .i64 t230, .int .i64 t231] 25 (0, 0)) (vB BK232.out) hb); have n3_ := Aside0.mk (below_step (vW1 HB.out GE232.out) hb); have n4_ := Aside0.mk (hbox); have n5_ := Aside0.mk ((by rw [hg]; exact (below_size (vW1 HB.out GE232.out)) : w.heap.size ≤ gb256)); have n6_ := Aside0.mk ((by rw [hg]; exact (below_size (vW1 HB.out GE232.out)) : w.heap.size ≤ gb256)); have n7_ := Aside0.mk ((by rw [hg]; exact Nat.ne_of_lt (blk_lt (g := gb232) (o := .cells #[.int .i64 t230, .int .i64 t231] 25 (0, 0)) (vB BK232.out)) : gb232 ≠ gb256)); have n8_ := Aside0.mk ((by rw [hg]; exact Nat.ne_of_gt (blk_lt (g := gb232) (o := .cells #[.int .i64 t230, .int .i64 t231] 25 (0, 0)) (vB BK232.out)) : gb256 ≠ gb232)); clear HO_3; clear HO_7; clear BK232; clear HB; have HO_3 := n0_; have HO_7 := n1_; have BK232 := n2_; have HB := n3_; have BK256 := n4_; have GW256 := n5_; have GE256 := n6_; have NB232_256 := n7_; have NB256_232 := n8_; clear n0_ n1_ n2_ n3_ n4_ n5_ n6_ n7_ n8_; clear hb hbox hg
                      refine hK.out _ _ ⟨HS0_, HS1_, HS2_, HS3_⟩ (fun hHeld => ?_)
                      clear hK K
                      refine norm_ (a' := ?_) ?_ ?_
                      rotate_left
                      ·show Act.put _ (some 10) _ = _
                       simp only [Act.put, sA, s0, s1, i64_w, i32_w]
                       rfl
                      exact norm_ (by first | (simp only [putAll, Act.put, sA, s0, s1]; done) | (simp only [putAll, Act.put, sA, s0, s1]; rfl)) (hJ11 (gb256) _ ⟨hHeld, (by (with_reducible repeat (first | apply Kd.R_alloc | apply Kd.R_drewN | apply Kd.R_drew)); exact Kd.R_mono HO_3.out (fun _ hk => ⟨hk.1.1, ⟨hk.1.2, hk.2⟩⟩)), (by (with_reducible repeat (first | apply Kd.R_alloc | apply Kd.R_drewN | apply Kd.R_drew)); exact Kd.R_mono HO_7.out (fun _ hk => ⟨hk.1.1, ⟨hk.1.2, hk.2⟩⟩)), (vB BK232.out), (vB BK256.out), GW256.out, GE256.out, NB232_256.out, NB256_232.out, (vW2 HB.out GE232.out GE256.out)⟩)
                    ·skip
                     rintro gb256 w50 ⟨hS_, h0_, h1_, h2_, h3_, h4_, h5_, h6_, h7_, h8_⟩
                     have n0_ : Aside0 (Kd.R k25 25 w50 w.heap.size (fun k_ => some k_ ≠ (u7 : Value).ownBlock ∧ k_ ≠ gb232 ∧ k_ ≠ gb256) (.slice (some ad249) t226.length co17) t226) := ⟨h0_⟩
                     have n1_ : Aside0 (Kd.R k25 25 w50 w.heap.size (fun k_ => some k_ ≠ (.slice (some ad249) t226.length co17 : Value).ownBlock ∧ k_ ≠ gb232 ∧ k_ ≠ gb256) u7 x7_2) := ⟨h1_⟩
                     have n2_ : Aside0 (w50.heap[gb232]? = some (.cells #[.int .i64 t230, .int .i64 t231] 25 (0, 0))) := ⟨h2_⟩
                     have n3_ : Aside0 (w50.heap[gb256]? = some (.cells #[.int .i64 0, .int .i64 0] 25 (0, 0))) := ⟨h3_⟩
                     have n4_ : Aside0 (w.heap.size ≤ gb256) := ⟨h4_⟩
                     have n5_ : Aside0 (w.heap.size ≤ gb256) := ⟨h5_⟩
                     have n6_ : Aside0 (gb232 ≠ gb256) := ⟨h6_⟩
                     have n7_ : Aside0 (gb256 ≠ gb232) := ⟨h7_⟩
                     have n8_ : Aside0 (Below w.heap.size w w50) := ⟨h8_⟩; clear HO_3; clear HO_7; clear BK232; clear HB; clear h0_ h1_ h2_ h3_ h4_ h5_ h6_ h7_ h8_; have HO_3 := n0_; have HO_7 := n1_; have BK232 := n2_; have BK256 := n3_; have GW256 := n4_; have GE256 := n5_; have NB232_256 := n6_; have NB256_232 := n7_; have HB := n8_; clear n0_ n1_ n2_ n3_ n4_ n5_ n6_ n7_ n8_
                     have hHeld : w50.cell? ad249 = some (.int .i64 ((rd_T25 t226 0).f0)) ∧ w50.cell? ⟨ad249.block, ad249.off + 1, none⟩ = some (.int .i64 ((rd_T25 t226 0).f1)) ∧ w50.cell? ad249 = some (.int .i64 ((rd_T25 t226 0).f0)) ∧ w50.cell? ⟨ad249.block, ad249.off + 1, none⟩ = some (.int .i64 ((rd_T25 t226 0).f1)) := hS_
                     refine norm_ (a' := ?_) ?_ ?_
                     rotate_left
                     ·simp only [putAll, Act.put, sA, s0, s1]
                      rfl
                     refine two_ (i := 4) (j := 10) (Ni := some 83) (Nj := some 9) m21 m22 rfl rfl rfl rfl (two_of HT_.out (by kernel_rfl)) (by decide) (by decide) (fun K hK => ?_) (fun K hK => ?_)
                     ·skip
                      refine goes_ Try.func30 (by kernel_rfl) rfl #[.agg #[.int .i64 ((rd_T25 t226 0).f0), .int .i64 ((rd_T25 t226 0).f1)], .int .i64 t227] (by rfl) rfl rfl (by (try simp only [List.map_toArray, List.map_cons, List.map_nil]); first | done | rfl | (simp only [List.length_drop, List.length_take]; rfl)) ?_
                      with_reducible refine (impl_DecAt.calls k2 ((rd_T25 t226 0).f0) ((rd_T25 t226 0).f1) t227 t250 t251 _ A46.out).mono ?_
                      rintro e w51 ⟨rfl, hb⟩
                      have HS0_ := vC hb hHeld.1; have HS1_ := vC hb hHeld.2.1; have HS2_ := vC hb hHeld.2.2.1; have HS3_ := vC hb hHeld.2.2.2
                      refine ⟨_, rfl, ?_⟩
                      have n0_ := Aside0.mk (Kd.R_below (vR HO_3.out) hb); have n1_ := Aside0.mk (Kd.R_below (vR HO_7.out) hb); have n2_ := Aside0.mk (blk_below (g := gb232) (o := .cells #[.int .i64 t230, .int .i64 t231] 25 (0, 0)) (vB BK232.out) hb); have n3_ := Aside0.mk (blk_below (g := gb256) (o := .cells #[.int .i64 0, .int .i64 0] 25 (0, 0)) (vB BK256.out) hb); have n4_ := Aside0.mk (below_step (vW2 HB.out GE232.out GE256.out) hb); clear HO_3; clear HO_7; clear BK232; clear BK256; clear HB; have HO_3 := n0_; have HO_7 := n1_; have BK232 := n2_; have BK256 := n3_; have HB := n4_; clear n0_ n1_ n2_ n3_ n4_
                      (try clear hb)
                      (try clear hb2)
                      (try clear hk)
                      (try clear hi)
                      refine hK.out _ _ ⟨HS0_, HS1_, HS2_, HS3_⟩ (fun hHeld => ?_)
                      clear hK K
                      refine norm_ (a' := ?_) ?_ ?_
                      rotate_left
                      ·show Act.put _ (some 83) _ = _
                       simp only [Act.put, sA, s0, s1, i64_w, i32_w]
                       rfl
                      exact norm_ (by first | (simp only [putAll, Act.put, sA, s0, s1]; done) | (simp only [putAll, Act.put, sA, s0, s1]; rfl)) (hJ4_11 (gb256) _ ⟨hHeld, (vR HO_3.out), (vR HO_7.out), (vB BK232.out), (vB BK256.out), GW256.out, GE256.out, NB232_256.out, NB256_232.out, (vW2 HB.out GE232.out GE256.out)⟩)
                     ·skip
                      refine box_step ?hg (N := 9) ?hd (cs := #[.int .i64 0, .int .i64 0]) (t := 25) ?hr ?_; (case hd => rfl); (case hg => rfl); (case hr => first | (go_simp; done) | (go_simp; rfl))
                      intro gb255 hg w51 hbox hb
                      have HS0_ := vC hb hHeld.1; have HS1_ := vC hb hHeld.2.1; have HS2_ := vC hb hHeld.2.2.1; have HS3_ := vC hb hHeld.2.2.2; have n0_ := Aside0.mk (Kd.R_below (Kd.R_elderB (vR HO_3.out) gb255 (Nat.le_of_eq hg.symm)) hb); have n1_ := Aside0.mk (Kd.R_below (Kd.R_elderB (vR HO_7.out) gb255 (Nat.le_of_eq hg.symm)) hb); have n2_ := Aside0.mk (blk_below (g := gb232) (o := .cells #[.int .i64 t230, .int .i64 t231] 25 (0, 0)) (vB BK232.out) hb); have n3_ := Aside0.mk (blk_below (g := gb256) (o := .cells #[.int .i64 0, .int .i64 0] 25 (0, 0)) (vB BK256.out) hb); have n4_ := Aside0.mk (below_step (vW2 HB.out GE232.out GE256.out) hb); have n5_ := Aside0.mk (hbox); have n6_ := Aside0.mk ((by rw [hg]; exact (below_size (vW2 HB.out GE232.out GE256.out)) : w.heap.size ≤ gb255)); have n7_ := Aside0.mk ((by rw [hg]; exact (below_size (vW2 HB.out GE232.out GE256.out)) : w.heap.size ≤ gb255)); have n8_ := Aside0.mk ((by rw [hg]; exact Nat.ne_of_lt (blk_lt (g := gb232) (o := .cells #[.int .i64 t230, .int .i64 t231] 25 (0, 0)) (vB BK232.out)) : gb232 ≠ gb255)); have n9_ := Aside0.mk ((by rw [hg]; exact Nat.ne_of_gt (blk_lt (g := gb232) (o := .cells #[.int .i64 t230, .int .i64 t231] 25 (0, 0)) (vB BK232.out)) : gb255 ≠ gb232)); have n10_ := Aside0.mk ((by rw [hg]; exact Nat.ne_of_lt (blk_lt (g := gb256) (o := .cells #[.int .i64 0, .int .i64 0] 25 (0, 0)) (vB BK256.out)) : gb256 ≠ gb255)); have n11_ := Aside0.mk ((by rw [hg]; exact Nat.ne_of_gt (blk_lt (g := gb256) (o := .cells #[.int .i64 0, .int .i64 0] 25 (0, 0)) (vB BK256.out)) : gb255 ≠ gb256)); clear HO_3; clear HO_7; clear BK232; clear BK256; clear HB; have HO_3 := n0_; have HO_7 := n1_; have BK232 := n2_; have BK256 := n3_; have HB := n4_; have BK255 := n5_; have GW255 := n6_; have GE255 := n7_; have NB232_255 := n8_; have NB255_232 := n9_; have NB256_255 := n10_; have NB255_256 := n11_; clear n0_ n1_ n2_ n3_ n4_ n5_ n6_ n7_ n8_ n9_ n10_ n11_; clear hb hbox hg
                      refine hK.out _ _ ⟨HS0_, HS1_, HS2_, HS3_⟩ (fun hHeld => ?_)
                      clear hK K
                      refine norm_ (a' := ?_) ?_ ?_
                      rotate_left
                      ·show Act.put _ (some 9) _ = _
                       simp only [Act.put, sA, s0, s1, i64_w, i32_w]
                       rfl
                      exact norm_ (by first | (simp only [putAll, Act.put, sA, s0, s1]; done) | (simp only [putAll, Act.put, sA, s0, s1]; rfl)) (hJ10_11 (gb255, gb256) _ ⟨hHeld, (by (with_reducible repeat (first | apply Kd.R_alloc | apply Kd.R_drewN | apply Kd.R_drew)); exact Kd.R_mono HO_3.out (fun _ hk => ⟨hk.1.1, ⟨hk.1.2.1, ⟨hk.2, hk.1.2.2⟩⟩⟩)), (by (with_reducible repeat (first | apply Kd.R_alloc | apply Kd.R_drewN | apply Kd.R_drew)); exact Kd.R_mono HO_7.out (fun _ hk => ⟨hk.1.1, ⟨hk.1.2.1, ⟨hk.2, hk.1.2.2⟩⟩⟩)), (vB BK232.out), (vB BK255.out), (vB BK256.out), GW255.out, GE255.out, NB232_255.out, NB255_232.out, NB256_255.out, NB255_256.out, GW256.out, GE256.out, NB232_256.out, NB256_232.out, (vW3 HB.out GE232.out GE256.out GE255.out)⟩)
                   ·skip
                    rintro gb255 w50 ⟨hS_, h0_, h1_, h2_, h3_, h4_, h5_, h6_, h7_, h8_⟩
                    have n0_ : Aside0 (Kd.R k25 25 w50 w.heap.size (fun k_ => some k_ ≠ (u7 : Value).ownBlock ∧ k_ ≠ gb232 ∧ k_ ≠ gb255) (.slice (some ad249) t226.length co17) t226) := ⟨h0_⟩
                    have n1_ : Aside0 (Kd.R k25 25 w50 w.heap.size (fun k_ => some k_ ≠ (.slice (some ad249) t226.length co17 : Value).ownBlock ∧ k_ ≠ gb232 ∧ k_ ≠ gb255) u7 x7_2) := ⟨h1_⟩
                    have n2_ : Aside0 (w50.heap[gb232]? = some (.cells #[.int .i64 t230, .int .i64 t231] 25 (0, 0))) := ⟨h2_⟩
                    have n3_ : Aside0 (w50.heap[gb255]? = some (.cells #[.int .i64 0, .int .i64 0] 25 (0, 0))) := ⟨h3_⟩
                    have n4_ : Aside0 (w.heap.size ≤ gb255) := ⟨h4_⟩
                    have n5_ : Aside0 (w.heap.size ≤ gb255) := ⟨h5_⟩
                    have n6_ : Aside0 (gb232 ≠ gb255) := ⟨h6_⟩
                    have n7_ : Aside0 (gb255 ≠ gb232) := ⟨h7_⟩
                    have n8_ : Aside0 (Below w.heap.size w w50) := ⟨h8_⟩; clear HO_3; clear HO_7; clear BK232; clear HB; clear h0_ h1_ h2_ h3_ h4_ h5_ h6_ h7_ h8_; have HO_3 := n0_; have HO_7 := n1_; have BK232 := n2_; have BK255 := n3_; have GW255 := n4_; have GE255 := n5_; have NB232_255 := n6_; have NB255_232 := n7_; have HB := n8_; clear n0_ n1_ n2_ n3_ n4_ n5_ n6_ n7_ n8_
                    have hHeld : w50.cell? ad249 = some (.int .i64 ((rd_T25 t226 0).f0)) ∧ w50.cell? ⟨ad249.block, ad249.off + 1, none⟩ = some (.int .i64 ((rd_T25 t226 0).f1)) ∧ w50.cell? ad249 = some (.int .i64 ((rd_T25 t226 0).f0)) ∧ w50.cell? ⟨ad249.block, ad249.off + 1, none⟩ = some (.int .i64 ((rd_T25 t226 0).f1)) := hS_
                    refine norm_ (a' := ?_) ?_ ?_
                    rotate_left
                    ·simp only [putAll, Act.put, sA, s0, s1]
                     rfl
                    refine two_ (i := 4) (j := 11) (Ni := some 83) (Nj := some 10) m20 m22 rfl rfl rfl rfl (two_of HT_.out (by kernel_rfl)) (by decide) (by decide) (fun K hK => ?_) (fun K hK => ?_)
                    ·skip
                     refine goes_ Try.func30 (by kernel_rfl) rfl #[.agg #[.int .i64 ((rd_T25 t226 0).f0), .int .i64 ((rd_T25 t226 0).f1)], .int .i64 t227] (by rfl) rfl rfl (by (try simp only [List.map_toArray, List.map_cons, List.map_nil]); first | done | rfl | (simp only [List.length_drop, List.length_take]; rfl)) ?_
                     with_reducible refine (impl_DecAt.calls k2 ((rd_T25 t226 0).f0) ((rd_T25 t226 0).f1) t227 t250 t251 _ A46.out).mono ?_
                     rintro e w51 ⟨rfl, hb⟩
                     have HS0_ := vC hb hHeld.1; have HS1_ := vC hb hHeld.2.1; have HS2_ := vC hb hHeld.2.2.1; have HS3_ := vC hb hHeld.2.2.2
                     refine ⟨_, rfl, ?_⟩
                     have n0_ := Aside0.mk (Kd.R_below (vR HO_3.out) hb); have n1_ := Aside0.mk (Kd.R_below (vR HO_7.out) hb); have n2_ := Aside0.mk (blk_below (g := gb232) (o := .cells #[.int .i64 t230, .int .i64 t231] 25 (0, 0)) (vB BK232.out) hb); have n3_ := Aside0.mk (blk_below (g := gb255) (o := .cells #[.int .i64 0, .int .i64 0] 25 (0, 0)) (vB BK255.out) hb); have n4_ := Aside0.mk (below_step (vW2 HB.out GE232.out GE255.out) hb); clear HO_3; clear HO_7; clear BK232; clear BK255; clear HB; have HO_3 := n0_; have HO_7 := n1_; have BK232 := n2_; have BK255 := n3_; have HB := n4_; clear n0_ n1_ n2_ n3_ n4_
                     (try clear hb)
                     (try clear hb2)
                     (try clear hk)
                     (try clear hi)
                     refine hK.out _ _ ⟨HS0_, HS1_, HS2_, HS3_⟩ (fun hHeld => ?_)
                     clear hK K
                     refine norm_ (a' := ?_) ?_ ?_
                     rotate_left
                     ·show Act.put _ (some 83) _ = _
                      simp only [Act.put, sA, s0, s1, i64_w, i32_w]
                      rfl
                     exact norm_ (by first | (simp only [putAll, Act.put, sA, s0, s1]; done) | (simp only [putAll, Act.put, sA, s0, s1]; rfl)) (hJ4_10 (gb255) _ ⟨hHeld, (vR HO_3.out), (vR HO_7.out), (vB BK232.out), (vB BK255.out), GW255.out, GE255.out, NB232_255.out, NB255_232.out, (vW2 HB.out GE232.out GE255.out)⟩)
                    ·skip
                     refine box_step ?hg (N := 10) ?hd (cs := #[.int .i64 0, .int .i64 0]) (t := 25) ?hr ?_; (case hd => rfl); (case hg => rfl); (case hr => first | (go_simp; done) | (go_simp; rfl))
                     intro gb256 hg w51 hbox hb
                     have HS0_ := vC hb hHeld.1; have HS1_ := vC hb hHeld.2.1; have HS2_ := vC hb hHeld.2.2.1; have HS3_ := vC hb hHeld.2.2.2; have n0_ := Aside0.mk (Kd.R_below (Kd.R_elderB (vR HO_3.out) gb256 (Nat.le_of_eq hg.symm)) hb); have n1_ := Aside0.mk (Kd.R_below (Kd.R_elderB (vR HO_7.out) gb256 (Nat.le_of_eq hg.symm)) hb); have n2_ := Aside0.mk (blk_below (g := gb232) (o := .cells #[.int .i64 t230, .int .i64 t231] 25 (0, 0)) (vB BK232.out) hb); have n3_ := Aside0.mk (blk_below (g := gb255) (o := .cells #[.int .i64 0, .int .i64 0] 25 (0, 0)) (vB BK255.out) hb); have n4_ := Aside0.mk (below_step (vW2 HB.out GE232.out GE255.out) hb); have n5_ := Aside0.mk (hbox); have n6_ := Aside0.mk ((by rw [hg]; exact (below_size (vW2 HB.out GE232.out GE255.out)) : w.heap.size ≤ gb256)); have n7_ := Aside0.mk ((by rw [hg]; exact (below_size (vW2 HB.out GE232.out GE255.out)) : w.heap.size ≤ gb256)); have n8_ := Aside0.mk ((by rw [hg]; exact Nat.ne_of_lt (blk_lt (g := gb232) (o := .cells #[.int .i64 t230, .int .i64 t231] 25 (0, 0)) (vB BK232.out)) : gb232 ≠ gb256)); have n9_ := Aside0.mk ((by rw [hg]; exact Nat.ne_of_gt (blk_lt (g := gb232) (o := .cells #[.int .i64 t230, .int .i64 t231] 25 (0, 0)) (vB BK232.out)) : gb256 ≠ gb232)); have n10_ := Aside0.mk ((by rw [hg]; exact Nat.ne_of_lt (blk_lt (g := gb255) (o := .cells #[.int .i64 0, .int .i64 0] 25 (0, 0)) (vB BK255.out)) : gb255 ≠ gb256)); have n11_ := Aside0.mk ((by rw [hg]; exact Nat.ne_of_gt (blk_lt (g := gb255) (o := .cells #[.int .i64 0, .int .i64 0] 25 (0, 0)) (vB BK255.out)) : gb256 ≠ gb255)); clear HO_3; clear HO_7; clear BK232; clear BK255; clear HB; have HO_3 := n0_; have HO_7 := n1_; have BK232 := n2_; have BK255 := n3_; have HB := n4_; have BK256 := n5_; have GW256 := n6_; have GE256 := n7_; have NB232_256 := n8_; have NB256_232 := n9_; have NB255_256 := n10_; have NB256_255 := n11_; clear n0_ n1_ n2_ n3_ n4_ n5_ n6_ n7_ n8_ n9_ n10_ n11_; clear hb hbox hg
                     refine hK.out _ _ ⟨HS0_, HS1_, HS2_, HS3_⟩ (fun hHeld => ?_)
                     clear hK K
                     refine norm_ (a' := ?_) ?_ ?_
                     rotate_left
                     ·show Act.put _ (some 10) _ = _
                      simp only [Act.put, sA, s0, s1, i64_w, i32_w]
                      rfl
                     exact norm_ (by first | (simp only [putAll, Act.put, sA, s0, s1]; done) | (simp only [putAll, Act.put, sA, s0, s1]; rfl)) (hJ10_11 (gb255, gb256) _ ⟨hHeld, (by (with_reducible repeat (first | apply Kd.R_alloc | apply Kd.R_drewN | apply Kd.R_drew)); exact Kd.R_mono HO_3.out (fun _ hk => ⟨hk.1.1, ⟨hk.1.2.1, ⟨hk.1.2.2, hk.2⟩⟩⟩)), (by (with_reducible repeat (first | apply Kd.R_alloc | apply Kd.R_drewN | apply Kd.R_drew)); exact Kd.R_mono HO_7.out (fun _ hk => ⟨hk.1.1, ⟨hk.1.2.1, ⟨hk.1.2.2, hk.2⟩⟩⟩)), (vB BK232.out), (vB BK255.out), (vB BK256.out), GW255.out, GE255.out, NB232_255.out, NB255_232.out, NB256_255.out, NB255_256.out, GW256.out, GE256.out, NB232_256.out, NB256_232.out, (vW3 HB.out GE232.out GE255.out GE256.out)⟩)
                  ·skip
                   rintro _ w50 ⟨hS_, h0_, h1_, h2_, h3_⟩
                   have n0_ : Aside0 (Kd.R k25 25 w50 w.heap.size (fun k_ => some k_ ≠ (u7 : Value).ownBlock ∧ k_ ≠ gb232) (.slice (some ad249) t226.length co17) t226) := ⟨h0_⟩
                   have n1_ : Aside0 (Kd.R k25 25 w50 w.heap.size (fun k_ => some k_ ≠ (.slice (some ad249) t226.length co17 : Value).ownBlock ∧ k_ ≠ gb232) u7 x7_2) := ⟨h1_⟩
                   have n2_ : Aside0 (w50.heap[gb232]? = some (.cells #[.int .i64 t230, .int .i64 t231] 25 (0, 0))) := ⟨h2_⟩
                   have n3_ : Aside0 (Below w.heap.size w w50) := ⟨h3_⟩; clear HO_3; clear HO_7; clear BK232; clear HB; clear h0_ h1_ h2_ h3_; have HO_3 := n0_; have HO_7 := n1_; have BK232 := n2_; have HB := n3_; clear n0_ n1_ n2_ n3_
                   have hHeld : w50.cell? ad249 = some (.int .i64 ((rd_T25 t226 0).f0)) ∧ w50.cell? ⟨ad249.block, ad249.off + 1, none⟩ = some (.int .i64 ((rd_T25 t226 0).f1)) ∧ w50.cell? ad249 = some (.int .i64 ((rd_T25 t226 0).f0)) ∧ w50.cell? ⟨ad249.block, ad249.off + 1, none⟩ = some (.int .i64 ((rd_T25 t226 0).f1)) := hS_
                   refine norm_ (a' := ?_) ?_ ?_
                   rotate_left
                   ·simp only [putAll, Act.put, sA, s0, s1]
                    rfl
                   refine three_ (i := 9) (j := 10) (k := 11) (Ni := some 88) (Nj := some 9) (Nk := some 10) m19 m20 m21 rfl rfl rfl rfl rfl rfl (three_of HT_.out (by kernel_rfl)) (by decide) (by decide) (by decide) (fun K hK => ?_) (fun K hK => ?_) (fun K hK => ?_)
                   ·skip
                    refine goes_ Try.func30 (by kernel_rfl) rfl #[.agg #[.int .i64 ((rd_T25 t226 0).f0), .int .i64 ((rd_T25 t226 0).f1)], .int .i64 t227] (by rfl) rfl rfl (by (try simp only [List.map_toArray, List.map_cons, List.map_nil]); first | done | rfl | (simp only [List.length_drop, List.length_take]; rfl)) ?_
                    with_reducible refine (impl_DecAt.calls k2 ((rd_T25 t226 0).f0) ((rd_T25 t226 0).f1) t227 t253 t254 _ A47.out).mono ?_
                    rintro e w51 ⟨rfl, hb⟩
                    have HS0_ := vC hb hHeld.1; have HS1_ := vC hb hHeld.2.1; have HS2_ := vC hb hHeld.2.2.1; have HS3_ := vC hb hHeld.2.2.2
                    refine ⟨_, rfl, ?_⟩
                    have n0_ := Aside0.mk (Kd.R_below (vR HO_3.out) hb); have n1_ := Aside0.mk (Kd.R_below (vR HO_7.out) hb); have n2_ := Aside0.mk (blk_below (g := gb232) (o := .cells #[.int .i64 t230, .int .i64 t231] 25 (0, 0)) (vB BK232.out) hb); have n3_ := Aside0.mk (below_step (vW1 HB.out GE232.out) hb); clear HO_3; clear HO_7; clear BK232; clear HB; have HO_3 := n0_; have HO_7 := n1_; have BK232 := n2_; have HB := n3_; clear n0_ n1_ n2_ n3_
                    (try clear hb)
                    (try clear hb2)
                    (try clear hk)
                    (try clear hi)
                    refine hK.out _ _ ⟨HS0_, HS1_, HS2_, HS3_⟩ (fun hHeld => ?_)
                    clear hK K
                    refine norm_ (a' := ?_) ?_ ?_
                    rotate_left
                    ·show Act.put _ (some 88) _ = _
                     simp only [Act.put, sA, s0, s1, i64_w, i32_w]
                     rfl
                    exact norm_ (by first | (simp only [putAll, Act.put, sA, s0, s1]; done) | (simp only [putAll, Act.put, sA, s0, s1]; rfl)) (hJ4_9 () _ ⟨hHeld, (vR HO_3.out), (vR HO_7.out), (vB BK232.out), (vW1 HB.out GE232.out)⟩)
                   ·skip
                    refine box_step ?hg (N := 9) ?hd (cs := #[.int .i64 0, .int .i64 0]) (t := 25) ?hr ?_; (case hd => rfl); (case hg => rfl); (case hr => first | (go_simp; done) | (go_simp; rfl))
                    intro gb255 hg w51 hbox hb
                    have HS0_ := vC hb hHeld.1; have HS1_ := vC hb hHeld.2.1; have HS2_ := vC hb hHeld.2.2.1; have HS3_ := vC hb hHeld.2.2.2; have n0_ := Aside0.mk (Kd.R_below (Kd.R_elderB (vR HO_3.out) gb255 (Nat.le_of_eq hg.symm)) hb); have n1_ := Aside0.mk (Kd.R_below (Kd.R_elderB (vR HO_7.out) gb255 (Nat.le_of_eq hg.symm)) hb); have n2_ := Aside0.mk (blk_below (g := gb232) (o := .cells #[.int .i64 t230, .int .i64 t231] 25 (0, 0)) (vB BK232.out) hb); have n3_ := Aside0.mk (below_step (vW1 HB.out GE232.out) hb); have n4_ := Aside0.mk (hbox); have n5_ := Aside0.mk ((by rw [hg]; exact (below_size (vW1 HB.out GE232.out)) : w.heap.size ≤ gb255)); have n6_ := Aside0.mk ((by rw [hg]; exact (below_size (vW1 HB.out GE232.out)) : w.heap.size ≤ gb255)); have n7_ := Aside0.mk ((by rw [hg]; exact Nat.ne_of_lt (blk_lt (g := gb232) (o := .cells #[.int .i64 t230, .int .i64 t231] 25 (0, 0)) (vB BK232.out)) : gb232 ≠ gb255)); have n8_ := Aside0.mk ((by rw [hg]; exact Nat.ne_of_gt (blk_lt (g := gb232) (o := .cells #[.int .i64 t230, .int .i64 t231] 25 (0, 0)) (vB BK232.out)) : gb255 ≠ gb232)); clear HO_3; clear HO_7; clear BK232; clear HB; have HO_3 := n0_; have HO_7 := n1_; have BK232 := n2_; have HB := n3_; have BK255 := n4_; have GW255 := n5_; have GE255 := n6_; have NB232_255 := n7_; have NB255_232 := n8_; clear n0_ n1_ n2_ n3_ n4_ n5_ n6_ n7_ n8_; clear hb hbox hg
                    refine hK.out _ _ ⟨HS0_, HS1_, HS2_, HS3_⟩ (fun hHeld => ?_)
                    clear hK K
                    refine norm_ (a' := ?_) ?_ ?_
                    rotate_left
                    ·show Act.put _ (some 9) _ = _
                     simp only [Act.put, sA, s0, s1, i64_w, i32_w]
                     rfl
                    exact norm_ (by first | (simp only [putAll, Act.put, sA, s0, s1]; done) | (simp only [putAll, Act.put, sA, s0, s1]; rfl)) (hJ4_10 (gb255) _ ⟨hHeld, (by (with_reducible repeat (first | apply Kd.R_alloc | apply Kd.R_drewN | apply Kd.R_drew)); exact Kd.R_mono HO_3.out (fun _ hk => ⟨hk.1.1, ⟨hk.1.2, hk.2⟩⟩)), (by (with_reducible repeat (first | apply Kd.R_alloc | apply Kd.R_drewN | apply Kd.R_drew)); exact Kd.R_mono HO_7.out (fun _ hk => ⟨hk.1.1, ⟨hk.1.2, hk.2⟩⟩)), (vB BK232.out), (vB BK255.out), GW255.out, GE255.out, NB232_255.out, NB255_232.out, (vW2 HB.out GE232.out GE255.out)⟩)
                   ·skip
                    refine box_step ?hg (N := 10) ?hd (cs := #[.int .i64 0, .int .i64 0]) (t := 25) ?hr ?_; (case hd => rfl); (case hg => rfl); (case hr => first | (go_simp; done) | (go_simp; rfl))
                    intro gb256 hg w51 hbox hb
                    have HS0_ := vC hb hHeld.1; have HS1_ := vC hb hHeld.2.1; have HS2_ := vC hb hHeld.2.2.1; have HS3_ := vC hb hHeld.2.2.2; have n0_ := Aside0.mk (Kd.R_below (Kd.R_elderB (vR HO_3.out) gb256 (Nat.le_of_eq hg.symm)) hb); have n1_ := Aside0.mk (Kd.R_below (Kd.R_elderB (vR HO_7.out) gb256 (Nat.le_of_eq hg.symm)) hb); have n2_ := Aside0.mk (blk_below (g := gb232) (o := .cells #[.int .i64 t230, .int .i64 t231] 25 (0, 0)) (vB BK232.out) hb); have n3_ := Aside0.mk (below_step (vW1 HB.out GE232.out) hb); have n4_ := Aside0.mk (hbox); have n5_ := Aside0.mk ((by rw [hg]; exact (below_size (vW1 HB.out GE232.out)) : w.heap.size ≤ gb256)); have n6_ := Aside0.mk ((by rw [hg]; exact (below_size (vW1 HB.out GE232.out)) : w.heap.size ≤ gb256)); have n7_ := Aside0.mk ((by rw [hg]; exact Nat.ne_of_lt (blk_lt (g := gb232) (o := .cells #[.int .i64 t230, .int .i64 t231] 25 (0, 0)) (vB BK232.out)) : gb232 ≠ gb256)); have n8_ := Aside0.mk ((by rw [hg]; exact Nat.ne_of_gt (blk_lt (g := gb232) (o := .cells #[.int .i64 t230, .int .i64 t231] 25 (0, 0)) (vB BK232.out)) : gb256 ≠ gb232)); clear HO_3; clear HO_7; clear BK232; clear HB; have HO_3 := n0_; have HO_7 := n1_; have BK232 := n2_; have HB := n3_; have BK256 := n4_; have GW256 := n5_; have GE256 := n6_; have NB232_256 := n7_; have NB256_232 := n8_; clear n0_ n1_ n2_ n3_ n4_ n5_ n6_ n7_ n8_; clear hb hbox hg
                    refine hK.out _ _ ⟨HS0_, HS1_, HS2_, HS3_⟩ (fun hHeld => ?_)
                    clear hK K
                    refine norm_ (a' := ?_) ?_ ?_
                    rotate_left
                    ·show Act.put _ (some 10) _ = _
                     simp only [Act.put, sA, s0, s1, i64_w, i32_w]
                     rfl
                    exact norm_ (by first | (simp only [putAll, Act.put, sA, s0, s1]; done) | (simp only [putAll, Act.put, sA, s0, s1]; rfl)) (hJ4_11 (gb256) _ ⟨hHeld, (by (with_reducible repeat (first | apply Kd.R_alloc | apply Kd.R_drewN | apply Kd.R_drew)); exact Kd.R_mono HO_3.out (fun _ hk => ⟨hk.1.1, ⟨hk.1.2, hk.2⟩⟩)), (by (with_reducible repeat (first | apply Kd.R_alloc | apply Kd.R_drewN | apply Kd.R_drew)); exact Kd.R_mono HO_7.out (fun _ hk => ⟨hk.1.1, ⟨hk.1.2, hk.2⟩⟩)), (vB BK232.out), (vB BK256.out), GW256.out, GE256.out, NB232_256.out, NB256_232.out, (vW2 HB.out GE232.out GE256.out)⟩)
                 ·skip
                  rintro ⟨gb255, gb256⟩ w51 ⟨hS_, h0_, h1_, h2_, h3_, h4_, h5_, h6_, h7_, h8_, h9_, h10_, h11_, h12_, h13_, h14_, h15_⟩
                  have n0_ : Aside0 (Kd.R k25 25 w51 w.heap.size (fun k_ => some k_ ≠ (u7 : Value).ownBlock ∧ k_ ≠ gb232 ∧ k_ ≠ gb255 ∧ k_ ≠ gb256) (.slice (some ad249) t226.length co17) t226) := ⟨h0_⟩
                  have n1_ : Aside0 (Kd.R k25 25 w51 w.heap.size (fun k_ => some k_ ≠ (.slice (some ad249) t226.length co17 : Value).ownBlock ∧ k_ ≠ gb232 ∧ k_ ≠ gb255 ∧ k_ ≠ gb256) u7 x7_2) := ⟨h1_⟩
                  have n2_ : Aside0 (w51.heap[gb232]? = some (.cells #[.int .i64 t230, .int .i64 t231] 25 (0, 0))) := ⟨h2_⟩
                  have n3_ : Aside0 (w51.heap[gb255]? = some (.cells #[.int .i64 0, .int .i64 0] 25 (0, 0))) := ⟨h3_⟩
                  have n4_ : Aside0 (w51.heap[gb256]? = some (.cells #[.int .i64 0, .int .i64 0] 25 (0, 0))) := ⟨h4_⟩
                  have n5_ : Aside0 (w.heap.size ≤ gb255) := ⟨h5_⟩
                  have n6_ : Aside0 (w.heap.size ≤ gb255) := ⟨h6_⟩
                  have n7_ : Aside0 (gb232 ≠ gb255) := ⟨h7_⟩
                  have n8_ : Aside0 (gb255 ≠ gb232) := ⟨h8_⟩
                  have n9_ : Aside0 (gb256 ≠ gb255) := ⟨h9_⟩
                  have n10_ : Aside0 (gb255 ≠ gb256) := ⟨h10_⟩
                  have n11_ : Aside0 (w.heap.size ≤ gb256) := ⟨h11_⟩
                  have n12_ : Aside0 (w.heap.size ≤ gb256) := ⟨h12_⟩
                  have n13_ : Aside0 (gb232 ≠ gb256) := ⟨h13_⟩
                  have n14_ : Aside0 (gb256 ≠ gb232) := ⟨h14_⟩
                  have n15_ : Aside0 (Below w.heap.size w w51) := ⟨h15_⟩; clear HO_3; clear HO_7; clear BK232; clear HB; clear h0_ h1_ h2_ h3_ h4_ h5_ h6_ h7_ h8_ h9_ h10_ h11_ h12_ h13_ h14_ h15_; have HO_3 := n0_; have HO_7 := n1_; have BK232 := n2_; have BK255 := n3_; have BK256 := n4_; have GW255 := n5_; have GE255 := n6_; have NB232_255 := n7_; have NB255_232 := n8_; have NB256_255 := n9_; have NB255_256 := n10_; have GW256 := n11_; have GE256 := n12_; have NB232_256 := n13_; have NB256_232 := n14_; have HB := n15_; clear n0_ n1_ n2_ n3_ n4_ n5_ n6_ n7_ n8_ n9_ n10_ n11_ n12_ n13_ n14_ n15_
                  have hHeld : w51.cell? ad249 = some (.int .i64 ((rd_T25 t226 0).f0)) ∧ w51.cell? ⟨ad249.block, ad249.off + 1, none⟩ = some (.int .i64 ((rd_T25 t226 0).f1)) ∧ w51.cell? ad249 = some (.int .i64 ((rd_T25 t226 0).f0)) ∧ w51.cell? ⟨ad249.block, ad249.off + 1, none⟩ = some (.int .i64 ((rd_T25 t226 0).f1)) := hS_
                  refine norm_ (a' := ?_) ?_ ?_
                  rotate_left
                  ·simp only [putAll, Act.put, sA, s0, s1]
                   rfl
                  refine one_ (i := 4) (N := some 83) m18 rfl rfl (one_of HT_.out (by kernel_rfl)) (by decide) (fun K hK => ?_)
                  refine goes_ Try.func30 (by kernel_rfl) rfl #[.agg #[.int .i64 ((rd_T25 t226 0).f0), .int .i64 ((rd_T25 t226 0).f1)], .int .i64 t227] (by rfl) rfl rfl (by (try simp only [List.map_toArray, List.map_cons, List.map_nil]); first | done | rfl | (simp only [List.length_drop, List.length_take]; rfl)) ?_
                  with_reducible refine (impl_DecAt.calls k2 ((rd_T25 t226 0).f0) ((rd_T25 t226 0).f1) t227 t250 t251 _ A46.out).mono ?_
                  rintro e w52 ⟨rfl, hb⟩
                  have HS0_ := vC hb hHeld.1; have HS1_ := vC hb hHeld.2.1; have HS2_ := vC hb hHeld.2.2.1; have HS3_ := vC hb hHeld.2.2.2
                  refine ⟨_, rfl, ?_⟩
                  have n0_ := Aside0.mk (Kd.R_below (vR HO_3.out) hb); have n1_ := Aside0.mk (Kd.R_below (vR HO_7.out) hb); have n2_ := Aside0.mk (blk_below (g := gb232) (o := .cells #[.int .i64 t230, .int .i64 t231] 25 (0, 0)) (vB BK232.out) hb); have n3_ := Aside0.mk (blk_below (g := gb255) (o := .cells #[.int .i64 0, .int .i64 0] 25 (0, 0)) (vB BK255.out) hb); have n4_ := Aside0.mk (blk_below (g := gb256) (o := .cells #[.int .i64 0, .int .i64 0] 25 (0, 0)) (vB BK256.out) hb); have n5_ := Aside0.mk (below_step (vW3 HB.out GE232.out GE255.out GE256.out) hb); clear HO_3; clear HO_7; clear BK232; clear BK255; clear BK256; clear HB; have HO_3 := n0_; have HO_7 := n1_; have BK232 := n2_; have BK255 := n3_; have BK256 := n4_; have HB := n5_; clear n0_ n1_ n2_ n3_ n4_ n5_
                  (try clear hb)
                  (try clear hb2)
                  (try clear hk)
                  (try clear hi)
                  refine hK.out _ _ ⟨HS0_, HS1_, HS2_, HS3_⟩ (fun hHeld => ?_)
                  clear hK K
                  refine norm_ (a' := ?_) ?_ ?_
                  rotate_left
                  ·show Act.put _ (some 83) _ = _
                   simp only [Act.put, sA, s0, s1, i64_w, i32_w]
                   rfl
                  exact norm_ (by first | (simp only [putAll, Act.put, sA, s0, s1]; done) | (simp only [putAll, Act.put, sA, s0, s1]; rfl)) (hJ4_10_11 (gb255, gb256) _ ⟨hHeld, (vR HO_3.out), (vR HO_7.out), (vB BK232.out), (vB BK255.out), (vB BK256.out), GW255.out, GE255.out, NB232_255.out, NB255_232.out, NB256_255.out, NB255_256.out, GW256.out, GE256.out, NB232_256.out, NB256_232.out, (vW3 HB.out GE232.out GE255.out GE256.out)⟩)
                ·skip
                 rintro gb256 w51 ⟨hS_, h0_, h1_, h2_, h3_, h4_, h5_, h6_, h7_, h8_⟩
                 have n0_ : Aside0 (Kd.R k25 25 w51 w.heap.size (fun k_ => some k_ ≠ (u7 : Value).ownBlock ∧ k_ ≠ gb232 ∧ k_ ≠ gb256) (.slice (some ad249) t226.length co17) t226) := ⟨h0_⟩
                 have n1_ : Aside0 (Kd.R k25 25 w51 w.heap.size (fun k_ => some k_ ≠ (.slice (some ad249) t226.length co17 : Value).ownBlock ∧ k_ ≠ gb232 ∧ k_ ≠ gb256) u7 x7_2) := ⟨h1_⟩
                 have n2_ : Aside0 (w51.heap[gb232]? = some (.cells #[.int .i64 t230, .int .i64 t231] 25 (0, 0))) := ⟨h2_⟩
                 have n3_ : Aside0 (w51.heap[gb256]? = some (.cells #[.int .i64 0, .int .i64 0] 25 (0, 0))) := ⟨h3_⟩
                 have n4_ : Aside0 (w.heap.size ≤ gb256) := ⟨h4_⟩
                 have n5_ : Aside0 (w.heap.size ≤ gb256) := ⟨h5_⟩
                 have n6_ : Aside0 (gb232 ≠ gb256) := ⟨h6_⟩
                 have n7_ : Aside0 (gb256 ≠ gb232) := ⟨h7_⟩
                 have n8_ : Aside0 (Below w.heap.size w w51) := ⟨h8_⟩; clear HO_3; clear HO_7; clear BK232; clear HB; clear h0_ h1_ h2_ h3_ h4_ h5_ h6_ h7_ h8_; have HO_3 := n0_; have HO_7 := n1_; have BK232 := n2_; have BK256 := n3_; have GW256 := n4_; have GE256 := n5_; have NB232_256 := n6_; have NB256_232 := n7_; have HB := n8_; clear n0_ n1_ n2_ n3_ n4_ n5_ n6_ n7_ n8_
                 have hHeld : w51.cell? ad249 = some (.int .i64 ((rd_T25 t226 0).f0)) ∧ w51.cell? ⟨ad249.block, ad249.off + 1, none⟩ = some (.int .i64 ((rd_T25 t226 0).f1)) ∧ w51.cell? ad249 = some (.int .i64 ((rd_T25 t226 0).f0)) ∧ w51.cell? ⟨ad249.block, ad249.off + 1, none⟩ = some (.int .i64 ((rd_T25 t226 0).f1)) := hS_
                 refine norm_ (a' := ?_) ?_ ?_
                 rotate_left
                 ·simp only [putAll, Act.put, sA, s0, s1]
                  rfl
                 refine two_ (i := 9) (j := 10) (Ni := some 88) (Nj := some 9) m17 m18 rfl rfl rfl rfl (two_of HT_.out (by kernel_rfl)) (by decide) (by decide) (fun K hK => ?_) (fun K hK => ?_)
                 ·skip
                  refine goes_ Try.func30 (by kernel_rfl) rfl #[.agg #[.int .i64 ((rd_T25 t226 0).f0), .int .i64 ((rd_T25 t226 0).f1)], .int .i64 t227] (by rfl) rfl rfl (by (try simp only [List.map_toArray, List.map_cons, List.map_nil]); first | done | rfl | (simp only [List.length_drop, List.length_take]; rfl)) ?_
                  with_reducible refine (impl_DecAt.calls k2 ((rd_T25 t226 0).f0) ((rd_T25 t226 0).f1) t227 t253 t254 _ A47.out).mono ?_
                  rintro e w52 ⟨rfl, hb⟩
                  have HS0_ := vC hb hHeld.1; have HS1_ := vC hb hHeld.2.1; have HS2_ := vC hb hHeld.2.2.1; have HS3_ := vC hb hHeld.2.2.2
                  refine ⟨_, rfl, ?_⟩
                  have n0_ := Aside0.mk (Kd.R_below (vR HO_3.out) hb); have n1_ := Aside0.mk (Kd.R_below (vR HO_7.out) hb); have n2_ := Aside0.mk (blk_below (g := gb232) (o := .cells #[.int .i64 t230, .int .i64 t231] 25 (0, 0)) (vB BK232.out) hb); have n3_ := Aside0.mk (blk_below (g := gb256) (o := .cells #[.int .i64 0, .int .i64 0] 25 (0, 0)) (vB BK256.out) hb); have n4_ := Aside0.mk (below_step (vW2 HB.out GE232.out GE256.out) hb); clear HO_3; clear HO_7; clear BK232; clear BK256; clear HB; have HO_3 := n0_; have HO_7 := n1_; have BK232 := n2_; have BK256 := n3_; have HB := n4_; clear n0_ n1_ n2_ n3_ n4_
                  (try clear hb)
                  (try clear hb2)
                  (try clear hk)
                  (try clear hi)
                  refine hK.out _ _ ⟨HS0_, HS1_, HS2_, HS3_⟩ (fun hHeld => ?_)
                  clear hK K
                  refine norm_ (a' := ?_) ?_ ?_
                  rotate_left
                  ·show Act.put _ (some 88) _ = _
                   simp only [Act.put, sA, s0, s1, i64_w, i32_w]
                   rfl
                  exact norm_ (by first | (simp only [putAll, Act.put, sA, s0, s1]; done) | (simp only [putAll, Act.put, sA, s0, s1]; rfl)) (hJ4_9_11 (gb256) _ ⟨hHeld, (vR HO_3.out), (vR HO_7.out), (vB BK232.out), (vB BK256.out), GW256.out, GE256.out, NB232_256.out, NB256_232.out, (vW2 HB.out GE232.out GE256.out)⟩)
                 ·skip
                  refine box_step ?hg (N := 9) ?hd (cs := #[.int .i64 0, .int .i64 0]) (t := 25) ?hr ?_; (case hd => rfl); (case hg => rfl); (case hr => first | (go_simp; done) | (go_simp; rfl))
                  intro gb255 hg w52 hbox hb
                  have HS0_ := vC hb hHeld.1; have HS1_ := vC hb hHeld.2.1; have HS2_ := vC hb hHeld.2.2.1; have HS3_ := vC hb hHeld.2.2.2; have n0_ := Aside0.mk (Kd.R_below (Kd.R_elderB (vR HO_3.out) gb255 (Nat.le_of_eq hg.symm)) hb); have n1_ := Aside0.mk (Kd.R_below (Kd.R_elderB (vR HO_7.out) gb255 (Nat.le_of_eq hg.symm)) hb); have n2_ := Aside0.mk (blk_below (g := gb232) (o := .cells #[.int .i64 t230, .int .i64 t231] 25 (0, 0)) (vB BK232.out) hb); have n3_ := Aside0.mk (blk_below (g := gb256) (o := .cells #[.int .i64 0, .int .i64 0] 25 (0, 0)) (vB BK256.out) hb); have n4_ := Aside0.mk (below_step (vW2 HB.out GE232.out GE256.out) hb); have n5_ := Aside0.mk (hbox); have n6_ := Aside0.mk ((by rw [hg]; exact (below_size (vW2 HB.out GE232.out GE256.out)) : w.heap.size ≤ gb255)); have n7_ := Aside0.mk ((by rw [hg]; exact (below_size (vW2 HB.out GE232.out GE256.out)) : w.heap.size ≤ gb255)); have n8_ := Aside0.mk ((by rw [hg]; exact Nat.ne_of_lt (blk_lt (g := gb232) (o := .cells #[.int .i64 t230, .int .i64 t231] 25 (0, 0)) (vB BK232.out)) : gb232 ≠ gb255)); have n9_ := Aside0.mk ((by rw [hg]; exact Nat.ne_of_gt (blk_lt (g := gb232) (o := .cells #[.int .i64 t230, .int .i64 t231] 25 (0, 0)) (vB BK232.out)) : gb255 ≠ gb232)); have n10_ := Aside0.mk ((by rw [hg]; exact Nat.ne_of_lt (blk_lt (g := gb256) (o := .cells #[.int .i64 0, .int .i64 0] 25 (0, 0)) (vB BK256.out)) : gb256 ≠ gb255)); have n11_ := Aside0.mk ((by rw [hg]; exact Nat.ne_of_gt (blk_lt (g := gb256) (o := .cells #[.int .i64 0, .int .i64 0] 25 (0, 0)) (vB BK256.out)) : gb255 ≠ gb256)); clear HO_3; clear HO_7; clear BK232; clear BK256; clear HB; have HO_3 := n0_; have HO_7 := n1_; have BK232 := n2_; have BK256 := n3_; have HB := n4_; have BK255 := n5_; have GW255 := n6_; have GE255 := n7_; have NB232_255 := n8_; have NB255_232 := n9_; have NB256_255 := n10_; have NB255_256 := n11_; clear n0_ n1_ n2_ n3_ n4_ n5_ n6_ n7_ n8_ n9_ n10_ n11_; clear hb hbox hg
                  refine hK.out _ _ ⟨HS0_, HS1_, HS2_, HS3_⟩ (fun hHeld => ?_)
                  clear hK K
                  refine norm_ (a' := ?_) ?_ ?_
                  rotate_left
                  ·show Act.put _ (some 9) _ = _
                   simp only [Act.put, sA, s0, s1, i64_w, i32_w]
                   rfl
                  exact norm_ (by first | (simp only [putAll, Act.put, sA, s0, s1]; done) | (simp only [putAll, Act.put, sA, s0, s1]; rfl)) (hJ4_10_11 (gb255, gb256) _ ⟨hHeld, (by (with_reducible repeat (first | apply Kd.R_alloc | apply Kd.R_drewN | apply Kd.R_drew)); exact Kd.R_mono HO_3.out (fun _ hk => ⟨hk.1.1, ⟨hk.1.2.1, ⟨hk.2, hk.1.2.2⟩⟩⟩)), (by (with_reducible repeat (first | apply Kd.R_alloc | apply Kd.R_drewN | apply Kd.R_drew)); exact Kd.R_mono HO_7.out (fun _ hk => ⟨hk.1.1, ⟨hk.1.2.1, ⟨hk.2, hk.1.2.2⟩⟩⟩)), (vB BK232.out), (vB BK255.out), (vB BK256.out), GW255.out, GE255.out, NB232_255.out, NB255_232.out, NB256_255.out, NB255_256.out, GW256.out, GE256.out, NB232_256.out, NB256_232.out, (vW3 HB.out GE232.out GE256.out GE255.out)⟩)
               ·skip
                rintro gb255 w51 ⟨hS_, h0_, h1_, h2_, h3_, h4_, h5_, h6_, h7_, h8_⟩
                have n0_ : Aside0 (Kd.R k25 25 w51 w.heap.size (fun k_ => some k_ ≠ (u7 : Value).ownBlock ∧ k_ ≠ gb232 ∧ k_ ≠ gb255) (.slice (some ad249) t226.length co17) t226) := ⟨h0_⟩
                have n1_ : Aside0 (Kd.R k25 25 w51 w.heap.size (fun k_ => some k_ ≠ (.slice (some ad249) t226.length co17 : Value).ownBlock ∧ k_ ≠ gb232 ∧ k_ ≠ gb255) u7 x7_2) := ⟨h1_⟩
                have n2_ : Aside0 (w51.heap[gb232]? = some (.cells #[.int .i64 t230, .int .i64 t231] 25 (0, 0))) := ⟨h2_⟩
                have n3_ : Aside0 (w51.heap[gb255]? = some (.cells #[.int .i64 0, .int .i64 0] 25 (0, 0))) := ⟨h3_⟩
                have n4_ : Aside0 (w.heap.size ≤ gb255) := ⟨h4_⟩
                have n5_ : Aside0 (w.heap.size ≤ gb255) := ⟨h5_⟩
                have n6_ : Aside0 (gb232 ≠ gb255) := ⟨h6_⟩
                have n7_ : Aside0 (gb255 ≠ gb232) := ⟨h7_⟩
                have n8_ : Aside0 (Below w.heap.size w w51) := ⟨h8_⟩; clear HO_3; clear HO_7; clear BK232; clear HB; clear h0_ h1_ h2_ h3_ h4_ h5_ h6_ h7_ h8_; have HO_3 := n0_; have HO_7 := n1_; have BK232 := n2_; have BK255 := n3_; have GW255 := n4_; have GE255 := n5_; have NB232_255 := n6_; have NB255_232 := n7_; have HB := n8_; clear n0_ n1_ n2_ n3_ n4_ n5_ n6_ n7_ n8_
                have hHeld : w51.cell? ad249 = some (.int .i64 ((rd_T25 t226 0).f0)) ∧ w51.cell? ⟨ad249.block, ad249.off + 1, none⟩ = some (.int .i64 ((rd_T25 t226 0).f1)) ∧ w51.cell? ad249 = some (.int .i64 ((rd_T25 t226 0).f0)) ∧ w51.cell? ⟨ad249.block, ad249.off + 1, none⟩ = some (.int .i64 ((rd_T25 t226 0).f1)) := hS_
                refine norm_ (a' := ?_) ?_ ?_
                rotate_left
                ·simp only [putAll, Act.put, sA, s0, s1]
                 rfl
                refine two_ (i := 9) (j := 11) (Ni := some 88) (Nj := some 10) m16 m18 rfl rfl rfl rfl (two_of HT_.out (by kernel_rfl)) (by decide) (by decide) (fun K hK => ?_) (fun K hK => ?_)
                ·skip
                 refine goes_ Try.func30 (by kernel_rfl) rfl #[.agg #[.int .i64 ((rd_T25 t226 0).f0), .int .i64 ((rd_T25 t226 0).f1)], .int .i64 t227] (by rfl) rfl rfl (by (try simp only [List.map_toArray, List.map_cons, List.map_nil]); first | done | rfl | (simp only [List.length_drop, List.length_take]; rfl)) ?_
                 with_reducible refine (impl_DecAt.calls k2 ((rd_T25 t226 0).f0) ((rd_T25 t226 0).f1) t227 t253 t254 _ A47.out).mono ?_
                 rintro e w52 ⟨rfl, hb⟩
                 have HS0_ := vC hb hHeld.1; have HS1_ := vC hb hHeld.2.1; have HS2_ := vC hb hHeld.2.2.1; have HS3_ := vC hb hHeld.2.2.2
                 refine ⟨_, rfl, ?_⟩
                 have n0_ := Aside0.mk (Kd.R_below (vR HO_3.out) hb); have n1_ := Aside0.mk (Kd.R_below (vR HO_7.out) hb); have n2_ := Aside0.mk (blk_below (g := gb232) (o := .cells #[.int .i64 t230, .int .i64 t231] 25 (0, 0)) (vB BK232.out) hb); have n3_ := Aside0.mk (blk_below (g := gb255) (o := .cells #[.int .i64 0, .int .i64 0] 25 (0, 0)) (vB BK255.out) hb); have n4_ := Aside0.mk (below_step (vW2 HB.out GE232.out GE255.out) hb); clear HO_3; clear HO_7; clear BK232; clear BK255; clear HB; have HO_3 := n0_; have HO_7 := n1_; have BK232 := n2_; have BK255 := n3_; have HB := n4_; clear n0_ n1_ n2_ n3_ n4_
                 (try clear hb)
                 (try clear hb2)
                 (try clear hk)
                 (try clear hi)
                 refine hK.out _ _ ⟨HS0_, HS1_, HS2_, HS3_⟩ (fun hHeld => ?_)
                 clear hK K
                 refine norm_ (a' := ?_) ?_ ?_
                 rotate_left
                 ·show Act.put _ (some 88) _ = _
                  simp only [Act.put, sA, s0, s1, i64_w, i32_w]
                  rfl
                 exact norm_ (by first | (simp only [putAll, Act.put, sA, s0, s1]; done) | (simp only [putAll, Act.put, sA, s0, s1]; rfl)) (hJ4_9_10 (gb255) _ ⟨hHeld, (vR HO_3.out), (vR HO_7.out), (vB BK232.out), (vB BK255.out), GW255.out, GE255.out, NB232_255.out, NB255_232.out, (vW2 HB.out GE232.out GE255.out)⟩)
                ·skip
                 refine box_step ?hg (N := 10) ?hd (cs := #[.int .i64 0, .int .i64 0]) (t := 25) ?hr ?_; (case hd => rfl); (case hg => rfl); (case hr => first | (go_simp; done) | (go_simp; rfl))
                 intro gb256 hg w52 hbox hb
                 have HS0_ := vC hb hHeld.1; have HS1_ := vC hb hHeld.2.1; have HS2_ := vC hb hHeld.2.2.1; have HS3_ := vC hb hHeld.2.2.2; have n0_ := Aside0.mk (Kd.R_below (Kd.R_elderB (vR HO_3.out) gb256 (Nat.le_of_eq hg.symm)) hb); have n1_ := Aside0.mk (Kd.R_below (Kd.R_elderB (vR HO_7.out) gb256 (Nat.le_of_eq hg.symm)) hb); have n2_ := Aside0.mk (blk_below (g := gb232) (o := .cells #[.int .i64 t230, .int .i64 t231] 25 (0, 0)) (vB BK232.out) hb); have n3_ := Aside0.mk (blk_below (g := gb255) (o := .cells #[.int .i64 0, .int .i64 0] 25 (0, 0)) (vB BK255.out) hb); have n4_ := Aside0.mk (below_step (vW2 HB.out GE232.out GE255.out) hb); have n5_ := Aside0.mk (hbox); have n6_ := Aside0.mk ((by rw [hg]; exact (below_size (vW2 HB.out GE232.out GE255.out)) : w.heap.size ≤ gb256)); have n7_ := Aside0.mk ((by rw [hg]; exact (below_size (vW2 HB.out GE232.out GE255.out)) : w.heap.size ≤ gb256)); have n8_ := Aside0.mk ((by rw [hg]; exact Nat.ne_of_lt (blk_lt (g := gb232) (o := .cells #[.int .i64 t230, .int .i64 t231] 25 (0, 0)) (vB BK232.out)) : gb232 ≠ gb256)); have n9_ := Aside0.mk ((by rw [hg]; exact Nat.ne_of_gt (blk_lt (g := gb232) (o := .cells #[.int .i64 t230, .int .i64 t231] 25 (0, 0)) (vB BK232.out)) : gb256 ≠ gb232)); have n10_ := Aside0.mk ((by rw [hg]; exact Nat.ne_of_lt (blk_lt (g := gb255) (o := .cells #[.int .i64 0, .int .i64 0] 25 (0, 0)) (vB BK255.out)) : gb255 ≠ gb256)); have n11_ := Aside0.mk ((by rw [hg]; exact Nat.ne_of_gt (blk_lt (g := gb255) (o := .cells #[.int .i64 0, .int .i64 0] 25 (0, 0)) (vB BK255.out)) : gb256 ≠ gb255)); clear HO_3; clear HO_7; clear BK232; clear BK255; clear HB; have HO_3 := n0_; have HO_7 := n1_; have BK232 := n2_; have BK255 := n3_; have HB := n4_; have BK256 := n5_; have GW256 := n6_; have GE256 := n7_; have NB232_256 := n8_; have NB256_232 := n9_; have NB255_256 := n10_; have NB256_255 := n11_; clear n0_ n1_ n2_ n3_ n4_ n5_ n6_ n7_ n8_ n9_ n10_ n11_; clear hb hbox hg
                 refine hK.out _ _ ⟨HS0_, HS1_, HS2_, HS3_⟩ (fun hHeld => ?_)
                 clear hK K
                 refine norm_ (a' := ?_) ?_ ?_
                 rotate_left
                 ·show Act.put _ (some 10) _ = _
                  simp only [Act.put, sA, s0, s1, i64_w, i32_w]
                  rfl
                 exact norm_ (by first | (simp only [putAll, Act.put, sA, s0, s1]; done) | (simp only [putAll, Act.put, sA, s0, s1]; rfl)) (hJ4_10_11 (gb255, gb256) _ ⟨hHeld, (by (with_reducible repeat (first | apply Kd.R_alloc | apply Kd.R_drewN | apply Kd.R_drew)); exact Kd.R_mono HO_3.out (fun _ hk => ⟨hk.1.1, ⟨hk.1.2.1, ⟨hk.1.2.2, hk.2⟩⟩⟩)), (by (with_reducible repeat (first | apply Kd.R_alloc | apply Kd.R_drewN | apply Kd.R_drew)); exact Kd.R_mono HO_7.out (fun _ hk => ⟨hk.1.1, ⟨hk.1.2.1, ⟨hk.1.2.2, hk.2⟩⟩⟩)), (vB BK232.out), (vB BK255.out), (vB BK256.out), GW255.out, GE255.out, NB232_255.out, NB255_232.out, NB256_255.out, NB255_256.out, GW256.out, GE256.out, NB232_256.out, NB256_232.out, (vW3 HB.out GE232.out GE255.out GE256.out)⟩)
              ·skip
               rintro _ w51 ⟨hS_, h0_, h1_, h2_, h3_⟩
               have n0_ : Aside0 (Kd.R k25 25 w51 w.heap.size (fun k_ => some k_ ≠ (u7 : Value).ownBlock ∧ k_ ≠ gb232) (.slice (some ad249) t226.length co17) t226) := ⟨h0_⟩
               have n1_ : Aside0 (Kd.R k25 25 w51 w.heap.size (fun k_ => some k_ ≠ (.slice (some ad249) t226.length co17 : Value).ownBlock ∧ k_ ≠ gb232) u7 x7_2) := ⟨h1_⟩
               have n2_ : Aside0 (w51.heap[gb232]? = some (.cells #[.int .i64 t230, .int .i64 t231] 25 (0, 0))) := ⟨h2_⟩
               have n3_ : Aside0 (Below w.heap.size w w51) := ⟨h3_⟩; clear HO_3; clear HO_7; clear BK232; clear HB; clear h0_ h1_ h2_ h3_; have HO_3 := n0_; have HO_7 := n1_; have BK232 := n2_; have HB := n3_; clear n0_ n1_ n2_ n3_
               have hHeld : w51.cell? ad249 = some (.int .i64 ((rd_T25 t226 0).f0)) ∧ w51.cell? ⟨ad249.block, ad249.off + 1, none⟩ = some (.int .i64 ((rd_T25 t226 0).f1)) ∧ w51.cell? ad249 = some (.int .i64 ((rd_T25 t226 0).f0)) ∧ w51.cell? ⟨ad249.block, ad249.off + 1, none⟩ = some (.int .i64 ((rd_T25 t226 0).f1)) := hS_
               refine norm_ (a' := ?_) ?_ ?_
               rotate_left
               ·simp only [putAll, Act.put, sA, s0, s1]
                rfl
               refine two_ (i := 10) (j := 11) (Ni := some 9) (Nj := some 10) m16 m17 rfl rfl rfl rfl (two_of HT_.out (by kernel_rfl)) (by decide) (by decide) (fun K hK => ?_) (fun K hK => ?_)
               ·skip
                refine box_step ?hg (N := 9) ?hd (cs := #[.int .i64 0, .int .i64 0]) (t := 25) ?hr ?_; (case hd => rfl); (case hg => rfl); (case hr => first | (go_simp; done) | (go_simp; rfl))
                intro gb255 hg w52 hbox hb
                have HS0_ := vC hb hHeld.1; have HS1_ := vC hb hHeld.2.1; have HS2_ := vC hb hHeld.2.2.1; have HS3_ := vC hb hHeld.2.2.2; have n0_ := Aside0.mk (Kd.R_below (Kd.R_elderB (vR HO_3.out) gb255 (Nat.le_of_eq hg.symm)) hb); have n1_ := Aside0.mk (Kd.R_below (Kd.R_elderB (vR HO_7.out) gb255 (Nat.le_of_eq hg.symm)) hb); have n2_ := Aside0.mk (blk_below (g := gb232) (o := .cells #[.int .i64 t230, .int .i64 t231] 25 (0, 0)) (vB BK232.out) hb); have n3_ := Aside0.mk (below_step (vW1 HB.out GE232.out) hb); have n4_ := Aside0.mk (hbox); have n5_ := Aside0.mk ((by rw [hg]; exact (below_size (vW1 HB.out GE232.out)) : w.heap.size ≤ gb255)); have n6_ := Aside0.mk ((by rw [hg]; exact (below_size (vW1 HB.out GE232.out)) : w.heap.size ≤ gb255)); have n7_ := Aside0.mk ((by rw [hg]; exact Nat.ne_of_lt (blk_lt (g := gb232) (o := .cells #[.int .i64 t230, .int .i64 t231] 25 (0, 0)) (vB BK232.out)) : gb232 ≠ gb255)); have n8_ := Aside0.mk ((by rw [hg]; exact Nat.ne_of_gt (blk_lt (g := gb232) (o := .cells #[.int .i64 t230, .int .i64 t231] 25 (0, 0)) (vB BK232.out)) : gb255 ≠ gb232)); clear HO_3; clear HO_7; clear BK232; clear HB; have HO_3 := n0_; have HO_7 := n1_; have BK232 := n2_; have HB := n3_; have BK255 := n4_; have GW255 := n5_; have GE255 := n6_; have NB232_255 := n7_; have NB255_232 := n8_; clear n0_ n1_ n2_ n3_ n4_ n5_ n6_ n7_ n8_; clear hb hbox hg
                refine hK.out _ _ ⟨HS0_, HS1_, HS2_, HS3_⟩ (fun hHeld => ?_)
                clear hK K
                refine norm_ (a' := ?_) ?_ ?_
                rotate_left
                ·show Act.put _ (some 9) _ = _
                 simp only [Act.put, sA, s0, s1, i64_w, i32_w]
                 rfl
                exact norm_ (by first | (simp only [putAll, Act.put, sA, s0, s1]; done) | (simp only [putAll, Act.put, sA, s0, s1]; rfl)) (hJ4_9_10 (gb255) _ ⟨hHeld, (by (with_reducible repeat (first | apply Kd.R_alloc | apply Kd.R_drewN | apply Kd.R_drew)); exact Kd.R_mono HO_3.out (fun _ hk => ⟨hk.1.1, ⟨hk.1.2, hk.2⟩⟩)), (by (with_reducible repeat (first | apply Kd.R_alloc | apply Kd.R_drewN | apply Kd.R_drew)); exact Kd.R_mono HO_7.out (fun _ hk => ⟨hk.1.1, ⟨hk.1.2, hk.2⟩⟩)), (vB BK232.out), (vB BK255.out), GW255.out, GE255.out, NB232_255.out, NB255_232.out, (vW2 HB.out GE232.out GE255.out)⟩)
               ·skip
                refine box_step ?hg (N := 10) ?hd (cs := #[.int .i64 0, .int .i64 0]) (t := 25) ?hr ?_; (case hd => rfl); (case hg => rfl); (case hr => first | (go_simp; done) | (go_simp; rfl))
                intro gb256 hg w52 hbox hb
                have HS0_ := vC hb hHeld.1; have HS1_ := vC hb hHeld.2.1; have HS2_ := vC hb hHeld.2.2.1; have HS3_ := vC hb hHeld.2.2.2; have n0_ := Aside0.mk (Kd.R_below (Kd.R_elderB (vR HO_3.out) gb256 (Nat.le_of_eq hg.symm)) hb); have n1_ := Aside0.mk (Kd.R_below (Kd.R_elderB (vR HO_7.out) gb256 (Nat.le_of_eq hg.symm)) hb); have n2_ := Aside0.mk (blk_below (g := gb232) (o := .cells #[.int .i64 t230, .int .i64 t231] 25 (0, 0)) (vB BK232.out) hb); have n3_ := Aside0.mk (below_step (vW1 HB.out GE232.out) hb); have n4_ := Aside0.mk (hbox); have n5_ := Aside0.mk ((by rw [hg]; exact (below_size (vW1 HB.out GE232.out)) : w.heap.size ≤ gb256)); have n6_ := Aside0.mk ((by rw [hg]; exact (below_size (vW1 HB.out GE232.out)) : w.heap.size ≤ gb256)); have n7_ := Aside0.mk ((by rw [hg]; exact Nat.ne_of_lt (blk_lt (g := gb232) (o := .cells #[.int .i64 t230, .int .i64 t231] 25 (0, 0)) (vB BK232.out)) : gb232 ≠ gb256)); have n8_ := Aside0.mk ((by rw [hg]; exact Nat.ne_of_gt (blk_lt (g := gb232) (o := .cells #[.int .i64 t230, .int .i64 t231] 25 (0, 0)) (vB BK232.out)) : gb256 ≠ gb232)); clear HO_3; clear HO_7; clear BK232; clear HB; have HO_3 := n0_; have HO_7 := n1_; have BK232 := n2_; have HB := n3_; have BK256 := n4_; have GW256 := n5_; have GE256 := n6_; have NB232_256 := n7_; have NB256_232 := n8_; clear n0_ n1_ n2_ n3_ n4_ n5_ n6_ n7_ n8_; clear hb hbox hg
                refine hK.out _ _ ⟨HS0_, HS1_, HS2_, HS3_⟩ (fun hHeld => ?_)
                clear hK K
                refine norm_ (a' := ?_) ?_ ?_
                rotate_left
                ·show Act.put _ (some 10) _ = _
                 simp only [Act.put, sA, s0, s1, i64_w, i32_w]
                 rfl
                exact norm_ (by first | (simp only [putAll, Act.put, sA, s0, s1]; done) | (simp only [putAll, Act.put, sA, s0, s1]; rfl)) (hJ4_9_11 (gb256) _ ⟨hHeld, (by (with_reducible repeat (first | apply Kd.R_alloc | apply Kd.R_drewN | apply Kd.R_drew)); exact Kd.R_mono HO_3.out (fun _ hk => ⟨hk.1.1, ⟨hk.1.2, hk.2⟩⟩)), (by (with_reducible repeat (first | apply Kd.R_alloc | apply Kd.R_drewN | apply Kd.R_drew)); exact Kd.R_mono HO_7.out (fun _ hk => ⟨hk.1.1, ⟨hk.1.2, hk.2⟩⟩)), (vB BK232.out), (vB BK256.out), GW256.out, GE256.out, NB232_256.out, NB256_232.out, (vW2 HB.out GE232.out GE256.out)⟩)
             ·skip
              rintro ⟨gb255, gb256⟩ w52 ⟨hS_, h0_, h1_, h2_, h3_, h4_, h5_, h6_, h7_, h8_, h9_, h10_, h11_, h12_, h13_, h14_, h15_⟩
              have n0_ : Aside0 (Kd.R k25 25 w52 w.heap.size (fun k_ => some k_ ≠ (u7 : Value).ownBlock ∧ k_ ≠ gb232 ∧ k_ ≠ gb255 ∧ k_ ≠ gb256) (.slice (some ad249) t226.length co17) t226) := ⟨h0_⟩
              have n1_ : Aside0 (Kd.R k25 25 w52 w.heap.size (fun k_ => some k_ ≠ (.slice (some ad249) t226.length co17 : Value).ownBlock ∧ k_ ≠ gb232 ∧ k_ ≠ gb255 ∧ k_ ≠ gb256) u7 x7_2) := ⟨h1_⟩
              have n2_ : Aside0 (w52.heap[gb232]? = some (.cells #[.int .i64 t230, .int .i64 t231] 25 (0, 0))) := ⟨h2_⟩
              have n3_ : Aside0 (w52.heap[gb255]? = some (.cells #[.int .i64 0, .int .i64 0] 25 (0, 0))) := ⟨h3_⟩
              have n4_ : Aside0 (w52.heap[gb256]? = some (.cells #[.int .i64 0, .int .i64 0] 25 (0, 0))) := ⟨h4_⟩
              have n5_ : Aside0 (w.heap.size ≤ gb255) := ⟨h5_⟩
              have n6_ : Aside0 (w.heap.size ≤ gb255) := ⟨h6_⟩
              have n7_ : Aside0 (gb232 ≠ gb255) := ⟨h7_⟩
              have n8_ : Aside0 (gb255 ≠ gb232) := ⟨h8_⟩
              have n9_ : Aside0 (gb256 ≠ gb255) := ⟨h9_⟩
              have n10_ : Aside0 (gb255 ≠ gb256) := ⟨h10_⟩
              have n11_ : Aside0 (w.heap.size ≤ gb256) := ⟨h11_⟩
              have n12_ : Aside0 (w.heap.size ≤ gb256) := ⟨h12_⟩
              have n13_ : Aside0 (gb232 ≠ gb256) := ⟨h13_⟩
              have n14_ : Aside0 (gb256 ≠ gb232) := ⟨h14_⟩
              have n15_ : Aside0 (Below w.heap.size w w52) := ⟨h15_⟩; clear HO_3; clear HO_7; clear BK232; clear HB; clear h0_ h1_ h2_ h3_ h4_ h5_ h6_ h7_ h8_ h9_ h10_ h11_ h12_ h13_ h14_ h15_; have HO_3 := n0_; have HO_7 := n1_; have BK232 := n2_; have BK255 := n3_; have BK256 := n4_; have GW255 := n5_; have GE255 := n6_; have NB232_255 := n7_; have NB255_232 := n8_; have NB256_255 := n9_; have NB255_256 := n10_; have GW256 := n11_; have GE256 := n12_; have NB232_256 := n13_; have NB256_232 := n14_; have HB := n15_; clear n0_ n1_ n2_ n3_ n4_ n5_ n6_ n7_ n8_ n9_ n10_ n11_ n12_ n13_ n14_ n15_
              have hHeld : w52.cell? ad249 = some (.int .i64 ((rd_T25 t226 0).f0)) ∧ w52.cell? ⟨ad249.block, ad249.off + 1, none⟩ = some (.int .i64 ((rd_T25 t226 0).f1)) ∧ w52.cell? ad249 = some (.int .i64 ((rd_T25 t226 0).f0)) ∧ w52.cell? ⟨ad249.block, ad249.off + 1, none⟩ = some (.int .i64 ((rd_T25 t226 0).f1)) := hS_
              refine norm_ (a' := ?_) ?_ ?_
              rotate_left
              ·simp only [putAll, Act.put, sA, s0, s1]
               rfl
              refine one_ (i := 9) (N := some 88) m15 rfl rfl (one_of HT_.out (by kernel_rfl)) (by decide) (fun K hK => ?_)
              refine goes_ Try.func30 (by kernel_rfl) rfl #[.agg #[.int .i64 ((rd_T25 t226 0).f0), .int .i64 ((rd_T25 t226 0).f1)], .int .i64 t227] (by rfl) rfl rfl (by (try simp only [List.map_toArray, List.map_cons, List.map_nil]); first | done | rfl | (simp only [List.length_drop, List.length_take]; rfl)) ?_
              with_reducible refine (impl_DecAt.calls k2 ((rd_T25 t226 0).f0) ((rd_T25 t226 0).f1) t227 t253 t254 _ A47.out).mono ?_
              rintro e w53 ⟨rfl, hb⟩
              have HS0_ := vC hb hHeld.1; have HS1_ := vC hb hHeld.2.1; have HS2_ := vC hb hHeld.2.2.1; have HS3_ := vC hb hHeld.2.2.2
              refine ⟨_, rfl, ?_⟩
              have n0_ := Aside0.mk (Kd.R_below (vR HO_3.out) hb); have n1_ := Aside0.mk (Kd.R_below (vR HO_7.out) hb); have n2_ := Aside0.mk (blk_below (g := gb232) (o := .cells #[.int .i64 t230, .int .i64 t231] 25 (0, 0)) (vB BK232.out) hb); have n3_ := Aside0.mk (blk_below (g := gb255) (o := .cells #[.int .i64 0, .int .i64 0] 25 (0, 0)) (vB BK255.out) hb); have n4_ := Aside0.mk (blk_below (g := gb256) (o := .cells #[.int .i64 0, .int .i64 0] 25 (0, 0)) (vB BK256.out) hb); have n5_ := Aside0.mk (below_step (vW3 HB.out GE232.out GE255.out GE256.out) hb); clear HO_3; clear HO_7; clear BK232; clear BK255; clear BK256; clear HB; have HO_3 := n0_; have HO_7 := n1_; have BK232 := n2_; have BK255 := n3_; have BK256 := n4_; have HB := n5_; clear n0_ n1_ n2_ n3_ n4_ n5_
              (try clear hb)
              (try clear hb2)
              (try clear hk)
              (try clear hi)
              refine hK.out _ _ ⟨HS0_, HS1_, HS2_, HS3_⟩ (fun hHeld => ?_)
              clear hK K
              refine norm_ (a' := ?_) ?_ ?_
              rotate_left
              ·show Act.put _ (some 88) _ = _
               simp only [Act.put, sA, s0, s1, i64_w, i32_w]
               rfl
              exact norm_ (by first | (simp only [putAll, Act.put, sA, s0, s1]; done) | (simp only [putAll, Act.put, sA, s0, s1]; rfl)) (hJ4_9_10_11 (gb255, gb256) _ ⟨hHeld, (vR HO_3.out), (vR HO_7.out), (vB BK232.out), (vB BK255.out), (vB BK256.out), GW255.out, GE255.out, NB232_255.out, NB255_232.out, NB256_255.out, NB255_256.out, GW256.out, GE256.out, NB232_256.out, NB256_232.out, (vW3 HB.out GE232.out GE255.out GE256.out)⟩)
            ·skip
             rintro gb256 w52 ⟨hS_, h0_, h1_, h2_, h3_, h4_, h5_, h6_, h7_, h8_⟩
             have n0_ : Aside0 (Kd.R k25 25 w52 w.heap.size (fun k_ => some k_ ≠ (u7 : Value).ownBlock ∧ k_ ≠ gb232 ∧ k_ ≠ gb256) (.slice (some ad249) t226.length co17) t226) := ⟨h0_⟩
             have n1_ : Aside0 (Kd.R k25 25 w52 w.heap.size (fun k_ => some k_ ≠ (.slice (some ad249) t226.length co17 : Value).ownBlock ∧ k_ ≠ gb232 ∧ k_ ≠ gb256) u7 x7_2) := ⟨h1_⟩
             have n2_ : Aside0 (w52.heap[gb232]? = some (.cells #[.int .i64 t230, .int .i64 t231] 25 (0, 0))) := ⟨h2_⟩
             have n3_ : Aside0 (w52.heap[gb256]? = some (.cells #[.int .i64 0, .int .i64 0] 25 (0, 0))) := ⟨h3_⟩
             have n4_ : Aside0 (w.heap.size ≤ gb256) := ⟨h4_⟩
             have n5_ : Aside0 (w.heap.size ≤ gb256) := ⟨h5_⟩
             have n6_ : Aside0 (gb232 ≠ gb256) := ⟨h6_⟩
             have n7_ : Aside0 (gb256 ≠ gb232) := ⟨h7_⟩
             have n8_ : Aside0 (Below w.heap.size w w52) := ⟨h8_⟩; clear HO_3; clear HO_7; clear BK232; clear HB; clear h0_ h1_ h2_ h3_ h4_ h5_ h6_ h7_ h8_; have HO_3 := n0_; have HO_7 := n1_; have BK232 := n2_; have BK256 := n3_; have GW256 := n4_; have GE256 := n5_; have NB232_256 := n6_; have NB256_232 := n7_; have HB := n8_; clear n0_ n1_ n2_ n3_ n4_ n5_ n6_ n7_ n8_
             have hHeld : w52.cell? ad249 = some (.int .i64 ((rd_T25 t226 0).f0)) ∧ w52.cell? ⟨ad249.block, ad249.off + 1, none⟩ = some (.int .i64 ((rd_T25 t226 0).f1)) ∧ w52.cell? ad249 = some (.int .i64 ((rd_T25 t226 0).f0)) ∧ w52.cell? ⟨ad249.block, ad249.off + 1, none⟩ = some (.int .i64 ((rd_T25 t226 0).f1)) := hS_
             refine norm_ (a' := ?_) ?_ ?_
             rotate_left
             ·simp only [putAll, Act.put, sA, s0, s1]
              rfl
             refine one_ (i := 10) (N := some 9) m15 rfl rfl (one_of HT_.out (by kernel_rfl)) (by decide) (fun K hK => ?_)
             refine box_step ?hg (N := 9) ?hd (cs := #[.int .i64 0, .int .i64 0]) (t := 25) ?hr ?_; (case hd => rfl); (case hg => rfl); (case hr => first | (go_simp; done) | (go_simp; rfl))
             intro gb255 hg w53 hbox hb
             have HS0_ := vC hb hHeld.1; have HS1_ := vC hb hHeld.2.1; have HS2_ := vC hb hHeld.2.2.1; have HS3_ := vC hb hHeld.2.2.2; have n0_ := Aside0.mk (Kd.R_below (Kd.R_elderB (vR HO_3.out) gb255 (Nat.le_of_eq hg.symm)) hb); have n1_ := Aside0.mk (Kd.R_below (Kd.R_elderB (vR HO_7.out) gb255 (Nat.le_of_eq hg.symm)) hb); have n2_ := Aside0.mk (blk_below (g := gb232) (o := .cells #[.int .i64 t230, .int .i64 t231] 25 (0, 0)) (vB BK232.out) hb); have n3_ := Aside0.mk (blk_below (g := gb256) (o := .cells #[.int .i64 0, .int .i64 0] 25 (0, 0)) (vB BK256.out) hb); have n4_ := Aside0.mk (below_step (vW2 HB.out GE232.out GE256.out) hb); have n5_ := Aside0.mk (hbox); have n6_ := Aside0.mk ((by rw [hg]; exact (below_size (vW2 HB.out GE232.out GE256.out)) : w.heap.size ≤ gb255)); have n7_ := Aside0.mk ((by rw [hg]; exact (below_size (vW2 HB.out GE232.out GE256.out)) : w.heap.size ≤ gb255)); have n8_ := Aside0.mk ((by rw [hg]; exact Nat.ne_of_lt (blk_lt (g := gb232) (o := .cells #[.int .i64 t230, .int .i64 t231] 25 (0, 0)) (vB BK232.out)) : gb232 ≠ gb255)); have n9_ := Aside0.mk ((by rw [hg]; exact Nat.ne_of_gt (blk_lt (g := gb232) (o := .cells #[.int .i64 t230, .int .i64 t231] 25 (0, 0)) (vB BK232.out)) : gb255 ≠ gb232)); have n10_ := Aside0.mk ((by rw [hg]; exact Nat.ne_of_lt (blk_lt (g := gb256) (o := .cells #[.int .i64 0, .int .i64 0] 25 (0, 0)) (vB BK256.out)) : gb256 ≠ gb255)); have n11_ := Aside0.mk ((by rw [hg]; exact Nat.ne_of_gt (blk_lt (g := gb256) (o := .cells #[.int .i64 0, .int .i64 0] 25 (0, 0)) (vB BK256.out)) : gb255 ≠ gb256)); clear HO_3; clear HO_7; clear BK232; clear BK256; clear HB; have HO_3 := n0_; have HO_7 := n1_; have BK232 := n2_; have BK256 := n3_; have HB := n4_; have BK255 := n5_; have GW255 := n6_; have GE255 := n7_; have NB232_255 := n8_; have NB255_232 := n9_; have NB256_255 := n10_; have NB255_256 := n11_; clear n0_ n1_ n2_ n3_ n4_ n5_ n6_ n7_ n8_ n9_ n10_ n11_; clear hb hbox hg
             refine hK.out _ _ ⟨HS0_, HS1_, HS2_, HS3_⟩ (fun hHeld => ?_)
             clear hK K
             refine norm_ (a' := ?_) ?_ ?_
             rotate_left
             ·show Act.put _ (some 9) _ = _
              simp only [Act.put, sA, s0, s1, i64_w, i32_w]
              rfl
             exact norm_ (by first | (simp only [putAll, Act.put, sA, s0, s1]; done) | (simp only [putAll, Act.put, sA, s0, s1]; rfl)) (hJ4_9_10_11 (gb255, gb256) _ ⟨hHeld, (by (with_reducible repeat (first | apply Kd.R_alloc | apply Kd.R_drewN | apply Kd.R_drew)); exact Kd.R_mono HO_3.out (fun _ hk => ⟨hk.1.1, ⟨hk.1.2.1, ⟨hk.2, hk.1.2.2⟩⟩⟩)), (by (with_reducible repeat (first | apply Kd.R_alloc | apply Kd.R_drewN | apply Kd.R_drew)); exact Kd.R_mono HO_7.out (fun _ hk => ⟨hk.1.1, ⟨hk.1.2.1, ⟨hk.2, hk.1.2.2⟩⟩⟩)), (vB BK232.out), (vB BK255.out), (vB BK256.out), GW255.out, GE255.out, NB232_255.out, NB255_232.out, NB256_255.out, NB255_256.out, GW256.out, GE256.out, NB232_256.out, NB256_232.out, (vW3 HB.out GE232.out GE256.out GE255.out)⟩)
           ·skip
            rintro gb255 w52 ⟨hS_, h0_, h1_, h2_, h3_, h4_, h5_, h6_, h7_, h8_⟩
            have n0_ : Aside0 (Kd.R k25 25 w52 w.heap.size (fun k_ => some k_ ≠ (u7 : Value).ownBlock ∧ k_ ≠ gb232 ∧ k_ ≠ gb255) (.slice (some ad249) t226.length co17) t226) := ⟨h0_⟩
            have n1_ : Aside0 (Kd.R k25 25 w52 w.heap.size (fun k_ => some k_ ≠ (.slice (some ad249) t226.length co17 : Value).ownBlock ∧ k_ ≠ gb232 ∧ k_ ≠ gb255) u7 x7_2) := ⟨h1_⟩
            have n2_ : Aside0 (w52.heap[gb232]? = some (.cells #[.int .i64 t230, .int .i64 t231] 25 (0, 0))) := ⟨h2_⟩
            have n3_ : Aside0 (w52.heap[gb255]? = some (.cells #[.int .i64 0, .int .i64 0] 25 (0, 0))) := ⟨h3_⟩
            have n4_ : Aside0 (w.heap.size ≤ gb255) := ⟨h4_⟩
            have n5_ : Aside0 (w.heap.size ≤ gb255) := ⟨h5_⟩
            have n6_ : Aside0 (gb232 ≠ gb255) := ⟨h6_⟩
            have n7_ : Aside0 (gb255 ≠ gb232) := ⟨h7_⟩
            have n8_ : Aside0 (Below w.heap.size w w52) := ⟨h8_⟩; clear HO_3; clear HO_7; clear BK232; clear HB; clear h0_ h1_ h2_ h3_ h4_ h5_ h6_ h7_ h8_; have HO_3 := n0_; have HO_7 := n1_; have BK232 := n2_; have BK255 := n3_; have GW255 := n4_; have GE255 := n5_; have NB232_255 := n6_; have NB255_232 := n7_; have HB := n8_; clear n0_ n1_ n2_ n3_ n4_ n5_ n6_ n7_ n8_
            have hHeld : w52.cell? ad249 = some (.int .i64 ((rd_T25 t226 0).f0)) ∧ w52.cell? ⟨ad249.block, ad249.off + 1, none⟩ = some (.int .i64 ((rd_T25 t226 0).f1)) ∧ w52.cell? ad249 = some (.int .i64 ((rd_T25 t226 0).f0)) ∧ w52.cell? ⟨ad249.block, ad249.off + 1, none⟩ = some (.int .i64 ((rd_T25 t226 0).f1)) := hS_
            refine norm_ (a' := ?_) ?_ ?_
            rotate_left
            ·simp only [putAll, Act.put, sA, s0, s1]
             rfl
            refine one_ (i := 11) (N := some 10) m15 rfl rfl (one_of HT_.out (by kernel_rfl)) (by decide) (fun K hK => ?_)
            refine box_step ?hg (N := 10) ?hd (cs := #[.int .i64 0, .int .i64 0]) (t := 25) ?hr ?_; (case hd => rfl); (case hg => rfl); (case hr => first | (go_simp; done) | (go_simp; rfl))
            intro gb256 hg w53 hbox hb
            have HS0_ := vC hb hHeld.1; have HS1_ := vC hb hHeld.2.1; have HS2_ := vC hb hHeld.2.2.1; have HS3_ := vC hb hHeld.2.2.2; have n0_ := Aside0.mk (Kd.R_below (Kd.R_elderB (vR HO_3.out) gb256 (Nat.le_of_eq hg.symm)) hb); have n1_ := Aside0.mk (Kd.R_below (Kd.R_elderB (vR HO_7.out) gb256 (Nat.le_of_eq hg.symm)) hb); have n2_ := Aside0.mk (blk_below (g := gb232) (o := .cells #[.int .i64 t230, .int .i64 t231] 25 (0, 0)) (vB BK232.out) hb); have n3_ := Aside0.mk (blk_below (g := gb255) (o := .cells #[.int .i64 0, .int .i64 0] 25 (0, 0)) (vB BK255.out) hb); have n4_ := Aside0.mk (below_step (vW2 HB.out GE232.out GE255.out) hb); have n5_ := Aside0.mk (hbox); have n6_ := Aside0.mk ((by rw [hg]; exact (below_size (vW2 HB.out GE232.out GE255.out)) : w.heap.size ≤ gb256)); have n7_ := Aside0.mk ((by rw [hg]; exact (below_size (vW2 HB.out GE232.out GE255.out)) : w.heap.size ≤ gb256)); have n8_ := Aside0.mk ((by rw [hg]; exact Nat.ne_of_lt (blk_lt (g := gb232) (o := .cells #[.int .i64 t230, .int .i64 t231] 25 (0, 0)) (vB BK232.out)) : gb232 ≠ gb256)); have n9_ := Aside0.mk ((by rw [hg]; exact Nat.ne_of_gt (blk_lt (g := gb232) (o := .cells #[.int .i64 t230, .int .i64 t231] 25 (0, 0)) (vB BK232.out)) : gb256 ≠ gb232)); have n10_ := Aside0.mk ((by rw [hg]; exact Nat.ne_of_lt (blk_lt (g := gb255) (o := .cells #[.int .i64 0, .int .i64 0] 25 (0, 0)) (vB BK255.out)) : gb255 ≠ gb256)); have n11_ := Aside0.mk ((by rw [hg]; exact Nat.ne_of_gt (blk_lt (g := gb255) (o := .cells #[.int .i64 0, .int .i64 0] 25 (0, 0)) (vB BK255.out)) : gb256 ≠ gb255)); clear HO_3; clear HO_7; clear BK232; clear BK255; clear HB; have HO_3 := n0_; have HO_7 := n1_; have BK232 := n2_; have BK255 := n3_; have HB := n4_; have BK256 := n5_; have GW256 := n6_; have GE256 := n7_; have NB232_256 := n8_; have NB256_232 := n9_; have NB255_256 := n10_; have NB256_255 := n11_; clear n0_ n1_ n2_ n3_ n4_ n5_ n6_ n7_ n8_ n9_ n10_ n11_; clear hb hbox hg
            refine hK.out _ _ ⟨HS0_, HS1_, HS2_, HS3_⟩ (fun hHeld => ?_)
            clear hK K
            refine norm_ (a' := ?_) ?_ ?_
            rotate_left
            ·show Act.put _ (some 10) _ = _
             simp only [Act.put, sA, s0, s1, i64_w, i32_w]
             rfl
            exact norm_ (by first | (simp only [putAll, Act.put, sA, s0, s1]; done) | (simp only [putAll, Act.put, sA, s0, s1]; rfl)) (hJ4_9_10_11 (gb255, gb256) _ ⟨hHeld, (by (with_reducible repeat (first | apply Kd.R_alloc | apply Kd.R_drewN | apply Kd.R_drew)); exact Kd.R_mono HO_3.out (fun _ hk => ⟨hk.1.1, ⟨hk.1.2.1, ⟨hk.1.2.2, hk.2⟩⟩⟩)), (by (with_reducible repeat (first | apply Kd.R_alloc | apply Kd.R_drewN | apply Kd.R_drew)); exact Kd.R_mono HO_7.out (fun _ hk => ⟨hk.1.1, ⟨hk.1.2.1, ⟨hk.1.2.2, hk.2⟩⟩⟩)), (vB BK232.out), (vB BK255.out), (vB BK256.out), GW255.out, GE255.out, NB232_255.out, NB255_232.out, NB256_255.out, NB255_256.out, GW256.out, GE256.out, NB232_256.out, NB256_232.out, (vW3 HB.out GE232.out GE255.out GE256.out)⟩)
          rintro ⟨gb255, gb256⟩ w53 ⟨hS_, h0_, h1_, h2_, h3_, h4_, h5_, h6_, h7_, h8_, h9_, h10_, h11_, h12_, h13_, h14_, h15_⟩
          have n0_ : Aside0 (Kd.R k25 25 w53 w.heap.size (fun k_ => some k_ ≠ (u7 : Value).ownBlock ∧ k_ ≠ gb232 ∧ k_ ≠ gb255 ∧ k_ ≠ gb256) (.slice (some ad249) t226.length co17) t226) := ⟨h0_⟩
          have n1_ : Aside0 (Kd.R k25 25 w53 w.heap.size (fun k_ => some k_ ≠ (.slice (some ad249) t226.length co17 : Value).ownBlock ∧ k_ ≠ gb232 ∧ k_ ≠ gb255 ∧ k_ ≠ gb256) u7 x7_2) := ⟨h1_⟩
          have n2_ : Aside0 (w53.heap[gb232]? = some (.cells #[.int .i64 t230, .int .i64 t231] 25 (0, 0))) := ⟨h2_⟩
          have n3_ : Aside0 (w53.heap[gb255]? = some (.cells #[.int .i64 0, .int .i64 0] 25 (0, 0))) := ⟨h3_⟩
          have n4_ : Aside0 (w53.heap[gb256]? = some (.cells #[.int .i64 0, .int .i64 0] 25 (0, 0))) := ⟨h4_⟩
          have n5_ : Aside0 (w.heap.size ≤ gb255) := ⟨h5_⟩
          have n6_ : Aside0 (w.heap.size ≤ gb255) := ⟨h6_⟩
          have n7_ : Aside0 (gb232 ≠ gb255) := ⟨h7_⟩
          have n8_ : Aside0 (gb255 ≠ gb232) := ⟨h8_⟩
          have n9_ : Aside0 (gb256 ≠ gb255) := ⟨h9_⟩
          have n10_ : Aside0 (gb255 ≠ gb256) := ⟨h10_⟩
          have n11_ : Aside0 (w.heap.size ≤ gb256) := ⟨h11_⟩
          have n12_ : Aside0 (w.heap.size ≤ gb256) := ⟨h12_⟩
          have n13_ : Aside0 (gb232 ≠ gb256) := ⟨h13_⟩
          have n14_ : Aside0 (gb256 ≠ gb232) := ⟨h14_⟩
          have n15_ : Aside0 (Below w.heap.size w w53) := ⟨h15_⟩; clear HO_3; clear HO_7; clear BK232; clear HB; clear h0_ h1_ h2_ h3_ h4_ h5_ h6_ h7_ h8_ h9_ h10_ h11_ h12_ h13_ h14_ h15_; have HO_3 := n0_; have HO_7 := n1_; have BK232 := n2_; have BK255 := n3_; have BK256 := n4_; have GW255 := n5_; have GE255 := n6_; have NB232_255 := n7_; have NB255_232 := n8_; have NB256_255 := n9_; have NB255_256 := n10_; have GW256 := n11_; have GE256 := n12_; have NB232_256 := n13_; have NB256_232 := n14_; have HB := n15_; clear n0_ n1_ n2_ n3_ n4_ n5_ n6_ n7_ n8_ n9_ n10_ n11_ n12_ n13_ n14_ n15_
          have hHeld : w53.cell? ad249 = some (.int .i64 ((rd_T25 t226 0).f0)) ∧ w53.cell? ⟨ad249.block, ad249.off + 1, none⟩ = some (.int .i64 ((rd_T25 t226 0).f1)) ∧ w53.cell? ad249 = some (.int .i64 ((rd_T25 t226 0).f0)) ∧ w53.cell? ⟨ad249.block, ad249.off + 1, none⟩ = some (.int .i64 ((rd_T25 t226 0).f1)) := hS_
          refine norm_ (a' := ?_) ?_ ?_
          rotate_left
          ·simp only [putAll, Act.put, sA, s0, s1]
           rfl
          refine one_ (i := 12) (N := none) m26 rfl rfl (one_of HT_.out (by kernel_rfl)) (by decide) (fun K hK => ?_)
          have hs54 : w53.cell? ⟨gb255, 0, none⟩ = some (.int .i64 0) := (blk_cell BK255.out 0).trans rfl
          have hfs54 := blk_frozen BK255.out 0
          have hns54_0 := NB232_255.out
          have hns54_2 := NB256_255.out
          have hms54_0 := NB255_232.out
          have hms54_2 := NB255_256.out
          have hs55 : w53.cell? ⟨gb255, 1, none⟩ = some (.int .i64 0) := (blk_cell BK255.out 1).trans rfl
          have hfs55 := blk_frozen BK255.out 1
          have hns55_0 := NB232_255.out
          have hns55_2 := NB256_255.out
          have hms55_0 := NB255_232.out
          have hms55_2 := NB255_256.out
          refine skip_ (w1 := ?_) (by rfl) rfl ?_ ?_
          rotate_left
          ·go_simp
           rfl
          refine hK.out _ _ ⟨((cell_far (p := ⟨gb255, _, none⟩) (by first | exact Kd.own_blk (Kd.R_away HO_3.out (fun _ hk => hk.2.2.1)) | (rw [add_block]; exact Kd.own_blk (Kd.R_away HO_3.out (fun _ hk => hk.2.2.1))) | (show (Addr.add _ _).block ≠ _; rw [add_block]; exact Kd.own_blk (Kd.R_away HO_3.out (fun _ hk => hk.2.2.1))) | (dsimp only; exact Kd.own_blk (Kd.R_away HO_3.out (fun _ hk => hk.2.2.1)))) _).trans (((cell_far (p := ⟨gb255, _, none⟩) (by first | exact Kd.own_blk (Kd.R_away HO_3.out (fun _ hk => hk.2.2.1)) | (rw [add_block]; exact Kd.own_blk (Kd.R_away HO_3.out (fun _ hk => hk.2.2.1))) | (show (Addr.add _ _).block ≠ _; rw [add_block]; exact Kd.own_blk (Kd.R_away HO_3.out (fun _ hk => hk.2.2.1))) | (dsimp only; exact Kd.own_blk (Kd.R_away HO_3.out (fun _ hk => hk.2.2.1)))) _).trans (hHeld.1)))), ((cell_far (p := ⟨gb255, _, none⟩) (by first | exact Kd.own_blk (Kd.R_away HO_3.out (fun _ hk => hk.2.2.1)) | (rw [add_block]; exact Kd.own_blk (Kd.R_away HO_3.out (fun _ hk => hk.2.2.1))) | (show (Addr.add _ _).block ≠ _; rw [add_block]; exact Kd.own_blk (Kd.R_away HO_3.out (fun _ hk => hk.2.2.1))) | (dsimp only; exact Kd.own_blk (Kd.R_away HO_3.out (fun _ hk => hk.2.2.1)))) _).trans (((cell_far (p := ⟨gb255, _, none⟩) (by first | exact Kd.own_blk (Kd.R_away HO_3.out (fun _ hk => hk.2.2.1)) | (rw [add_block]; exact Kd.own_blk (Kd.R_away HO_3.out (fun _ hk => hk.2.2.1))) | (show (Addr.add _ _).block ≠ _; rw [add_block]; exact Kd.own_blk (Kd.R_away HO_3.out (fun _ hk => hk.2.2.1))) | (dsimp only; exact Kd.own_blk (Kd.R_away HO_3.out (fun _ hk => hk.2.2.1)))) _).trans (hHeld.2.1)))), ((cell_far (p := ⟨gb255, _, none⟩) (by first | exact Kd.own_blk (Kd.R_away HO_3.out (fun _ hk => hk.2.2.1)) | (rw [add_block]; exact Kd.own_blk (Kd.R_away HO_3.out (fun _ hk => hk.2.2.1))) | (show (Addr.add _ _).block ≠ _; rw [add_block]; exact Kd.own_blk (Kd.R_away HO_3.out (fun _ hk => hk.2.2.1))) | (dsimp only; exact Kd.own_blk (Kd.R_away HO_3.out (fun _ hk => hk.2.2.1)))) _).trans (((cell_far (p := ⟨gb255, _, none⟩) (by first | exact Kd.own_blk (Kd.R_away HO_3.out (fun _ hk => hk.2.2.1)) | (rw [add_block]; exact Kd.own_blk (Kd.R_away HO_3.out (fun _ hk => hk.2.2.1))) | (show (Addr.add _ _).block ≠ _; rw [add_block]; exact Kd.own_blk (Kd.R_away HO_3.out (fun _ hk => hk.2.2.1))) | (dsimp only; exact Kd.own_blk (Kd.R_away HO_3.out (fun _ hk => hk.2.2.1)))) _).trans (hHeld.2.2.1)))), ((cell_far (p := ⟨gb255, _, none⟩) (by first | exact Kd.own_blk (Kd.R_away HO_3.out (fun _ hk => hk.2.2.1)) | (rw [add_block]; exact Kd.own_blk (Kd.R_away HO_3.out (fun _ hk => hk.2.2.1))) | (show (Addr.add _ _).block ≠ _; rw [add_block]; exact Kd.own_blk (Kd.R_away HO_3.out (fun _ hk => hk.2.2.1))) | (dsimp only; exact Kd.own_blk (Kd.R_away HO_3.out (fun _ hk => hk.2.2.1)))) _).trans (((cell_far (p := ⟨gb255, _, none⟩) (by first | exact Kd.own_blk (Kd.R_away HO_3.out (fun _ hk => hk.2.2.1)) | (rw [add_block]; exact Kd.own_blk (Kd.R_away HO_3.out (fun _ hk => hk.2.2.1))) | (show (Addr.add _ _).block ≠ _; rw [add_block]; exact Kd.own_blk (Kd.R_away HO_3.out (fun _ hk => hk.2.2.1))) | (dsimp only; exact Kd.own_blk (Kd.R_away HO_3.out (fun _ hk => hk.2.2.1)))) _).trans (hHeld.2.2.2))))⟩ (fun hHeld => ?_)
          clear hK K
          refine one_ (i := 13) (N := none) m27 rfl rfl (one_of HT_.out (by kernel_rfl)) (by decide) (fun K hK => ?_)
          have hs56 : w53.cell? ⟨gb256, 0, none⟩ = some (.int .i64 0) := (blk_cell BK256.out 0).trans rfl
          have hfs56 := blk_frozen BK256.out 0
          have hns56_0 := NB232_256.out
          have hns56_1 := NB255_256.out
          have hms56_0 := NB256_232.out
          have hms56_1 := NB256_255.out
          have hs57 : w53.cell? ⟨gb256, 1, none⟩ = some (.int .i64 0) := (blk_cell BK256.out 1).trans rfl
          have hfs57 := blk_frozen BK256.out 1
          have hns57_0 := NB232_256.out
          have hns57_1 := NB255_256.out
          have hms57_0 := NB256_232.out
          have hms57_1 := NB256_255.out
          refine skip_ (w1 := ?_) (by rfl) rfl ?_ ?_
          rotate_left
          ·go_simp
           rfl
          refine hK.out _ _ ⟨((cell_far (p := ⟨gb256, _, none⟩) (by first | exact Kd.own_blk (Kd.R_away HO_3.out (fun _ hk => hk.2.2.2)) | (rw [add_block]; exact Kd.own_blk (Kd.R_away HO_3.out (fun _ hk => hk.2.2.2))) | (show (Addr.add _ _).block ≠ _; rw [add_block]; exact Kd.own_blk (Kd.R_away HO_3.out (fun _ hk => hk.2.2.2))) | (dsimp only; exact Kd.own_blk (Kd.R_away HO_3.out (fun _ hk => hk.2.2.2)))) _).trans (((cell_far (p := ⟨gb256, _, none⟩) (by first | exact Kd.own_blk (Kd.R_away HO_3.out (fun _ hk => hk.2.2.2)) | (rw [add_block]; exact Kd.own_blk (Kd.R_away HO_3.out (fun _ hk => hk.2.2.2))) | (show (Addr.add _ _).block ≠ _; rw [add_block]; exact Kd.own_blk (Kd.R_away HO_3.out (fun _ hk => hk.2.2.2))) | (dsimp only; exact Kd.own_blk (Kd.R_away HO_3.out (fun _ hk => hk.2.2.2)))) _).trans (hHeld.1)))), ((cell_far (p := ⟨gb256, _, none⟩) (by first | exact Kd.own_blk (Kd.R_away HO_3.out (fun _ hk => hk.2.2.2)) | (rw [add_block]; exact Kd.own_blk (Kd.R_away HO_3.out (fun _ hk => hk.2.2.2))) | (show (Addr.add _ _).block ≠ _; rw [add_block]; exact Kd.own_blk (Kd.R_away HO_3.out (fun _ hk => hk.2.2.2))) | (dsimp only; exact Kd.own_blk (Kd.R_away HO_3.out (fun _ hk => hk.2.2.2)))) _).trans (((cell_far (p := ⟨gb256, _, none⟩) (by first | exact Kd.own_blk (Kd.R_away HO_3.out (fun _ hk => hk.2.2.2)) | (rw [add_block]; exact Kd.own_blk (Kd.R_away HO_3.out (fun _ hk => hk.2.2.2))) | (show (Addr.add _ _).block ≠ _; rw [add_block]; exact Kd.own_blk (Kd.R_away HO_3.out (fun _ hk => hk.2.2.2))) | (dsimp only; exact Kd.own_blk (Kd.R_away HO_3.out (fun _ hk => hk.2.2.2)))) _).trans (hHeld.2.1)))), ((cell_far (p := ⟨gb256, _, none⟩) (by first | exact Kd.own_blk (Kd.R_away HO_3.out (fun _ hk => hk.2.2.2)) | (rw [add_block]; exact Kd.own_blk (Kd.R_away HO_3.out (fun _ hk => hk.2.2.2))) | (show (Addr.add _ _).block ≠ _; rw [add_block]; exact Kd.own_blk (Kd.R_away HO_3.out (fun _ hk => hk.2.2.2))) | (dsimp only; exact Kd.own_blk (Kd.R_away HO_3.out (fun _ hk => hk.2.2.2)))) _).trans (((cell_far (p := ⟨gb256, _, none⟩) (by first | exact Kd.own_blk (Kd.R_away HO_3.out (fun _ hk => hk.2.2.2)) | (rw [add_block]; exact Kd.own_blk (Kd.R_away HO_3.out (fun _ hk => hk.2.2.2))) | (show (Addr.add _ _).block ≠ _; rw [add_block]; exact Kd.own_blk (Kd.R_away HO_3.out (fun _ hk => hk.2.2.2))) | (dsimp only; exact Kd.own_blk (Kd.R_away HO_3.out (fun _ hk => hk.2.2.2)))) _).trans (hHeld.2.2.1)))), ((cell_far (p := ⟨gb256, _, none⟩) (by first | exact Kd.own_blk (Kd.R_away HO_3.out (fun _ hk => hk.2.2.2)) | (rw [add_block]; exact Kd.own_blk (Kd.R_away HO_3.out (fun _ hk => hk.2.2.2))) | (show (Addr.add _ _).block ≠ _; rw [add_block]; exact Kd.own_blk (Kd.R_away HO_3.out (fun _ hk => hk.2.2.2))) | (dsimp only; exact Kd.own_blk (Kd.R_away HO_3.out (fun _ hk => hk.2.2.2)))) _).trans (((cell_far (p := ⟨gb256, _, none⟩) (by first | exact Kd.own_blk (Kd.R_away HO_3.out (fun _ hk => hk.2.2.2)) | (rw [add_block]; exact Kd.own_blk (Kd.R_away HO_3.out (fun _ hk => hk.2.2.2))) | (show (Addr.add _ _).block ≠ _; rw [add_block]; exact Kd.own_blk (Kd.R_away HO_3.out (fun _ hk => hk.2.2.2))) | (dsimp only; exact Kd.own_blk (Kd.R_away HO_3.out (fun _ hk => hk.2.2.2)))) _).trans (hHeld.2.2.2))))⟩ (fun hHeld => ?_)
          clear hK K
          refine done_ (done_of HT_.out (by kernel_rfl)) ?_
          try go_wp2
          go_loopg [11] k2 (fun kq v11 w' => ∃ (x11_3 : Int) (x256000_3 : Int) (x256001_3 : Int) (x257000_3 : Int) (x257001_3 : Int), v11 = .int .i64 x11_3 ∧ Aside0 (laws_FnDecMean.l1 kq t226 t227 x7_2 x11_3 t230 t231 x256000_3 x256001_3 x257000_3 x257001_3 = some r) ∧ Aside0 (kq ≤ k2) ∧ Aside0 (Kd.R k25 25 w' w.heap.size (fun k_ => some k_ ≠ (u7 : Value).ownBlock ∧ k_ ≠ gb232 ∧ k_ ≠ gb255 ∧ k_ ≠ gb256) (.slice (some ad249) t226.length co17) t226) ∧ Aside0 (Kd.R k25 25 w' w.heap.size (fun k_ => some k_ ≠ ((.slice (some ad249) t226.length co17) : Value).ownBlock ∧ k_ ≠ gb232 ∧ k_ ≠ gb255 ∧ k_ ≠ gb256) u7 x7_2) ∧ Aside0 (w'.heap[gb232]? = some (.cells #[.int .i64 t230, .int .i64 t231] 25 (0, 0))) ∧ Aside0 (w'.heap[gb255]? = some (.cells #[.int .i64 x256000_3, .int .i64 x256001_3] 25 (0, 0))) ∧ Aside0 (w'.heap[gb256]? = some (.cells #[.int .i64 x257000_3, .int .i64 x257001_3] 25 (0, 0))) ∧ Aside0 (Below w.heap.size w w'))
          case atStart => exact ⟨(0), (t250), (t251), (t253), (t254), (by first | rfl | (simp; done) | (simp [*]; done)), H', ⟨Nat.le_refl _⟩, ⟨by (with_reducible repeat (first | apply Kd.R_alloc | apply Kd.R_drewN | apply Kd.R_drew)); exact Kd.R_mono (Kd.R_far (p := ⟨gb256, 1, none⟩) (Kd.R_far (p := ⟨gb256, 0, none⟩) (Kd.R_far (p := ⟨gb255, 1, none⟩) (Kd.R_far (p := ⟨gb255, 0, none⟩) (Kd.R_mono (Kd.R_mono HO_3.out (fun k_ hk => (⟨hk, hk.2.2.1⟩ : _ ∧ k_ ≠ gb255))) (fun k_ hk => (⟨hk, hk.1.2.2.2⟩ : _ ∧ k_ ≠ gb256))) (fun _ hk => hk.1.2) (.int .i64 t250)) (fun _ hk => hk.1.2) (.int .i64 t251)) (fun _ hk => hk.2) (.int .i64 t253)) (fun _ hk => hk.2) (.int .i64 t254)) (fun _ hk => ⟨hk.1.1.1, ⟨hk.1.1.2.1, ⟨hk.1.1.2.2.1, hk.1.1.2.2.2⟩⟩⟩)⟩, ⟨by (with_reducible repeat (first | apply Kd.R_alloc | apply Kd.R_drewN | apply Kd.R_drew)); exact Kd.R_mono (Kd.R_far (p := ⟨gb256, 1, none⟩) (Kd.R_far (p := ⟨gb256, 0, none⟩) (Kd.R_far (p := ⟨gb255, 1, none⟩) (Kd.R_far (p := ⟨gb255, 0, none⟩) (Kd.R_mono (Kd.R_mono HO_7.out (fun k_ hk => (⟨hk, hk.2.2.1⟩ : _ ∧ k_ ≠ gb255))) (fun k_ hk => (⟨hk, hk.1.2.2.2⟩ : _ ∧ k_ ≠ gb256))) (fun _ hk => hk.1.2) (.int .i64 t250)) (fun _ hk => hk.1.2) (.int .i64 t251)) (fun _ hk => hk.2) (.int .i64 t253)) (fun _ hk => hk.2) (.int .i64 t254)) (fun _ hk => ⟨hk.1.1.1, ⟨hk.1.1.2.1, ⟨hk.1.1.2.2.1, hk.1.1.2.2.2⟩⟩⟩)⟩, ⟨by (with_reducible repeat (first | refine blk_drewN ?_ _ | refine blk_drew ?_ | refine blk_alloc ?_ _)); refine blk_far ?_ NB232_256.out _; (with_reducible repeat (first | refine blk_drewN ?_ _ | refine blk_drew ?_ | refine blk_alloc ?_ _)); refine blk_far ?_ NB232_256.out _; (with_reducible repeat (first | refine blk_drewN ?_ _ | refine blk_drew ?_ | refine blk_alloc ?_ _)); refine blk_far ?_ NB232_255.out _; (with_reducible repeat (first | refine blk_drewN ?_ _ | refine blk_drew ?_ | refine blk_alloc ?_ _)); refine blk_far ?_ NB232_255.out _; (with_reducible repeat (first | refine blk_drewN ?_ _ | refine blk_drew ?_ | refine blk_alloc ?_ _)); exact BK232.out⟩, ⟨by (with_reducible repeat (first | refine blk_drewN ?_ _ | refine blk_drew ?_ | refine blk_alloc ?_ _)); refine blk_far ?_ NB255_256.out _; (with_reducible repeat (first | refine blk_drewN ?_ _ | refine blk_drew ?_ | refine blk_alloc ?_ _)); refine blk_far ?_ NB255_256.out _; (with_reducible repeat (first | refine blk_drewN ?_ _ | refine blk_drew ?_ | refine blk_alloc ?_ _)); refine blk_put (cs := #[.int .i64 t250, .int .i64 0]) ?_ 1 _ rfl; (with_reducible repeat (first | refine blk_drewN ?_ _ | refine blk_drew ?_ | refine blk_alloc ?_ _)); refine blk_put (cs := #[.int .i64 0, .int .i64 0]) ?_ 0 _ rfl; (with_reducible repeat (first | refine blk_drewN ?_ _ | refine blk_drew ?_ | refine blk_alloc ?_ _)); exact BK255.out⟩, ⟨by (with_reducible repeat (first | refine blk_drewN ?_ _ | refine blk_drew ?_ | refine blk_alloc ?_ _)); refine blk_put (cs := #[.int .i64 t253, .int .i64 0]) ?_ 1 _ rfl; (with_reducible repeat (first | refine blk_drewN ?_ _ | refine blk_drew ?_ | refine blk_alloc ?_ _)); refine blk_put (cs := #[.int .i64 0, .int .i64 0]) ?_ 0 _ rfl; (with_reducible repeat (first | refine blk_drewN ?_ _ | refine blk_drew ?_ | refine blk_alloc ?_ _)); refine blk_far ?_ NB256_255.out _; (with_reducible repeat (first | refine blk_drewN ?_ _ | refine blk_drew ?_ | refine blk_alloc ?_ _)); refine blk_far ?_ NB256_255.out _; (with_reducible repeat (first | refine blk_drewN ?_ _ | refine blk_drew ?_ | refine blk_alloc ?_ _)); exact BK256.out⟩, ⟨by repeat (first | (with_reducible first | exact HB.out | apply below_alloc | apply pw_below_drewN | apply below_drew1 | refine below_set ?_ GE232.out | refine below_set ?_ GE255.out | refine below_set ?_ GE256.out) | exact HB.out)⟩⟩
          case round =>
           clear H'
           try clear p2
           try clear c3
           try clear c30
           obtain ⟨x11_3, x256000_3, x256001_3, x257000_3, x257001_3, rfl, HA, HK3, HO_3, HO_7, BK232, BK255, BK256, HB⟩ := hrel
           cases gk with
           | zero => exact absurd HA.out (by simp [laws_FnDecMean.l1])
           | succ k3 =>
            have H := HA.out; clear HA
            simp only [laws_FnDecMean.l1] at H
            by_cases c58 : x11_3 < (t226.length : Int)
            ·rw [if_pos c58] at H
             have c58b0 : decide (x11_3 < (t226.length : Int)) = true := decide_eq_true c58
             clear c58
             by_cases c59 : 0 ≤ x11_3
             ·rw [if_pos c59] at H
              have c59b0 : decide (0 ≤ x11_3) = true := decide_eq_true c59
              clear c59
              replace H := Option.bind_eq_some_iff.mp H
              obtain ⟨⟨t258, t259⟩, A600, H⟩ := H
              replace H : ((impl_DecCmp.f k3 t258 t259 x256000_3 x256001_3).bind fun t261 => (if t261 < 0 then (laws_FnDecMean.j3 k3 t226 t227 x7_2 x11_3 t230 t231 t258 t259 x257000_3 x257001_3 t258 t259) else (laws_FnDecMean.j3 k3 t226 t227 x7_2 x11_3 t230 t231 x256000_3 x256001_3 x257000_3 x257001_3 t258 t259))) = some r := H
              have A60 := Aside0.mk A600; clear A600
              replace H := Option.bind_eq_some_iff.mp H
              obtain ⟨t261, A610, H⟩ := H
              replace H : (if t261 < 0 then (laws_FnDecMean.j3 k3 t226 t227 x7_2 x11_3 t230 t231 t258 t259 x257000_3 x257001_3 t258 t259) else (laws_FnDecMean.j3 k3 t226 t227 x7_2 x11_3 t230 t231 x256000_3 x256001_3 x257000_3 x257001_3 t258 t259)) = some r := H
              have A61 := Aside0.mk A610; clear A610
              have HC62 := Aside0.mk H; clear H
              have p257 : 0 ≤ (x11_3 : Int) := of_decide_eq_true (by first | (with_reducible assumption) | assumption)
              have q257 : x11_3 < (t226.length : Int) := of_decide_eq_true (by first | (with_reducible assumption) | assumption)
              obtain ⟨ad257, e257, hx257_0, hx257_1⟩ := at_T25 (Kd.R_reads' HO_3.out).2.2 x11_3 p257 q257
              obtain rfl : ad249 = ad257 := (by injection e257)
              replace p257 := eq_true p257; replace q257 := eq_true q257
              go_upto_if 104 with (first | ((with_reducible refine gate_callee (f := 30) rfl ?_); refine goesL_ (some 100) rfl rfl Try.func30 (by kernel_rfl) rfl #[.agg #[.int .i64 ((rd_T25 t226 x11_3).f0), .int .i64 ((rd_T25 t226 x11_3).f1)], .int .i64 t227] rfl (by (try simp only [List.map_toArray, List.map_cons, List.map_nil]); first | done | rfl | (simp only [List.length_drop, List.length_take]; rfl)) ?_; (with_reducible refine (impl_DecAt.calls k3 ((rd_T25 t226 x11_3).f0) ((rd_T25 t226 x11_3).f1) t227 t258 t259 _ A60.out).mono ?_); rintro e w63 ⟨rfl, hb⟩; refine ⟨_, rfl, ?_⟩; have n0_ := Aside0.mk (Kd.R_below (vR HO_3.out) hb); have n1_ := Aside0.mk (Kd.R_below (vR HO_7.out) hb); have n2_ := Aside0.mk (blk_below (g := gb232) (o := .cells #[.int .i64 t230, .int .i64 t231] 25 (0, 0)) (vB BK232.out) hb); have n3_ := Aside0.mk (blk_below (g := gb255) (o := .cells #[.int .i64 x256000_3, .int .i64 x256001_3] 25 (0, 0)) (vB BK255.out) hb); have n4_ := Aside0.mk (blk_below (g := gb256) (o := .cells #[.int .i64 x257000_3, .int .i64 x257001_3] 25 (0, 0)) (vB BK256.out) hb); have n5_ := Aside0.mk (below_step (vW3 HB.out GE232.out GE255.out GE256.out) hb); clear HO_3; clear HO_7; clear BK232; clear BK255; clear BK256; clear HB; have HO_3 := n0_; have HO_7 := n1_; have BK232 := n2_; have BK255 := n3_; have BK256 := n4_; have HB := n5_; clear n0_ n1_ n2_ n3_ n4_ n5_; (try clear hb); (try clear hb2); (try clear hk); (try clear hi)) | ((with_reducible refine gate_dst (N := 12) rfl ?_); (try (refine gate_guard (by rfl) ?_; dsimp only)); refine box_event ?hg (N := 12) ?hd (cs := #[.int .i64 0, .int .i64 0]) (t := 25) ?hr ?_; (case hd => rfl); (case hg => rfl); (case hr => first | (go_simp; done) | (go_simp; rfl)); intro gb260 hg w64 hbox hb; have n0_ := Aside0.mk (Kd.R_below (Kd.R_elderB (vR HO_3.out) gb260 (Nat.le_of_eq hg.symm)) hb); have n1_ := Aside0.mk (Kd.R_below (Kd.R_elderB (vR HO_7.out) gb260 (Nat.le_of_eq hg.symm)) hb); have n2_ := Aside0.mk (blk_below (g := gb232) (o := .cells #[.int .i64 t230, .int .i64 t231] 25 (0, 0)) (vB BK232.out) hb); have n3_ := Aside0.mk (blk_below (g := gb255) (o := .cells #[.int .i64 x256000_3, .int .i64 x256001_3] 25 (0, 0)) (vB BK255.out) hb); have n4_ := Aside0.mk (blk_below (g := gb256) (o := .cells #[.int .i64 x257000_3, .int .i64 x257001_3] 25 (0, 0)) (vB BK256.out) hb); have n5_ := Aside0.mk (below_step (vW3 HB.out GE232.out GE255.out GE256.out) hb); have n6_ := Aside0.mk (hbox); have n7_ := Aside0.mk ((by rw [hg]; exact (below_size (vW3 HB.out GE232.out GE255.out GE256.out)) : w.heap.size ≤ gb260)); have n8_ := Aside0.mk ((by rw [hg]; exact (below_size (vW3 HB.out GE232.out GE255.out GE256.out)) : w.heap.size ≤ gb260)); have n9_ := Aside0.mk ((by rw [hg]; exact Nat.ne_of_lt (blk_lt (g := gb232) (o := .cells #[.int .i64 t230, .int .i64 t231] 25 (0, 0)) (vB BK232.out)) : gb232 ≠ gb260)); have n10_ := Aside0.mk ((by rw [hg]; exact Nat.ne_of_gt (blk_lt (g := gb232) (o := .cells #[.int .i64 t230, .int .i64 t231] 25 (0, 0)) (vB BK232.out)) : gb260 ≠ gb232)); have n11_ := Aside0.mk ((by rw [hg]; exact Nat.ne_of_lt (blk_lt (g := gb255) (o := .cells #[.int .i64 x256000_3, .int .i64 x256001_3] 25 (0, 0)) (vB BK255.out)) : gb255 ≠ gb260)); have n12_ := Aside0.mk ((by rw [hg]; exact Nat.ne_of_gt (blk_lt (g := gb255) (o := .cells #[.int .i64 x256000_3, .int .i64 x256001_3] 25 (0, 0)) (vB BK255.out)) : gb260 ≠ gb255)); have n13_ := Aside0.mk ((by rw [hg]; exact Nat.ne_of_lt (blk_lt (g := gb256) (o := .cells #[.int .i64 x257000_3, .int .i64 x257001_3] 25 (0, 0)) (vB BK256.out)) : gb256 ≠ gb260)); have n14_ := Aside0.mk ((by rw [hg]; exact Nat.ne_of_gt (blk_lt (g := gb256) (o := .cells #[.int .i64 x257000_3, .int .i64 x257001_3] 25 (0, 0)) (vB BK256.out)) : gb260 ≠ gb256)); clear HO_3; clear HO_7; clear BK232; clear BK255; clear BK256; clear HB; have HO_3 := n0_; have HO_7 := n1_; have BK232 := n2_; have BK255 := n3_; have BK256 := n4_; have HB := n5_; have BK260 := n6_; have GW260 := n7_; have GE260 := n8_; have NB232_260 := n9_; have NB260_232 := n10_; have NB255_260 := n11_; have NB260_255 := n12_; have NB256_260 := n13_; have NB260_256 := n14_; clear n0_ n1_ n2_ n3_ n4_ n5_ n6_ n7_ n8_ n9_ n10_ n11_ n12_ n13_ n14_; clear hb hbox hg; have hnb65 := NB260_232.out; have hnc65 := NB232_260.out; have hnb66 := NB260_255.out; have hnc66 := NB255_260.out; have hnb67 := NB260_256.out; have hnc67 := NB256_260.out; have hcz68_0 : w64.cell? ⟨gb260, 0, none⟩ = some (.int .i64 0) := (blk_cell BK260.out 0).trans rfl; have hcz68_1 : w64.cell? ⟨gb260, 1, none⟩ = some (.int .i64 0) := (blk_cell BK260.out 1).trans rfl; have hfz68_0 := blk_frozen BK260.out 0; have hfz68_1 := blk_frozen BK260.out 1; have hnb69 := NB255_232.out; have hnc69 := NB232_255.out; have hnb70 := NB255_256.out; have hnc70 := NB256_255.out; have hcz71_0 : w64.cell? ⟨gb255, 0, none⟩ = some (.int .i64 x256000_3) := (blk_cell BK255.out 0).trans rfl; have hcz71_1 : w64.cell? ⟨gb255, 1, none⟩ = some (.int .i64 x256001_3) := (blk_cell BK255.out 1).trans rfl; have hfz71_0 := blk_frozen BK255.out 0; have hfz71_1 := blk_frozen BK255.out 1) | ((with_reducible refine gate_callee (f := 31) rfl ?_); refine goesL_ (some 103) rfl rfl Try.func31 (by kernel_rfl) rfl #[.agg #[.int .i64 t258, .int .i64 t259], .agg #[.int .i64 x256000_3, .int .i64 x256001_3]] rfl (by (try simp only [List.map_toArray, List.map_cons, List.map_nil]); first | done | rfl | (simp only [List.length_drop, List.length_take]; rfl)) ?_; (with_reducible refine (impl_DecCmp.calls k3 t258 t259 x256000_3 x256001_3 t261 _ A61.out).mono ?_); rintro e w72 ⟨rfl, hb⟩; refine ⟨_, rfl, ?_⟩; have n0_ := Aside0.mk (Kd.R_below (by (with_reducible repeat (first | apply Kd.R_alloc | apply Kd.R_drewN | apply Kd.R_drew)); exact (Kd.R_mono (Kd.R_far (p := ⟨gb260, 1, none⟩) (Kd.R_far (p := ⟨gb260, 0, none⟩) (Kd.R_mono HO_3.out (fun k_ hk => (⟨hk, hk.2⟩ : _ ∧ k_ ≠ gb260))) (fun _ hk => hk.2) (.int .i64 t258)) (fun _ hk => hk.2) (.int .i64 t259)) (fun _ h_ => h_.1))) hb); have n1_ := Aside0.mk (Kd.R_below (by (with_reducible repeat (first | apply Kd.R_alloc | apply Kd.R_drewN | apply Kd.R_drew)); exact (Kd.R_mono (Kd.R_far (p := ⟨gb260, 1, none⟩) (Kd.R_far (p := ⟨gb260, 0, none⟩) (Kd.R_mono HO_7.out (fun k_ hk => (⟨hk, hk.2⟩ : _ ∧ k_ ≠ gb260))) (fun _ hk => hk.2) (.int .i64 t258)) (fun _ hk => hk.2) (.int .i64 t259)) (fun _ h_ => h_.1))) hb); have n2_ := Aside0.mk (blk_below (g := gb232) (o := .cells #[.int .i64 t230, .int .i64 t231] 25 (0, 0)) (by (with_reducible repeat (first | refine blk_drewN ?_ _ | refine blk_drew ?_ | refine blk_alloc ?_ _)); refine blk_far ?_ NB232_260.out _; (with_reducible repeat (first | refine blk_drewN ?_ _ | refine blk_drew ?_ | refine blk_alloc ?_ _)); refine blk_far ?_ NB232_260.out _; (with_reducible repeat (first | refine blk_drewN ?_ _ | refine blk_drew ?_ | refine blk_alloc ?_ _)); exact BK232.out) hb); have n3_ := Aside0.mk (blk_below (g := gb255) (o := .cells #[.int .i64 x256000_3, .int .i64 x256001_3] 25 (0, 0)) (by (with_reducible repeat (first | refine blk_drewN ?_ _ | refine blk_drew ?_ | refine blk_alloc ?_ _)); refine blk_far ?_ NB255_260.out _; (with_reducible repeat (first | refine blk_drewN ?_ _ | refine blk_drew ?_ | refine blk_alloc ?_ _)); refine blk_far ?_ NB255_260.out _; (with_reducible repeat (first | refine blk_drewN ?_ _ | refine blk_drew ?_ | refine blk_alloc ?_ _)); exact BK255.out) hb); have n4_ := Aside0.mk (blk_below (g := gb256) (o := .cells #[.int .i64 x257000_3, .int .i64 x257001_3] 25 (0, 0)) (by (with_reducible repeat (first | refine blk_drewN ?_ _ | refine blk_drew ?_ | refine blk_alloc ?_ _)); refine blk_far ?_ NB256_260.out _; (with_reducible repeat (first | refine blk_drewN ?_ _ | refine blk_drew ?_ | refine blk_alloc ?_ _)); refine blk_far ?_ NB256_260.out _; (with_reducible repeat (first | refine blk_drewN ?_ _ | refine blk_drew ?_ | refine blk_alloc ?_ _)); exact BK256.out) hb); have n5_ := Aside0.mk (blk_below (g := gb260) (o := .cells #[.int .i64 t258, .int .i64 t259] 25 (0, 0)) (by (with_reducible repeat (first | refine blk_drewN ?_ _ | refine blk_drew ?_ | refine blk_alloc ?_ _)); refine blk_put (cs := #[.int .i64 t258, .int .i64 0]) ?_ 1 _ rfl; (with_reducible repeat (first | refine blk_drewN ?_ _ | refine blk_drew ?_ | refine blk_alloc ?_ _)); refine blk_put (cs := #[.int .i64 0, .int .i64 0]) ?_ 0 _ rfl; (with_reducible repeat (first | refine blk_drewN ?_ _ | refine blk_drew ?_ | refine blk_alloc ?_ _)); exact BK260.out) hb); have n6_ := Aside0.mk (below_step (vW4 HB.out GE232.out GE255.out GE256.out GE260.out) hb); clear HO_3; clear HO_7; clear BK232; clear BK255; clear BK256; clear BK260; clear HB; have HO_3 := n0_; have HO_7 := n1_; have BK232 := n2_; have BK255 := n3_; have BK256 := n4_; have BK260 := n5_; have HB := n6_; clear n0_ n1_ n2_ n3_ n4_ n5_ n6_; (try clear hb); (try clear hb2); (try clear hk); (try clear hi)))
              (try simp only [Act.put, List.setIfInBounds_toArray, List.set_cons_zero, List.set_cons_succ])
              go_cut [] (fun wc => ∃ (kq : Nat) (x256000_61 : Int) (x256001_61 : Int), Aside0 (laws_FnDecMean.j3 kq t226 t227 x7_2 x11_3 t230 t231 x256000_61 x256001_61 x257000_3 x257001_3 t258 t259 = some r) ∧ Aside0 (kq ≤ k3) ∧ Aside0 (Kd.R k25 25 wc w.heap.size (fun k_ => some k_ ≠ (u7 : Value).ownBlock ∧ k_ ≠ gb232 ∧ k_ ≠ gb255 ∧ k_ ≠ gb256 ∧ k_ ≠ gb260) (.slice (some ad249) t226.length co17) t226) ∧ Aside0 (Kd.R k25 25 wc w.heap.size (fun k_ => some k_ ≠ ((.slice (some ad249) t226.length co17) : Value).ownBlock ∧ k_ ≠ gb232 ∧ k_ ≠ gb255 ∧ k_ ≠ gb256 ∧ k_ ≠ gb260) u7 x7_2) ∧ Aside0 (wc.heap[gb232]? = some (.cells #[.int .i64 t230, .int .i64 t231] 25 (0, 0))) ∧ Aside0 (wc.heap[gb255]? = some (.cells #[.int .i64 x256000_61, .int .i64 x256001_61] 25 (0, 0))) ∧ Aside0 (wc.heap[gb256]? = some (.cells #[.int .i64 x257000_3, .int .i64 x257001_3] 25 (0, 0))) ∧ Aside0 (wc.heap[gb260]? = some (.cells #[.int .i64 t258, .int .i64 t259] 25 (0, 0))) ∧ Aside0 (Below w.heap.size w wc))
              case first =>
               have H := HC62.out; clear HC62
               by_cases c73 : t261 < 0
               ·rw [if_pos c73] at H
                have c73b0 : decide (t261 < 0) = true := decide_eq_true c73
                clear c73
                (first | rw [c73b0] | (simp only [i64_w, i32_w]; rw [c73b0]) | skip)
                have H' := Aside0.mk H
                clear H
                have hnb74 := NB260_232.out
                have hnc74 := NB232_260.out
                have hnb75 := NB260_255.out
                have hnc75 := NB255_260.out
                have hnb76 := NB260_256.out
                have hnc76 := NB256_260.out; have hcz77_0 : w72.cell? ⟨gb260, 0, none⟩ = some (.int .i64 t258) := (blk_cell BK260.out 0).trans rfl; have hcz77_1 : w72.cell? ⟨gb260, 1, none⟩ = some (.int .i64 t259) := (blk_cell BK260.out 1).trans rfl; have hfz77_0 := blk_frozen BK260.out 0; have hfz77_1 := blk_frozen BK260.out 1
                have hnb78 := NB255_232.out
                have hnc78 := NB232_255.out
                have hnb79 := NB255_256.out
                have hnc79 := NB256_255.out; have hcz80_0 : w72.cell? ⟨gb255, 0, none⟩ = some (.int .i64 x256000_3) := (blk_cell BK255.out 0).trans rfl; have hcz80_1 : w72.cell? ⟨gb255, 1, none⟩ = some (.int .i64 x256001_3) := (blk_cell BK255.out 1).trans rfl; have hfz80_0 := blk_frozen BK255.out 0; have hfz80_1 := blk_frozen BK255.out 1
                go_wp2
                go_meet
                case rel => exact ⟨_, (t258), (t259), H', ⟨by have := HJ14.out; have := HK2.out; have := HK3.out; first | omega | exact Nat.le_refl _⟩, ⟨by (with_reducible repeat (first | apply Kd.R_alloc | apply Kd.R_drewN | apply Kd.R_drew)); exact Kd.R_mono (Kd.R_far (p := ⟨gb255, 1, none⟩) (Kd.R_far (p := ⟨gb255, 0, none⟩) (Kd.R_mono HO_3.out (fun k_ hk => (⟨hk, hk.1.2.2.1⟩ : _ ∧ k_ ≠ gb255))) (fun _ hk => hk.2) (.int .i64 t258)) (fun _ hk => hk.2) (.int .i64 t259)) (fun _ hk => ⟨hk.1.1.1, ⟨hk.1.1.2.1, ⟨hk.1.1.2.2.1, ⟨hk.1.1.2.2.2, hk.1.2⟩⟩⟩⟩)⟩, ⟨by (with_reducible repeat (first | apply Kd.R_alloc | apply Kd.R_drewN | apply Kd.R_drew)); exact Kd.R_mono (Kd.R_far (p := ⟨gb255, 1, none⟩) (Kd.R_far (p := ⟨gb255, 0, none⟩) (Kd.R_mono HO_7.out (fun k_ hk => (⟨hk, hk.1.2.2.1⟩ : _ ∧ k_ ≠ gb255))) (fun _ hk => hk.2) (.int .i64 t258)) (fun _ hk => hk.2) (.int .i64 t259)) (fun _ hk => ⟨hk.1.1.1, ⟨hk.1.1.2.1, ⟨hk.1.1.2.2.1, ⟨hk.1.1.2.2.2, hk.1.2⟩⟩⟩⟩)⟩, ⟨by (with_reducible repeat (first | refine blk_drewN ?_ _ | refine blk_drew ?_ | refine blk_alloc ?_ _)); refine blk_far ?_ NB232_255.out _; (with_reducible repeat (first | refine blk_drewN ?_ _ | refine blk_drew ?_ | refine blk_alloc ?_ _)); refine blk_far ?_ NB232_255.out _; (with_reducible repeat (first | refine blk_drewN ?_ _ | refine blk_drew ?_ | refine blk_alloc ?_ _)); exact BK232.out⟩, ⟨by (with_reducible repeat (first | refine blk_drewN ?_ _ | refine blk_drew ?_ | refine blk_alloc ?_ _)); refine blk_put (cs := #[.int .i64 t258, .int .i64 x256001_3]) ?_ 1 _ rfl; (with_reducible repeat (first | refine blk_drewN ?_ _ | refine blk_drew ?_ | refine blk_alloc ?_ _)); refine blk_put (cs := #[.int .i64 x256000_3, .int .i64 x256001_3]) ?_ 0 _ rfl; (with_reducible repeat (first | refine blk_drewN ?_ _ | refine blk_drew ?_ | refine blk_alloc ?_ _)); exact BK255.out⟩, ⟨by (with_reducible repeat (first | refine blk_drewN ?_ _ | refine blk_drew ?_ | refine blk_alloc ?_ _)); refine blk_far ?_ NB256_255.out _; (with_reducible repeat (first | refine blk_drewN ?_ _ | refine blk_drew ?_ | refine blk_alloc ?_ _)); refine blk_far ?_ NB256_255.out _; (with_reducible repeat (first | refine blk_drewN ?_ _ | refine blk_drew ?_ | refine blk_alloc ?_ _)); exact BK256.out⟩, ⟨by (with_reducible repeat (first | refine blk_drewN ?_ _ | refine blk_drew ?_ | refine blk_alloc ?_ _)); refine blk_far ?_ NB260_255.out _; (with_reducible repeat (first | refine blk_drewN ?_ _ | refine blk_drew ?_ | refine blk_alloc ?_ _)); refine blk_far ?_ NB260_255.out _; (with_reducible repeat (first | refine blk_drewN ?_ _ | refine blk_drew ?_ | refine blk_alloc ?_ _)); exact BK260.out⟩, ⟨by repeat (first | (with_reducible first | exact HB.out | apply below_alloc | apply pw_below_drewN | apply below_drew1 | refine below_set ?_ GE232.out | refine below_set ?_ GE255.out | refine below_set ?_ GE256.out | refine below_set ?_ GE260.out) | exact HB.out)⟩⟩
               ·rw [if_neg c73] at H
                have c73b0 : decide (t261 < 0) = false := decide_eq_false c73
                clear c73
                (first | rw [c73b0] | (simp only [i64_w, i32_w]; rw [c73b0]) | skip)
                have H' := Aside0.mk H
                clear H
                go_wp2
                go_meet
                case rel => exact ⟨_, (x256000_3), (x256001_3), H', ⟨by have := HJ14.out; have := HK2.out; have := HK3.out; first | omega | exact Nat.le_refl _⟩, ⟨by (with_reducible repeat (first | apply Kd.R_alloc | apply Kd.R_drewN | apply Kd.R_drew)); exact Kd.R_mono HO_3.out (fun _ hk => ⟨hk.1.1, ⟨hk.1.2.1, ⟨hk.1.2.2.1, ⟨hk.1.2.2.2, hk.2⟩⟩⟩⟩)⟩, ⟨by (with_reducible repeat (first | apply Kd.R_alloc | apply Kd.R_drewN | apply Kd.R_drew)); exact Kd.R_mono HO_7.out (fun _ hk => ⟨hk.1.1, ⟨hk.1.2.1, ⟨hk.1.2.2.1, ⟨hk.1.2.2.2, hk.2⟩⟩⟩⟩)⟩, ⟨by (with_reducible repeat (first | refine blk_drewN ?_ _ | refine blk_drew ?_ | refine blk_alloc ?_ _)); exact BK232.out⟩, ⟨by (with_reducible repeat (first | refine blk_drewN ?_ _ | refine blk_drew ?_ | refine blk_alloc ?_ _)); exact BK255.out⟩, ⟨by (with_reducible repeat (first | refine blk_drewN ?_ _ | refine blk_drew ?_ | refine blk_alloc ?_ _)); exact BK256.out⟩, ⟨by (with_reducible repeat (first | refine blk_drewN ?_ _ | refine blk_drew ?_ | refine blk_alloc ?_ _)); exact BK260.out⟩, ⟨by repeat (first | (with_reducible first | exact HB.out | apply below_alloc | apply pw_below_drewN | apply below_drew1 | refine below_set ?_ GE232.out | refine below_set ?_ GE255.out | refine below_set ?_ GE256.out | refine below_set ?_ GE260.out) | exact HB.out)⟩⟩
              case rest =>
               clear HC62
               try clear p2
               try clear q2
               try clear hx2
               try clear c3
               try clear c5
               try clear c6
               try clear c7
               try clear p25
               try clear q25
               try clear hx25
               try clear c30
               try clear c31
               try clear c58
               try clear c58b0
               try clear c59
               try clear c59b0
               try clear c65
               try clear c66
               try clear c67
               try clear c69
               try clear c70
               try clear c73
               try clear c73b0
               try clear c74
               try clear c75
               try clear c76
               try clear c78
               try clear c79
               try clear hcz68_0
               try clear hcz68_1
               try clear hcz71_0
               try clear hcz71_1
               try clear hcz77_0
               try clear hcz77_1
               try clear hcz80_0
               try clear hcz80_1
               try clear hfz68_0
               try clear hfz68_1
               try clear hfz71_0
               try clear hfz71_1
               try clear hfz77_0
               try clear hfz77_1
               try clear hfz80_0
               try clear hfz80_1
               try clear hx257_0
               try clear hx257_1
               try clear p2
               try clear p257
               try clear q257
               obtain ⟨kq, x256000_61, x256001_61, HA, HJ61, HO_3, HO_7, BK232, BK255, BK256, BK260, HB⟩ := hcut
               cases kq with
               | zero => exact absurd HA.out (by simp [laws_FnDecMean.j3])
               | succ kj61 =>
                have H := HA.out; clear HA
                simp only [laws_FnDecMean.j3] at H
                replace H := Option.bind_eq_some_iff.mp H
                obtain ⟨t262, A810, H⟩ := H
                replace H : (if t262 > 0 then (laws_FnDecMean.l1 kj61 t226 t227 x7_2 (wrap64 (x11_3 + 1)) t230 t231 x256000_61 x256001_61 t258 t259) else (laws_FnDecMean.l1 kj61 t226 t227 x7_2 (wrap64 (x11_3 + 1)) t230 t231 x256000_61 x256001_61 x257000_3 x257001_3)) = some r := H
                have A81 := Aside0.mk A810; clear A810
                by_cases c82 : t262 > 0
                ·rw [if_pos c82] at H
                 have c82b0 : decide (0 < t262) = true := decide_eq_true c82
                 clear c82
                 have H' := Aside0.mk H
                 clear H
                 have hnb83 := NB260_232.out
                 have hnc83 := NB232_260.out
                 have hnb84 := NB260_255.out
                 have hnc84 := NB255_260.out
                 have hnb85 := NB260_256.out
                 have hnc85 := NB256_260.out; have hcz86_0 : wc.cell? ⟨gb260, 0, none⟩ = some (.int .i64 t258) := (blk_cell BK260.out 0).trans rfl; have hcz86_1 : wc.cell? ⟨gb260, 1, none⟩ = some (.int .i64 t259) := (blk_cell BK260.out 1).trans rfl; have hfz86_0 := blk_frozen BK260.out 0; have hfz86_1 := blk_frozen BK260.out 1
                 have hnb87 := NB256_232.out
                 have hnc87 := NB232_256.out
                 have hnb88 := NB256_255.out
                 have hnc88 := NB255_256.out; have hcz89_0 : wc.cell? ⟨gb256, 0, none⟩ = some (.int .i64 x257000_3) := (blk_cell BK256.out 0).trans rfl; have hcz89_1 : wc.cell? ⟨gb256, 1, none⟩ = some (.int .i64 x257001_3) := (blk_cell BK256.out 1).trans rfl; have hfz89_0 := blk_frozen BK256.out 0; have hfz89_1 := blk_frozen BK256.out 1
                 go_wp2_with (first | ((with_reducible refine gate_callee (f := 31) rfl ?_); refine goesL_ (some 108) rfl rfl Try.func31 (by kernel_rfl) rfl #[.agg #[.int .i64 t258, .int .i64 t259], .agg #[.int .i64 x257000_3, .int .i64 x257001_3]] rfl (by (try simp only [List.map_toArray, List.map_cons, List.map_nil]); first | done | rfl | (simp only [List.length_drop, List.length_take]; rfl)) ?_; (with_reducible refine (impl_DecCmp.calls kj61 t258 t259 x257000_3 x257001_3 t262 _ A81.out).mono ?_); rintro e w90 ⟨rfl, hb⟩; refine ⟨_, rfl, ?_⟩; have n0_ := Aside0.mk (Kd.R_below (vR HO_3.out) hb); have n1_ := Aside0.mk (Kd.R_below (vR HO_7.out) hb); have n2_ := Aside0.mk (blk_below (g := gb232) (o := .cells #[.int .i64 t230, .int .i64 t231] 25 (0, 0)) (vB BK232.out) hb); have n3_ := Aside0.mk (blk_below (g := gb255) (o := .cells #[.int .i64 x256000_61, .int .i64 x256001_61] 25 (0, 0)) (vB BK255.out) hb); have n4_ := Aside0.mk (blk_below (g := gb256) (o := .cells #[.int .i64 x257000_3, .int .i64 x257001_3] 25 (0, 0)) (vB BK256.out) hb); have n5_ := Aside0.mk (blk_below (g := gb260) (o := .cells #[.int .i64 t258, .int .i64 t259] 25 (0, 0)) (vB BK260.out) hb); have n6_ := Aside0.mk (below_step (vW4 HB.out GE232.out GE255.out GE256.out GE260.out) hb); clear HO_3; clear HO_7; clear BK232; clear BK255; clear BK256; clear BK260; clear HB; have HO_3 := n0_; have HO_7 := n1_; have BK232 := n2_; have BK255 := n3_; have BK256 := n4_; have BK260 := n5_; have HB := n6_; clear n0_ n1_ n2_ n3_ n4_ n5_ n6_; (try clear hb); (try clear hb2); (try clear hk); (try clear hi); have hcz91_0 : w90.cell? ⟨gb260, 0, none⟩ = some (.int .i64 t258) := (blk_cell BK260.out 0).trans rfl; have hcz91_1 : w90.cell? ⟨gb260, 1, none⟩ = some (.int .i64 t259) := (blk_cell BK260.out 1).trans rfl; have hfz91_0 := blk_frozen BK260.out 0; have hfz91_1 := blk_frozen BK260.out 1; have hcz92_0 : w90.cell? ⟨gb256, 0, none⟩ = some (.int .i64 x257000_3) := (blk_cell BK256.out 0).trans rfl; have hcz92_1 : w90.cell? ⟨gb256, 1, none⟩ = some (.int .i64 x257001_3) := (blk_cell BK256.out 1).trans rfl; have hfz92_0 := blk_frozen BK256.out 0; have hfz92_1 := blk_frozen BK256.out 1))
                 go_roundg kj61
                 case measure => have := HJ14.out; have := HK2.out; have := HK3.out; have := HJ61.out; omega
                 case rel => exact ⟨(wrap64 (x11_3 + 1)), (x256000_61), (x256001_61), (t258), (t259), (by first | rfl | (simp; done) | (simp [*]; done)), H', ⟨by have := HJ14.out; have := HK2.out; have := HK3.out; have := HJ61.out; omega⟩, ⟨by (with_reducible repeat (first | apply Kd.R_alloc | apply Kd.R_drewN | apply Kd.R_drew)); exact Kd.R_mono (Kd.R_far (p := ⟨gb256, 1, none⟩) (Kd.R_far (p := ⟨gb256, 0, none⟩) (Kd.R_mono HO_3.out (fun k_ hk => (⟨hk, hk.2.2.2.1⟩ : _ ∧ k_ ≠ gb256))) (fun _ hk => hk.2) (.int .i64 t258)) (fun _ hk => hk.2) (.int .i64 t259)) (fun _ hk => ⟨hk.1.1, ⟨hk.1.2.1, ⟨hk.1.2.2.1, hk.1.2.2.2.1⟩⟩⟩)⟩, ⟨by (with_reducible repeat (first | apply Kd.R_alloc | apply Kd.R_drewN | apply Kd.R_drew)); exact Kd.R_mono (Kd.R_far (p := ⟨gb256, 1, none⟩) (Kd.R_far (p := ⟨gb256, 0, none⟩) (Kd.R_mono HO_7.out (fun k_ hk => (⟨hk, hk.2.2.2.1⟩ : _ ∧ k_ ≠ gb256))) (fun _ hk => hk.2) (.int .i64 t258)) (fun _ hk => hk.2) (.int .i64 t259)) (fun _ hk => ⟨hk.1.1, ⟨hk.1.2.1, ⟨hk.1.2.2.1, hk.1.2.2.2.1⟩⟩⟩)⟩, ⟨by (with_reducible repeat (first | refine blk_drewN ?_ _ | refine blk_drew ?_ | refine blk_alloc ?_ _)); refine blk_far ?_ NB232_256.out _; (with_reducible repeat (first | refine blk_drewN ?_ _ | refine blk_drew ?_ | refine blk_alloc ?_ _)); refine blk_far ?_ NB232_256.out _; (with_reducible repeat (first | refine blk_drewN ?_ _ | refine blk_drew ?_ | refine blk_alloc ?_ _)); exact BK232.out⟩, ⟨by (with_reducible repeat (first | refine blk_drewN ?_ _ | refine blk_drew ?_ | refine blk_alloc ?_ _)); refine blk_far ?_ NB255_256.out _; (with_reducible repeat (first | refine blk_drewN ?_ _ | refine blk_drew ?_ | refine blk_alloc ?_ _)); refine blk_far ?_ NB255_256.out _; (with_reducible repeat (first | refine blk_drewN ?_ _ | refine blk_drew ?_ | refine blk_alloc ?_ _)); exact BK255.out⟩, ⟨by (with_reducible repeat (first | refine blk_drewN ?_ _ | refine blk_drew ?_ | refine blk_alloc ?_ _)); refine blk_put (cs := #[.int .i64 t258, .int .i64 x257001_3]) ?_ 1 _ rfl; (with_reducible repeat (first | refine blk_drewN ?_ _ | refine blk_drew ?_ | refine blk_alloc ?_ _)); refine blk_put (cs := #[.int .i64 x257000_3, .int .i64 x257001_3]) ?_ 0 _ rfl; (with_reducible repeat (first | refine blk_drewN ?_ _ | refine blk_drew ?_ | refine blk_alloc ?_ _)); exact BK256.out⟩, ⟨by repeat (first | (with_reducible first | exact HB.out | apply below_alloc | apply pw_below_drewN | apply below_drew1 | refine below_set ?_ GE232.out | refine below_set ?_ GE255.out | refine below_set ?_ GE256.out | refine below_set ?_ GE260.out) | exact HB.out)⟩⟩
                ·rw [if_neg c82] at H
                 have c82b0 : decide (0 < t262) = false := decide_eq_false c82
                 clear c82
                 have H' := Aside0.mk H
                 clear H
                 have hnb93 := NB260_232.out
                 have hnc93 := NB232_260.out
                 have hnb94 := NB260_255.out
                 have hnc94 := NB255_260.out
                 have hnb95 := NB260_256.out
                 have hnc95 := NB256_260.out; have hcz96_0 : wc.cell? ⟨gb260, 0, none⟩ = some (.int .i64 t258) := (blk_cell BK260.out 0).trans rfl; have hcz96_1 : wc.cell? ⟨gb260, 1, none⟩ = some (.int .i64 t259) := (blk_cell BK260.out 1).trans rfl; have hfz96_0 := blk_frozen BK260.out 0; have hfz96_1 := blk_frozen BK260.out 1
                 have hnb97 := NB256_232.out
                 have hnc97 := NB232_256.out
                 have hnb98 := NB256_255.out
                 have hnc98 := NB255_256.out; have hcz99_0 : wc.cell? ⟨gb256, 0, none⟩ = some (.int .i64 x257000_3) := (blk_cell BK256.out 0).trans rfl; have hcz99_1 : wc.cell? ⟨gb256, 1, none⟩ = some (.int .i64 x257001_3) := (blk_cell BK256.out 1).trans rfl; have hfz99_0 := blk_frozen BK256.out 0; have hfz99_1 := blk_frozen BK256.out 1
                 go_wp2_with (first | ((with_reducible refine gate_callee (f := 31) rfl ?_); refine goesL_ (some 108) rfl rfl Try.func31 (by kernel_rfl) rfl #[.agg #[.int .i64 t258, .int .i64 t259], .agg #[.int .i64 x257000_3, .int .i64 x257001_3]] rfl (by (try simp only [List.map_toArray, List.map_cons, List.map_nil]); first | done | rfl | (simp only [List.length_drop, List.length_take]; rfl)) ?_; (with_reducible refine (impl_DecCmp.calls kj61 t258 t259 x257000_3 x257001_3 t262 _ A81.out).mono ?_); rintro e w100 ⟨rfl, hb⟩; refine ⟨_, rfl, ?_⟩; have n0_ := Aside0.mk (Kd.R_below (vR HO_3.out) hb); have n1_ := Aside0.mk (Kd.R_below (vR HO_7.out) hb); have n2_ := Aside0.mk (blk_below (g := gb232) (o := .cells #[.int .i64 t230, .int .i64 t231] 25 (0, 0)) (vB BK232.out) hb); have n3_ := Aside0.mk (blk_below (g := gb255) (o := .cells #[.int .i64 x256000_61, .int .i64 x256001_61] 25 (0, 0)) (vB BK255.out) hb); have n4_ := Aside0.mk (blk_below (g := gb256) (o := .cells #[.int .i64 x257000_3, .int .i64 x257001_3] 25 (0, 0)) (vB BK256.out) hb); have n5_ := Aside0.mk (blk_below (g := gb260) (o := .cells #[.int .i64 t258, .int .i64 t259] 25 (0, 0)) (vB BK260.out) hb); have n6_ := Aside0.mk (below_step (vW4 HB.out GE232.out GE255.out GE256.out GE260.out) hb); clear HO_3; clear HO_7; clear BK232; clear BK255; clear BK256; clear BK260; clear HB; have HO_3 := n0_; have HO_7 := n1_; have BK232 := n2_; have BK255 := n3_; have BK256 := n4_; have BK260 := n5_; have HB := n6_; clear n0_ n1_ n2_ n3_ n4_ n5_ n6_; (try clear hb); (try clear hb2); (try clear hk); (try clear hi)))
                 go_roundg kj61
                 case measure => have := HJ14.out; have := HK2.out; have := HK3.out; have := HJ61.out; omega
                 case rel => exact ⟨(wrap64 (x11_3 + 1)), (x256000_61), (x256001_61), (x257000_3), (x257001_3), (by first | rfl | (simp; done) | (simp [*]; done)), H', ⟨by have := HJ14.out; have := HK2.out; have := HK3.out; have := HJ61.out; omega⟩, ⟨by (with_reducible repeat (first | apply Kd.R_alloc | apply Kd.R_drewN | apply Kd.R_drew)); exact Kd.R_mono HO_3.out (fun _ hk => ⟨hk.1, ⟨hk.2.1, ⟨hk.2.2.1, hk.2.2.2.1⟩⟩⟩)⟩, ⟨by (with_reducible repeat (first | apply Kd.R_alloc | apply Kd.R_drewN | apply Kd.R_drew)); exact Kd.R_mono HO_7.out (fun _ hk => ⟨hk.1, ⟨hk.2.1, ⟨hk.2.2.1, hk.2.2.2.1⟩⟩⟩)⟩, ⟨by (with_reducible repeat (first | refine blk_drewN ?_ _ | refine blk_drew ?_ | refine blk_alloc ?_ _)); exact BK232.out⟩, ⟨by (with_reducible repeat (first | refine blk_drewN ?_ _ | refine blk_drew ?_ | refine blk_alloc ?_ _)); exact BK255.out⟩, ⟨by (with_reducible repeat (first | refine blk_drewN ?_ _ | refine blk_drew ?_ | refine blk_alloc ?_ _)); exact BK256.out⟩, ⟨by repeat (first | (with_reducible first | exact HB.out | apply below_alloc | apply pw_below_drewN | apply below_drew1 | refine below_set ?_ GE232.out | refine below_set ?_ GE255.out | refine below_set ?_ GE256.out | refine below_set ?_ GE260.out) | exact HB.out)⟩⟩
             ·rw [if_neg c59] at H
              exact absurd H (by simp)
            ·rw [if_neg c58] at H
             have c58b0 : decide (x11_3 < (t226.length : Int)) = false := decide_eq_false c58
             clear c58
             replace H := Option.bind_eq_some_iff.mp H
             obtain ⟨t263, A1010, H⟩ := H
             replace H : (if t263 ≤ 0 then ((impl_DecCmp.f k3 t230 t231 x257000_3 x257001_3).bind fun t264 => (if t264 ≤ 0 then (if t231 = t227 then ((impl_DecMean.f k3 x7_2 t227).bind fun bt265 => (if (bt265.1 == t230 && (bt265.2 == t231)) = true then (if 1 ≤ (t226.length : Int) then ((impl_DecMean.f k3 (t226.take 1) t227).bind fun bt271 => (if 0 < (t226.length : Int) then ((impl_DecAt.f k3 ((rd_T25 t226 0).f0) ((rd_T25 t226 0).f1) t227).bind fun bt274 => (some (bt271.1 == bt274.1 && (bt271.2 == bt274.2)))) else (none))) else (none)) else (some false))) else (some false)) else (some false))) else (some false)) = some r := H
             have A101 := Aside0.mk A1010; clear A1010
             by_cases c102 : t263 ≤ 0
             ·rw [if_pos c102] at H
              have c102b0 : decide (t263 ≤ 0) = true := decide_eq_true c102
              clear c102
              replace H := Option.bind_eq_some_iff.mp H
              obtain ⟨t264, A1030, H⟩ := H
              replace H : (if t264 ≤ 0 then (if t231 = t227 then ((impl_DecMean.f k3 x7_2 t227).bind fun bt265 => (if (bt265.1 == t230 && (bt265.2 == t231)) = true then (if 1 ≤ (t226.length : Int) then ((impl_DecMean.f k3 (t226.take 1) t227).bind fun bt271 => (if 0 < (t226.length : Int) then ((impl_DecAt.f k3 ((rd_T25 t226 0).f0) ((rd_T25 t226 0).f1) t227).bind fun bt274 => (some (bt271.1 == bt274.1 && (bt271.2 == bt274.2)))) else (none))) else (none)) else (some false))) else (some false)) else (some false)) = some r := H
              have A103 := Aside0.mk A1030; clear A1030
              by_cases c104 : t264 ≤ 0
              ·rw [if_pos c104] at H
               have c104b0 : decide (t264 ≤ 0) = true := decide_eq_true c104
               clear c104
               by_cases c105 : t231 = t227
               ·rw [if_pos c105] at H
                have c105b0 : (t231 == t227) = true := beq_iff_eq.mpr c105
                have c105b1 : (t231 != t227) = false := bne_eq_false_iff_eq.mpr c105
                clear c105
                replace H := Option.bind_eq_some_iff.mp H
                obtain ⟨⟨t265, t266⟩, A1060, H⟩ := H
                replace H : (if (t265 == t230 && (t266 == t231)) = true then (if 1 ≤ (t226.length : Int) then ((impl_DecMean.f k3 (t226.take 1) t227).bind fun bt271 => (if 0 < (t226.length : Int) then ((impl_DecAt.f k3 ((rd_T25 t226 0).f0) ((rd_T25 t226 0).f1) t227).bind fun bt274 => (some (bt271.1 == bt274.1 && (bt271.2 == bt274.2)))) else (none))) else (none)) else (some false)) = some r := H
                have A106 := Aside0.mk A1060; clear A1060
                by_cases c107 : (t265 == t230 && (t266 == t231)) = true
                ·rw [if_pos c107] at H
                 have c107b0 : (t265 == t230 && (t266 == t231)) = true := c107
                 (try (have c107b1 : decide (t265 = t230 && (t266 == t231)) = true := by simpa using c107))
                 (try (have c107b2 : (t265 == t230 && (t266 == t231)) = true := by simpa using c107))
                 clear c107
                 by_cases c108 : 1 ≤ (t226.length : Int)
                 ·rw [if_pos c108] at H
                  have c108b0 := eq_true c108
                  have c108b1 : decide (1 ≤ (t226.length : Int)) = true := decide_eq_true c108
                  clear c108
                  obtain ⟨y267, hy267⟩ : ∃ y_ : List (S25), y_ = (t226.take 1) := ⟨_, rfl⟩
                  replace H : ((impl_DecMean.f k3 y267 t227).bind fun bt271 => (if 0 < (t226.length : Int) then ((impl_DecAt.f k3 ((rd_T25 t226 0).f0) ((rd_T25 t226 0).f1) t227).bind fun bt274 => (some (bt271.1 == bt274.1 && (bt271.2 == bt274.2)))) else (none))) = some r := by first | (rw [hy267]; with_reducible exact H) | (have H2_ := (Option.bind_some _ _).symm.trans H; rw [hy267]; with_reducible exact H2_) | (have H2_ := (Option.bind_some _ _).symm.trans H; with_reducible exact H2_) | with_reducible exact H | (rw [hy267]; exact H) | exact H
                  have Ny267 := Aside0.mk hy267; clear hy267
                  replace H := Option.bind_eq_some_iff.mp H
                  obtain ⟨⟨t271, t272⟩, A1090, H⟩ := H
                  replace H : (if 0 < (t226.length : Int) then ((impl_DecAt.f k3 ((rd_T25 t226 0).f0) ((rd_T25 t226 0).f1) t227).bind fun bt274 => (some (t271 == bt274.1 && (t272 == bt274.2)))) else (none)) = some r := H
                  have A109 := Aside0.mk A1090; clear A1090
                  by_cases c110 : 0 < (t226.length : Int)
                  ·rw [if_pos c110] at H
                   have c110b0 : decide (0 < (t226.length : Int)) = true := decide_eq_true c110
                   have c110b1 : decide (0 < t226.length) = true := decide_eq_true (by omega)
                   clear c110
                   replace H := Option.bind_eq_some_iff.mp H
                   obtain ⟨⟨t274, t275⟩, A1110, H⟩ := H
                   replace H : (some (t271 == t274 && (t272 == t275))) = some r := H
                   have A111 := Aside0.mk A1110; clear A1110
                   obtain rfl := Option.some.inj H
                   try go_wp2
                   have n0_ := Aside0.mk (Kd.R_drew HO_3.out); have n1_ := Aside0.mk (Kd.R_drew HO_7.out); have n2_ := Aside0.mk (blk_drew BK232.out); have n3_ := Aside0.mk (blk_drew BK255.out); have n4_ := Aside0.mk (blk_drew BK256.out); have n5_ := Aside0.mk (below_drew1 HB.out); clear HO_3; clear HO_7; clear BK232; clear BK255; clear BK256; clear HB; have HO_3 := n0_; have HO_7 := n1_; have BK232 := n2_; have BK255 := n3_; have BK256 := n4_; have HB := n5_; clear n0_ n1_ n2_ n3_ n4_ n5_
                   have p273 : 0 ≤ (0 : Int) := (by omega)
                   have q273 : 0 < (t226.length : Int) := of_decide_eq_true (by first | (with_reducible assumption) | assumption)
                   obtain ⟨ad273, e273, hx273_0, hx273_1⟩ := at_T25 (Kd.R_reads' HO_3.out).2.2 0 p273 q273
                   obtain rfl : ad249 = ad273 := (by injection e273)
                   have qi273 : (0 < t226.length) = True := eq_true (by omega)
                   (try rw [show ((0 : Int)).toNat = 0 from rfl] at hx273_0)
                   (try rw [show 0 * 2 = 0 from rfl] at hx273_0)
                   (try rw [Addr.add_zero'] at hx273_0)
                   (try rw [show ((0 : Int)).toNat = 0 from rfl] at hx273_1)
                   (try rw [show 0 * 2 = 0 from rfl] at hx273_1)
                   (try rw [Addr.add_zero'] at hx273_1)
                   replace p273 := eq_true p273; replace q273 := eq_true q273
                   refine start_ (n := 36) (S := fun w' => w'.cell? ⟨gb255, 0, none⟩ = some (.int .i64 x256000_3) ∧ w'.cell? ⟨gb255, 1, none⟩ = some (.int .i64 x256001_3) ∧ w'.cell? ⟨gb232, 0, none⟩ = some (.int .i64 t230) ∧ w'.cell? ⟨gb232, 1, none⟩ = some (.int .i64 t231) ∧ w'.cell? ⟨gb256, 0, none⟩ = some (.int .i64 x257000_3) ∧ w'.cell? ⟨gb256, 1, none⟩ = some (.int .i64 x257001_3) ∧ w'.cell? ad249 = some (.int .i64 ((rd_T25 t226 0).f0)) ∧ w'.cell? ⟨ad249.block, ad249.off + 1, none⟩ = some (.int .i64 ((rd_T25 t226 0).f1))) (ds := []) m28 (by kernel_rfl) rfl rfl ⟨(blk_cell BK255.out 0).trans rfl, (blk_cell BK255.out 1).trans rfl, (blk_cell BK232.out 0).trans rfl, (blk_cell BK232.out 1).trans rfl, (blk_cell BK256.out 0).trans rfl, (blk_cell BK256.out 1).trans rfl, hx273_0, hx273_1⟩ (fun hHeld => ?_); refine with_tabW laws_FnDecMean.tab25 laws_FnDecMean.bits25 (fun HT_ HW_ => ?_)
                   generalize wr.drew = w112 at HO_3 HO_7 BK232 BK255 BK256 HB hx273_0 hx273_1 hHeld ⊢
                   refine pt 0 111 m29 rfl HT_ HW_ hHeld ?_ (Or.inl ⟨by rfl, by rintro w' ⟨s0, s1, s2, s3, s4, s5, s6, s7⟩; go_simp; with_reducible rfl⟩)
                   refine pt 1 112 m30 rfl HT_ HW_ hHeld ?_ (Or.inl ⟨by rfl, by rintro w' ⟨s0, s1, s2, s3, s4, s5, s6, s7⟩; go_simp; with_reducible rfl⟩)
                   refine one_ (i := 2) (N := some 113) m31 rfl rfl (one_of HT_.out (by kernel_rfl)) (by decide) (fun K hK => ?_)
                   refine goes_ Try.func31 (by kernel_rfl) rfl #[.agg #[.int .i64 x256000_3, .int .i64 x256001_3], .agg #[.int .i64 t230, .int .i64 t231]] (by rfl) rfl rfl (by (try simp only [List.map_toArray, List.map_cons, List.map_nil]); first | done | rfl | (simp only [List.length_drop, List.length_take]; rfl)) ?_
                   with_reducible refine (impl_DecCmp.calls k3 x256000_3 x256001_3 t230 t231 t263 _ A101.out).mono ?_
                   rintro e w113 ⟨rfl, hb⟩
                   have HS6_ := vC hb hHeld.2.2.2.2.2.2.1; have HS7_ := vC hb hHeld.2.2.2.2.2.2.2
                   refine ⟨_, rfl, ?_⟩
                   have n0_ := Aside0.mk (Kd.R_below (vR HO_3.out) hb); have n1_ := Aside0.mk (Kd.R_below (vR HO_7.out) hb); have n2_ := Aside0.mk (blk_below (g := gb232) (o := .cells #[.int .i64 t230, .int .i64 t231] 25 (0, 0)) (vB BK232.out) hb); have n3_ := Aside0.mk (blk_below (g := gb255) (o := .cells #[.int .i64 x256000_3, .int .i64 x256001_3] 25 (0, 0)) (vB BK255.out) hb); have n4_ := Aside0.mk (blk_below (g := gb256) (o := .cells #[.int .i64 x257000_3, .int .i64 x257001_3] 25 (0, 0)) (vB BK256.out) hb); have n5_ := Aside0.mk (below_step (vW3 HB.out GE232.out GE255.out GE256.out) hb); clear HO_3; clear HO_7; clear BK232; clear BK255; clear BK256; clear HB; have HO_3 := n0_; have HO_7 := n1_; have BK232 := n2_; have BK255 := n3_; have BK256 := n4_; have HB := n5_; clear n0_ n1_ n2_ n3_ n4_ n5_
                   (try clear hb)
                   (try clear hb2)
                   (try clear hk)
                   (try clear hi)
                   refine hK.out _ _ ⟨(blk_cell BK255.out 0).trans rfl, (blk_cell BK255.out 1).trans rfl, (blk_cell BK232.out 0).trans rfl, (blk_cell BK232.out 1).trans rfl, (blk_cell BK256.out 0).trans rfl, (blk_cell BK256.out 1).trans rfl, HS6_, HS7_⟩ (fun hHeld => ?_)
                   clear hK K
                   refine norm_ (a' := ?_) ?_ ?_
                   rotate_left
                   ·show Act.put _ (some 113) _ = _
                    simp only [Act.put, sA, s0, s1, i64_w, i32_w]
                    rfl
                   refine pw 3 114 m32 HT_ ?_
                   refine pw 4 115 m33 HT_ ?_
                   refine pt 5 116 m34 rfl HT_ HW_ hHeld ?_ (Or.inl ⟨by rfl, by rintro w' ⟨s0, s1, s2, s3, s4, s5, s6, s7⟩; go_simp; with_reducible rfl⟩)
                   refine pt 6 117 m35 rfl HT_ HW_ hHeld ?_ (Or.inl ⟨by rfl, by rintro w' ⟨s0, s1, s2, s3, s4, s5, s6, s7⟩; go_simp; with_reducible rfl⟩)
                   refine one_ (i := 7) (N := some 118) m36 rfl rfl (one_of HT_.out (by kernel_rfl)) (by decide) (fun K hK => ?_)
                   refine goes_ Try.func31 (by kernel_rfl) rfl #[.agg #[.int .i64 t230, .int .i64 t231], .agg #[.int .i64 x257000_3, .int .i64 x257001_3]] (by rfl) rfl rfl (by (try simp only [List.map_toArray, List.map_cons, List.map_nil]); first | done | rfl | (simp only [List.length_drop, List.length_take]; rfl)) ?_
                   with_reducible refine (impl_DecCmp.calls k3 t230 t231 x257000_3 x257001_3 t264 _ A103.out).mono ?_
                   rintro e w114 ⟨rfl, hb⟩
                   have HS6_ := vC hb hHeld.2.2.2.2.2.2.1; have HS7_ := vC hb hHeld.2.2.2.2.2.2.2
                   refine ⟨_, rfl, ?_⟩
                   have n0_ := Aside0.mk (Kd.R_below (vR HO_3.out) hb); have n1_ := Aside0.mk (Kd.R_below (vR HO_7.out) hb); have n2_ := Aside0.mk (blk_below (g := gb232) (o := .cells #[.int .i64 t230, .int .i64 t231] 25 (0, 0)) (vB BK232.out) hb); have n3_ := Aside0.mk (blk_below (g := gb255) (o := .cells #[.int .i64 x256000_3, .int .i64 x256001_3] 25 (0, 0)) (vB BK255.out) hb); have n4_ := Aside0.mk (blk_below (g := gb256) (o := .cells #[.int .i64 x257000_3, .int .i64 x257001_3] 25 (0, 0)) (vB BK256.out) hb); have n5_ := Aside0.mk (below_step (vW3 HB.out GE232.out GE255.out GE256.out) hb); clear HO_3; clear HO_7; clear BK232; clear BK255; clear BK256; clear HB; have HO_3 := n0_; have HO_7 := n1_; have BK232 := n2_; have BK255 := n3_; have BK256 := n4_; have HB := n5_; clear n0_ n1_ n2_ n3_ n4_ n5_
                   (try clear hb)
                   (try clear hb2)
                   (try clear hk)
                   (try clear hi)
                   obtain ⟨Ao115, co115, eo115⟩ := Kd.R_slice HO_7.out
                   (first | subst eo115 | (injection eo115 with f1_ f2_ f3_; have f4_ := f1_.symm; have f5_ := f3_.symm; clear f1_ f2_ f3_; subst f4_; subst f5_))
                   refine hK.out _ _ ⟨(blk_cell BK255.out 0).trans rfl, (blk_cell BK255.out 1).trans rfl, (blk_cell BK232.out 0).trans rfl, (blk_cell BK232.out 1).trans rfl, (blk_cell BK256.out 0).trans rfl, (blk_cell BK256.out 1).trans rfl, HS6_, HS7_⟩ (fun hHeld => ?_)
                   clear hK K
                   refine norm_ (a' := ?_) ?_ ?_
                   rotate_left
                   ·show Act.put _ (some 118) _ = _
                    simp only [Act.put, sA, s0, s1, i64_w, i32_w]
                    rfl
                   refine pw 8 119 m37 HT_ ?_
                   refine pw 9 120 m38 HT_ ?_
                   refine pw 10 121 m39 HT_ ?_
                   refine pw 11 122 m40 HT_ ?_
                   refine pw 13 124 m41 HT_ ?_
                   refine pt 12 123 m42 rfl HT_ HW_ hHeld ?_ (Or.inl ⟨by rfl, by rintro w' ⟨s0, s1, s2, s3, s4, s5, s6, s7⟩; go_simp; with_reducible rfl⟩)
                   refine pw 14 125 m43 HT_ ?_
                   refine pw 15 126 m44 HT_ ?_
                   refine pw 16 127 m45 HT_ ?_
                   refine pw 17 128 m46 HT_ ?_
                   refine pw 18 129 m47 HT_ ?_
                   refine pt 20 131 m48 rfl HT_ HW_ hHeld ?_ (Or.inl ⟨by rfl, by rintro w' ⟨s0, s1, s2, s3, s4, s5, s6, s7⟩; go_simp; with_reducible rfl⟩)
                   refine one_ (i := 19) (N := some 130) m49 rfl rfl (one_of HT_.out (by kernel_rfl)) (by decide) (fun K hK => ?_)
                   refine goes_ Try.func18 (by kernel_rfl) rfl #[.slice Ao115 x7_2.length co115, .int .i64 t227] (by rfl) rfl rfl (by (try simp only [List.map_toArray, List.map_cons, List.map_nil]); first | done | rfl | (simp only [List.length_drop, List.length_take]; rfl)) ?_
                   with_reducible refine (impl_DecMean.calls k3 _ _ x7_2 t227 t265 t266 _ ?side1 ?side2 A106.out).mono ?_
                   (case side1 => repeat (first | exact (Kd.R_reads' HO_7.out).2.2 | (with_reducible refine Kd.C_alloc ?_ _) | (with_reducible refine Kd.C_drewN ?_ _) | (with_reducible refine Kd.C_drew ?_)))
                   (case side2 => exact (Kd.R_reads' HO_7.out).2.1)
                   rintro e w116 ⟨rfl, hb⟩
                   have HS6_ := vC hb hHeld.2.2.2.2.2.2.1; have HS7_ := vC hb hHeld.2.2.2.2.2.2.2
                   refine ⟨_, rfl, ?_⟩
                   have n0_ := Aside0.mk (Kd.R_below (vR HO_3.out) hb); have n1_ := Aside0.mk (Kd.R_below (vR HO_7.out) hb); have n2_ := Aside0.mk (blk_below (g := gb232) (o := .cells #[.int .i64 t230, .int .i64 t231] 25 (0, 0)) (vB BK232.out) hb); have n3_ := Aside0.mk (blk_below (g := gb255) (o := .cells #[.int .i64 x256000_3, .int .i64 x256001_3] 25 (0, 0)) (vB BK255.out) hb); have n4_ := Aside0.mk (blk_below (g := gb256) (o := .cells #[.int .i64 x257000_3, .int .i64 x257001_3] 25 (0, 0)) (vB BK256.out) hb); have n5_ := Aside0.mk (below_step (vW3 HB.out GE232.out GE255.out GE256.out) hb); clear HO_3; clear HO_7; clear BK232; clear BK255; clear BK256; clear HB; have HO_3 := n0_; have HO_7 := n1_; have BK232 := n2_; have BK255 := n3_; have BK256 := n4_; have HB := n5_; clear n0_ n1_ n2_ n3_ n4_ n5_
                   (try clear hb)
                   (try clear hb2)
                   (try clear hk)
                   (try clear hi)
                   have q117 : (1 : Int) ≤ ((t226.length : Int) : Int) := of_decide_eq_true (by first | (with_reducible assumption) | assumption)
                   obtain ⟨i0117, hi0117, _, hsz117, _⟩ := info_parts info25
                   have hroom117 : t226.length ≤ co17 := (Kd.R_reads' HO_3.out).2.1
                   have hC117 : Kd.C k25 _ (some ad249) t226.length t226 := (Kd.R_reads' HO_3.out).2.2
                   have hcut117 := cut_to (P := Try.prog) 38 25 .i64 Try.underlying38 hi0117 (some ad249) t226.length co17 1 (by omega) q117 hroom117
                   have hr117 := Kd.C_take (m := 1) hC117 (by omega)
                   have hy117 : y267.length = (1 : Int).toNat := (by rw [Ny267.out, List.length_take]; omega)
                   rw [← Ny267.out] at hr117
                   rw [← hy117] at hcut117
                   have HR270 := Aside0.mk hr117
                   have HC270 := Aside0.mk (show y267.length ≤ co17 from by omega); clear hr117 hC117 hroom117 hi0117 hsz117
                   have KY117 := Aside0.mk hy117; clear hy117
                   have KL117 := Aside0.mk (show 1 ≤ t226.length from by omega); replace q117 := eq_true q117
                   refine hK.out _ _ ⟨(blk_cell BK255.out 0).trans rfl, (blk_cell BK255.out 1).trans rfl, (blk_cell BK232.out 0).trans rfl, (blk_cell BK232.out 1).trans rfl, (blk_cell BK256.out 0).trans rfl, (blk_cell BK256.out 1).trans rfl, HS6_, HS7_⟩ (fun hHeld => ?_)
                   clear hK K
                   refine norm_ (a' := ?_) ?_ ?_
                   rotate_left
                   ·show Act.put _ (some 130) _ = _
                    simp only [Act.put, sA, s0, s1, i64_w, i32_w]
                    rfl
                   refine pw 21 132 m50 HT_ ?_
                   refine pw 22 133 m51 HT_ ?_
                   refine pw 23 134 m52 HT_ ?_
                   refine pw 24 135 m53 HT_ ?_
                   refine pw 25 136 m54 HT_ ?_
                   refine pw 26 137 m55 HT_ ?_
                   refine pw 28 139 m56 HT_ ?_
                   refine pw 29 140 m57 HT_ ?_
                   refine pw 31 142 m58 HT_ ?_
                   refine pt 30 141 m59 rfl HT_ HW_ hHeld ?_ (Or.inl ⟨by rfl, by rintro w' ⟨s0, s1, s2, s3, s4, s5, s6, s7⟩; go_simp; with_reducible rfl⟩)
                   refine one_ (i := 27) (N := some 138) m60 rfl rfl (one_of HT_.out (by kernel_rfl)) (by decide) (fun K hK => ?_)
                   refine goes_ Try.func18 (by kernel_rfl) rfl #[.slice (some ad249) y267.length co17, .int .i64 t227] (by rfl) rfl rfl (by (try simp only [List.map_toArray, List.map_cons, List.map_nil]); first | done | rfl | (simp only [List.length_drop, List.length_take]; rfl)) ?_
                   with_reducible refine (impl_DecMean.calls k3 _ _ y267 t227 t271 t272 _ ?side1 ?side2 A109.out).mono ?_
                   (case side1 => repeat (first | exact (by repeat (first | (with_reducible exact HR270.out) | (with_reducible refine Kd.C_alloc ?_ _) | (with_reducible refine Kd.C_drewN ?_ _) | (with_reducible refine Kd.C_drew ?_) | exact HR270.out)) | (with_reducible refine Kd.C_alloc ?_ _) | (with_reducible refine Kd.C_drewN ?_ _) | (with_reducible refine Kd.C_drew ?_)))
                   (case side2 => exact HC270.out)
                   rintro e w118 ⟨rfl, hb⟩
                   have HS6_ := vC hb hHeld.2.2.2.2.2.2.1; have HS7_ := vC hb hHeld.2.2.2.2.2.2.2
                   refine ⟨_, rfl, ?_⟩
                   have n0_ := Aside0.mk (Kd.R_below (vR HO_3.out) hb); have n1_ := Aside0.mk (Kd.R_below (vR HO_7.out) hb); have n2_ := Aside0.mk (blk_below (g := gb232) (o := .cells #[.int .i64 t230, .int .i64 t231] 25 (0, 0)) (vB BK232.out) hb); have n3_ := Aside0.mk (blk_below (g := gb255) (o := .cells #[.int .i64 x256000_3, .int .i64 x256001_3] 25 (0, 0)) (vB BK255.out) hb); have n4_ := Aside0.mk (blk_below (g := gb256) (o := .cells #[.int .i64 x257000_3, .int .i64 x257001_3] 25 (0, 0)) (vB BK256.out) hb); have n5_ := Aside0.mk (Kd.C_below (by repeat (first | (with_reducible exact HR270.out) | (with_reducible refine Kd.C_alloc ?_ _) | (with_reducible refine Kd.C_drewN ?_ _) | (with_reducible refine Kd.C_drew ?_) | exact HR270.out)) hb); have n6_ := Aside0.mk (below_step (vW3 HB.out GE232.out GE255.out GE256.out) hb); clear HO_3; clear HO_7; clear BK232; clear BK255; clear BK256; clear HR270; clear HB; have HO_3 := n0_; have HO_7 := n1_; have BK232 := n2_; have BK255 := n3_; have BK256 := n4_; have HR270 := n5_; have HB := n6_; clear n0_ n1_ n2_ n3_ n4_ n5_ n6_
                   (try clear hb)
                   (try clear hb2)
                   (try clear hk)
                   (try clear hi)
                   refine hK.out _ _ ⟨(blk_cell BK255.out 0).trans rfl, (blk_cell BK255.out 1).trans rfl, (blk_cell BK232.out 0).trans rfl, (blk_cell BK232.out 1).trans rfl, (blk_cell BK256.out 0).trans rfl, (blk_cell BK256.out 1).trans rfl, HS6_, HS7_⟩ (fun hHeld => ?_)
                   clear hK K
                   refine norm_ (a' := ?_) ?_ ?_
                   rotate_left
                   ·show Act.put _ (some 138) _ = _
                    simp only [Act.put, sA, s0, s1, i64_w, i32_w]
                    rfl
                   refine one_ (i := 32) (N := some 143) m61 rfl rfl (one_of HT_.out (by kernel_rfl)) (by decide) (fun K hK => ?_)
                   refine goes_ Try.func30 (by kernel_rfl) rfl #[.agg #[.int .i64 ((rd_T25 t226 0).f0), .int .i64 ((rd_T25 t226 0).f1)], .int .i64 t227] (by rfl) rfl rfl (by (try simp only [List.map_toArray, List.map_cons, List.map_nil]); first | done | rfl | (simp only [List.length_drop, List.length_take]; rfl)) ?_
                   with_reducible refine (impl_DecAt.calls k3 ((rd_T25 t226 0).f0) ((rd_T25 t226 0).f1) t227 t274 t275 _ A111.out).mono ?_
                   rintro e w119 ⟨rfl, hb⟩
                   have HS6_ := vC hb hHeld.2.2.2.2.2.2.1; have HS7_ := vC hb hHeld.2.2.2.2.2.2.2
                   refine ⟨_, rfl, ?_⟩
                   have n0_ := Aside0.mk (Kd.R_below (vR HO_3.out) hb); have n1_ := Aside0.mk (Kd.R_below (vR HO_7.out) hb); have n2_ := Aside0.mk (blk_below (g := gb232) (o := .cells #[.int .i64 t230, .int .i64 t231] 25 (0, 0)) (vB BK232.out) hb); have n3_ := Aside0.mk (blk_below (g := gb255) (o := .cells #[.int .i64 x256000_3, .int .i64 x256001_3] 25 (0, 0)) (vB BK255.out) hb); have n4_ := Aside0.mk (blk_below (g := gb256) (o := .cells #[.int .i64 x257000_3, .int .i64 x257001_3] 25 (0, 0)) (vB BK256.out) hb); have n5_ := Aside0.mk (Kd.C_below (by repeat (first | (with_reducible exact HR270.out) | (with_reducible refine Kd.C_alloc ?_ _) | (with_reducible refine Kd.C_drewN ?_ _) | (with_reducible refine Kd.C_drew ?_) | exact HR270.out)) hb); have n6_ := Aside0.mk (below_step (vW3 HB.out GE232.out GE255.out GE256.out) hb); clear HO_3; clear HO_7; clear BK232; clear BK255; clear BK256; clear HR270; clear HB; have HO_3 := n0_; have HO_7 := n1_; have BK232 := n2_; have BK255 := n3_; have BK256 := n4_; have HR270 := n5_; have HB := n6_; clear n0_ n1_ n2_ n3_ n4_ n5_ n6_
                   (try clear hb)
                   (try clear hb2)
                   (try clear hk)
                   (try clear hi)
                   refine hK.out _ _ ⟨(blk_cell BK255.out 0).trans rfl, (blk_cell BK255.out 1).trans rfl, (blk_cell BK232.out 0).trans rfl, (blk_cell BK232.out 1).trans rfl, (blk_cell BK256.out 0).trans rfl, (blk_cell BK256.out 1).trans rfl, HS6_, HS7_⟩ (fun hHeld => ?_)
                   clear hK K
                   refine norm_ (a' := ?_) ?_ ?_
                   rotate_left
                   ·show Act.put _ (some 143) _ = _
                    simp only [Act.put, sA, s0, s1, i64_w, i32_w]
                    rfl
                   refine pw 33 144 m62 HT_ ?_
                   refine pw 34 145 m63 HT_ ?_
                   refine pw 35 2 m64 HT_ ?_
                   refine done_ (done_of HT_.out (by kernel_rfl)) ?_
                   try go_wp2
                   go_ret
                   exact ⟨by first | rfl | (simp [errW_none, errW_some] <;> rfl) | (simp [*, errW_none, errW_some] <;> rfl), by repeat (first | (with_reducible first | exact HB.out | apply below_alloc | apply pw_below_drewN | apply below_drew1 | refine below_set ?_ GE232.out | refine below_set ?_ GE255.out | refine below_set ?_ GE256.out) | exact HB.out)⟩
                  ·rw [if_neg c110] at H
                   exact absurd H (by simp)
                 ·rw [if_neg c108] at H
                  exact absurd H (by simp)
                ·rw [if_neg c107] at H
                 have c107b0 : (t265 == t230 && (t266 == t231)) = false := by simpa using c107
                 (try (have c107b1 : decide (t265 = t230 && (t266 == t231)) = false := by simpa using c107))
                 (try (have c107b2 : (t265 == t230 && (t266 == t231)) = false := by simpa using c107))
                 (try (have c107b3 : ¬ (t265 = t230 && (t266 == t231)) := by simpa using c107))
                 clear c107
                 obtain rfl := Option.some.inj H
                 try go_wp2
                 have n0_ := Aside0.mk (Kd.R_drew HO_3.out); have n1_ := Aside0.mk (Kd.R_drew HO_7.out); have n2_ := Aside0.mk (blk_drew BK232.out); have n3_ := Aside0.mk (blk_drew BK255.out); have n4_ := Aside0.mk (blk_drew BK256.out); have n5_ := Aside0.mk (below_drew1 HB.out); clear HO_3; clear HO_7; clear BK232; clear BK255; clear BK256; clear HB; have HO_3 := n0_; have HO_7 := n1_; have BK232 := n2_; have BK255 := n3_; have BK256 := n4_; have HB := n5_; clear n0_ n1_ n2_ n3_ n4_ n5_
                 refine start_ (n := 36) (S := fun w' => w'.cell? ⟨gb255, 0, none⟩ = some (.int .i64 x256000_3) ∧ w'.cell? ⟨gb255, 1, none⟩ = some (.int .i64 x256001_3) ∧ w'.cell? ⟨gb232, 0, none⟩ = some (.int .i64 t230) ∧ w'.cell? ⟨gb232, 1, none⟩ = some (.int .i64 t231) ∧ w'.cell? ⟨gb256, 0, none⟩ = some (.int .i64 x257000_3) ∧ w'.cell? ⟨gb256, 1, none⟩ = some (.int .i64 x257001_3)) (ds := []) m28 (by kernel_rfl) rfl rfl ⟨(blk_cell BK255.out 0).trans rfl, (blk_cell BK255.out 1).trans rfl, (blk_cell BK232.out 0).trans rfl, (blk_cell BK232.out 1).trans rfl, (blk_cell BK256.out 0).trans rfl, (blk_cell BK256.out 1).trans rfl⟩ (fun hHeld => ?_); refine with_tabW laws_FnDecMean.tab25 laws_FnDecMean.bits25 (fun HT_ HW_ => ?_)
                 generalize wr.drew = w120 at HO_3 HO_7 BK232 BK255 BK256 HB hHeld ⊢
                 refine pt 0 111 m29 rfl HT_ HW_ hHeld ?_ (Or.inl ⟨by rfl, by rintro w' ⟨s0, s1, s2, s3, s4, s5⟩; go_simp; with_reducible rfl⟩)
                 refine pt 1 112 m30 rfl HT_ HW_ hHeld ?_ (Or.inl ⟨by rfl, by rintro w' ⟨s0, s1, s2, s3, s4, s5⟩; go_simp; with_reducible rfl⟩)
                 refine one_ (i := 2) (N := some 113) m31 rfl rfl (one_of HT_.out (by kernel_rfl)) (by decide) (fun K hK => ?_)
                 refine goes_ Try.func31 (by kernel_rfl) rfl #[.agg #[.int .i64 x256000_3, .int .i64 x256001_3], .agg #[.int .i64 t230, .int .i64 t231]] (by rfl) rfl rfl (by (try simp only [List.map_toArray, List.map_cons, List.map_nil]); first | done | rfl | (simp only [List.length_drop, List.length_take]; rfl)) ?_
                 with_reducible refine (impl_DecCmp.calls k3 x256000_3 x256001_3 t230 t231 t263 _ A101.out).mono ?_
                 rintro e w121 ⟨rfl, hb⟩
                 refine ⟨_, rfl, ?_⟩
                 have n0_ := Aside0.mk (Kd.R_below (vR HO_3.out) hb); have n1_ := Aside0.mk (Kd.R_below (vR HO_7.out) hb); have n2_ := Aside0.mk (blk_below (g := gb232) (o := .cells #[.int .i64 t230, .int .i64 t231] 25 (0, 0)) (vB BK232.out) hb); have n3_ := Aside0.mk (blk_below (g := gb255) (o := .cells #[.int .i64 x256000_3, .int .i64 x256001_3] 25 (0, 0)) (vB BK255.out) hb); have n4_ := Aside0.mk (blk_below (g := gb256) (o := .cells #[.int .i64 x257000_3, .int .i64 x257001_3] 25 (0, 0)) (vB BK256.out) hb); have n5_ := Aside0.mk (below_step (vW3 HB.out GE232.out GE255.out GE256.out) hb); clear HO_3; clear HO_7; clear BK232; clear BK255; clear BK256; clear HB; have HO_3 := n0_; have HO_7 := n1_; have BK232 := n2_; have BK255 := n3_; have BK256 := n4_; have HB := n5_; clear n0_ n1_ n2_ n3_ n4_ n5_
                 (try clear hb)
                 (try clear hb2)
                 (try clear hk)
                 (try clear hi)
                 refine hK.out _ _ ⟨(blk_cell BK255.out 0).trans rfl, (blk_cell BK255.out 1).trans rfl, (blk_cell BK232.out 0).trans rfl, (blk_cell BK232.out 1).trans rfl, (blk_cell BK256.out 0).trans rfl, (blk_cell BK256.out 1).trans rfl⟩ (fun hHeld => ?_)
                 clear hK K
                 refine norm_ (a' := ?_) ?_ ?_
                 rotate_left
                 ·show Act.put _ (some 113) _ = _
                  simp only [Act.put, sA, s0, s1, i64_w, i32_w]
                  rfl
                 refine pw 3 114 m32 HT_ ?_
                 refine pw 4 115 m33 HT_ ?_
                 refine pt 5 116 m34 rfl HT_ HW_ hHeld ?_ (Or.inl ⟨by rfl, by rintro w' ⟨s0, s1, s2, s3, s4, s5⟩; go_simp; with_reducible rfl⟩)
                 refine pt 6 117 m35 rfl HT_ HW_ hHeld ?_ (Or.inl ⟨by rfl, by rintro w' ⟨s0, s1, s2, s3, s4, s5⟩; go_simp; with_reducible rfl⟩)
                 refine one_ (i := 7) (N := some 118) m36 rfl rfl (one_of HT_.out (by kernel_rfl)) (by decide) (fun K hK => ?_)
                 refine goes_ Try.func31 (by kernel_rfl) rfl #[.agg #[.int .i64 t230, .int .i64 t231], .agg #[.int .i64 x257000_3, .int .i64 x257001_3]] (by rfl) rfl rfl (by (try simp only [List.map_toArray, List.map_cons, List.map_nil]); first | done | rfl | (simp only [List.length_drop, List.length_take]; rfl)) ?_
                 with_reducible refine (impl_DecCmp.calls k3 t230 t231 x257000_3 x257001_3 t264 _ A103.out).mono ?_
                 rintro e w122 ⟨rfl, hb⟩
                 refine ⟨_, rfl, ?_⟩
                 have n0_ := Aside0.mk (Kd.R_below (vR HO_3.out) hb); have n1_ := Aside0.mk (Kd.R_below (vR HO_7.out) hb); have n2_ := Aside0.mk (blk_below (g := gb232) (o := .cells #[.int .i64 t230, .int .i64 t231] 25 (0, 0)) (vB BK232.out) hb); have n3_ := Aside0.mk (blk_below (g := gb255) (o := .cells #[.int .i64 x256000_3, .int .i64 x256001_3] 25 (0, 0)) (vB BK255.out) hb); have n4_ := Aside0.mk (blk_below (g := gb256) (o := .cells #[.int .i64 x257000_3, .int .i64 x257001_3] 25 (0, 0)) (vB BK256.out) hb); have n5_ := Aside0.mk (below_step (vW3 HB.out GE232.out GE255.out GE256.out) hb); clear HO_3; clear HO_7; clear BK232; clear BK255; clear BK256; clear HB; have HO_3 := n0_; have HO_7 := n1_; have BK232 := n2_; have BK255 := n3_; have BK256 := n4_; have HB := n5_; clear n0_ n1_ n2_ n3_ n4_ n5_
                 (try clear hb)
                 (try clear hb2)
                 (try clear hk)
                 (try clear hi)
                 obtain ⟨Ao123, co123, eo123⟩ := Kd.R_slice HO_7.out
                 (first | subst eo123 | (injection eo123 with f1_ f2_ f3_; have f4_ := f1_.symm; have f5_ := f3_.symm; clear f1_ f2_ f3_; subst f4_; subst f5_))
                 refine hK.out _ _ ⟨(blk_cell BK255.out 0).trans rfl, (blk_cell BK255.out 1).trans rfl, (blk_cell BK232.out 0).trans rfl, (blk_cell BK232.out 1).trans rfl, (blk_cell BK256.out 0).trans rfl, (blk_cell BK256.out 1).trans rfl⟩ (fun hHeld => ?_)
                 clear hK K
                 refine norm_ (a' := ?_) ?_ ?_
                 rotate_left
                 ·show Act.put _ (some 118) _ = _
                  simp only [Act.put, sA, s0, s1, i64_w, i32_w]
                  rfl
                 refine pw 8 119 m37 HT_ ?_
                 refine pw 9 120 m38 HT_ ?_
                 refine pw 10 121 m39 HT_ ?_
                 refine pw 11 122 m40 HT_ ?_
                 refine pw 13 124 m41 HT_ ?_
                 refine pt 12 123 m42 rfl HT_ HW_ hHeld ?_ (Or.inl ⟨by rfl, by rintro w' ⟨s0, s1, s2, s3, s4, s5⟩; go_simp; with_reducible rfl⟩)
                 refine pw 14 125 m43 HT_ ?_
                 refine pw 15 126 m44 HT_ ?_
                 refine pw 16 127 m45 HT_ ?_
                 refine pw 17 128 m46 HT_ ?_
                 refine pw 18 129 m47 HT_ ?_
                 refine pt 20 131 m48 rfl HT_ HW_ hHeld ?_ (Or.inl ⟨by rfl, by rintro w' ⟨s0, s1, s2, s3, s4, s5⟩; go_simp; with_reducible rfl⟩)
                 refine one_ (i := 19) (N := some 130) m49 rfl rfl (one_of HT_.out (by kernel_rfl)) (by decide) (fun K hK => ?_)
                 refine goes_ Try.func18 (by kernel_rfl) rfl #[.slice Ao123 x7_2.length co123, .int .i64 t227] (by rfl) rfl rfl (by (try simp only [List.map_toArray, List.map_cons, List.map_nil]); first | done | rfl | (simp only [List.length_drop, List.length_take]; rfl)) ?_
                 with_reducible refine (impl_DecMean.calls k3 _ _ x7_2 t227 t265 t266 _ ?side1 ?side2 A106.out).mono ?_
                 (case side1 => repeat (first | exact (Kd.R_reads' HO_7.out).2.2 | (with_reducible refine Kd.C_alloc ?_ _) | (with_reducible refine Kd.C_drewN ?_ _) | (with_reducible refine Kd.C_drew ?_)))
                 (case side2 => exact (Kd.R_reads' HO_7.out).2.1)
                 rintro e w124 ⟨rfl, hb⟩
                 refine ⟨_, rfl, ?_⟩
                 have n0_ := Aside0.mk (Kd.R_below (vR HO_3.out) hb); have n1_ := Aside0.mk (Kd.R_below (vR HO_7.out) hb); have n2_ := Aside0.mk (blk_below (g := gb232) (o := .cells #[.int .i64 t230, .int .i64 t231] 25 (0, 0)) (vB BK232.out) hb); have n3_ := Aside0.mk (blk_below (g := gb255) (o := .cells #[.int .i64 x256000_3, .int .i64 x256001_3] 25 (0, 0)) (vB BK255.out) hb); have n4_ := Aside0.mk (blk_below (g := gb256) (o := .cells #[.int .i64 x257000_3, .int .i64 x257001_3] 25 (0, 0)) (vB BK256.out) hb); have n5_ := Aside0.mk (below_step (vW3 HB.out GE232.out GE255.out GE256.out) hb); clear HO_3; clear HO_7; clear BK232; clear BK255; clear BK256; clear HB; have HO_3 := n0_; have HO_7 := n1_; have BK232 := n2_; have BK255 := n3_; have BK256 := n4_; have HB := n5_; clear n0_ n1_ n2_ n3_ n4_ n5_
                 (try clear hb)
                 (try clear hb2)
                 (try clear hk)
                 (try clear hi)
                 refine hK.out _ _ ⟨(blk_cell BK255.out 0).trans rfl, (blk_cell BK255.out 1).trans rfl, (blk_cell BK232.out 0).trans rfl, (blk_cell BK232.out 1).trans rfl, (blk_cell BK256.out 0).trans rfl, (blk_cell BK256.out 1).trans rfl⟩ (fun hHeld => ?_)
                 clear hK K
                 refine norm_ (a' := ?_) ?_ ?_
                 rotate_left
                 ·show Act.put _ (some 130) _ = _
                  simp only [Act.put, sA, s0, s1, i64_w, i32_w]
                  rfl
                 refine pw 21 132 m50 HT_ ?_
                 refine pw 22 133 m51 HT_ ?_
                 refine pw 23 134 m52 HT_ ?_
                 refine pu 24 135 m53 HT_ ?_
                 refine pu 25 136 m54 HT_ ?_
                 refine pu 26 137 m55 HT_ ?_
                 refine pu 27 138 m65 HT_ ?_
                 refine pu 28 139 m66 HT_ ?_
                 refine pu 29 140 m67 HT_ ?_
                 refine pu 30 141 m68 HT_ ?_
                 refine pu 31 142 m60 HT_ ?_
                 refine pu 32 143 m61 HT_ ?_
                 refine pu 33 144 m62 HT_ ?_
                 refine pw 34 145 m63 HT_ ?_
                 refine pw 35 2 m64 HT_ ?_
                 refine done_ (done_of HT_.out (by kernel_rfl)) ?_
                 try go_wp2
                 go_ret
                 exact ⟨by first | rfl | (simp [errW_none, errW_some] <;> rfl) | (simp [*, errW_none, errW_some] <;> rfl), by repeat (first | (with_reducible first | exact HB.out | apply below_alloc | apply pw_below_drewN | apply below_drew1 | refine below_set ?_ GE232.out | refine below_set ?_ GE255.out | refine below_set ?_ GE256.out) | exact HB.out)⟩
               ·rw [if_neg c105] at H
                have c105b0 : (t231 == t227) = false := beq_eq_false_iff_ne.mpr c105
                have c105b1 : (t231 != t227) = true := bne_iff_ne.mpr c105
                obtain rfl := Option.some.inj H
                try go_wp2
                have n0_ := Aside0.mk (Kd.R_drew HO_3.out); have n1_ := Aside0.mk (Kd.R_drew HO_7.out); have n2_ := Aside0.mk (blk_drew BK232.out); have n3_ := Aside0.mk (blk_drew BK255.out); have n4_ := Aside0.mk (blk_drew BK256.out); have n5_ := Aside0.mk (below_drew1 HB.out); clear HO_3; clear HO_7; clear BK232; clear BK255; clear BK256; clear HB; have HO_3 := n0_; have HO_7 := n1_; have BK232 := n2_; have BK255 := n3_; have BK256 := n4_; have HB := n5_; clear n0_ n1_ n2_ n3_ n4_ n5_
                refine start_ (n := 36) (S := fun w' => w'.cell? ⟨gb255, 0, none⟩ = some (.int .i64 x256000_3) ∧ w'.cell? ⟨gb255, 1, none⟩ = some (.int .i64 x256001_3) ∧ w'.cell? ⟨gb232, 0, none⟩ = some (.int .i64 t230) ∧ w'.cell? ⟨gb232, 1, none⟩ = some (.int .i64 t231) ∧ w'.cell? ⟨gb256, 0, none⟩ = some (.int .i64 x257000_3) ∧ w'.cell? ⟨gb256, 1, none⟩ = some (.int .i64 x257001_3)) (ds := []) m28 (by kernel_rfl) rfl rfl ⟨(blk_cell BK255.out 0).trans rfl, (blk_cell BK255.out 1).trans rfl, (blk_cell BK232.out 0).trans rfl, (blk_cell BK232.out 1).trans rfl, (blk_cell BK256.out 0).trans rfl, (blk_cell BK256.out 1).trans rfl⟩ (fun hHeld => ?_); refine with_tabW laws_FnDecMean.tab25 laws_FnDecMean.bits25 (fun HT_ HW_ => ?_)
                generalize wr.drew = w125 at HO_3 HO_7 BK232 BK255 BK256 HB hHeld ⊢
                refine pt 0 111 m29 rfl HT_ HW_ hHeld ?_ (Or.inl ⟨by rfl, by rintro w' ⟨s0, s1, s2, s3, s4, s5⟩; go_simp; with_reducible rfl⟩)
                refine pt 1 112 m30 rfl HT_ HW_ hHeld ?_ (Or.inl ⟨by rfl, by rintro w' ⟨s0, s1, s2, s3, s4, s5⟩; go_simp; with_reducible rfl⟩)
                refine one_ (i := 2) (N := some 113) m31 rfl rfl (one_of HT_.out (by kernel_rfl)) (by decide) (fun K hK => ?_)
                refine goes_ Try.func31 (by kernel_rfl) rfl #[.agg #[.int .i64 x256000_3, .int .i64 x256001_3], .agg #[.int .i64 t230, .int .i64 t231]] (by rfl) rfl rfl (by (try simp only [List.map_toArray, List.map_cons, List.map_nil]); first | done | rfl | (simp only [List.length_drop, List.length_take]; rfl)) ?_
                with_reducible refine (impl_DecCmp.calls k3 x256000_3 x256001_3 t230 t231 t263 _ A101.out).mono ?_
                rintro e w126 ⟨rfl, hb⟩
                refine ⟨_, rfl, ?_⟩
                have n0_ := Aside0.mk (Kd.R_below (vR HO_3.out) hb); have n1_ := Aside0.mk (Kd.R_below (vR HO_7.out) hb); have n2_ := Aside0.mk (blk_below (g := gb232) (o := .cells #[.int .i64 t230, .int .i64 t231] 25 (0, 0)) (vB BK232.out) hb); have n3_ := Aside0.mk (blk_below (g := gb255) (o := .cells #[.int .i64 x256000_3, .int .i64 x256001_3] 25 (0, 0)) (vB BK255.out) hb); have n4_ := Aside0.mk (blk_below (g := gb256) (o := .cells #[.int .i64 x257000_3, .int .i64 x257001_3] 25 (0, 0)) (vB BK256.out) hb); have n5_ := Aside0.mk (below_step (vW3 HB.out GE232.out GE255.out GE256.out) hb); clear HO_3; clear HO_7; clear BK232; clear BK255; clear BK256; clear HB; have HO_3 := n0_; have HO_7 := n1_; have BK232 := n2_; have BK255 := n3_; have BK256 := n4_; have HB := n5_; clear n0_ n1_ n2_ n3_ n4_ n5_
                (try clear hb)
                (try clear hb2)
                (try clear hk)
                (try clear hi)
                refine hK.out _ _ ⟨(blk_cell BK255.out 0).trans rfl, (blk_cell BK255.out 1).trans rfl, (blk_cell BK232.out 0).trans rfl, (blk_cell BK232.out 1).trans rfl, (blk_cell BK256.out 0).trans rfl, (blk_cell BK256.out 1).trans rfl⟩ (fun hHeld => ?_)
                clear hK K
                refine norm_ (a' := ?_) ?_ ?_
                rotate_left
                ·show Act.put _ (some 113) _ = _
                 simp only [Act.put, sA, s0, s1, i64_w, i32_w]
                 rfl
                refine pw 3 114 m32 HT_ ?_
                refine pw 4 115 m33 HT_ ?_
                refine pt 5 116 m34 rfl HT_ HW_ hHeld ?_ (Or.inl ⟨by rfl, by rintro w' ⟨s0, s1, s2, s3, s4, s5⟩; go_simp; with_reducible rfl⟩)
                refine pt 6 117 m35 rfl HT_ HW_ hHeld ?_ (Or.inl ⟨by rfl, by rintro w' ⟨s0, s1, s2, s3, s4, s5⟩; go_simp; with_reducible rfl⟩)
                refine one_ (i := 7) (N := some 118) m36 rfl rfl (one_of HT_.out (by kernel_rfl)) (by decide) (fun K hK => ?_)
                refine goes_ Try.func31 (by kernel_rfl) rfl #[.agg #[.int .i64 t230, .int .i64 t231], .agg #[.int .i64 x257000_3, .int .i64 x257001_3]] (by rfl) rfl rfl (by (try simp only [List.map_toArray, List.map_cons, List.map_nil]); first | done | rfl | (simp only [List.length_drop, List.length_take]; rfl)) ?_
                with_reducible refine (impl_DecCmp.calls k3 t230 t231 x257000_3 x257001_3 t264 _ A103.out).mono ?_
                rintro e w127 ⟨rfl, hb⟩
                refine ⟨_, rfl, ?_⟩
                have n0_ := Aside0.mk (Kd.R_below (vR HO_3.out) hb); have n1_ := Aside0.mk (Kd.R_below (vR HO_7.out) hb); have n2_ := Aside0.mk (blk_below (g := gb232) (o := .cells #[.int .i64 t230, .int .i64 t231] 25 (0, 0)) (vB BK232.out) hb); have n3_ := Aside0.mk (blk_below (g := gb255) (o := .cells #[.int .i64 x256000_3, .int .i64 x256001_3] 25 (0, 0)) (vB BK255.out) hb); have n4_ := Aside0.mk (blk_below (g := gb256) (o := .cells #[.int .i64 x257000_3, .int .i64 x257001_3] 25 (0, 0)) (vB BK256.out) hb); have n5_ := Aside0.mk (below_step (vW3 HB.out GE232.out GE255.out GE256.out) hb); clear HO_3; clear HO_7; clear BK232; clear BK255; clear BK256; clear HB; have HO_3 := n0_; have HO_7 := n1_; have BK232 := n2_; have BK255 := n3_; have BK256 := n4_; have HB := n5_; clear n0_ n1_ n2_ n3_ n4_ n5_
                (try clear hb)
                (try clear hb2)
                (try clear hk)
                (try clear hi)
                refine hK.out _ _ ⟨(blk_cell BK255.out 0).trans rfl, (blk_cell BK255.out 1).trans rfl, (blk_cell BK232.out 0).trans rfl, (blk_cell BK232.out 1).trans rfl, (blk_cell BK256.out 0).trans rfl, (blk_cell BK256.out 1).trans rfl⟩ (fun hHeld => ?_)
                clear hK K
                refine norm_ (a' := ?_) ?_ ?_
                rotate_left
                ·show Act.put _ (some 118) _ = _
                 simp only [Act.put, sA, s0, s1, i64_w, i32_w]
                 rfl
                refine pw 8 119 m37 HT_ ?_
                refine pw 9 120 m38 HT_ ?_
                refine pw 10 121 m39 HT_ ?_
                refine pw 11 122 m40 HT_ ?_
                refine pw 13 124 m41 HT_ ?_
                refine pt 12 123 m42 rfl HT_ HW_ hHeld ?_ (Or.inl ⟨by rfl, by rintro w' ⟨s0, s1, s2, s3, s4, s5⟩; go_simp; with_reducible rfl⟩)
                refine pw 14 125 m43 HT_ ?_
                refine pw 15 126 m44 HT_ ?_
                refine pw 16 127 m45 HT_ ?_
                refine pu 17 128 m46 HT_ ?_
                refine pu 18 129 m47 HT_ ?_
                refine pu 19 130 m69 HT_ ?_
                refine pu 20 131 m49 HT_ ?_
                refine pu 21 132 m50 HT_ ?_
                refine pw 22 133 m51 HT_ ?_
                refine pw 23 134 m52 HT_ ?_
                refine pu 24 135 m53 HT_ ?_
                refine pu 25 136 m54 HT_ ?_
                refine pu 26 137 m55 HT_ ?_
                refine pu 27 138 m65 HT_ ?_
                refine pu 28 139 m66 HT_ ?_
                refine pu 29 140 m67 HT_ ?_
                refine pu 30 141 m68 HT_ ?_
                refine pu 31 142 m60 HT_ ?_
                refine pu 32 143 m61 HT_ ?_
                refine pu 33 144 m62 HT_ ?_
                refine pw 34 145 m63 HT_ ?_
                refine pw 35 2 m64 HT_ ?_
                refine done_ (done_of HT_.out (by kernel_rfl)) ?_
                try go_wp2
                go_ret
                exact ⟨by first | rfl | (simp [errW_none, errW_some] <;> rfl) | (simp [*, errW_none, errW_some] <;> rfl), by repeat (first | (with_reducible first | exact HB.out | apply below_alloc | apply pw_below_drewN | apply below_drew1 | refine below_set ?_ GE232.out | refine below_set ?_ GE255.out | refine below_set ?_ GE256.out) | exact HB.out)⟩
              ·rw [if_neg c104] at H
               have c104b0 : decide (t264 ≤ 0) = false := decide_eq_false c104
               clear c104
               obtain rfl := Option.some.inj H
               try go_wp2
               have n0_ := Aside0.mk (Kd.R_drew HO_3.out); have n1_ := Aside0.mk (Kd.R_drew HO_7.out); have n2_ := Aside0.mk (blk_drew BK232.out); have n3_ := Aside0.mk (blk_drew BK255.out); have n4_ := Aside0.mk (blk_drew BK256.out); have n5_ := Aside0.mk (below_drew1 HB.out); clear HO_3; clear HO_7; clear BK232; clear BK255; clear BK256; clear HB; have HO_3 := n0_; have HO_7 := n1_; have BK232 := n2_; have BK255 := n3_; have BK256 := n4_; have HB := n5_; clear n0_ n1_ n2_ n3_ n4_ n5_
               refine start_ (n := 36) (S := fun w' => w'.cell? ⟨gb255, 0, none⟩ = some (.int .i64 x256000_3) ∧ w'.cell? ⟨gb255, 1, none⟩ = some (.int .i64 x256001_3) ∧ w'.cell? ⟨gb232, 0, none⟩ = some (.int .i64 t230) ∧ w'.cell? ⟨gb232, 1, none⟩ = some (.int .i64 t231) ∧ w'.cell? ⟨gb256, 0, none⟩ = some (.int .i64 x257000_3) ∧ w'.cell? ⟨gb256, 1, none⟩ = some (.int .i64 x257001_3)) (ds := []) m28 (by kernel_rfl) rfl rfl ⟨(blk_cell BK255.out 0).trans rfl, (blk_cell BK255.out 1).trans rfl, (blk_cell BK232.out 0).trans rfl, (blk_cell BK232.out 1).trans rfl, (blk_cell BK256.out 0).trans rfl, (blk_cell BK256.out 1).trans rfl⟩ (fun hHeld => ?_); refine with_tabW laws_FnDecMean.tab25 laws_FnDecMean.bits25 (fun HT_ HW_ => ?_)
               generalize wr.drew = w128 at HO_3 HO_7 BK232 BK255 BK256 HB hHeld ⊢
               refine pt 0 111 m29 rfl HT_ HW_ hHeld ?_ (Or.inl ⟨by rfl, by rintro w' ⟨s0, s1, s2, s3, s4, s5⟩; go_simp; with_reducible rfl⟩)
               refine pt 1 112 m30 rfl HT_ HW_ hHeld ?_ (Or.inl ⟨by rfl, by rintro w' ⟨s0, s1, s2, s3, s4, s5⟩; go_simp; with_reducible rfl⟩)
               refine one_ (i := 2) (N := some 113) m31 rfl rfl (one_of HT_.out (by kernel_rfl)) (by decide) (fun K hK => ?_)
               refine goes_ Try.func31 (by kernel_rfl) rfl #[.agg #[.int .i64 x256000_3, .int .i64 x256001_3], .agg #[.int .i64 t230, .int .i64 t231]] (by rfl) rfl rfl (by (try simp only [List.map_toArray, List.map_cons, List.map_nil]); first | done | rfl | (simp only [List.length_drop, List.length_take]; rfl)) ?_
               with_reducible refine (impl_DecCmp.calls k3 x256000_3 x256001_3 t230 t231 t263 _ A101.out).mono ?_
               rintro e w129 ⟨rfl, hb⟩
               refine ⟨_, rfl, ?_⟩
               have n0_ := Aside0.mk (Kd.R_below (vR HO_3.out) hb); have n1_ := Aside0.mk (Kd.R_below (vR HO_7.out) hb); have n2_ := Aside0.mk (blk_below (g := gb232) (o := .cells #[.int .i64 t230, .int .i64 t231] 25 (0, 0)) (vB BK232.out) hb); have n3_ := Aside0.mk (blk_below (g := gb255) (o := .cells #[.int .i64 x256000_3, .int .i64 x256001_3] 25 (0, 0)) (vB BK255.out) hb); have n4_ := Aside0.mk (blk_below (g := gb256) (o := .cells #[.int .i64 x257000_3, .int .i64 x257001_3] 25 (0, 0)) (vB BK256.out) hb); have n5_ := Aside0.mk (below_step (vW3 HB.out GE232.out GE255.out GE256.out) hb); clear HO_3; clear HO_7; clear BK232; clear BK255; clear BK256; clear HB; have HO_3 := n0_; have HO_7 := n1_; have BK232 := n2_; have BK255 := n3_; have BK256 := n4_; have HB := n5_; clear n0_ n1_ n2_ n3_ n4_ n5_
               (try clear hb)
               (try clear hb2)
               (try clear hk)
               (try clear hi)
               refine hK.out _ _ ⟨(blk_cell BK255.out 0).trans rfl, (blk_cell BK255.out 1).trans rfl, (blk_cell BK232.out 0).trans rfl, (blk_cell BK232.out 1).trans rfl, (blk_cell BK256.out 0).trans rfl, (blk_cell BK256.out 1).trans rfl⟩ (fun hHeld => ?_)
               clear hK K
               refine norm_ (a' := ?_) ?_ ?_
               rotate_left
               ·show Act.put _ (some 113) _ = _
                simp only [Act.put, sA, s0, s1, i64_w, i32_w]
                rfl
               refine pw 3 114 m32 HT_ ?_
               refine pw 4 115 m33 HT_ ?_
               refine pt 5 116 m34 rfl HT_ HW_ hHeld ?_ (Or.inl ⟨by rfl, by rintro w' ⟨s0, s1, s2, s3, s4, s5⟩; go_simp; with_reducible rfl⟩)
               refine pt 6 117 m35 rfl HT_ HW_ hHeld ?_ (Or.inl ⟨by rfl, by rintro w' ⟨s0, s1, s2, s3, s4, s5⟩; go_simp; with_reducible rfl⟩)
               refine one_ (i := 7) (N := some 118) m36 rfl rfl (one_of HT_.out (by kernel_rfl)) (by decide) (fun K hK => ?_)
               refine goes_ Try.func31 (by kernel_rfl) rfl #[.agg #[.int .i64 t230, .int .i64 t231], .agg #[.int .i64 x257000_3, .int .i64 x257001_3]] (by rfl) rfl rfl (by (try simp only [List.map_toArray, List.map_cons, List.map_nil]); first | done | rfl | (simp only [List.length_drop, List.length_take]; rfl)) ?_
               with_reducible refine (impl_DecCmp.calls k3 t230 t231 x257000_3 x257001_3 t264 _ A103.out).mono ?_
               rintro e w130 ⟨rfl, hb⟩
               refine ⟨_, rfl, ?_⟩
               have n0_ := Aside0.mk (Kd.R_below (vR HO_3.out) hb); have n1_ := Aside0.mk (Kd.R_below (vR HO_7.out) hb); have n2_ := Aside0.mk (blk_below (g := gb232) (o := .cells #[.int .i64 t230, .int .i64 t231] 25 (0, 0)) (vB BK232.out) hb); have n3_ := Aside0.mk (blk_below (g := gb255) (o := .cells #[.int .i64 x256000_3, .int .i64 x256001_3] 25 (0, 0)) (vB BK255.out) hb); have n4_ := Aside0.mk (blk_below (g := gb256) (o := .cells #[.int .i64 x257000_3, .int .i64 x257001_3] 25 (0, 0)) (vB BK256.out) hb); have n5_ := Aside0.mk (below_step (vW3 HB.out GE232.out GE255.out GE256.out) hb); clear HO_3; clear HO_7; clear BK232; clear BK255; clear BK256; clear HB; have HO_3 := n0_; have HO_7 := n1_; have BK232 := n2_; have BK255 := n3_; have BK256 := n4_; have HB := n5_; clear n0_ n1_ n2_ n3_ n4_ n5_
               (try clear hb)
               (try clear hb2)
               (try clear hk)
               (try clear hi)
               refine hK.out _ _ ⟨(blk_cell BK255.out 0).trans rfl, (blk_cell BK255.out 1).trans rfl, (blk_cell BK232.out 0).trans rfl, (blk_cell BK232.out 1).trans rfl, (blk_cell BK256.out 0).trans rfl, (blk_cell BK256.out 1).trans rfl⟩ (fun hHeld => ?_)
               clear hK K
               refine norm_ (a' := ?_) ?_ ?_
               rotate_left
               ·show Act.put _ (some 118) _ = _
                simp only [Act.put, sA, s0, s1, i64_w, i32_w]
                rfl
               refine pw 8 119 m37 HT_ ?_
               refine pw 9 120 m38 HT_ ?_
               refine pw 10 121 m39 HT_ ?_
               refine pu 11 122 m40 HT_ ?_
               refine pu 12 123 m70 HT_ ?_
               refine pu 13 124 m42 HT_ ?_
               refine pu 14 125 m43 HT_ ?_
               refine pw 15 126 m44 HT_ ?_
               refine pw 16 127 m45 HT_ ?_
               refine pu 17 128 m46 HT_ ?_
               refine pu 18 129 m47 HT_ ?_
               refine pu 19 130 m69 HT_ ?_
               refine pu 20 131 m49 HT_ ?_
               refine pu 21 132 m50 HT_ ?_
               refine pw 22 133 m51 HT_ ?_
               refine pw 23 134 m52 HT_ ?_
               refine pu 24 135 m53 HT_ ?_
               refine pu 25 136 m54 HT_ ?_
               refine pu 26 137 m55 HT_ ?_
               refine pu 27 138 m65 HT_ ?_
               refine pu 28 139 m66 HT_ ?_
               refine pu 29 140 m67 HT_ ?_
               refine pu 30 141 m68 HT_ ?_
               refine pu 31 142 m60 HT_ ?_
               refine pu 32 143 m61 HT_ ?_
               refine pu 33 144 m62 HT_ ?_
               refine pw 34 145 m63 HT_ ?_
               refine pw 35 2 m64 HT_ ?_
               refine done_ (done_of HT_.out (by kernel_rfl)) ?_
               try go_wp2
               go_ret
               exact ⟨by first | rfl | (simp [errW_none, errW_some] <;> rfl) | (simp [*, errW_none, errW_some] <;> rfl), by repeat (first | (with_reducible first | exact HB.out | apply below_alloc | apply pw_below_drewN | apply below_drew1 | refine below_set ?_ GE232.out | refine below_set ?_ GE255.out | refine below_set ?_ GE256.out) | exact HB.out)⟩
             ·rw [if_neg c102] at H
              have c102b0 : decide (t263 ≤ 0) = false := decide_eq_false c102
              clear c102
              obtain rfl := Option.some.inj H
              try go_wp2
              have n0_ := Aside0.mk (Kd.R_drew HO_3.out); have n1_ := Aside0.mk (Kd.R_drew HO_7.out); have n2_ := Aside0.mk (blk_drew BK232.out); have n3_ := Aside0.mk (blk_drew BK255.out); have n4_ := Aside0.mk (blk_drew BK256.out); have n5_ := Aside0.mk (below_drew1 HB.out); clear HO_3; clear HO_7; clear BK232; clear BK255; clear BK256; clear HB; have HO_3 := n0_; have HO_7 := n1_; have BK232 := n2_; have BK255 := n3_; have BK256 := n4_; have HB := n5_; clear n0_ n1_ n2_ n3_ n4_ n5_
              refine start_ (n := 36) (S := fun w' => w'.cell? ⟨gb255, 0, none⟩ = some (.int .i64 x256000_3) ∧ w'.cell? ⟨gb255, 1, none⟩ = some (.int .i64 x256001_3) ∧ w'.cell? ⟨gb232, 0, none⟩ = some (.int .i64 t230) ∧ w'.cell? ⟨gb232, 1, none⟩ = some (.int .i64 t231)) (ds := []) m28 (by kernel_rfl) rfl rfl ⟨(blk_cell BK255.out 0).trans rfl, (blk_cell BK255.out 1).trans rfl, (blk_cell BK232.out 0).trans rfl, (blk_cell BK232.out 1).trans rfl⟩ (fun hHeld => ?_); refine with_tabW laws_FnDecMean.tab25 laws_FnDecMean.bits25 (fun HT_ HW_ => ?_)
              generalize wr.drew = w131 at HO_3 HO_7 BK232 BK255 BK256 HB hHeld ⊢
              refine pt 0 111 m29 rfl HT_ HW_ hHeld ?_ (Or.inl ⟨by rfl, by rintro w' ⟨s0, s1, s2, s3⟩; go_simp; with_reducible rfl⟩)
              refine pt 1 112 m30 rfl HT_ HW_ hHeld ?_ (Or.inl ⟨by rfl, by rintro w' ⟨s0, s1, s2, s3⟩; go_simp; with_reducible rfl⟩)
              refine one_ (i := 2) (N := some 113) m31 rfl rfl (one_of HT_.out (by kernel_rfl)) (by decide) (fun K hK => ?_)
              refine goes_ Try.func31 (by kernel_rfl) rfl #[.agg #[.int .i64 x256000_3, .int .i64 x256001_3], .agg #[.int .i64 t230, .int .i64 t231]] (by rfl) rfl rfl (by (try simp only [List.map_toArray, List.map_cons, List.map_nil]); first | done | rfl | (simp only [List.length_drop, List.length_take]; rfl)) ?_
              with_reducible refine (impl_DecCmp.calls k3 x256000_3 x256001_3 t230 t231 t263 _ A101.out).mono ?_
              rintro e w132 ⟨rfl, hb⟩
              refine ⟨_, rfl, ?_⟩
              have n0_ := Aside0.mk (Kd.R_below (vR HO_3.out) hb); have n1_ := Aside0.mk (Kd.R_below (vR HO_7.out) hb); have n2_ := Aside0.mk (blk_below (g := gb232) (o := .cells #[.int .i64 t230, .int .i64 t231] 25 (0, 0)) (vB BK232.out) hb); have n3_ := Aside0.mk (blk_below (g := gb255) (o := .cells #[.int .i64 x256000_3, .int .i64 x256001_3] 25 (0, 0)) (vB BK255.out) hb); have n4_ := Aside0.mk (blk_below (g := gb256) (o := .cells #[.int .i64 x257000_3, .int .i64 x257001_3] 25 (0, 0)) (vB BK256.out) hb); have n5_ := Aside0.mk (below_step (vW3 HB.out GE232.out GE255.out GE256.out) hb); clear HO_3; clear HO_7; clear BK232; clear BK255; clear BK256; clear HB; have HO_3 := n0_; have HO_7 := n1_; have BK232 := n2_; have BK255 := n3_; have BK256 := n4_; have HB := n5_; clear n0_ n1_ n2_ n3_ n4_ n5_
              (try clear hb)
              (try clear hb2)
              (try clear hk)
              (try clear hi)
              refine hK.out _ _ ⟨(blk_cell BK255.out 0).trans rfl, (blk_cell BK255.out 1).trans rfl, (blk_cell BK232.out 0).trans rfl, (blk_cell BK232.out 1).trans rfl⟩ (fun hHeld => ?_)
              clear hK K
              refine norm_ (a' := ?_) ?_ ?_
              rotate_left
              ·show Act.put _ (some 113) _ = _
               simp only [Act.put, sA, s0, s1, i64_w, i32_w]
               rfl
              refine pw 3 114 m32 HT_ ?_
              refine pw 4 115 m33 HT_ ?_
              refine pu 5 116 m34 HT_ ?_
              refine pu 6 117 m35 HT_ ?_
              refine pu 7 118 m36 HT_ ?_
              refine pu 8 119 m37 HT_ ?_
              refine pw 9 120 m38 HT_ ?_
              refine pw 10 121 m39 HT_ ?_
              refine pu 11 122 m40 HT_ ?_
              refine pu 12 123 m70 HT_ ?_
              refine pu 13 124 m42 HT_ ?_
              refine pu 14 125 m43 HT_ ?_
              refine pw 15 126 m44 HT_ ?_
              refine pw 16 127 m45 HT_ ?_
              refine pu 17 128 m46 HT_ ?_
              refine pu 18 129 m47 HT_ ?_
              refine pu 19 130 m69 HT_ ?_
              refine pu 20 131 m49 HT_ ?_
              refine pu 21 132 m50 HT_ ?_
              refine pw 22 133 m51 HT_ ?_
              refine pw 23 134 m52 HT_ ?_
              refine pu 24 135 m53 HT_ ?_
              refine pu 25 136 m54 HT_ ?_
              refine pu 26 137 m55 HT_ ?_
              refine pu 27 138 m65 HT_ ?_
              refine pu 28 139 m66 HT_ ?_
              refine pu 29 140 m67 HT_ ?_
              refine pu 30 141 m68 HT_ ?_
              refine pu 31 142 m60 HT_ ?_
              refine pu 32 143 m61 HT_ ?_
              refine pu 33 144 m62 HT_ ?_
              refine pw 34 145 m63 HT_ ?_
              refine pw 35 2 m64 HT_ ?_
              refine done_ (done_of HT_.out (by kernel_rfl)) ?_
              try go_wp2
              go_ret
              exact ⟨by first | rfl | (simp [errW_none, errW_some] <;> rfl) | (simp [*, errW_none, errW_some] <;> rfl), by repeat (first | (with_reducible first | exact HB.out | apply below_alloc | apply pw_below_drewN | apply below_drew1 | refine below_set ?_ GE232.out | refine below_set ?_ GE255.out | refine below_set ?_ GE256.out) | exact HB.out)⟩
         ·rw [if_neg c45] at H
          exact absurd H (by simp)
        ·replace c44 := Bool.eq_false_iff.mpr c44
         subst c44
         have H1 : (if (t230 == 0 && (t231 == 0)) = true then ((laws_cuOk.f).bind fun t248 => (some t248)) else (some false)) = some r := by rw [if_neg (show ¬ (false = true) by decide)] at H; exact H
         clear H; have H := H1; clear H1
         by_cases c133 : (t230 == 0 && (t231 == 0)) = true
         ·rw [if_pos c133] at H
          have c133b0 : (t230 == 0 && (t231 == 0)) = true := c133
          (try (have c133b1 : decide (t230 = 0 && (t231 == 0)) = true := by simpa using c133))
          (try (have c133b2 : (t230 == 0 && (t231 == 0)) = true := by simpa using c133))
          clear c133
          replace H := Option.bind_eq_some_iff.mp H
          obtain ⟨t248, A1340, H⟩ := H
          replace H : (some t248) = some r := H
          have A134 := Aside0.mk A1340; clear A1340
          obtain rfl := Option.some.inj H
          have hcz135_0 : wr.cell? ⟨gb232, 0, none⟩ = some (.int .i64 t230) := (blk_cell BK232.out 0).trans rfl; have hcz135_1 : wr.cell? ⟨gb232, 1, none⟩ = some (.int .i64 t231) := (blk_cell BK232.out 1).trans rfl; have hfz135_0 := blk_frozen BK232.out 0; have hfz135_1 := blk_frozen BK232.out 1
          go_wp2_with (first | (go_at_call 27; (with_reducible refine (laws_cuOk.calls  t248 _ A134.out).mono ?_); rintro e w136 ⟨rfl, hb⟩; have n0_ := Aside0.mk (Kd.R_below (vR HO_3.out) hb); have n1_ := Aside0.mk (Kd.R_below (vR HO_7.out) hb); have n2_ := Aside0.mk (blk_below (g := gb232) (o := .cells #[.int .i64 t230, .int .i64 t231] 25 (0, 0)) (vB BK232.out) hb); have n3_ := Aside0.mk (below_step (vW1 HB.out GE232.out) hb); clear HO_3; clear HO_7; clear BK232; clear HB; have HO_3 := n0_; have HO_7 := n1_; have BK232 := n2_; have HB := n3_; clear n0_ n1_ n2_ n3_; (try clear hb); (try clear hb2); (try clear hk); (try clear hi)))
          go_ret
          exact ⟨by first | rfl | (simp [errW_none, errW_some] <;> rfl) | (simp [*, errW_none, errW_some] <;> rfl), by repeat (first | (with_reducible first | exact HB.out | apply below_alloc | apply pw_below_drewN | apply below_drew1 | refine below_set ?_ GE232.out) | exact HB.out)⟩
         ·rw [if_neg c133] at H
          have c133b0 : (t230 == 0 && (t231 == 0)) = false := by simpa using c133
          (try (have c133b1 : decide (t230 = 0 && (t231 == 0)) = false := by simpa using c133))
          (try (have c133b2 : (t230 == 0 && (t231 == 0)) = false := by simpa using c133))
          (try (have c133b3 : ¬ (t230 = 0 && (t231 == 0)) := by simpa using c133))
          clear c133
          obtain rfl := Option.some.inj H
          have hcz137_0 : wr.cell? ⟨gb232, 0, none⟩ = some (.int .i64 t230) := (blk_cell BK232.out 0).trans rfl; have hcz137_1 : wr.cell? ⟨gb232, 1, none⟩ = some (.int .i64 t231) := (blk_cell BK232.out 1).trans rfl; have hfz137_0 := blk_frozen BK232.out 0; have hfz137_1 := blk_frozen BK232.out 1
          go_wp2
          go_ret
          exact ⟨by first | rfl | (simp [errW_none, errW_some] <;> rfl) | (simp [*, errW_none, errW_some] <;> rfl), by repeat (first | (with_reducible first | exact HB.out | apply below_alloc | apply pw_below_drewN | apply below_drew1 | refine below_set ?_ GE232.out) | exact HB.out)⟩

/-- THE ONE PURE STATEMENT of laws_FnDecMean: yours. -/
def laws_FnDecMean.Pure : Prop := ∀ (l0 : List Int), l0.length ≤ maxLen → l0.length * 1 ≤ 140737488351232 → (∀ x ∈ l0, (Lit.int .u8 x).wf = true) → ∃ k, laws_FnDecMean.f k l0 = some true
theorem laws_FnDecMean.walk (P : laws_FnDecMean.Pure) (a0 : Option Addr) (len0 cap0 : Nat) (z0 : List Int) (w : World) (w0 : (a0 = none ∧ len0 = 0 ∧ cap0 = 0 ∧ z0 = []) ∨ ∃ x, a0 = some x ∧ len0 ≤ cap0 ∧ cap0 ≤ maxLen ∧ z0.length = cap0 ∧ (∀ i, i < z0.length → w.cell? (x.add i) = some (.int .u8 (z0.getD i 0))) ∧ ∀ n ∈ z0, (Lit.int .u8 n).wf = true) (y0 : len0 * 1 ≤ 140737488351232) :
  Calls Try.prog 7 #[.slice a0 len0 cap0] w fun e w' => e = .returned (.bool true) ∧ Below w.heap.size w w' := by
 obtain ⟨l0, rfl, hr0, hm0, hw0, hc0⟩ := ReadsInt.ofRowC w0
 obtain ⟨k, h⟩ := P l0 hm0 y0 hw0
 refine (laws_FnDecMean.calls k _ _ l0 true w (Kd.C_of_reads (d := (0 : Int)) (h1 := fun _ => rfl) hr0) hc0 h).mono ?_
 rintro e w' ⟨rfl, hd⟩
 exact ⟨rfl, hd⟩

end Go.Proofs.Ytpinmagodpplaaa.All
