-- Written by the session's own program wip/allprint.py, which drives the kit's print; Lean checks it.
import Derived.Test.YtpbmobgpipmldaaAllx0
import Derived.Test.YtpbmobgpipmldaaAllx1
import Derived.Test.YtpbmobgpipmldaaAllx4
import Derived.Test.YtpbmobgpipmldaaAllx5
import Derived.Test.YtpbmobgpipmldaaAllx6
import Derived.Test.YtpbmobgpipmldaaAllx12
namespace Go.Proofs.Ytpbmobgpipmldaa.All
open Go.RowKit Go.Proofs.YtpbmobgpipmldaaW.PrintWords Go.Proofs.YtpbmobgpipmldaaW.PrintLast Go.Proofs.YtpbmobgpipmldaaW.PrintMore
attribute [local go_sem] max2_int min2_int max_two min_two max_three min_three max_four min_four   -- for this text's walks alone
set_option linter.unusedVariables false
set_option linter.unusedSimpArgs false

attribute [local go_sem high] eqA24
/-! ### laws_FnDayPlus: function 5 -/
mutual
def laws_FnDayPlus.j0 : Nat → List Int → Option (Bool)
 | 0, _ => none
 | k + 1, x0 => (spec_DrawDayPlus.f k x0).bind fun bt319 => ((impl_DayPlus.f k bt319.1 bt319.2.1 bt319.2.2.1 bt319.2.2.2).bind fun bt324 => ((spec_DayPlus.f k bt319.1 bt319.2.1 bt319.2.2.1 bt319.2.2.2).bind fun bt328 => (if (!(bt324.1 == bt328.1) || (!(bt324.2.1 == bt328.2.1) || (!(bt324.2.2 == bt328.2.2)))) = true then (some false) else (laws_FnDayPlus.j1 k bt319.2.2.2 bt319.1 bt319.2.1 bt319.2.2.1 bt324.1 bt324.2.1 bt324.2.2))))
def laws_FnDayPlus.j1 : Nat → Int → Int → Int → Int → Int → Int → Int → Option (Bool)
 | 0, _, _, _, _, _, _, _ => none
 | k + 1, x4, x324000, x324001, x324002, x328000, x328001, x328002 => if x328000 = 0 then ((spec_DayOk.f k x324000 x324001 x324002).bind fun t331 => (if t331 = true then (if x4 < 0 then ((laws_cuOk.f).bind fun t332 => (some t332)) else (if x4 > 600 then ((laws_cuOk.f).bind fun t333 => (some t333)) else (if (wrap64 ((wrap64 ((wrap64 ((wrap64 (x324000 * 12)) + x324001)) - 1)) + x4)) ≥ 26400 then ((laws_cuOk.f).bind fun t334 => (some t334)) else (some false)))) else ((laws_cuOk.f).bind fun t335 => (some t335)))) else (laws_FnDayPlus.j2 k x4 x324000 x324001 x324002 x328000 x328001 x328002)
def laws_FnDayPlus.j2 : Nat → Int → Int → Int → Int → Int → Int → Int → Option (Bool)
 | 0, _, _, _, _, _, _, _ => none
 | k + 1, x4, x324000, x324001, x324002, x328000, x328001, x328002 => (impl_DayLast.f x328000 x328001).bind fun t336 => (if (wrap64 ((wrap64 (x328000 * 12)) + x328001)) = (wrap64 ((wrap64 ((wrap64 (x324000 * 12)) + x324001)) + x4)) then (if x328002 = x324002 then ((impl_DayOk.f x328000 x328001 x328002).bind fun t337 => (if t337 = true then ((impl_DayNum.f k x328000 x328001 x328002).bind fun t338 => ((impl_DayNum.f k x324000 x324001 x324002).bind fun t339 => (if t338 ≥ t339 then (if x4 = 12 then (if x328000 = (wrap64 (x324000 + 1)) then (some (x328001 == x324001)) else (some false)) else (some true)) else (some false)))) else (some false))) else (if x328002 = t336 then (if x324002 > t336 then ((impl_DayOk.f x328000 x328001 x328002).bind fun t340 => (if t340 = true then ((impl_DayNum.f k x328000 x328001 x328002).bind fun t341 => ((impl_DayNum.f k x324000 x324001 x324002).bind fun t342 => (if t341 ≥ t342 then (if x4 = 12 then (if x328000 = (wrap64 (x324000 + 1)) then (some (x328001 == x324001)) else (some false)) else (some true)) else (some false)))) else (some false))) else (some false)) else (some false))) else (some false))
end
def laws_FnDayPlus.f (k : Nat) (l0 : List Int) : Option (Bool) := if (l0.length : Int) > 1048576 then (some true) else (laws_FnDayPlus.j0 k l0)
theorem laws_FnDayPlus.mono_l : ∀ k, (∀ y0, LeO (laws_FnDayPlus.j0 k y0) (laws_FnDayPlus.j0 (k + 1) y0)) ∧ (∀ y0 y1 y2 y3 y4 y5 y6, LeO (laws_FnDayPlus.j1 k y0 y1 y2 y3 y4 y5 y6) (laws_FnDayPlus.j1 (k + 1) y0 y1 y2 y3 y4 y5 y6)) ∧ (∀ y0 y1 y2 y3 y4 y5 y6, LeO (laws_FnDayPlus.j2 k y0 y1 y2 y3 y4 y5 y6) (laws_FnDayPlus.j2 (k + 1) y0 y1 y2 y3 y4 y5 y6))
 | 0 => ⟨fun _ r h => by simp [laws_FnDayPlus.j0] at h, fun _ _ _ _ _ _ _ r h => by simp [laws_FnDayPlus.j1] at h, fun _ _ _ _ _ _ _ r h => by simp [laws_FnDayPlus.j2] at h⟩
 | k + 1 => by
  obtain ⟨ih0, ih1, ih2⟩ := laws_FnDayPlus.mono_l k
  refine ⟨?_, ?_, ?_⟩
  ·intro y0
   unfold laws_FnDayPlus.j0
   repeat' first
   | (with_reducible exact ih0 _)
   | (with_reducible exact ih1 _ _ _ _ _ _ _)
   | (with_reducible exact ih2 _ _ _ _ _ _ _)
   | (with_reducible exact impl_DayNum.mono _ _ _ _)
   | (with_reducible exact impl_DayPlus.mono _ _ _ _ _)
   | (with_reducible exact spec_DayOk.mono _ _ _ _)
   | (with_reducible exact spec_DayPlus.mono _ _ _ _ _)
   | (with_reducible exact spec_DrawDayPlus.mono _ _)
   | (with_reducible exact LeO.refl _)
   | (with_reducible exact LeO.none _)
   | (with_reducible refine LeO.ite ?_ ?_)
   | (with_reducible refine LeO.bind ?_ (fun _ => ?_))
   | exact ih0 _
   | exact ih1 _ _ _ _ _ _ _
   | exact ih2 _ _ _ _ _ _ _
   | exact impl_DayNum.mono _ _ _ _
   | exact impl_DayPlus.mono _ _ _ _ _
   | exact spec_DayOk.mono _ _ _ _
   | exact spec_DayPlus.mono _ _ _ _ _
   | exact spec_DrawDayPlus.mono _ _
   | exact LeO.none _
   | refine LeO.ite ?_ ?_
   | refine LeO.bind ?_ (fun _ => ?_)
  ·intro y0 y1 y2 y3 y4 y5 y6
   unfold laws_FnDayPlus.j1
   repeat' first
   | (with_reducible exact ih0 _)
   | (with_reducible exact ih1 _ _ _ _ _ _ _)
   | (with_reducible exact ih2 _ _ _ _ _ _ _)
   | (with_reducible exact impl_DayNum.mono _ _ _ _)
   | (with_reducible exact impl_DayPlus.mono _ _ _ _ _)
   | (with_reducible exact spec_DayOk.mono _ _ _ _)
   | (with_reducible exact spec_DayPlus.mono _ _ _ _ _)
   | (with_reducible exact spec_DrawDayPlus.mono _ _)
   | (with_reducible exact LeO.refl _)
   | (with_reducible exact LeO.none _)
   | (with_reducible refine LeO.ite ?_ ?_)
   | (with_reducible refine LeO.bind ?_ (fun _ => ?_))
   | exact ih0 _
   | exact ih1 _ _ _ _ _ _ _
   | exact ih2 _ _ _ _ _ _ _
   | exact impl_DayNum.mono _ _ _ _
   | exact impl_DayPlus.mono _ _ _ _ _
   | exact spec_DayOk.mono _ _ _ _
   | exact spec_DayPlus.mono _ _ _ _ _
   | exact spec_DrawDayPlus.mono _ _
   | exact LeO.none _
   | refine LeO.ite ?_ ?_
   | refine LeO.bind ?_ (fun _ => ?_)
  ·intro y0 y1 y2 y3 y4 y5 y6
   unfold laws_FnDayPlus.j2
   repeat' first
   | (with_reducible exact ih0 _)
   | (with_reducible exact ih1 _ _ _ _ _ _ _)
   | (with_reducible exact ih2 _ _ _ _ _ _ _)
   | (with_reducible exact impl_DayNum.mono _ _ _ _)
   | (with_reducible exact impl_DayPlus.mono _ _ _ _ _)
   | (with_reducible exact spec_DayOk.mono _ _ _ _)
   | (with_reducible exact spec_DayPlus.mono _ _ _ _ _)
   | (with_reducible exact spec_DrawDayPlus.mono _ _)
   | (with_reducible exact LeO.refl _)
   | (with_reducible exact LeO.none _)
   | (with_reducible refine LeO.ite ?_ ?_)
   | (with_reducible refine LeO.bind ?_ (fun _ => ?_))
   | exact ih0 _
   | exact ih1 _ _ _ _ _ _ _
   | exact ih2 _ _ _ _ _ _ _
   | exact impl_DayNum.mono _ _ _ _
   | exact impl_DayPlus.mono _ _ _ _ _
   | exact spec_DayOk.mono _ _ _ _
   | exact spec_DayPlus.mono _ _ _ _ _
   | exact spec_DrawDayPlus.mono _ _
   | exact LeO.none _
   | refine LeO.ite ?_ ?_
   | refine LeO.bind ?_ (fun _ => ?_)
theorem laws_FnDayPlus.mono : ∀ a0 k, LeO (laws_FnDayPlus.f k a0) (laws_FnDayPlus.f (k + 1) a0) := by
 intro a0 k
 obtain ⟨ih0, ih1, ih2⟩ := laws_FnDayPlus.mono_l k
 unfold laws_FnDayPlus.f
 repeat' first
   | (with_reducible exact ih0 _)
   | (with_reducible exact ih1 _ _ _ _ _ _ _)
   | (with_reducible exact ih2 _ _ _ _ _ _ _)
   | (with_reducible exact impl_DayNum.mono _ _ _ _)
   | (with_reducible exact impl_DayPlus.mono _ _ _ _ _)
   | (with_reducible exact spec_DayOk.mono _ _ _ _)
   | (with_reducible exact spec_DayPlus.mono _ _ _ _ _)
   | (with_reducible exact spec_DrawDayPlus.mono _ _)
   | (with_reducible exact LeO.refl _)
   | (with_reducible exact LeO.none _)
   | (with_reducible refine LeO.ite ?_ ?_)
   | (with_reducible refine LeO.bind ?_ (fun _ => ?_))
   | exact ih0 _
   | exact ih1 _ _ _ _ _ _ _
   | exact ih2 _ _ _ _ _ _ _
   | exact impl_DayNum.mono _ _ _ _
   | exact impl_DayPlus.mono _ _ _ _ _
   | exact spec_DayOk.mono _ _ _ _
   | exact spec_DayPlus.mono _ _ _ _ _
   | exact spec_DrawDayPlus.mono _ _
   | exact LeO.none _
   | refine LeO.ite ?_ ?_
   | refine LeO.bind ?_ (fun _ => ?_)
def laws_FnDayPlus.T10 : Bool × List (List Nat × List Nat) := (true, [([], []), ([0], [0]), ([1], [1]), ([], []), ([3], [3]), ([2, 4], [2, 4]), ([], []), ([6], [6]), ([7], [7]), ([], []), ([9], [9]), ([8, 10], [8, 10]), ([], []), ([11, 12], [11, 12]), ([5, 13], [5, 13]), ([14], [14]), ([15], [15]), ([16, 15], [15, 16]), ([15], [15]), ([18, 15], [15, 18]), ([17, 19, 15], [15, 17, 19]), ([20, 15, 15], [15, 20]), ([21], [21]), ([22, 21], [21, 22]), ([21], [21]), ([23, 24, 21], [21, 23, 24]), ([25, 21, 21], [21, 25]), ([26], [26]), ([27, 26], [26, 27]), ([26], [26]), ([28, 29, 26], [26, 28, 29]), ([26, 30, 21], [21, 26, 30]), ([21, 31, 15], [15, 21, 31]), ([15, 32], [15, 32]), ([33, 26], [33]), ([34], [34]), ([35, 34, 34], [34, 35]), ([34, 36], [34, 36]), ([37, 36], [37]), ([38], [38]), ([39, 38, 38], [38, 39]), ([38], [38]), ([41, 40, 38], [38, 41]), ([40, 42, 38], [38, 40, 42]), ([38, 43], [38, 43]), ([44, 42], [44]), ([45], [45]), ([46, 45], [45, 46]), ([47, 45, 45], [45, 47]), ([48], [48]), ([49, 48], [48, 49]), ([48], [48]), ([51, 48], [48, 51]), ([52, 48], [48, 52]), ([50, 53, 48], [48, 50, 53]), ([54, 48, 48], [48, 54]), ([55], [55]), ([56, 55], [55, 56]), ([55], [55]), ([58, 55], [55, 58]), ([57, 59, 55], [55, 57, 59]), ([55, 60, 48], [48, 55, 60]), ([48, 61, 45], [45, 48, 61]), ([45, 62], [45, 62]), ([63, 55, 0, 1, 2, 3, 4, 5, 6, 7, 8, 9, 10, 11, 12, 13, 14, 15, 16, 17, 18, 19, 20, 21, 22, 23, 24, 25, 26, 27, 28, 29, 30, 31, 32, 33, 34, 35, 36, 37, 38, 39, 40, 41, 42, 43, 44, 45, 46, 47, 48, 49, 50, 51, 52, 53, 54, 55, 56, 57, 58, 59, 60, 61, 62, 63], [63])])
def laws_FnDayPlus.B10 : List Nat := [0, 1, 3, 0, 8, 31, 0, 64, 192, 0, 512, 1984, 0, 8128, 16383, 32767, 65535, 131071, 65535, 327679, 1048575, 2097151, 4194303, 8388607, 4194303, 33554431, 67108863, 134217727, 268435455, 134217727, 1073741823, 2147483647, 4294967295, 8589934591, 17179869183, 34359738367, 68719476735, 137438953471, 274877906943, 549755813887, 1099511627775, 549755813887, 4398046511103, 8796093022207, 17592186044415, 35184372088831, 70368744177663, 140737488355327, 281474976710655, 562949953421311, 1125899906842623, 562949953421311, 2814749767106559, 7318349394477055, 18014398509481983, 36028797018963967, 72057594037927935, 144115188075855871, 72057594037927935, 360287970189639679, 1152921504606846975, 2305843009213693951, 4611686018427387903, 9223372036854775807, 18446744073709551615]
theorem laws_FnDayPlus.tab10 : rtab .any (opsOf Try.f5 10) = laws_FnDayPlus.T10 := by kernel_rfl
theorem laws_FnDayPlus.bits10 : waitsOk laws_FnDayPlus.T10.2 laws_FnDayPlus.B10 = true := by kernel_rfl
abbrev laws_FnDayPlus.m0 : Array Bool := #[false, false, false, false, false]
abbrev laws_FnDayPlus.m1 : Array Bool := #[false, false, true, false, false]
abbrev laws_FnDayPlus.m2 : Array Bool := #[true, false, true, false, false]
abbrev laws_FnDayPlus.m3 : Array Bool := #[true, true, true, false, false]
abbrev laws_FnDayPlus.m4 : Array Bool := #[true, true, true, true, false]
abbrev laws_FnDayPlus.m5 : Array Bool := #[true, true, true, true, true]
abbrev laws_FnDayPlus.m6 : Array Bool := #[false, false, false, false, false, false, false, false, false, false, false, false, false, false, false, false, false, false, false, false, false, false, false, false, false, false, false, false, false, false, false, false, false, false, false, false, false, false, false, false, false, false, false, false, false, false, false, false, false, false, false, false, false, false, false, false, false, false, false, false, false, false, false, false, false]
abbrev laws_FnDayPlus.m7 : Array Bool := #[true, false, false, false, false, false, false, false, false, false, false, false, false, false, false, false, false, false, false, false, false, false, false, false, false, false, false, false, false, false, false, false, false, false, false, false, false, false, false, false, false, false, false, false, false, false, false, false, false, false, false, false, false, false, false, false, false, false, false, false, false, false, false, false, false]
abbrev laws_FnDayPlus.m8 : Array Bool := #[true, false, false, true, false, false, false, false, false, false, false, false, false, false, false, false, false, false, false, false, false, false, false, false, false, false, false, false, false, false, false, false, false, false, false, false, false, false, false, false, false, false, false, false, false, false, false, false, false, false, false, false, false, false, false, false, false, false, false, false, false, false, false, false, false]
abbrev laws_FnDayPlus.m9 : Array Bool := #[true, false, false, true, false, false, true, false, false, false, false, false, false, false, false, false, false, false, false, false, false, false, false, false, false, false, false, false, false, false, false, false, false, false, false, false, false, false, false, false, false, false, false, false, false, false, false, false, false, false, false, false, false, false, false, false, false, false, false, false, false, false, false, false, false]
abbrev laws_FnDayPlus.m10 : Array Bool := #[true, false, false, true, false, false, true, false, false, true, false, false, false, false, false, false, false, false, false, false, false, false, false, false, false, false, false, false, false, false, false, false, false, false, false, false, false, false, false, false, false, false, false, false, false, false, false, false, false, false, false, false, false, false, false, false, false, false, false, false, false, false, false, false, false]
abbrev laws_FnDayPlus.m11 : Array Bool := #[true, false, false, true, false, false, true, false, false, true, false, false, true, false, false, false, false, false, false, false, false, false, false, false, false, false, false, false, false, false, false, false, false, false, false, false, false, false, false, false, false, false, false, false, false, false, false, false, false, false, false, false, false, false, false, false, false, false, false, false, false, false, false, false, false]
abbrev laws_FnDayPlus.m12 : Array Bool := #[true, true, false, true, false, false, true, false, false, true, false, false, true, false, false, false, false, false, false, false, false, false, false, false, false, false, false, false, false, false, false, false, false, false, false, false, false, false, false, false, false, false, false, false, false, false, false, false, false, false, false, false, false, false, false, false, false, false, false, false, false, false, false, false, false]
abbrev laws_FnDayPlus.m13 : Array Bool := #[true, true, true, true, false, false, true, false, false, true, false, false, true, false, false, false, false, false, false, false, false, false, false, false, false, false, false, false, false, false, false, false, false, false, false, false, false, false, false, false, false, false, false, false, false, false, false, false, false, false, false, false, false, false, false, false, false, false, false, false, false, false, false, false, false]
abbrev laws_FnDayPlus.m14 : Array Bool := #[true, true, true, true, true, false, true, false, false, true, false, false, true, false, false, false, false, false, false, false, false, false, false, false, false, false, false, false, false, false, false, false, false, false, false, false, false, false, false, false, false, false, false, false, false, false, false, false, false, false, false, false, false, false, false, false, false, false, false, false, false, false, false, false, false]
abbrev laws_FnDayPlus.m15 : Array Bool := #[true, true, true, true, true, true, true, false, false, true, false, false, true, false, false, false, false, false, false, false, false, false, false, false, false, false, false, false, false, false, false, false, false, false, false, false, false, false, false, false, false, false, false, false, false, false, false, false, false, false, false, false, false, false, false, false, false, false, false, false, false, false, false, false, false]
abbrev laws_FnDayPlus.m16 : Array Bool := #[true, true, true, true, true, true, true, true, false, true, false, false, true, false, false, false, false, false, false, false, false, false, false, false, false, false, false, false, false, false, false, false, false, false, false, false, false, false, false, false, false, false, false, false, false, false, false, false, false, false, false, false, false, false, false, false, false, false, false, false, false, false, false, false, false]
abbrev laws_FnDayPlus.m17 : Array Bool := #[true, true, true, true, true, true, true, true, true, true, false, false, true, false, false, false, false, false, false, false, false, false, false, false, false, false, false, false, false, false, false, false, false, false, false, false, false, false, false, false, false, false, false, false, false, false, false, false, false, false, false, false, false, false, false, false, false, false, false, false, false, false, false, false, false]
abbrev laws_FnDayPlus.m18 : Array Bool := #[true, true, true, true, true, true, true, true, true, true, true, false, true, false, false, false, false, false, false, false, false, false, false, false, false, false, false, false, false, false, false, false, false, false, false, false, false, false, false, false, false, false, false, false, false, false, false, false, false, false, false, false, false, false, false, false, false, false, false, false, false, false, false, false, false]
abbrev laws_FnDayPlus.m19 : Array Bool := #[true, true, true, true, true, true, true, true, true, true, true, true, true, false, false, false, false, false, false, false, false, false, false, false, false, false, false, false, false, false, false, false, false, false, false, false, false, false, false, false, false, false, false, false, false, false, false, false, false, false, false, false, false, false, false, false, false, false, false, false, false, false, false, false, false]
abbrev laws_FnDayPlus.m20 : Array Bool := #[true, true, true, true, true, true, true, true, true, true, true, true, true, true, false, false, false, false, false, false, false, false, false, false, false, false, false, false, false, false, false, false, false, false, false, false, false, false, false, false, false, false, false, false, false, false, false, false, false, false, false, false, false, false, false, false, false, false, false, false, false, false, false, false, false]
abbrev laws_FnDayPlus.m21 : Array Bool := #[true, true, true, true, true, true, true, true, true, true, true, true, true, true, true, false, false, false, false, false, false, false, false, false, false, false, false, false, false, false, false, false, false, false, false, false, false, false, false, false, false, false, false, false, false, false, false, false, false, false, false, false, false, false, false, false, false, false, false, false, false, false, false, false, false]
abbrev laws_FnDayPlus.m22 : Array Bool := #[true, true, true, true, true, true, true, true, true, true, true, true, true, true, true, true, false, false, false, false, false, false, false, false, false, false, false, false, false, false, false, false, false, false, false, false, false, false, false, false, false, false, false, false, false, false, false, false, false, false, false, false, false, false, false, false, false, false, false, false, false, false, false, false, false]
abbrev laws_FnDayPlus.m23 : Array Bool := #[true, true, true, true, true, true, true, true, true, true, true, true, true, true, true, true, true, false, false, false, false, false, false, false, false, false, false, false, false, false, false, false, false, false, false, false, false, false, false, false, false, false, false, false, false, false, false, false, false, false, false, false, false, false, false, false, false, false, false, false, false, false, false, false, false]
abbrev laws_FnDayPlus.m24 : Array Bool := #[true, true, true, true, true, true, true, true, true, true, true, true, true, true, true, true, true, false, true, false, false, false, false, false, false, false, false, false, false, false, false, false, false, false, false, false, false, false, false, false, false, false, false, false, false, false, false, false, false, false, false, false, false, false, false, false, false, false, false, false, false, false, false, false, false]
abbrev laws_FnDayPlus.m25 : Array Bool := #[true, true, true, true, true, true, true, true, true, true, true, true, true, true, true, true, true, true, true, false, false, false, false, false, false, false, false, false, false, false, false, false, false, false, false, false, false, false, false, false, false, false, false, false, false, false, false, false, false, false, false, false, false, false, false, false, false, false, false, false, false, false, false, false, false]
abbrev laws_FnDayPlus.m26 : Array Bool := #[true, true, true, true, true, true, true, true, true, true, true, true, true, true, true, true, true, true, true, true, false, false, false, false, false, false, false, false, false, false, false, false, false, false, false, false, false, false, false, false, false, false, false, false, false, false, false, false, false, false, false, false, false, false, false, false, false, false, false, false, false, false, false, false, false]
abbrev laws_FnDayPlus.m27 : Array Bool := #[true, true, true, true, true, true, true, true, true, true, true, true, true, true, true, true, true, true, true, true, true, false, false, false, false, false, false, false, false, false, false, false, false, false, false, false, false, false, false, false, false, false, false, false, false, false, false, false, false, false, false, false, false, false, false, false, false, false, false, false, false, false, false, false, false]
abbrev laws_FnDayPlus.m28 : Array Bool := #[true, true, true, true, true, true, true, true, true, true, true, true, true, true, true, true, true, true, true, true, true, true, false, false, false, false, false, false, false, false, false, false, false, false, false, false, false, false, false, false, false, false, false, false, false, false, false, false, false, false, false, false, false, false, false, false, false, false, false, false, false, false, false, false, false]
abbrev laws_FnDayPlus.m29 : Array Bool := #[true, true, true, true, true, true, true, true, true, true, true, true, true, true, true, true, true, true, true, true, true, true, true, false, false, false, false, false, false, false, false, false, false, false, false, false, false, false, false, false, false, false, false, false, false, false, false, false, false, false, false, false, false, false, false, false, false, false, false, false, false, false, false, false, false]
abbrev laws_FnDayPlus.m30 : Array Bool := #[true, true, true, true, true, true, true, true, true, true, true, true, true, true, true, true, true, true, true, true, true, true, true, true, false, false, false, false, false, false, false, false, false, false, false, false, false, false, false, false, false, false, false, false, false, false, false, false, false, false, false, false, false, false, false, false, false, false, false, false, false, false, false, false, false]
abbrev laws_FnDayPlus.m31 : Array Bool := #[true, true, true, true, true, true, true, true, true, true, true, true, true, true, true, true, true, true, true, true, true, true, true, true, true, false, false, false, false, false, false, false, false, false, false, false, false, false, false, false, false, false, false, false, false, false, false, false, false, false, false, false, false, false, false, false, false, false, false, false, false, false, false, false, false]
abbrev laws_FnDayPlus.m32 : Array Bool := #[true, true, true, true, true, true, true, true, true, true, true, true, true, true, true, true, true, true, true, true, true, true, true, true, true, true, false, false, false, false, false, false, false, false, false, false, false, false, false, false, false, false, false, false, false, false, false, false, false, false, false, false, false, false, false, false, false, false, false, false, false, false, false, false, false]
abbrev laws_FnDayPlus.m33 : Array Bool := #[true, true, true, true, true, true, true, true, true, true, true, true, true, true, true, true, true, true, true, true, true, true, true, true, true, true, true, false, false, false, false, false, false, false, false, false, false, false, false, false, false, false, false, false, false, false, false, false, false, false, false, false, false, false, false, false, false, false, false, false, false, false, false, false, false]
abbrev laws_FnDayPlus.m34 : Array Bool := #[true, true, true, true, true, true, true, true, true, true, true, true, true, true, true, true, true, true, true, true, true, true, true, true, true, true, true, true, false, false, false, false, false, false, false, false, false, false, false, false, false, false, false, false, false, false, false, false, false, false, false, false, false, false, false, false, false, false, false, false, false, false, false, false, false]
abbrev laws_FnDayPlus.m35 : Array Bool := #[true, true, true, true, true, true, true, true, true, true, true, true, true, true, true, true, true, true, true, true, true, true, true, true, true, true, true, true, true, false, false, false, false, false, false, false, false, false, false, false, false, false, false, false, false, false, false, false, false, false, false, false, false, false, false, false, false, false, false, false, false, false, false, false, false]
abbrev laws_FnDayPlus.m36 : Array Bool := #[true, true, true, true, true, true, true, true, true, true, true, true, true, true, true, true, true, true, true, true, true, true, true, true, true, true, true, true, true, true, false, false, false, false, false, false, false, false, false, false, false, false, false, false, false, false, false, false, false, false, false, false, false, false, false, false, false, false, false, false, false, false, false, false, false]
abbrev laws_FnDayPlus.m37 : Array Bool := #[true, true, true, true, true, true, true, true, true, true, true, true, true, true, true, true, true, true, true, true, true, true, true, true, true, true, true, true, true, true, true, false, false, false, false, false, false, false, false, false, false, false, false, false, false, false, false, false, false, false, false, false, false, false, false, false, false, false, false, false, false, false, false, false, false]
abbrev laws_FnDayPlus.m38 : Array Bool := #[true, true, true, true, true, true, true, true, true, true, true, true, true, true, true, true, true, true, true, true, true, true, true, true, true, true, true, true, true, true, true, true, false, false, false, false, false, false, false, false, false, false, false, false, false, false, false, false, false, false, false, false, false, false, false, false, false, false, false, false, false, false, false, false, false]
abbrev laws_FnDayPlus.m39 : Array Bool := #[true, true, true, true, true, true, true, true, true, true, true, true, true, true, true, true, true, true, true, true, true, true, true, true, true, true, true, true, true, true, true, true, true, false, false, false, false, false, false, false, false, false, false, false, false, false, false, false, false, false, false, false, false, false, false, false, false, false, false, false, false, false, false, false, false]
abbrev laws_FnDayPlus.m40 : Array Bool := #[true, true, true, true, true, true, true, true, true, true, true, true, true, true, true, true, true, true, true, true, true, true, true, true, true, true, true, true, true, true, true, true, true, true, false, false, false, false, false, false, false, false, false, false, false, false, false, false, false, false, false, false, false, false, false, false, false, false, false, false, false, false, false, false, false]
abbrev laws_FnDayPlus.m41 : Array Bool := #[true, true, true, true, true, true, true, true, true, true, true, true, true, true, true, true, true, true, true, true, true, true, true, true, true, true, true, true, true, true, true, true, true, true, true, false, false, false, false, false, false, false, false, false, false, false, false, false, false, false, false, false, false, false, false, false, false, false, false, false, false, false, false, false, false]
abbrev laws_FnDayPlus.m42 : Array Bool := #[true, true, true, true, true, true, true, true, true, true, true, true, true, true, true, true, true, true, true, true, true, true, true, true, true, true, true, true, true, true, true, true, true, true, true, true, false, false, false, false, false, false, false, false, false, false, false, false, false, false, false, false, false, false, false, false, false, false, false, false, false, false, false, false, false]
abbrev laws_FnDayPlus.m43 : Array Bool := #[true, true, true, true, true, true, true, true, true, true, true, true, true, true, true, true, true, true, true, true, true, true, true, true, true, true, true, true, true, true, true, true, true, true, true, true, true, false, false, false, false, false, false, false, false, false, false, false, false, false, false, false, false, false, false, false, false, false, false, false, false, false, false, false, false]
abbrev laws_FnDayPlus.m44 : Array Bool := #[true, true, true, true, true, true, true, true, true, true, true, true, true, true, true, true, true, true, true, true, true, true, true, true, true, true, true, true, true, true, true, true, true, true, true, true, true, true, false, false, false, false, false, false, false, false, false, false, false, false, false, false, false, false, false, false, false, false, false, false, false, false, false, false, false]
abbrev laws_FnDayPlus.m45 : Array Bool := #[true, true, true, true, true, true, true, true, true, true, true, true, true, true, true, true, true, true, true, true, true, true, true, true, true, true, true, true, true, true, true, true, true, true, true, true, true, true, true, false, false, false, false, false, false, false, false, false, false, false, false, false, false, false, false, false, false, false, false, false, false, false, false, false, false]
abbrev laws_FnDayPlus.m46 : Array Bool := #[true, true, true, true, true, true, true, true, true, true, true, true, true, true, true, true, true, true, true, true, true, true, true, true, true, true, true, true, true, true, true, true, true, true, true, true, true, true, true, true, false, false, false, false, false, false, false, false, false, false, false, false, false, false, false, false, false, false, false, false, false, false, false, false, false]
abbrev laws_FnDayPlus.m47 : Array Bool := #[true, true, true, true, true, true, true, true, true, true, true, true, true, true, true, true, true, true, true, true, true, true, true, true, true, true, true, true, true, true, true, true, true, true, true, true, true, true, true, true, false, true, false, false, false, false, false, false, false, false, false, false, false, false, false, false, false, false, false, false, false, false, false, false, false]
abbrev laws_FnDayPlus.m48 : Array Bool := #[true, true, true, true, true, true, true, true, true, true, true, true, true, true, true, true, true, true, true, true, true, true, true, true, true, true, true, true, true, true, true, true, true, true, true, true, true, true, true, true, true, true, false, false, false, false, false, false, false, false, false, false, false, false, false, false, false, false, false, false, false, false, false, false, false]
abbrev laws_FnDayPlus.m49 : Array Bool := #[true, true, true, true, true, true, true, true, true, true, true, true, true, true, true, true, true, true, true, true, true, true, true, true, true, true, true, true, true, true, true, true, true, true, true, true, true, true, true, true, true, true, true, false, false, false, false, false, false, false, false, false, false, false, false, false, false, false, false, false, false, false, false, false, false]
abbrev laws_FnDayPlus.m50 : Array Bool := #[true, true, true, true, true, true, true, true, true, true, true, true, true, true, true, true, true, true, true, true, true, true, true, true, true, true, true, true, true, true, true, true, true, true, true, true, true, true, true, true, true, true, true, true, false, false, false, false, false, false, false, false, false, false, false, false, false, false, false, false, false, false, false, false, false]
abbrev laws_FnDayPlus.m51 : Array Bool := #[true, true, true, true, true, true, true, true, true, true, true, true, true, true, true, true, true, true, true, true, true, true, true, true, true, true, true, true, true, true, true, true, true, true, true, true, true, true, true, true, true, true, true, true, true, false, false, false, false, false, false, false, false, false, false, false, false, false, false, false, false, false, false, false, false]
abbrev laws_FnDayPlus.m52 : Array Bool := #[true, true, true, true, true, true, true, true, true, true, true, true, true, true, true, true, true, true, true, true, true, true, true, true, true, true, true, true, true, true, true, true, true, true, true, true, true, true, true, true, true, true, true, true, true, true, false, false, false, false, false, false, false, false, false, false, false, false, false, false, false, false, false, false, false]
abbrev laws_FnDayPlus.m53 : Array Bool := #[true, true, true, true, true, true, true, true, true, true, true, true, true, true, true, true, true, true, true, true, true, true, true, true, true, true, true, true, true, true, true, true, true, true, true, true, true, true, true, true, true, true, true, true, true, true, true, false, false, false, false, false, false, false, false, false, false, false, false, false, false, false, false, false, false]
abbrev laws_FnDayPlus.m54 : Array Bool := #[true, true, true, true, true, true, true, true, true, true, true, true, true, true, true, true, true, true, true, true, true, true, true, true, true, true, true, true, true, true, true, true, true, true, true, true, true, true, true, true, true, true, true, true, true, true, true, true, false, false, false, false, false, false, false, false, false, false, false, false, false, false, false, false, false]
abbrev laws_FnDayPlus.m55 : Array Bool := #[true, true, true, true, true, true, true, true, true, true, true, true, true, true, true, true, true, true, true, true, true, true, true, true, true, true, true, true, true, true, true, true, true, true, true, true, true, true, true, true, true, true, true, true, true, true, true, true, true, false, false, false, false, false, false, false, false, false, false, false, false, false, false, false, false]
abbrev laws_FnDayPlus.m56 : Array Bool := #[true, true, true, true, true, true, true, true, true, true, true, true, true, true, true, true, true, true, true, true, true, true, true, true, true, true, true, true, true, true, true, true, true, true, true, true, true, true, true, true, true, true, true, true, true, true, true, true, true, true, false, false, false, false, false, false, false, false, false, false, false, false, false, false, false]
abbrev laws_FnDayPlus.m57 : Array Bool := #[true, true, true, true, true, true, true, true, true, true, true, true, true, true, true, true, true, true, true, true, true, true, true, true, true, true, true, true, true, true, true, true, true, true, true, true, true, true, true, true, true, true, true, true, true, true, true, true, true, true, false, true, false, false, false, false, false, false, false, false, false, false, false, false, false]
abbrev laws_FnDayPlus.m58 : Array Bool := #[true, true, true, true, true, true, true, true, true, true, true, true, true, true, true, true, true, true, true, true, true, true, true, true, true, true, true, true, true, true, true, true, true, true, true, true, true, true, true, true, true, true, true, true, true, true, true, true, true, true, true, true, false, false, false, false, false, false, false, false, false, false, false, false, false]
abbrev laws_FnDayPlus.m59 : Array Bool := #[true, true, true, true, true, true, true, true, true, true, true, true, true, true, true, true, true, true, true, true, true, true, true, true, true, true, true, true, true, true, true, true, true, true, true, true, true, true, true, true, true, true, true, true, true, true, true, true, true, true, true, true, true, false, false, false, false, false, false, false, false, false, false, false, false]
abbrev laws_FnDayPlus.m60 : Array Bool := #[true, true, true, true, true, true, true, true, true, true, true, true, true, true, true, true, true, true, true, true, true, true, true, true, true, true, true, true, true, true, true, true, true, true, true, true, true, true, true, true, true, true, true, true, true, true, true, true, true, true, true, true, true, true, false, false, false, false, false, false, false, false, false, false, false]
abbrev laws_FnDayPlus.m61 : Array Bool := #[true, true, true, true, true, true, true, true, true, true, true, true, true, true, true, true, true, true, true, true, true, true, true, true, true, true, true, true, true, true, true, true, true, true, true, true, true, true, true, true, true, true, true, true, true, true, true, true, true, true, true, true, true, true, true, false, false, false, false, false, false, false, false, false, false]
abbrev laws_FnDayPlus.m62 : Array Bool := #[true, true, true, true, true, true, true, true, true, true, true, true, true, true, true, true, true, true, true, true, true, true, true, true, true, true, true, true, true, true, true, true, true, true, true, true, true, true, true, true, true, true, true, true, true, true, true, true, true, true, true, true, true, true, true, true, false, false, false, false, false, false, false, false, false]
abbrev laws_FnDayPlus.m63 : Array Bool := #[true, true, true, true, true, true, true, true, true, true, true, true, true, true, true, true, true, true, true, true, true, true, true, true, true, true, true, true, true, true, true, true, true, true, true, true, true, true, true, true, true, true, true, true, true, true, true, true, true, true, true, true, true, true, true, true, true, false, false, false, false, false, false, false, false]
abbrev laws_FnDayPlus.m64 : Array Bool := #[true, true, true, true, true, true, true, true, true, true, true, true, true, true, true, true, true, true, true, true, true, true, true, true, true, true, true, true, true, true, true, true, true, true, true, true, true, true, true, true, true, true, true, true, true, true, true, true, true, true, true, true, true, true, true, true, true, false, true, false, false, false, false, false, false]
abbrev laws_FnDayPlus.m65 : Array Bool := #[true, true, true, true, true, true, true, true, true, true, true, true, true, true, true, true, true, true, true, true, true, true, true, true, true, true, true, true, true, true, true, true, true, true, true, true, true, true, true, true, true, true, true, true, true, true, true, true, true, true, true, true, true, true, true, true, true, true, true, false, false, false, false, false, false]
abbrev laws_FnDayPlus.m66 : Array Bool := #[true, true, true, true, true, true, true, true, true, true, true, true, true, true, true, true, true, true, true, true, true, true, true, true, true, true, true, true, true, true, true, true, true, true, true, true, true, true, true, true, true, true, true, true, true, true, true, true, true, true, true, true, true, true, true, true, true, true, true, true, false, false, false, false, false]
abbrev laws_FnDayPlus.m67 : Array Bool := #[true, true, true, true, true, true, true, true, true, true, true, true, true, true, true, true, true, true, true, true, true, true, true, true, true, true, true, true, true, true, true, true, true, true, true, true, true, true, true, true, true, true, true, true, true, true, true, true, true, true, true, true, true, true, true, true, true, true, true, true, true, false, false, false, false]
abbrev laws_FnDayPlus.m68 : Array Bool := #[true, true, true, true, true, true, true, true, true, true, true, true, true, true, true, true, true, true, true, true, true, true, true, true, true, true, true, true, true, true, true, true, true, true, true, true, true, true, true, true, true, true, true, true, true, true, true, true, true, true, true, true, true, true, true, true, true, true, true, true, true, true, false, false, false]
abbrev laws_FnDayPlus.m69 : Array Bool := #[true, true, true, true, true, true, true, true, true, true, true, true, true, true, true, true, true, true, true, true, true, true, true, true, true, true, true, true, true, true, true, true, true, true, true, true, true, true, true, true, true, true, true, true, true, true, true, true, true, true, true, true, true, true, true, true, true, true, true, true, true, true, true, false, false]
abbrev laws_FnDayPlus.m70 : Array Bool := #[true, true, true, true, true, true, true, true, true, true, true, true, true, true, true, true, true, true, true, true, true, true, true, true, true, true, true, true, true, true, true, true, true, true, true, true, true, true, true, true, true, true, true, true, true, true, true, true, true, true, true, true, true, true, true, true, true, true, true, true, true, true, true, true, false]
abbrev laws_FnDayPlus.m71 : Array Bool := #[true, true, true, true, true, true, true, true, true, true, true, true, true, true, true, true, true, true, true, true, true, true, true, true, true, true, true, true, true, true, true, true, true, true, true, true, true, true, true, true, true, true, true, true, true, true, true, true, true, true, true, true, true, true, true, true, true, true, true, true, true, true, true, true, true]
abbrev laws_FnDayPlus.m72 : Array Bool := #[true, true, true, true, true, true, true, true, true, true, true, true, true, true, true, true, true, true, true, true, true, true, true, true, true, true, true, true, true, true, true, true, true, true, true, true, true, true, true, true, true, true, true, true, true, true, true, true, true, true, true, true, true, true, true, true, true, true, false, false, false, false, false, false, false]
abbrev laws_FnDayPlus.m73 : Array Bool := #[true, true, true, true, true, true, true, true, true, true, true, true, true, true, true, true, true, true, true, true, true, true, true, true, true, true, true, true, true, true, true, true, true, true, true, true, true, true, true, true, true, true, true, true, true, true, true, true, true, true, true, false, false, false, false, false, false, false, false, false, false, false, false, false, false]
abbrev laws_FnDayPlus.m74 : Array Bool := #[true, true, true, true, true, true, true, true, true, true, true, true, true, true, true, true, true, true, true, true, true, true, true, true, true, true, true, true, true, true, true, true, true, true, true, true, true, true, true, true, true, false, false, false, false, false, false, false, false, false, false, false, false, false, false, false, false, false, false, false, false, false, false, false, false]
abbrev laws_FnDayPlus.m75 : Array Bool := #[true, true, true, true, true, true, true, true, true, true, true, true, true, true, true, true, true, true, true, true, true, true, true, false, true, false, false, false, false, false, false, false, false, false, false, false, false, false, false, false, false, false, false, false, false, false, false, false, false, false, false, false, false, false, false, false, false, false, false, false, false, false, false, false, false]
abbrev laws_FnDayPlus.m76 : Array Bool := #[true, true, true, true, true, true, true, true, true, true, true, true, true, true, true, true, true, true, true, true, true, true, true, true, true, true, true, true, false, true, false, false, false, false, false, false, false, false, false, false, false, false, false, false, false, false, false, false, false, false, false, false, false, false, false, false, false, false, false, false, false, false, false, false, false]
abbrev laws_FnDayPlus.m77 : Array Bool := #[true, true, true, true, true, true, true, true, true, true, true, true, true, true, true, true, true, true, false, false, false, false, false, false, false, false, false, false, false, false, false, false, false, false, false, false, false, false, false, false, false, false, false, false, false, false, false, false, false, false, false, false, false, false, false, false, false, false, false, false, false, false, false, false, false]
theorem laws_FnDayPlus.sA {α : Type} (l : List α) (i : Nat) (a : α) : l.toArray.setIfInBounds i a = (l.set i a).toArray := List.setIfInBounds_toArray ..
theorem laws_FnDayPlus.s0 {α : Type} (l : List α) (a b : α) : (a :: l).set 0 b = b :: l := rfl
theorem laws_FnDayPlus.s1 {α : Type} (l : List α) (a b : α) (n : Nat) : (a :: l).set (n + 1) b = a :: l.set n b := rfl
theorem laws_FnDayPlus.pw {P : Program} {md : Region.Mode} {ops : Array Oper} {Q : Exit → Act → World → Prop} {S : World → Prop} {ds : List Nat} {T} (i : Nat) (n : Tmp) (l' : Array Bool) (hT : Aside0 (rtab md ops = T)) {oi : Oper} {v : Value} {a' : Act} {fuel : Nat} {l : Array Bool} {a : Act} {w : World} (h : wpAnyLast P md ops Q S ds fuel l' a' w) (hi : ops[i]? = some oi := by rfl) (hN : oi.dst = some n := by rfl) (hc : anyT T l.toList l'.toList i = true := by kernel_rfl) (hQ : ∀ c a w, Q (.panic c) (a.put oi.dst v) w → Q (.panic c) a w := by exact fun _ _ _ h => h) (hy : Yields P ops oi v a := by exact Or.inl ⟨by rfl, by intro w'; go_simp; with_reducible rfl⟩) (ha : a.put (some n) v = a' := by simp only [Act.put, sA, s0, s1, i64_w, i32_w]; rfl) : wpAnyLast P md ops Q S ds (fuel + 1) l a w := pure_ l' hi hN (any_of hT.out hc) hQ hy ha h
theorem laws_FnDayPlus.pu {P : Program} {md : Region.Mode} {ops : Array Oper} {Q : Exit → Act → World → Prop} {S : World → Prop} {ds : List Nat} {T} (i : Nat) (n : Tmp) (l' : Array Bool) (hT : Aside0 (rtab md ops = T)) {oi : Oper} {a' : Act} {fuel : Nat} {l : Array Bool} {a : Act} {w : World} (h : wpAnyLast P md ops Q S ds fuel l' a' w) (hi : ops[i]? = some oi := by rfl) (hN : oi.dst = some n := by rfl) (hc : anyT T l.toList l'.toList i = true := by kernel_rfl) (hQ : ∀ c a w, Q (.panic c) (a.put oi.dst undef) w → Q (.panic c) a w := by exact fun _ _ _ h => h) (hy : Yields P ops oi undef a := by exact Or.inr ⟨by rfl, rfl⟩) (ha : a.put (some n) undef = a' := by simp only [Act.put, sA, s0, s1, i64_w, i32_w]; rfl) : wpAnyLast P md ops Q S ds (fuel + 1) l a w := pure_ l' hi hN (any_of hT.out hc) hQ hy ha h
theorem laws_FnDayPlus.pt {P : Program} {md : Region.Mode} {ops : Array Oper} {Q : Exit → Act → World → Prop} {S : World → Prop} {ds : List Nat} {T} {B : List Nat} (i : Nat) (n : Tmp) (l' : Array Bool) {oi : Oper} (hi : ops[i]? = some oi) (hT : Aside0 (rtab md ops = T)) (hB : Aside0 (waitsOk T.2 B = true)) {v : Value} {a' : Act} {fuel : Nat} {l : Array Bool} {a : Act} {w : World} (hS : S w) (h : wpAnyLast P md ops Q S ds fuel l' a' w) (hy : YieldsIf P ops S oi v a) (hN : oi.dst = some n := by rfl) (hc : takeW T B ds l.toList l'.toList i = true := by kernel_rfl) (hQ : ∀ c a w, Q (.panic c) (a.put oi.dst v) w → Q (.panic c) a w := by exact fun _ _ _ h => h) (ha : a.put (some n) v = a' := by simp only [Act.put, sA, s0, s1, i64_w, i32_w]; rfl) : wpAnyLast P md ops Q S ds (fuel + 1) l a w := take_ l' hi hN (take_ofW hT.out hB.out hc) hQ hy hS ha h
set_option maxHeartbeats 8000000 in
set_option maxRecDepth 100000 in
theorem laws_FnDayPlus.calls (k : Nat) (A0 : Option Addr) (c0 : Nat) (l0 : List Int) (r : Bool) (w : World) (hr0 : Kd.C (Kd.int .u8) w A0 l0.length l0) (hc0 : l0.length ≤ c0) (h : laws_FnDayPlus.f k l0 = some r) :
  Calls Try.prog 5 #[.slice A0 l0.length c0] w fun e w' => e = .returned (.bool r) ∧ Below w.heap.size w w' := by
 have hu24 := Try.underlying24
 have HR0 := Aside0.mk hr0
 have HC0 := Aside0.mk hc0; clear hr0 hc0
 have HB := Aside0.mk (Below.refl w.heap.size w)
 have H : (if (l0.length : Int) > 1048576 then (some true) else (laws_FnDayPlus.j0 k l0)) = some r := h
 clear h
 have HC2 := Aside0.mk H; clear H
 go_enter Try.func5, Try.ntmps5
 go_upto_if 9 with (fail)
 go_cut [] (fun wc => ∃ (kq : Nat), Aside0 (laws_FnDayPlus.j0 kq l0 = some r) ∧ Aside0 (kq ≤ k) ∧ Aside0 (Below w.heap.size w wc))
 case first =>
  have H := HC2.out; clear HC2
  by_cases c3 : (l0.length : Int) > 1048576
  ·rw [if_pos c3] at H
   have c3b0 : decide (1048576 < (l0.length : Int)) = true := decide_eq_true c3
   have c3b1 : decide (1048576 < l0.length) = true := decide_eq_true (by omega)
   clear c3
   (first | rw [c3b0] | (simp only [i64_w, i32_w]; rw [c3b0]) | skip)
   obtain rfl := Option.some.inj H
   go_wp2
   go_ret
   exact ⟨by first | rfl | (simp [errW_none, errW_some] <;> rfl) | (simp [*, errW_none, errW_some] <;> rfl), by repeat (first | (with_reducible first | exact HB.out | apply below_alloc | apply pw_below_drewN | apply below_drew1) | exact HB.out)⟩
  ·rw [if_neg c3] at H
   have c3b0 : decide (1048576 < (l0.length : Int)) = false := decide_eq_false c3
   have c3b1 : decide (1048576 < l0.length) = false := decide_eq_false (by omega)
   clear c3
   (first | rw [c3b0] | (simp only [i64_w, i32_w]; rw [c3b0]) | skip)
   have H' := Aside0.mk H
   clear H
   go_wp2
   go_meet
   case rel => exact ⟨_, H', ⟨by first | omega | exact Nat.le_refl _⟩, ⟨by repeat (first | (with_reducible first | exact HB.out | apply below_alloc | apply pw_below_drewN | apply below_drew1) | exact HB.out)⟩⟩
 case rest =>
  clear HC2
  try clear p2
  try clear c3
  try clear c3b0
  try clear c3b1
  obtain ⟨kq, HA, HJ1, HB⟩ := hcut
  cases kq with
  | zero => exact absurd HA.out (by simp [laws_FnDayPlus.j0])
  | succ kj1 =>
   have H := HA.out; clear HA
   simp only [laws_FnDayPlus.j0] at H
   replace H := Option.bind_eq_some_iff.mp H
   obtain ⟨⟨t319, t320, t321, t322⟩, A40, H⟩ := H
   replace H : ((impl_DayPlus.f kj1 t319 t320 t321 t322).bind fun bt324 => ((spec_DayPlus.f kj1 t319 t320 t321 t322).bind fun bt328 => (if (!(bt324.1 == bt328.1) || (!(bt324.2.1 == bt328.2.1) || (!(bt324.2.2 == bt328.2.2)))) = true then (some false) else (laws_FnDayPlus.j1 kj1 t322 t319 t320 t321 bt324.1 bt324.2.1 bt324.2.2)))) = some r := H
   have A4 := Aside0.mk A40; clear A40
   replace H := Option.bind_eq_some_iff.mp H
   obtain ⟨⟨t324, t325, t326⟩, A50, H⟩ := H
   replace H : ((spec_DayPlus.f kj1 t319 t320 t321 t322).bind fun bt328 => (if (!(t324 == bt328.1) || (!(t325 == bt328.2.1) || (!(t326 == bt328.2.2)))) = true then (some false) else (laws_FnDayPlus.j1 kj1 t322 t319 t320 t321 t324 t325 t326))) = some r := H
   have A5 := Aside0.mk A50; clear A50
   replace H := Option.bind_eq_some_iff.mp H
   obtain ⟨⟨t328, t329, t330⟩, A60, H⟩ := H
   replace H : (if (!(t324 == t328) || (!(t325 == t329) || (!(t326 == t330)))) = true then (some false) else (laws_FnDayPlus.j1 kj1 t322 t319 t320 t321 t324 t325 t326)) = some r := H
   have A6 := Aside0.mk A60; clear A60
   have HC7 := Aside0.mk H; clear H
   try go_wp2_with (first | ((with_reducible refine gate_callee (f := 19) rfl ?_); refine goesL_ (some 12) rfl rfl Try.func19 (by kernel_rfl) rfl #[.slice A0 l0.length c0] rfl (by (try simp only [List.map_toArray, List.map_cons, List.map_nil]); first | done | rfl | (simp only [List.length_drop, List.length_take]; rfl)) ?_; (with_reducible refine (spec_DrawDayPlus.calls kj1 _ _ l0 t319 t320 t321 t322 _ ?side1 ?side2 A4.out).mono ?_); (case side1 => repeat (first | exact (Kd.C_below HR0.out HB.out) | (with_reducible refine Kd.C_alloc ?_ _) | (with_reducible refine Kd.C_drewN ?_ _) | (with_reducible refine Kd.C_drew ?_))); (case side2 => exact HC0.out); rintro e w8 ⟨rfl, hb⟩; refine ⟨_, rfl, ?_⟩; have n0_ := Aside0.mk (below_step (by repeat (first | (with_reducible first | exact HB.out | apply below_alloc | apply pw_below_drewN | apply below_drew1) | exact HB.out)) hb); clear HB; have HB := n0_; clear n0_; (try clear hb); (try clear hb2); (try clear hk); (try clear hi)) | ((with_reducible refine gate_dst (N := 3) rfl ?_); refine box_event ?hg (N := 3) ?hd (cs := #[.int .i64 0, .int .i64 0, .int .i64 0]) (t := 24) ?hr ?_; (case hd => rfl); (case hg => rfl); (case hr => first | (go_simp; done) | (go_simp; rfl)); intro gb323 hg w9 hbox hb; have n0_ := Aside0.mk (below_step (by repeat (first | (with_reducible first | exact HB.out | apply below_alloc | apply pw_below_drewN | apply below_drew1) | exact HB.out)) hb); have n1_ := Aside0.mk (hbox); have n2_ := Aside0.mk ((by rw [hg]; exact (below_size (by repeat (first | (with_reducible first | exact HB.out | apply below_alloc | apply pw_below_drewN | apply below_drew1) | exact HB.out))) : w.heap.size ≤ gb323)); have n3_ := Aside0.mk ((by rw [hg]; exact (below_size (by repeat (first | (with_reducible first | exact HB.out | apply below_alloc | apply pw_below_drewN | apply below_drew1) | exact HB.out))) : w.heap.size ≤ gb323)); clear HB; have HB := n0_; have BK323 := n1_; have GW323 := n2_; have GE323 := n3_; clear n0_ n1_ n2_ n3_; clear hb hbox hg; have hcz10_0 : w9.cell? ⟨gb323, 0, none⟩ = some (.int .i64 0) := (blk_cell BK323.out 0).trans rfl; have hcz10_1 : w9.cell? ⟨gb323, 1, none⟩ = some (.int .i64 0) := (blk_cell BK323.out 1).trans rfl; have hcz10_2 : w9.cell? ⟨gb323, 2, none⟩ = some (.int .i64 0) := (blk_cell BK323.out 2).trans rfl; have hfz10_0 := blk_frozen BK323.out 0; have hfz10_1 := blk_frozen BK323.out 1; have hfz10_2 := blk_frozen BK323.out 2) | ((with_reducible refine gate_callee (f := 12) rfl ?_); refine goesL_ (some 17) rfl rfl Try.func12 (by kernel_rfl) rfl #[.agg #[.int .i64 t319, .int .i64 t320, .int .i64 t321], .int .i64 t322] rfl (by (try simp only [List.map_toArray, List.map_cons, List.map_nil]); first | done | rfl | (simp only [List.length_drop, List.length_take]; rfl)) ?_; (with_reducible refine (impl_DayPlus.calls kj1 t319 t320 t321 t322 t324 t325 t326 _ A5.out).mono ?_); rintro e w11 ⟨rfl, hb⟩; refine ⟨_, rfl, ?_⟩; have n0_ := Aside0.mk (blk_below (g := gb323) (o := .cells #[.int .i64 t319, .int .i64 t320, .int .i64 t321] 24 (0, 0)) (by (with_reducible repeat (first | refine blk_drewN ?_ _ | refine blk_drew ?_ | refine blk_alloc ?_ _)); refine blk_put (cs := #[.int .i64 t319, .int .i64 t320, .int .i64 0]) ?_ 2 _ rfl; (with_reducible repeat (first | refine blk_drewN ?_ _ | refine blk_drew ?_ | refine blk_alloc ?_ _)); refine blk_put (cs := #[.int .i64 t319, .int .i64 0, .int .i64 0]) ?_ 1 _ rfl; (with_reducible repeat (first | refine blk_drewN ?_ _ | refine blk_drew ?_ | refine blk_alloc ?_ _)); refine blk_put (cs := #[.int .i64 0, .int .i64 0, .int .i64 0]) ?_ 0 _ rfl; (with_reducible repeat (first | refine blk_drewN ?_ _ | refine blk_drew ?_ | refine blk_alloc ?_ _)); exact BK323.out) hb); have n1_ := Aside0.mk (below_step (by repeat (first | (with_reducible first | exact HB.out | apply below_alloc | apply pw_below_drewN | apply below_drew1 | refine below_set ?_ GE323.out) | exact HB.out)) hb); clear BK323; clear HB; have BK323 := n0_; have HB := n1_; clear n0_ n1_; (try clear hb); (try clear hb2); (try clear hk); (try clear hi)) | ((with_reducible refine gate_dst (N := 5) rfl ?_); refine box_event ?hg (N := 5) ?hd (cs := #[.int .i64 0, .int .i64 0, .int .i64 0]) (t := 24) ?hr ?_; (case hd => rfl); (case hg => rfl); (case hr => first | (go_simp; done) | (go_simp; rfl)); intro gb327 hg w12 hbox hb; have n0_ := Aside0.mk (blk_below (g := gb323) (o := .cells #[.int .i64 t319, .int .i64 t320, .int .i64 t321] 24 (0, 0)) (by (with_reducible repeat (first | refine blk_drewN ?_ _ | refine blk_drew ?_ | refine blk_alloc ?_ _)); exact BK323.out) hb); have n1_ := Aside0.mk (below_step (by repeat (first | (with_reducible first | exact HB.out | apply below_alloc | apply pw_below_drewN | apply below_drew1 | refine below_set ?_ GE323.out) | exact HB.out)) hb); have n2_ := Aside0.mk (hbox); have n3_ := Aside0.mk ((by rw [hg]; exact (below_size (by repeat (first | (with_reducible first | exact HB.out | apply below_alloc | apply pw_below_drewN | apply below_drew1 | refine below_set ?_ GE323.out) | exact HB.out))) : w.heap.size ≤ gb327)); have n4_ := Aside0.mk ((by rw [hg]; exact (below_size (by repeat (first | (with_reducible first | exact HB.out | apply below_alloc | apply pw_below_drewN | apply below_drew1 | refine below_set ?_ GE323.out) | exact HB.out))) : w.heap.size ≤ gb327)); have n5_ := Aside0.mk ((by rw [hg]; exact Nat.ne_of_lt (blk_lt (g := gb323) (o := .cells #[.int .i64 t319, .int .i64 t320, .int .i64 t321] 24 (0, 0)) (by (with_reducible repeat (first | refine blk_drewN ?_ _ | refine blk_drew ?_ | refine blk_alloc ?_ _)); exact BK323.out)) : gb323 ≠ gb327)); have n6_ := Aside0.mk ((by rw [hg]; exact Nat.ne_of_gt (blk_lt (g := gb323) (o := .cells #[.int .i64 t319, .int .i64 t320, .int .i64 t321] 24 (0, 0)) (by (with_reducible repeat (first | refine blk_drewN ?_ _ | refine blk_drew ?_ | refine blk_alloc ?_ _)); exact BK323.out)) : gb327 ≠ gb323)); clear BK323; clear HB; have BK323 := n0_; have HB := n1_; have BK327 := n2_; have GW327 := n3_; have GE327 := n4_; have NB323_327 := n5_; have NB327_323 := n6_; clear n0_ n1_ n2_ n3_ n4_ n5_ n6_; clear hb hbox hg; have hnb13 := NB327_323.out; have hnc13 := NB323_327.out; have hcz14_0 : w12.cell? ⟨gb327, 0, none⟩ = some (.int .i64 0) := (blk_cell BK327.out 0).trans rfl; have hcz14_1 : w12.cell? ⟨gb327, 1, none⟩ = some (.int .i64 0) := (blk_cell BK327.out 1).trans rfl; have hcz14_2 : w12.cell? ⟨gb327, 2, none⟩ = some (.int .i64 0) := (blk_cell BK327.out 2).trans rfl; have hfz14_0 := blk_frozen BK327.out 0; have hfz14_1 := blk_frozen BK327.out 1; have hfz14_2 := blk_frozen BK327.out 2))
   have n0_ : Aside0 ((((w12.setCell ⟨gb327, 0, none⟩ (.int .i64 t324)).setCell ⟨gb327, 1, none⟩ (.int .i64 t325)).setCell ⟨gb327, 2, none⟩ (.int .i64 t326)).heap[gb323]? = some (.cells #[.int .i64 t319, .int .i64 t320, .int .i64 t321] 24 (0, 0))) := ⟨by (with_reducible repeat (first | refine blk_drewN ?_ _ | refine blk_drew ?_ | refine blk_alloc ?_ _)); refine blk_far ?_ NB323_327.out _; (with_reducible repeat (first | refine blk_drewN ?_ _ | refine blk_drew ?_ | refine blk_alloc ?_ _)); refine blk_far ?_ NB323_327.out _; (with_reducible repeat (first | refine blk_drewN ?_ _ | refine blk_drew ?_ | refine blk_alloc ?_ _)); refine blk_far ?_ NB323_327.out _; (with_reducible repeat (first | refine blk_drewN ?_ _ | refine blk_drew ?_ | refine blk_alloc ?_ _)); exact BK323.out⟩
   have n1_ : Aside0 ((((w12.setCell ⟨gb327, 0, none⟩ (.int .i64 t324)).setCell ⟨gb327, 1, none⟩ (.int .i64 t325)).setCell ⟨gb327, 2, none⟩ (.int .i64 t326)).heap[gb327]? = some (.cells #[.int .i64 t324, .int .i64 t325, .int .i64 t326] 24 (0, 0))) := ⟨by (with_reducible repeat (first | refine blk_drewN ?_ _ | refine blk_drew ?_ | refine blk_alloc ?_ _)); refine blk_put (cs := #[.int .i64 t324, .int .i64 t325, .int .i64 0]) ?_ 2 _ rfl; (with_reducible repeat (first | refine blk_drewN ?_ _ | refine blk_drew ?_ | refine blk_alloc ?_ _)); refine blk_put (cs := #[.int .i64 t324, .int .i64 0, .int .i64 0]) ?_ 1 _ rfl; (with_reducible repeat (first | refine blk_drewN ?_ _ | refine blk_drew ?_ | refine blk_alloc ?_ _)); refine blk_put (cs := #[.int .i64 0, .int .i64 0, .int .i64 0]) ?_ 0 _ rfl; (with_reducible repeat (first | refine blk_drewN ?_ _ | refine blk_drew ?_ | refine blk_alloc ?_ _)); exact BK327.out⟩
   have n2_ : Aside0 (Below w.heap.size w (((w12.setCell ⟨gb327, 0, none⟩ (.int .i64 t324)).setCell ⟨gb327, 1, none⟩ (.int .i64 t325)).setCell ⟨gb327, 2, none⟩ (.int .i64 t326))) := ⟨by repeat (first | (with_reducible first | exact HB.out | apply below_alloc | apply pw_below_drewN | apply below_drew1 | refine below_set ?_ GE323.out | refine below_set ?_ GE327.out) | exact HB.out)⟩
   (try clear BK323)
   (try clear BK327)
   (try clear HB)
   generalize (((w12.setCell ⟨gb327, 0, none⟩ (.int .i64 t324)).setCell ⟨gb327, 1, none⟩ (.int .i64 t325)).setCell ⟨gb327, 2, none⟩ (.int .i64 t326)) = w15 at n0_ n1_ n2_ ⊢
   have BK323 := n0_; have BK327 := n1_; have HB := n2_; clear n0_ n1_ n2_; have n0_ := Aside0.mk (blk_drew BK323.out); have n1_ := Aside0.mk (blk_drew BK327.out); have n2_ := Aside0.mk (below_drew1 HB.out); clear BK323; clear BK327; clear HB; have BK323 := n0_; have BK327 := n1_; have HB := n2_; clear n0_ n1_ n2_
   refine start_ (n := 5) (S := fun w' => w'.cell? ⟨gb327, 0, none⟩ = some (.int .i64 t324) ∧ w'.cell? ⟨gb327, 1, none⟩ = some (.int .i64 t325) ∧ w'.cell? ⟨gb327, 2, none⟩ = some (.int .i64 t326) ∧ w'.cell? ⟨gb323, 0, none⟩ = some (.int .i64 t319) ∧ w'.cell? ⟨gb323, 1, none⟩ = some (.int .i64 t320) ∧ w'.cell? ⟨gb323, 2, none⟩ = some (.int .i64 t321)) (ds := []) m0 (by kernel_rfl) rfl rfl ⟨(blk_cell BK327.out 0).trans rfl, (blk_cell BK327.out 1).trans rfl, (blk_cell BK327.out 2).trans rfl, (blk_cell BK323.out 0).trans rfl, (blk_cell BK323.out 1).trans rfl, (blk_cell BK323.out 2).trans rfl⟩ (fun hHeld => ?_)
   generalize w15.drew = w16 at BK323 BK327 HB hHeld ⊢
   refine pure_ (i := 2) (N := some 20) (v := ?_) (a' := ?_) m1 rfl rfl (by kernel_rfl) (fun _ _ _ h => h) (Or.inl ⟨by rfl, ?_⟩) ?_ ?_; rotate_left; (intro w'; go_simp; with_reducible rfl); rotate_left; (simp only [Act.put, sA, s0, s1, i64_w, i32_w]; rfl)
   refine take_ (i := 0) (N := some 18) (v := ?_) (a' := ?_) m2 rfl rfl (by kernel_rfl) (fun _ _ _ h => h) (Or.inl ⟨by rfl, ?_⟩) hHeld ?_ ?_; rotate_left; (rintro w' ⟨s0, s1, s2, s3, s4, s5⟩; go_simp; with_reducible rfl); rotate_left; (simp only [Act.put, sA, s0, s1, i64_w, i32_w]; rfl)
   refine take_ (i := 1) (N := some 19) (v := ?_) (a' := ?_) m3 rfl rfl (by kernel_rfl) (fun _ _ _ h => h) (Or.inl ⟨by rfl, ?_⟩) hHeld ?_ ?_; rotate_left; (rintro w' ⟨s0, s1, s2, s3, s4, s5⟩; go_simp; with_reducible rfl); rotate_left; (simp only [Act.put, sA, s0, s1, i64_w, i32_w]; rfl)
   refine one_ (i := 3) (N := some 21) m4 rfl rfl (by kernel_rfl) (by decide) (fun K hK => ?_)
   refine goes_ Try.func20 (by kernel_rfl) rfl #[.agg #[.int .i64 t319, .int .i64 t320, .int .i64 t321], .int .i64 t322] (by rfl) rfl rfl (by (try simp only [List.map_toArray, List.map_cons, List.map_nil]); first | done | rfl | (simp only [List.length_drop, List.length_take]; rfl)) ?_
   with_reducible refine (spec_DayPlus.calls kj1 t319 t320 t321 t322 t328 t329 t330 _ A6.out).mono ?_
   rintro e w17 ⟨rfl, hb⟩
   refine ⟨_, rfl, ?_⟩
   have n0_ := Aside0.mk (blk_below (g := gb323) (o := .cells #[.int .i64 t319, .int .i64 t320, .int .i64 t321] 24 (0, 0)) (by (with_reducible repeat (first | refine blk_drewN ?_ _ | refine blk_drew ?_ | refine blk_alloc ?_ _)); exact BK323.out) hb); have n1_ := Aside0.mk (blk_below (g := gb327) (o := .cells #[.int .i64 t324, .int .i64 t325, .int .i64 t326] 24 (0, 0)) (by (with_reducible repeat (first | refine blk_drewN ?_ _ | refine blk_drew ?_ | refine blk_alloc ?_ _)); exact BK327.out) hb); have n2_ := Aside0.mk (below_step (by repeat (first | (with_reducible first | exact HB.out | apply below_alloc | apply pw_below_drewN | apply below_drew1 | refine below_set ?_ GE323.out | refine below_set ?_ GE327.out) | exact HB.out)) hb); clear BK323; clear BK327; clear HB; have BK323 := n0_; have BK327 := n1_; have HB := n2_; clear n0_ n1_ n2_
   (try clear hb)
   (try clear hb2)
   (try clear hk)
   (try clear hi)
   refine hK.out _ _ ⟨(blk_cell BK327.out 0).trans rfl, (blk_cell BK327.out 1).trans rfl, (blk_cell BK327.out 2).trans rfl, (blk_cell BK323.out 0).trans rfl, (blk_cell BK323.out 1).trans rfl, (blk_cell BK323.out 2).trans rfl⟩ (fun hHeld => ?_)
   clear hK K
   refine norm_ (a' := ?_) ?_ ?_
   rotate_left
   ·show Act.put _ (some 21) _ = _
    simp only [Act.put, sA, s0, s1, i64_w, i32_w]
    rfl
   refine pure_ (i := 4) (N := some 22) (v := ?_) (a' := ?_) m5 rfl rfl (by kernel_rfl) (fun _ _ _ h => h) (Or.inl ⟨by rfl, ?_⟩) ?_ ?_; rotate_left; (intro w'; go_simp; with_reducible rfl); rotate_left; (simp only [Act.put, sA, s0, s1, i64_w, i32_w]; rfl)
   refine done_ (by kernel_rfl) ?_
   go_upto_if 22 with (fail)
   go_cut [] (fun wc => ∃ (kq : Nat), Aside0 (laws_FnDayPlus.j1 kq t322 t319 t320 t321 t324 t325 t326 = some r) ∧ Aside0 (kq ≤ kj1) ∧ Aside0 (wc.heap[gb323]? = some (.cells #[.int .i64 t319, .int .i64 t320, .int .i64 t321] 24 (0, 0))) ∧ Aside0 (wc.heap[gb327]? = some (.cells #[.int .i64 t324, .int .i64 t325, .int .i64 t326] 24 (0, 0))) ∧ Aside0 (Below w.heap.size w wc))
   case first =>
    have H := HC7.out; clear HC7
    by_cases c18 : (!(t324 == t328) || (!(t325 == t329) || (!(t326 == t330)))) = true
    ·rw [if_pos c18] at H
     have c18b0 : (!(t324 == t328) || (!(t325 == t329) || (!(t326 == t330)))) = true := c18
     clear c18
     (first | rw [c18b0] | (simp only [i64_w, i32_w]; rw [c18b0]) | skip)
     obtain rfl := Option.some.inj H
     go_wp2
     go_ret
     exact ⟨by first | rfl | (simp [errW_none, errW_some] <;> rfl) | (simp [*, errW_none, errW_some] <;> rfl), by repeat (first | (with_reducible first | exact HB.out | apply below_alloc | apply pw_below_drewN | apply below_drew1 | refine below_set ?_ GE323.out | refine below_set ?_ GE327.out) | exact HB.out)⟩
    ·rw [if_neg c18] at H
     have c18b0 : (!(t324 == t328) || (!(t325 == t329) || (!(t326 == t330)))) = false := by simpa using c18
     clear c18
     (first | rw [c18b0] | (simp only [i64_w, i32_w]; rw [c18b0]) | skip)
     have H' := Aside0.mk H
     clear H
     go_wp2
     go_meet
     case rel => exact ⟨_, H', ⟨by have := HJ1.out; first | omega | exact Nat.le_refl _⟩, ⟨by (with_reducible repeat (first | refine blk_drewN ?_ _ | refine blk_drew ?_ | refine blk_alloc ?_ _)); exact BK323.out⟩, ⟨by (with_reducible repeat (first | refine blk_drewN ?_ _ | refine blk_drew ?_ | refine blk_alloc ?_ _)); exact BK327.out⟩, ⟨by repeat (first | (with_reducible first | exact HB.out | apply below_alloc | apply pw_below_drewN | apply below_drew1 | refine below_set ?_ GE323.out | refine below_set ?_ GE327.out) | exact HB.out)⟩⟩
   case rest =>
    clear HC7
    try clear c1
    try clear c2
    try clear p2
    try clear c3
    try clear c3b0
    try clear c3b1
    try clear c5
    try clear c12
    try clear c13
    try clear c18
    try clear c18b0
    try clear hcz10_0
    try clear hcz10_1
    try clear hcz10_2
    try clear hcz14_0
    try clear hcz14_1
    try clear hcz14_2
    try clear hfz10_0
    try clear hfz10_1
    try clear hfz10_2
    try clear hfz14_0
    try clear hfz14_1
    try clear hfz14_2
    try clear p2
    obtain ⟨kq, HA, HJ6, BK323, BK327, HB⟩ := hcut
    cases kq with
    | zero => exact absurd HA.out (by simp [laws_FnDayPlus.j1])
    | succ kj6 =>
     have H := HA.out; clear HA
     simp only [laws_FnDayPlus.j1] at H
     have HC19 := Aside0.mk H; clear H
     have hnb20 := NB327_323.out
     have hnc20 := NB323_327.out; have hcz21_0 : wc.cell? ⟨gb327, 0, none⟩ = some (.int .i64 t324) := (blk_cell BK327.out 0).trans rfl; have hcz21_1 : wc.cell? ⟨gb327, 1, none⟩ = some (.int .i64 t325) := (blk_cell BK327.out 1).trans rfl; have hcz21_2 : wc.cell? ⟨gb327, 2, none⟩ = some (.int .i64 t326) := (blk_cell BK327.out 2).trans rfl; have hfz21_0 := blk_frozen BK327.out 0; have hfz21_1 := blk_frozen BK327.out 1; have hfz21_2 := blk_frozen BK327.out 2
     go_upto_if 25 with (fail)
     go_cut [] (fun wc => ∃ (kq : Nat), Aside0 (laws_FnDayPlus.j2 kq t322 t319 t320 t321 t324 t325 t326 = some r) ∧ Aside0 (kq ≤ kj6) ∧ Aside0 (wc.heap[gb323]? = some (.cells #[.int .i64 t319, .int .i64 t320, .int .i64 t321] 24 (0, 0))) ∧ Aside0 (wc.heap[gb327]? = some (.cells #[.int .i64 t324, .int .i64 t325, .int .i64 t326] 24 (0, 0))) ∧ Aside0 (Below w.heap.size w wc))
     case first =>
      have H := HC19.out; clear HC19
      by_cases c22 : t324 = 0
      ·rw [if_pos c22] at H
       have c22b0 : (t324 == 0) = true := beq_iff_eq.mpr c22
       have c22b1 : (t324 != 0) = false := bne_eq_false_iff_eq.mpr c22
       clear c22
       (first | rw [c22b0] | (simp only [i64_w, i32_w]; rw [c22b0]) | skip)
       replace H := Option.bind_eq_some_iff.mp H
       obtain ⟨t331, A230, H⟩ := H
       replace H : (if t331 = true then (if t322 < 0 then ((laws_cuOk.f).bind fun t332 => (some t332)) else (if t322 > 600 then ((laws_cuOk.f).bind fun t333 => (some t333)) else (if (wrap64 ((wrap64 ((wrap64 ((wrap64 (t319 * 12)) + t320)) - 1)) + t322)) ≥ 26400 then ((laws_cuOk.f).bind fun t334 => (some t334)) else (some false)))) else ((laws_cuOk.f).bind fun t335 => (some t335))) = some r := H
       have A23 := Aside0.mk A230; clear A230
       by_cases c24 : t331 = true
       ·subst c24
        have H1 : (if t322 < 0 then ((laws_cuOk.f).bind fun t332 => (some t332)) else (if t322 > 600 then ((laws_cuOk.f).bind fun t333 => (some t333)) else (if (wrap64 ((wrap64 ((wrap64 ((wrap64 (t319 * 12)) + t320)) - 1)) + t322)) ≥ 26400 then ((laws_cuOk.f).bind fun t334 => (some t334)) else (some false)))) = some r := by rw [if_pos rfl] at H; exact H
        clear H; have H := H1; clear H1
        by_cases c25 : t322 < 0
        ·rw [if_pos c25] at H
         have c25b0 : decide (t322 < 0) = true := decide_eq_true c25
         clear c25
         replace H := Option.bind_eq_some_iff.mp H
         obtain ⟨t332, A260, H⟩ := H
         replace H : (some t332) = some r := H
         have A26 := Aside0.mk A260; clear A260
         obtain rfl := Option.some.inj H
         have hnb27 := NB323_327.out
         have hnc27 := NB327_323.out; have hcz28_0 : wc.cell? ⟨gb323, 0, none⟩ = some (.int .i64 t319) := (blk_cell BK323.out 0).trans rfl; have hcz28_1 : wc.cell? ⟨gb323, 1, none⟩ = some (.int .i64 t320) := (blk_cell BK323.out 1).trans rfl; have hcz28_2 : wc.cell? ⟨gb323, 2, none⟩ = some (.int .i64 t321) := (blk_cell BK323.out 2).trans rfl; have hfz28_0 := blk_frozen BK323.out 0; have hfz28_1 := blk_frozen BK323.out 1; have hfz28_2 := blk_frozen BK323.out 2
         go_wp2_with (first | ((with_reducible refine gate_callee (f := 17) rfl ?_); refine goesL_ (some 27) rfl rfl Try.func17 (by kernel_rfl) rfl #[.agg #[.int .i64 t319, .int .i64 t320, .int .i64 t321]] rfl (by (try simp only [List.map_toArray, List.map_cons, List.map_nil]); first | done | rfl | (simp only [List.length_drop, List.length_take]; rfl)) ?_; (with_reducible refine (spec_DayOk.calls kj6 t319 t320 t321 true _ A23.out).mono ?_); rintro e w29 ⟨rfl, hb⟩; refine ⟨_, rfl, ?_⟩; have n0_ := Aside0.mk (blk_below (g := gb323) (o := .cells #[.int .i64 t319, .int .i64 t320, .int .i64 t321] 24 (0, 0)) (by (with_reducible repeat (first | refine blk_drewN ?_ _ | refine blk_drew ?_ | refine blk_alloc ?_ _)); exact BK323.out) hb); have n1_ := Aside0.mk (blk_below (g := gb327) (o := .cells #[.int .i64 t324, .int .i64 t325, .int .i64 t326] 24 (0, 0)) (by (with_reducible repeat (first | refine blk_drewN ?_ _ | refine blk_drew ?_ | refine blk_alloc ?_ _)); exact BK327.out) hb); have n2_ := Aside0.mk (below_step (by repeat (first | (with_reducible first | exact HB.out | apply below_alloc | apply pw_below_drewN | apply below_drew1 | refine below_set ?_ GE323.out | refine below_set ?_ GE327.out) | exact HB.out)) hb); clear BK323; clear BK327; clear HB; have BK323 := n0_; have BK327 := n1_; have HB := n2_; clear n0_ n1_ n2_; (try clear hb); (try clear hb2); (try clear hk); (try clear hi)) | (go_at_call 11; (with_reducible refine (laws_cuOk.calls  t332 _ A26.out).mono ?_); rintro e w30 ⟨rfl, hb⟩; have n0_ := Aside0.mk (blk_below (g := gb323) (o := .cells #[.int .i64 t319, .int .i64 t320, .int .i64 t321] 24 (0, 0)) (by (with_reducible repeat (first | refine blk_drewN ?_ _ | refine blk_drew ?_ | refine blk_alloc ?_ _)); exact BK323.out) hb); have n1_ := Aside0.mk (blk_below (g := gb327) (o := .cells #[.int .i64 t324, .int .i64 t325, .int .i64 t326] 24 (0, 0)) (by (with_reducible repeat (first | refine blk_drewN ?_ _ | refine blk_drew ?_ | refine blk_alloc ?_ _)); exact BK327.out) hb); have n2_ := Aside0.mk (below_step (by repeat (first | (with_reducible first | exact HB.out | apply below_alloc | apply pw_below_drewN | apply below_drew1 | refine below_set ?_ GE323.out | refine below_set ?_ GE327.out) | exact HB.out)) hb); clear BK323; clear BK327; clear HB; have BK323 := n0_; have BK327 := n1_; have HB := n2_; clear n0_ n1_ n2_; (try clear hb); (try clear hb2); (try clear hk); (try clear hi)))
         go_ret
         exact ⟨by first | rfl | (simp [errW_none, errW_some] <;> rfl) | (simp [*, errW_none, errW_some] <;> rfl), by repeat (first | (with_reducible first | exact HB.out | apply below_alloc | apply pw_below_drewN | apply below_drew1 | refine below_set ?_ GE323.out | refine below_set ?_ GE327.out) | exact HB.out)⟩
        ·rw [if_neg c25] at H
         have c25b0 : decide (t322 < 0) = false := decide_eq_false c25
         clear c25
         by_cases c31 : t322 > 600
         ·rw [if_pos c31] at H
          have c31b0 : decide (600 < t322) = true := decide_eq_true c31
          clear c31
          replace H := Option.bind_eq_some_iff.mp H
          obtain ⟨t333, A320, H⟩ := H
          replace H : (some t333) = some r := H
          have A32 := Aside0.mk A320; clear A320
          obtain rfl := Option.some.inj H
          have hnb33 := NB323_327.out
          have hnc33 := NB327_323.out; have hcz34_0 : wc.cell? ⟨gb323, 0, none⟩ = some (.int .i64 t319) := (blk_cell BK323.out 0).trans rfl; have hcz34_1 : wc.cell? ⟨gb323, 1, none⟩ = some (.int .i64 t320) := (blk_cell BK323.out 1).trans rfl; have hcz34_2 : wc.cell? ⟨gb323, 2, none⟩ = some (.int .i64 t321) := (blk_cell BK323.out 2).trans rfl; have hfz34_0 := blk_frozen BK323.out 0; have hfz34_1 := blk_frozen BK323.out 1; have hfz34_2 := blk_frozen BK323.out 2
          go_wp2_with (first | ((with_reducible refine gate_callee (f := 17) rfl ?_); refine goesL_ (some 27) rfl rfl Try.func17 (by kernel_rfl) rfl #[.agg #[.int .i64 t319, .int .i64 t320, .int .i64 t321]] rfl (by (try simp only [List.map_toArray, List.map_cons, List.map_nil]); first | done | rfl | (simp only [List.length_drop, List.length_take]; rfl)) ?_; (with_reducible refine (spec_DayOk.calls kj6 t319 t320 t321 true _ A23.out).mono ?_); rintro e w35 ⟨rfl, hb⟩; refine ⟨_, rfl, ?_⟩; have n0_ := Aside0.mk (blk_below (g := gb323) (o := .cells #[.int .i64 t319, .int .i64 t320, .int .i64 t321] 24 (0, 0)) (by (with_reducible repeat (first | refine blk_drewN ?_ _ | refine blk_drew ?_ | refine blk_alloc ?_ _)); exact BK323.out) hb); have n1_ := Aside0.mk (blk_below (g := gb327) (o := .cells #[.int .i64 t324, .int .i64 t325, .int .i64 t326] 24 (0, 0)) (by (with_reducible repeat (first | refine blk_drewN ?_ _ | refine blk_drew ?_ | refine blk_alloc ?_ _)); exact BK327.out) hb); have n2_ := Aside0.mk (below_step (by repeat (first | (with_reducible first | exact HB.out | apply below_alloc | apply pw_below_drewN | apply below_drew1 | refine below_set ?_ GE323.out | refine below_set ?_ GE327.out) | exact HB.out)) hb); clear BK323; clear BK327; clear HB; have BK323 := n0_; have BK327 := n1_; have HB := n2_; clear n0_ n1_ n2_; (try clear hb); (try clear hb2); (try clear hk); (try clear hi)) | (go_at_call 11; (with_reducible refine (laws_cuOk.calls  t333 _ A32.out).mono ?_); rintro e w36 ⟨rfl, hb⟩; have n0_ := Aside0.mk (blk_below (g := gb323) (o := .cells #[.int .i64 t319, .int .i64 t320, .int .i64 t321] 24 (0, 0)) (by (with_reducible repeat (first | refine blk_drewN ?_ _ | refine blk_drew ?_ | refine blk_alloc ?_ _)); exact BK323.out) hb); have n1_ := Aside0.mk (blk_below (g := gb327) (o := .cells #[.int .i64 t324, .int .i64 t325, .int .i64 t326] 24 (0, 0)) (by (with_reducible repeat (first | refine blk_drewN ?_ _ | refine blk_drew ?_ | refine blk_alloc ?_ _)); exact BK327.out) hb); have n2_ := Aside0.mk (below_step (by repeat (first | (with_reducible first | exact HB.out | apply below_alloc | apply pw_below_drewN | apply below_drew1 | refine below_set ?_ GE323.out | refine below_set ?_ GE327.out) | exact HB.out)) hb); clear BK323; clear BK327; clear HB; have BK323 := n0_; have BK327 := n1_; have HB := n2_; clear n0_ n1_ n2_; (try clear hb); (try clear hb2); (try clear hk); (try clear hi)))
          go_ret
          exact ⟨by first | rfl | (simp [errW_none, errW_some] <;> rfl) | (simp [*, errW_none, errW_some] <;> rfl), by repeat (first | (with_reducible first | exact HB.out | apply below_alloc | apply pw_below_drewN | apply below_drew1 | refine below_set ?_ GE323.out | refine below_set ?_ GE327.out) | exact HB.out)⟩
         ·rw [if_neg c31] at H
          have c31b0 : decide (600 < t322) = false := decide_eq_false c31
          clear c31
          by_cases c37 : (wrap64 ((wrap64 ((wrap64 ((wrap64 (t319 * 12)) + t320)) - 1)) + t322)) ≥ 26400
          ·rw [if_pos c37] at H
           have c37b0 : decide (26400 ≤ (wrap64 ((wrap64 ((wrap64 ((wrap64 (t319 * 12)) + t320)) - 1)) + t322))) = true := decide_eq_true c37
           clear c37
           replace H := Option.bind_eq_some_iff.mp H
           obtain ⟨t334, A380, H⟩ := H
           replace H : (some t334) = some r := H
           have A38 := Aside0.mk A380; clear A380
           obtain rfl := Option.some.inj H
           have hnb39 := NB323_327.out
           have hnc39 := NB327_323.out; have hcz40_0 : wc.cell? ⟨gb323, 0, none⟩ = some (.int .i64 t319) := (blk_cell BK323.out 0).trans rfl; have hcz40_1 : wc.cell? ⟨gb323, 1, none⟩ = some (.int .i64 t320) := (blk_cell BK323.out 1).trans rfl; have hcz40_2 : wc.cell? ⟨gb323, 2, none⟩ = some (.int .i64 t321) := (blk_cell BK323.out 2).trans rfl; have hfz40_0 := blk_frozen BK323.out 0; have hfz40_1 := blk_frozen BK323.out 1; have hfz40_2 := blk_frozen BK323.out 2
           go_wp2_with (first | ((with_reducible refine gate_callee (f := 17) rfl ?_); refine goesL_ (some 27) rfl rfl Try.func17 (by kernel_rfl) rfl #[.agg #[.int .i64 t319, .int .i64 t320, .int .i64 t321]] rfl (by (try simp only [List.map_toArray, List.map_cons, List.map_nil]); first | done | rfl | (simp only [List.length_drop, List.length_take]; rfl)) ?_; (with_reducible refine (spec_DayOk.calls kj6 t319 t320 t321 true _ A23.out).mono ?_); rintro e w41 ⟨rfl, hb⟩; refine ⟨_, rfl, ?_⟩; have n0_ := Aside0.mk (blk_below (g := gb323) (o := .cells #[.int .i64 t319, .int .i64 t320, .int .i64 t321] 24 (0, 0)) (by (with_reducible repeat (first | refine blk_drewN ?_ _ | refine blk_drew ?_ | refine blk_alloc ?_ _)); exact BK323.out) hb); have n1_ := Aside0.mk (blk_below (g := gb327) (o := .cells #[.int .i64 t324, .int .i64 t325, .int .i64 t326] 24 (0, 0)) (by (with_reducible repeat (first | refine blk_drewN ?_ _ | refine blk_drew ?_ | refine blk_alloc ?_ _)); exact BK327.out) hb); have n2_ := Aside0.mk (below_step (by repeat (first | (with_reducible first | exact HB.out | apply below_alloc | apply pw_below_drewN | apply below_drew1 | refine below_set ?_ GE323.out | refine below_set ?_ GE327.out) | exact HB.out)) hb); clear BK323; clear BK327; clear HB; have BK323 := n0_; have BK327 := n1_; have HB := n2_; clear n0_ n1_ n2_; (try clear hb); (try clear hb2); (try clear hk); (try clear hi); have hcz42_0 : w41.cell? ⟨gb323, 0, none⟩ = some (.int .i64 t319) := (blk_cell BK323.out 0).trans rfl; have hcz42_1 : w41.cell? ⟨gb323, 1, none⟩ = some (.int .i64 t320) := (blk_cell BK323.out 1).trans rfl; have hcz42_2 : w41.cell? ⟨gb323, 2, none⟩ = some (.int .i64 t321) := (blk_cell BK323.out 2).trans rfl; have hfz42_0 := blk_frozen BK323.out 0; have hfz42_1 := blk_frozen BK323.out 1; have hfz42_2 := blk_frozen BK323.out 2) | (go_at_call 11; (with_reducible refine (laws_cuOk.calls  t334 _ A38.out).mono ?_); rintro e w43 ⟨rfl, hb⟩; have n0_ := Aside0.mk (blk_below (g := gb323) (o := .cells #[.int .i64 t319, .int .i64 t320, .int .i64 t321] 24 (0, 0)) (by (with_reducible repeat (first | refine blk_drewN ?_ _ | refine blk_drew ?_ | refine blk_alloc ?_ _)); exact BK323.out) hb); have n1_ := Aside0.mk (blk_below (g := gb327) (o := .cells #[.int .i64 t324, .int .i64 t325, .int .i64 t326] 24 (0, 0)) (by (with_reducible repeat (first | refine blk_drewN ?_ _ | refine blk_drew ?_ | refine blk_alloc ?_ _)); exact BK327.out) hb); have n2_ := Aside0.mk (below_step (by repeat (first | (with_reducible first | exact HB.out | apply below_alloc | apply pw_below_drewN | apply below_drew1 | refine below_set ?_ GE323.out | refine below_set ?_ GE327.out) | exact HB.out)) hb); clear BK323; clear BK327; clear HB; have BK323 := n0_; have BK327 := n1_; have HB := n2_; clear n0_ n1_ n2_; (try clear hb); (try clear hb2); (try clear hk); (try clear hi)))
           go_ret
           exact ⟨by first | rfl | (simp [errW_none, errW_some] <;> rfl) | (simp [*, errW_none, errW_some] <;> rfl), by repeat (first | (with_reducible first | exact HB.out | apply below_alloc | apply pw_below_drewN | apply below_drew1 | refine below_set ?_ GE323.out | refine below_set ?_ GE327.out) | exact HB.out)⟩
          ·rw [if_neg c37] at H
           have c37b0 : decide (26400 ≤ (wrap64 ((wrap64 ((wrap64 ((wrap64 (t319 * 12)) + t320)) - 1)) + t322))) = false := decide_eq_false c37
           clear c37
           obtain rfl := Option.some.inj H
           have hnb44 := NB323_327.out
           have hnc44 := NB327_323.out; have hcz45_0 : wc.cell? ⟨gb323, 0, none⟩ = some (.int .i64 t319) := (blk_cell BK323.out 0).trans rfl; have hcz45_1 : wc.cell? ⟨gb323, 1, none⟩ = some (.int .i64 t320) := (blk_cell BK323.out 1).trans rfl; have hcz45_2 : wc.cell? ⟨gb323, 2, none⟩ = some (.int .i64 t321) := (blk_cell BK323.out 2).trans rfl; have hfz45_0 := blk_frozen BK323.out 0; have hfz45_1 := blk_frozen BK323.out 1; have hfz45_2 := blk_frozen BK323.out 2
           go_wp2_with (first | ((with_reducible refine gate_callee (f := 17) rfl ?_); refine goesL_ (some 27) rfl rfl Try.func17 (by kernel_rfl) rfl #[.agg #[.int .i64 t319, .int .i64 t320, .int .i64 t321]] rfl (by (try simp only [List.map_toArray, List.map_cons, List.map_nil]); first | done | rfl | (simp only [List.length_drop, List.length_take]; rfl)) ?_; (with_reducible refine (spec_DayOk.calls kj6 t319 t320 t321 true _ A23.out).mono ?_); rintro e w46 ⟨rfl, hb⟩; refine ⟨_, rfl, ?_⟩; have n0_ := Aside0.mk (blk_below (g := gb323) (o := .cells #[.int .i64 t319, .int .i64 t320, .int .i64 t321] 24 (0, 0)) (by (with_reducible repeat (first | refine blk_drewN ?_ _ | refine blk_drew ?_ | refine blk_alloc ?_ _)); exact BK323.out) hb); have n1_ := Aside0.mk (blk_below (g := gb327) (o := .cells #[.int .i64 t324, .int .i64 t325, .int .i64 t326] 24 (0, 0)) (by (with_reducible repeat (first | refine blk_drewN ?_ _ | refine blk_drew ?_ | refine blk_alloc ?_ _)); exact BK327.out) hb); have n2_ := Aside0.mk (below_step (by repeat (first | (with_reducible first | exact HB.out | apply below_alloc | apply pw_below_drewN | apply below_drew1 | refine below_set ?_ GE323.out | refine below_set ?_ GE327.out) | exact HB.out)) hb); clear BK323; clear BK327; clear HB; have BK323 := n0_; have BK327 := n1_; have HB := n2_; clear n0_ n1_ n2_; (try clear hb); (try clear hb2); (try clear hk); (try clear hi); have hcz47_0 : w46.cell? ⟨gb323, 0, none⟩ = some (.int .i64 t319) := (blk_cell BK323.out 0).trans rfl; have hcz47_1 : w46.cell? ⟨gb323, 1, none⟩ = some (.int .i64 t320) := (blk_cell BK323.out 1).trans rfl; have hcz47_2 : w46.cell? ⟨gb323, 2, none⟩ = some (.int .i64 t321) := (blk_cell BK323.out 2).trans rfl; have hfz47_0 := blk_frozen BK323.out 0; have hfz47_1 := blk_frozen BK323.out 1; have hfz47_2 := blk_frozen BK323.out 2))
           go_ret
           exact ⟨by first | rfl | (simp [errW_none, errW_some] <;> rfl) | (simp [*, errW_none, errW_some] <;> rfl), by repeat (first | (with_reducible first | exact HB.out | apply below_alloc | apply pw_below_drewN | apply below_drew1 | refine below_set ?_ GE323.out | refine below_set ?_ GE327.out) | exact HB.out)⟩
       ·replace c24 := Bool.eq_false_iff.mpr c24
        subst c24
        have H1 : ((laws_cuOk.f).bind fun t335 => (some t335)) = some r := by rw [if_neg (show ¬ (false = true) by decide)] at H; exact H
        clear H; have H := H1; clear H1
        replace H := Option.bind_eq_some_iff.mp H
        obtain ⟨t335, A480, H⟩ := H
        replace H : (some t335) = some r := H
        have A48 := Aside0.mk A480; clear A480
        obtain rfl := Option.some.inj H
        have hnb49 := NB323_327.out
        have hnc49 := NB327_323.out; have hcz50_0 : wc.cell? ⟨gb323, 0, none⟩ = some (.int .i64 t319) := (blk_cell BK323.out 0).trans rfl; have hcz50_1 : wc.cell? ⟨gb323, 1, none⟩ = some (.int .i64 t320) := (blk_cell BK323.out 1).trans rfl; have hcz50_2 : wc.cell? ⟨gb323, 2, none⟩ = some (.int .i64 t321) := (blk_cell BK323.out 2).trans rfl; have hfz50_0 := blk_frozen BK323.out 0; have hfz50_1 := blk_frozen BK323.out 1; have hfz50_2 := blk_frozen BK323.out 2
        go_wp2_with (first | ((with_reducible refine gate_callee (f := 17) rfl ?_); refine goesL_ (some 27) rfl rfl Try.func17 (by kernel_rfl) rfl #[.agg #[.int .i64 t319, .int .i64 t320, .int .i64 t321]] rfl (by (try simp only [List.map_toArray, List.map_cons, List.map_nil]); first | done | rfl | (simp only [List.length_drop, List.length_take]; rfl)) ?_; (with_reducible refine (spec_DayOk.calls kj6 t319 t320 t321 false _ A23.out).mono ?_); rintro e w51 ⟨rfl, hb⟩; refine ⟨_, rfl, ?_⟩; have n0_ := Aside0.mk (blk_below (g := gb323) (o := .cells #[.int .i64 t319, .int .i64 t320, .int .i64 t321] 24 (0, 0)) (by (with_reducible repeat (first | refine blk_drewN ?_ _ | refine blk_drew ?_ | refine blk_alloc ?_ _)); exact BK323.out) hb); have n1_ := Aside0.mk (blk_below (g := gb327) (o := .cells #[.int .i64 t324, .int .i64 t325, .int .i64 t326] 24 (0, 0)) (by (with_reducible repeat (first | refine blk_drewN ?_ _ | refine blk_drew ?_ | refine blk_alloc ?_ _)); exact BK327.out) hb); have n2_ := Aside0.mk (below_step (by repeat (first | (with_reducible first | exact HB.out | apply below_alloc | apply pw_below_drewN | apply below_drew1 | refine below_set ?_ GE323.out | refine below_set ?_ GE327.out) | exact HB.out)) hb); clear BK323; clear BK327; clear HB; have BK323 := n0_; have BK327 := n1_; have HB := n2_; clear n0_ n1_ n2_; (try clear hb); (try clear hb2); (try clear hk); (try clear hi)) | (go_at_call 11; (with_reducible refine (laws_cuOk.calls  t335 _ A48.out).mono ?_); rintro e w52 ⟨rfl, hb⟩; have n0_ := Aside0.mk (blk_below (g := gb323) (o := .cells #[.int .i64 t319, .int .i64 t320, .int .i64 t321] 24 (0, 0)) (by (with_reducible repeat (first | refine blk_drewN ?_ _ | refine blk_drew ?_ | refine blk_alloc ?_ _)); exact BK323.out) hb); have n1_ := Aside0.mk (blk_below (g := gb327) (o := .cells #[.int .i64 t324, .int .i64 t325, .int .i64 t326] 24 (0, 0)) (by (with_reducible repeat (first | refine blk_drewN ?_ _ | refine blk_drew ?_ | refine blk_alloc ?_ _)); exact BK327.out) hb); have n2_ := Aside0.mk (below_step (by repeat (first | (with_reducible first | exact HB.out | apply below_alloc | apply pw_below_drewN | apply below_drew1 | refine below_set ?_ GE323.out | refine below_set ?_ GE327.out) | exact HB.out)) hb); clear BK323; clear BK327; clear HB; have BK323 := n0_; have BK327 := n1_; have HB := n2_; clear n0_ n1_ n2_; (try clear hb); (try clear hb2); (try clear hk); (try clear hi)))
        go_ret
        exact ⟨by first | rfl | (simp [errW_none, errW_some] <;> rfl) | (simp [*, errW_none, errW_some] <;> rfl), by repeat (first | (with_reducible first | exact HB.out | apply below_alloc | apply pw_below_drewN | apply below_drew1 | refine below_set ?_ GE323.out | refine below_set ?_ GE327.out) | exact HB.out)⟩
      ·rw [if_neg c22] at H
       have c22b0 : (t324 == 0) = false := beq_eq_false_iff_ne.mpr c22
       have c22b1 : (t324 != 0) = true := bne_iff_ne.mpr c22
       (first | rw [c22b0] | (simp only [i64_w, i32_w]; rw [c22b0]) | skip)
       have H' := Aside0.mk H
       clear H
       go_wp2
       go_meet
       case rel => exact ⟨_, H', ⟨by have := HJ1.out; have := HJ6.out; first | omega | exact Nat.le_refl _⟩, ⟨by (with_reducible repeat (first | refine blk_drewN ?_ _ | refine blk_drew ?_ | refine blk_alloc ?_ _)); exact BK323.out⟩, ⟨by (with_reducible repeat (first | refine blk_drewN ?_ _ | refine blk_drew ?_ | refine blk_alloc ?_ _)); exact BK327.out⟩, ⟨by repeat (first | (with_reducible first | exact HB.out | apply below_alloc | apply pw_below_drewN | apply below_drew1 | refine below_set ?_ GE323.out | refine below_set ?_ GE327.out) | exact HB.out)⟩⟩
     case rest =>
      clear HC19
      try clear c1
      try clear c2
      try clear p2
      try clear c3
      try clear c3b0
      try clear c3b1
      try clear c4
      try clear c5
      try clear p6
      try clear c12
      try clear c13
      try clear c17
      try clear c18
      try clear c18b0
      try clear c19
      try clear c20
      try clear c22
      try clear c22b0
      try clear c22b1
      try clear c24
      try clear c25
      try clear c25b0
      try clear c27
      try clear c31
      try clear c31b0
      try clear c33
      try clear c37
      try clear c37b0
      try clear c39
      try clear c44
      try clear c49
      try clear hcz10_0
      try clear hcz10_1
      try clear hcz10_2
      try clear hcz14_0
      try clear hcz14_1
      try clear hcz14_2
      try clear hcz21_0
      try clear hcz21_1
      try clear hcz21_2
      try clear hcz28_0
      try clear hcz28_1
      try clear hcz28_2
      try clear hcz34_0
      try clear hcz34_1
      try clear hcz34_2
      try clear hcz40_0
      try clear hcz40_1
      try clear hcz40_2
      try clear hcz42_0
      try clear hcz42_1
      try clear hcz42_2
      try clear hcz45_0
      try clear hcz45_1
      try clear hcz45_2
      try clear hcz47_0
      try clear hcz47_1
      try clear hcz47_2
      try clear hcz50_0
      try clear hcz50_1
      try clear hcz50_2
      try clear hfz10_0
      try clear hfz10_1
      try clear hfz10_2
      try clear hfz14_0
      try clear hfz14_1
      try clear hfz14_2
      try clear hfz21_0
      try clear hfz21_1
      try clear hfz21_2
      try clear hfz28_0
      try clear hfz28_1
      try clear hfz28_2
      try clear hfz34_0
      try clear hfz34_1
      try clear hfz34_2
      try clear hfz40_0
      try clear hfz40_1
      try clear hfz40_2
      try clear hfz42_0
      try clear hfz42_1
      try clear hfz42_2
      try clear hfz45_0
      try clear hfz45_1
      try clear hfz45_2
      try clear hfz47_0
      try clear hfz47_1
      try clear hfz47_2
      try clear hfz50_0
      try clear hfz50_1
      try clear hfz50_2
      try clear p2
      obtain ⟨kq, HA, HJ18, BK323, BK327, HB⟩ := hcut
      cases kq with
      | zero => exact absurd HA.out (by simp [laws_FnDayPlus.j2])
      | succ kj18 =>
       have H := HA.out; clear HA
       simp only [laws_FnDayPlus.j2] at H
       replace H := Option.bind_eq_some_iff.mp H
       obtain ⟨t336, A530, H⟩ := H
       replace H : (if (wrap64 ((wrap64 (t324 * 12)) + t325)) = (wrap64 ((wrap64 ((wrap64 (t319 * 12)) + t320)) + t322)) then (if t326 = t321 then ((impl_DayOk.f t324 t325 t326).bind fun t337 => (if t337 = true then ((impl_DayNum.f kj18 t324 t325 t326).bind fun t338 => ((impl_DayNum.f kj18 t319 t320 t321).bind fun t339 => (if t338 ≥ t339 then (if t322 = 12 then (if t324 = (wrap64 (t319 + 1)) then (some (t325 == t320)) else (some false)) else (some true)) else (some false)))) else (some false))) else (if t326 = t336 then (if t321 > t336 then ((impl_DayOk.f t324 t325 t326).bind fun t340 => (if t340 = true then ((impl_DayNum.f kj18 t324 t325 t326).bind fun t341 => ((impl_DayNum.f kj18 t319 t320 t321).bind fun t342 => (if t341 ≥ t342 then (if t322 = 12 then (if t324 = (wrap64 (t319 + 1)) then (some (t325 == t320)) else (some false)) else (some true)) else (some false)))) else (some false))) else (some false)) else (some false))) else (some false)) = some r := H
       have A53 := Aside0.mk A530; clear A530
       by_cases c54 : (wrap64 ((wrap64 (t324 * 12)) + t325)) = (wrap64 ((wrap64 ((wrap64 (t319 * 12)) + t320)) + t322))
       ·rw [if_pos c54] at H
        have c54b0 : ((wrap64 ((wrap64 (t324 * 12)) + t325)) == (wrap64 ((wrap64 ((wrap64 (t319 * 12)) + t320)) + t322))) = true := beq_iff_eq.mpr c54
        have c54b1 : ((wrap64 ((wrap64 (t324 * 12)) + t325)) != (wrap64 ((wrap64 ((wrap64 (t319 * 12)) + t320)) + t322))) = false := bne_eq_false_iff_eq.mpr c54
        clear c54
        by_cases c55 : t326 = t321
        ·rw [if_pos c55] at H
         have c55b0 : (t326 == t321) = true := beq_iff_eq.mpr c55
         have c55b1 : (t326 != t321) = false := bne_eq_false_iff_eq.mpr c55
         clear c55
         replace H := Option.bind_eq_some_iff.mp H
         obtain ⟨t337, A560, H⟩ := H
         replace H : (if t337 = true then ((impl_DayNum.f kj18 t324 t325 t326).bind fun t338 => ((impl_DayNum.f kj18 t319 t320 t321).bind fun t339 => (if t338 ≥ t339 then (if t322 = 12 then (if t324 = (wrap64 (t319 + 1)) then (some (t325 == t320)) else (some false)) else (some true)) else (some false)))) else (some false)) = some r := H
         have A56 := Aside0.mk A560; clear A560
         by_cases c57 : t337 = true
         ·subst c57
          have H1 : ((impl_DayNum.f kj18 t324 t325 t326).bind fun t338 => ((impl_DayNum.f kj18 t319 t320 t321).bind fun t339 => (if t338 ≥ t339 then (if t322 = 12 then (if t324 = (wrap64 (t319 + 1)) then (some (t325 == t320)) else (some false)) else (some true)) else (some false)))) = some r := by rw [if_pos rfl] at H; exact H
          clear H; have H := H1; clear H1
          replace H := Option.bind_eq_some_iff.mp H
          obtain ⟨t338, A580, H⟩ := H
          replace H : ((impl_DayNum.f kj18 t319 t320 t321).bind fun t339 => (if t338 ≥ t339 then (if t322 = 12 then (if t324 = (wrap64 (t319 + 1)) then (some (t325 == t320)) else (some false)) else (some true)) else (some false))) = some r := H
          have A58 := Aside0.mk A580; clear A580
          replace H := Option.bind_eq_some_iff.mp H
          obtain ⟨t339, A590, H⟩ := H
          replace H : (if t338 ≥ t339 then (if t322 = 12 then (if t324 = (wrap64 (t319 + 1)) then (some (t325 == t320)) else (some false)) else (some true)) else (some false)) = some r := H
          have A59 := Aside0.mk A590; clear A590
          by_cases c60 : t338 ≥ t339
          ·rw [if_pos c60] at H
           have c60b0 : decide (t339 ≤ t338) = true := decide_eq_true c60
           clear c60
           by_cases c61 : t322 = 12
           ·rw [if_pos c61] at H
            have c61b0 : (t322 == 12) = true := beq_iff_eq.mpr c61
            have c61b1 : (t322 != 12) = false := bne_eq_false_iff_eq.mpr c61
            clear c61
            by_cases c62 : t324 = (wrap64 (t319 + 1))
            ·rw [if_pos c62] at H
             have c62b0 : (t324 == (wrap64 (t319 + 1))) = true := beq_iff_eq.mpr c62
             have c62b1 : (t324 != (wrap64 (t319 + 1))) = false := bne_eq_false_iff_eq.mpr c62
             clear c62
             obtain rfl := Option.some.inj H
             have hnb63 := NB327_323.out
             have hnc63 := NB323_327.out; have hcz64_0 : wc.cell? ⟨gb327, 0, none⟩ = some (.int .i64 t324) := (blk_cell BK327.out 0).trans rfl; have hcz64_1 : wc.cell? ⟨gb327, 1, none⟩ = some (.int .i64 t325) := (blk_cell BK327.out 1).trans rfl; have hcz64_2 : wc.cell? ⟨gb327, 2, none⟩ = some (.int .i64 t326) := (blk_cell BK327.out 2).trans rfl; have hfz64_0 := blk_frozen BK327.out 0; have hfz64_1 := blk_frozen BK327.out 1; have hfz64_2 := blk_frozen BK327.out 2
             try go_wp2_with (first | ((with_reducible refine gate_callee (f := 21) rfl ?_); refine goesL_ (some 56) rfl rfl Try.func21 (by kernel_rfl) rfl #[.int .i64 t324, .int .i64 t325] rfl (by (try simp only [List.map_toArray, List.map_cons, List.map_nil]); first | done | rfl | (simp only [List.length_drop, List.length_take]; rfl)) ?_; (with_reducible refine (impl_DayLast.calls t324 t325 t336 _ A53.out).mono ?_); rintro e w' ⟨rfl, ⟨nd, rfl⟩⟩; refine ⟨_, rfl, ?_⟩))
             (try (rw [drewN_self wc]; generalize hq_ : World.drewN wc _ = wc; have n0_ : Aside0 (wc.heap[gb323]? = some (.cells #[.int .i64 t319, .int .i64 t320, .int .i64 t321] 24 (0, 0))) := ⟨by rw [← hq_]; exact (by (with_reducible repeat (first | refine blk_drewN ?_ _ | refine blk_drew ?_ | refine blk_alloc ?_ _)); exact BK323.out)⟩; have n1_ : Aside0 (wc.heap[gb327]? = some (.cells #[.int .i64 t324, .int .i64 t325, .int .i64 t326] 24 (0, 0))) := ⟨by rw [← hq_]; exact (by (with_reducible repeat (first | refine blk_drewN ?_ _ | refine blk_drew ?_ | refine blk_alloc ?_ _)); exact BK327.out)⟩; have n2_ : Aside0 (Below w.heap.size w wc) := ⟨by rw [← hq_]; exact (by repeat (first | (with_reducible first | exact HB.out | apply below_alloc | apply pw_below_drewN | apply below_drew1 | refine below_set ?_ GE323.out | refine below_set ?_ GE327.out) | exact HB.out))⟩; clear BK323 BK327 HB hq_; have BK323 := n0_; have BK327 := n1_; have HB := n2_; clear n0_ n1_ n2_))
             have n0_ := Aside0.mk (blk_drew BK323.out); have n1_ := Aside0.mk (blk_drew BK327.out); have n2_ := Aside0.mk (below_drew1 HB.out); clear BK323; clear BK327; clear HB; have BK323 := n0_; have BK327 := n1_; have HB := n2_; clear n0_ n1_ n2_
             refine start_ (n := 65) (S := fun w' => w'.cell? ⟨gb327, 0, none⟩ = some (.int .i64 t324) ∧ w'.cell? ⟨gb327, 1, none⟩ = some (.int .i64 t325) ∧ w'.cell? ⟨gb327, 2, none⟩ = some (.int .i64 t326) ∧ w'.cell? ⟨gb323, 0, none⟩ = some (.int .i64 t319) ∧ w'.cell? ⟨gb323, 1, none⟩ = some (.int .i64 t320) ∧ w'.cell? ⟨gb323, 2, none⟩ = some (.int .i64 t321)) (ds := []) m6 (by kernel_rfl) rfl rfl ⟨(blk_cell BK327.out 0).trans rfl, (blk_cell BK327.out 1).trans rfl, (blk_cell BK327.out 2).trans rfl, (blk_cell BK323.out 0).trans rfl, (blk_cell BK323.out 1).trans rfl, (blk_cell BK323.out 2).trans rfl⟩ (fun hHeld => ?_); refine with_tabW laws_FnDayPlus.tab10 laws_FnDayPlus.bits10 (fun HT_ HW_ => ?_)
             generalize wc.drew = w65 at BK323 BK327 HB hHeld ⊢
             refine pw 0 57 m7 HT_ ?_
             refine pw 3 60 m8 HT_ ?_
             refine pw 6 63 m9 HT_ ?_
             refine pw 9 66 m10 HT_ ?_
             refine pw 12 69 m11 HT_ ?_
             refine pt 1 58 m12 rfl HT_ HW_ hHeld ?_ (Or.inl ⟨by rfl, by rintro w' ⟨s0, s1, s2, s3, s4, s5⟩; go_simp; with_reducible rfl⟩)
             refine pw 2 59 m13 HT_ ?_
             refine pt 4 61 m14 rfl HT_ HW_ hHeld ?_ (Or.inl ⟨by rfl, by rintro w' ⟨s0, s1, s2, s3, s4, s5⟩; go_simp; with_reducible rfl⟩)
             refine pw 5 62 m15 HT_ ?_
             refine pt 7 64 m16 rfl HT_ HW_ hHeld ?_ (Or.inl ⟨by rfl, by rintro w' ⟨s0, s1, s2, s3, s4, s5⟩; go_simp; with_reducible rfl⟩)
             refine pw 8 65 m17 HT_ ?_
             refine pt 10 67 m18 rfl HT_ HW_ hHeld ?_ (Or.inl ⟨by rfl, by rintro w' ⟨s0, s1, s2, s3, s4, s5⟩; go_simp; with_reducible rfl⟩)
             refine pw 11 68 m19 HT_ ?_
             refine pw 13 70 m20 HT_ ?_
             refine pw 14 71 m21 HT_ ?_
             refine pw 15 72 m22 HT_ ?_
             refine pw 16 73 m23 HT_ ?_
             refine pw 18 75 m24 HT_ ?_
             refine pt 17 74 m25 rfl HT_ HW_ hHeld ?_ (Or.inl ⟨by rfl, by rintro w' ⟨s0, s1, s2, s3, s4, s5⟩; go_simp; with_reducible rfl⟩)
             refine pt 19 76 m26 rfl HT_ HW_ hHeld ?_ (Or.inl ⟨by rfl, by rintro w' ⟨s0, s1, s2, s3, s4, s5⟩; go_simp; with_reducible rfl⟩)
             refine pw 20 77 m27 HT_ ?_
             refine pw 21 78 m28 HT_ ?_
             refine pu 22 79 m29 HT_ ?_
             refine pu 23 80 m30 HT_ ?_
             refine pu 24 81 m31 HT_ ?_
             refine pu 25 82 m32 HT_ ?_
             refine pu 26 83 m33 HT_ ?_
             refine pu 27 84 m34 HT_ ?_
             refine pu 28 85 m35 HT_ ?_
             refine pu 29 86 m36 HT_ ?_
             refine pu 30 87 m37 HT_ ?_
             refine pu 31 88 m38 HT_ ?_
             refine pw 32 89 m39 HT_ ?_
             refine pw 33 90 m40 HT_ ?_
             refine pw 34 91 m41 HT_ ?_
             refine pt 35 92 m42 rfl HT_ HW_ hHeld ?_ (Or.inl ⟨by rfl, by rintro w' ⟨s0, s1, s2, s3, s4, s5⟩; go_simp; with_reducible rfl⟩)
             refine one_ (i := 36) (N := some 93) m43 rfl rfl (one_of HT_.out (by kernel_rfl)) (by decide) (fun K hK => ?_)
             refine goes_ Try.func13 (by kernel_rfl) rfl #[.agg #[.int .i64 t324, .int .i64 t325, .int .i64 t326]] (by rfl) rfl rfl (by (try simp only [List.map_toArray, List.map_cons, List.map_nil]); first | done | rfl | (simp only [List.length_drop, List.length_take]; rfl)) ?_
             with_reducible refine (impl_DayOk.calls t324 t325 t326 true _ A56.out).mono ?_
             rintro e w66 ⟨rfl, hb⟩
             refine ⟨_, rfl, ?_⟩
             have n0_ := Aside0.mk (blk_below (g := gb323) (o := .cells #[.int .i64 t319, .int .i64 t320, .int .i64 t321] 24 (0, 0)) (by (with_reducible repeat (first | refine blk_drewN ?_ _ | refine blk_drew ?_ | refine blk_alloc ?_ _)); exact BK323.out) hb); have n1_ := Aside0.mk (blk_below (g := gb327) (o := .cells #[.int .i64 t324, .int .i64 t325, .int .i64 t326] 24 (0, 0)) (by (with_reducible repeat (first | refine blk_drewN ?_ _ | refine blk_drew ?_ | refine blk_alloc ?_ _)); exact BK327.out) hb); have n2_ := Aside0.mk (below_step (by repeat (first | (with_reducible first | exact HB.out | apply below_alloc | apply pw_below_drewN | apply below_drew1 | refine below_set ?_ GE323.out | refine below_set ?_ GE327.out) | exact HB.out)) hb); clear BK323; clear BK327; clear HB; have BK323 := n0_; have BK327 := n1_; have HB := n2_; clear n0_ n1_ n2_
             (try clear hb)
             (try clear hb2)
             (try clear hk)
             (try clear hi)
             refine hK.out _ _ ⟨(blk_cell BK327.out 0).trans rfl, (blk_cell BK327.out 1).trans rfl, (blk_cell BK327.out 2).trans rfl, (blk_cell BK323.out 0).trans rfl, (blk_cell BK323.out 1).trans rfl, (blk_cell BK323.out 2).trans rfl⟩ (fun hHeld => ?_)
             clear hK K
             refine norm_ (a' := ?_) ?_ ?_
             rotate_left
             ·show Act.put _ (some 93) _ = _
              simp only [Act.put, sA, s0, s1, i64_w, i32_w]
              rfl
             refine pw 37 94 m44 HT_ ?_
             refine pw 38 95 m45 HT_ ?_
             refine pt 39 96 m46 rfl HT_ HW_ hHeld ?_ (Or.inl ⟨by rfl, by rintro w' ⟨s0, s1, s2, s3, s4, s5⟩; go_simp; with_reducible rfl⟩)
             refine pt 41 98 m47 rfl HT_ HW_ hHeld ?_ (Or.inl ⟨by rfl, by rintro w' ⟨s0, s1, s2, s3, s4, s5⟩; go_simp; with_reducible rfl⟩)
             refine one_ (i := 40) (N := some 97) m48 rfl rfl (one_of HT_.out (by kernel_rfl)) (by decide) (fun K hK => ?_)
             refine goes_ Try.func14 (by kernel_rfl) rfl #[.agg #[.int .i64 t324, .int .i64 t325, .int .i64 t326]] (by rfl) rfl rfl (by (try simp only [List.map_toArray, List.map_cons, List.map_nil]); first | done | rfl | (simp only [List.length_drop, List.length_take]; rfl)) ?_
             with_reducible refine (impl_DayNum.calls kj18 t324 t325 t326 t338 _ A58.out).mono ?_
             rintro e w67 ⟨rfl, hb⟩
             refine ⟨_, rfl, ?_⟩
             have n0_ := Aside0.mk (blk_below (g := gb323) (o := .cells #[.int .i64 t319, .int .i64 t320, .int .i64 t321] 24 (0, 0)) (by (with_reducible repeat (first | refine blk_drewN ?_ _ | refine blk_drew ?_ | refine blk_alloc ?_ _)); exact BK323.out) hb); have n1_ := Aside0.mk (blk_below (g := gb327) (o := .cells #[.int .i64 t324, .int .i64 t325, .int .i64 t326] 24 (0, 0)) (by (with_reducible repeat (first | refine blk_drewN ?_ _ | refine blk_drew ?_ | refine blk_alloc ?_ _)); exact BK327.out) hb); have n2_ := Aside0.mk (below_step (by repeat (first | (with_reducible first | exact HB.out | apply below_alloc | apply pw_below_drewN | apply below_drew1 | refine below_set ?_ GE323.out | refine below_set ?_ GE327.out) | exact HB.out)) hb); clear BK323; clear BK327; clear HB; have BK323 := n0_; have BK327 := n1_; have HB := n2_; clear n0_ n1_ n2_
             (try clear hb)
             (try clear hb2)
             (try clear hk)
             (try clear hi)
             refine hK.out _ _ ⟨(blk_cell BK327.out 0).trans rfl, (blk_cell BK327.out 1).trans rfl, (blk_cell BK327.out 2).trans rfl, (blk_cell BK323.out 0).trans rfl, (blk_cell BK323.out 1).trans rfl, (blk_cell BK323.out 2).trans rfl⟩ (fun hHeld => ?_)
             clear hK K
             refine norm_ (a' := ?_) ?_ ?_
             rotate_left
             ·show Act.put _ (some 97) _ = _
              simp only [Act.put, sA, s0, s1, i64_w, i32_w]
              rfl
             refine one_ (i := 42) (N := some 99) m49 rfl rfl (one_of HT_.out (by kernel_rfl)) (by decide) (fun K hK => ?_)
             refine goes_ Try.func14 (by kernel_rfl) rfl #[.agg #[.int .i64 t319, .int .i64 t320, .int .i64 t321]] (by rfl) rfl rfl (by (try simp only [List.map_toArray, List.map_cons, List.map_nil]); first | done | rfl | (simp only [List.length_drop, List.length_take]; rfl)) ?_
             with_reducible refine (impl_DayNum.calls kj18 t319 t320 t321 t339 _ A59.out).mono ?_
             rintro e w68 ⟨rfl, hb⟩
             refine ⟨_, rfl, ?_⟩
             have n0_ := Aside0.mk (blk_below (g := gb323) (o := .cells #[.int .i64 t319, .int .i64 t320, .int .i64 t321] 24 (0, 0)) (by (with_reducible repeat (first | refine blk_drewN ?_ _ | refine blk_drew ?_ | refine blk_alloc ?_ _)); exact BK323.out) hb); have n1_ := Aside0.mk (blk_below (g := gb327) (o := .cells #[.int .i64 t324, .int .i64 t325, .int .i64 t326] 24 (0, 0)) (by (with_reducible repeat (first | refine blk_drewN ?_ _ | refine blk_drew ?_ | refine blk_alloc ?_ _)); exact BK327.out) hb); have n2_ := Aside0.mk (below_step (by repeat (first | (with_reducible first | exact HB.out | apply below_alloc | apply pw_below_drewN | apply below_drew1 | refine below_set ?_ GE323.out | refine below_set ?_ GE327.out) | exact HB.out)) hb); clear BK323; clear BK327; clear HB; have BK323 := n0_; have BK327 := n1_; have HB := n2_; clear n0_ n1_ n2_
             (try clear hb)
             (try clear hb2)
             (try clear hk)
             (try clear hi)
             refine hK.out _ _ ⟨(blk_cell BK327.out 0).trans rfl, (blk_cell BK327.out 1).trans rfl, (blk_cell BK327.out 2).trans rfl, (blk_cell BK323.out 0).trans rfl, (blk_cell BK323.out 1).trans rfl, (blk_cell BK323.out 2).trans rfl⟩ (fun hHeld => ?_)
             clear hK K
             refine norm_ (a' := ?_) ?_ ?_
             rotate_left
             ·show Act.put _ (some 99) _ = _
              simp only [Act.put, sA, s0, s1, i64_w, i32_w]
              rfl
             refine pw 43 100 m50 HT_ ?_
             refine pw 44 101 m51 HT_ ?_
             refine pw 45 102 m52 HT_ ?_
             refine pw 46 103 m53 HT_ ?_
             refine pw 47 104 m54 HT_ ?_
             refine pw 48 105 m55 HT_ ?_
             refine pw 49 106 m56 HT_ ?_
             refine pw 51 108 m57 HT_ ?_
             refine pt 50 107 m58 rfl HT_ HW_ hHeld ?_ (Or.inl ⟨by rfl, by rintro w' ⟨s0, s1, s2, s3, s4, s5⟩; go_simp; with_reducible rfl⟩)
             refine pt 52 109 m59 rfl HT_ HW_ hHeld ?_ (Or.inl ⟨by rfl, by rintro w' ⟨s0, s1, s2, s3, s4, s5⟩; go_simp; with_reducible rfl⟩)
             refine pw 53 110 m60 HT_ ?_
             refine pw 54 111 m61 HT_ ?_
             refine pw 55 112 m62 HT_ ?_
             refine pw 56 113 m63 HT_ ?_
             refine pw 58 115 m64 HT_ ?_
             refine pt 57 114 m65 rfl HT_ HW_ hHeld ?_ (Or.inl ⟨by rfl, by rintro w' ⟨s0, s1, s2, s3, s4, s5⟩; go_simp; with_reducible rfl⟩)
             refine pt 59 116 m66 rfl HT_ HW_ hHeld ?_ (Or.inl ⟨by rfl, by rintro w' ⟨s0, s1, s2, s3, s4, s5⟩; go_simp; with_reducible rfl⟩)
             refine pw 60 117 m67 HT_ ?_
             refine pw 61 118 m68 HT_ ?_
             refine pw 62 119 m69 HT_ ?_
             refine pw 63 120 m70 HT_ ?_
             refine pw 64 2 m71 HT_ ?_
             refine done_ (done_of HT_.out (by kernel_rfl)) ?_
             try go_wp2
             go_ret
             exact ⟨by first | rfl | (simp [errW_none, errW_some] <;> rfl) | (simp [*, errW_none, errW_some] <;> rfl), by repeat (first | (with_reducible first | exact HB.out | apply below_alloc | apply pw_below_drewN | apply below_drew1 | refine below_set ?_ GE323.out | refine below_set ?_ GE327.out) | exact HB.out)⟩
            ·rw [if_neg c62] at H
             have c62b0 : (t324 == (wrap64 (t319 + 1))) = false := beq_eq_false_iff_ne.mpr c62
             have c62b1 : (t324 != (wrap64 (t319 + 1))) = true := bne_iff_ne.mpr c62
             obtain rfl := Option.some.inj H
             have hnb69 := NB327_323.out
             have hnc69 := NB323_327.out; have hcz70_0 : wc.cell? ⟨gb327, 0, none⟩ = some (.int .i64 t324) := (blk_cell BK327.out 0).trans rfl; have hcz70_1 : wc.cell? ⟨gb327, 1, none⟩ = some (.int .i64 t325) := (blk_cell BK327.out 1).trans rfl; have hcz70_2 : wc.cell? ⟨gb327, 2, none⟩ = some (.int .i64 t326) := (blk_cell BK327.out 2).trans rfl; have hfz70_0 := blk_frozen BK327.out 0; have hfz70_1 := blk_frozen BK327.out 1; have hfz70_2 := blk_frozen BK327.out 2
             try go_wp2_with (first | ((with_reducible refine gate_callee (f := 21) rfl ?_); refine goesL_ (some 56) rfl rfl Try.func21 (by kernel_rfl) rfl #[.int .i64 t324, .int .i64 t325] rfl (by (try simp only [List.map_toArray, List.map_cons, List.map_nil]); first | done | rfl | (simp only [List.length_drop, List.length_take]; rfl)) ?_; (with_reducible refine (impl_DayLast.calls t324 t325 t336 _ A53.out).mono ?_); rintro e w' ⟨rfl, ⟨nd, rfl⟩⟩; refine ⟨_, rfl, ?_⟩))
             (try (rw [drewN_self wc]; generalize hq_ : World.drewN wc _ = wc; have n0_ : Aside0 (wc.heap[gb323]? = some (.cells #[.int .i64 t319, .int .i64 t320, .int .i64 t321] 24 (0, 0))) := ⟨by rw [← hq_]; exact (by (with_reducible repeat (first | refine blk_drewN ?_ _ | refine blk_drew ?_ | refine blk_alloc ?_ _)); exact BK323.out)⟩; have n1_ : Aside0 (wc.heap[gb327]? = some (.cells #[.int .i64 t324, .int .i64 t325, .int .i64 t326] 24 (0, 0))) := ⟨by rw [← hq_]; exact (by (with_reducible repeat (first | refine blk_drewN ?_ _ | refine blk_drew ?_ | refine blk_alloc ?_ _)); exact BK327.out)⟩; have n2_ : Aside0 (Below w.heap.size w wc) := ⟨by rw [← hq_]; exact (by repeat (first | (with_reducible first | exact HB.out | apply below_alloc | apply pw_below_drewN | apply below_drew1 | refine below_set ?_ GE323.out | refine below_set ?_ GE327.out) | exact HB.out))⟩; clear BK323 BK327 HB hq_; have BK323 := n0_; have BK327 := n1_; have HB := n2_; clear n0_ n1_ n2_))
             have n0_ := Aside0.mk (blk_drew BK323.out); have n1_ := Aside0.mk (blk_drew BK327.out); have n2_ := Aside0.mk (below_drew1 HB.out); clear BK323; clear BK327; clear HB; have BK323 := n0_; have BK327 := n1_; have HB := n2_; clear n0_ n1_ n2_
             refine start_ (n := 65) (S := fun w' => w'.cell? ⟨gb327, 0, none⟩ = some (.int .i64 t324) ∧ w'.cell? ⟨gb327, 1, none⟩ = some (.int .i64 t325) ∧ w'.cell? ⟨gb327, 2, none⟩ = some (.int .i64 t326) ∧ w'.cell? ⟨gb323, 0, none⟩ = some (.int .i64 t319) ∧ w'.cell? ⟨gb323, 1, none⟩ = some (.int .i64 t320) ∧ w'.cell? ⟨gb323, 2, none⟩ = some (.int .i64 t321)) (ds := []) m6 (by kernel_rfl) rfl rfl ⟨(blk_cell BK327.out 0).trans rfl, (blk_cell BK327.out 1).trans rfl, (blk_cell BK327.out 2).trans rfl, (blk_cell BK323.out 0).trans rfl, (blk_cell BK323.out 1).trans rfl, (blk_cell BK323.out 2).trans rfl⟩ (fun hHeld => ?_); refine with_tabW laws_FnDayPlus.tab10 laws_FnDayPlus.bits10 (fun HT_ HW_ => ?_)
             generalize wc.drew = w71 at BK323 BK327 HB hHeld ⊢
             refine pw 0 57 m7 HT_ ?_
             refine pw 3 60 m8 HT_ ?_
             refine pw 6 63 m9 HT_ ?_
             refine pw 9 66 m10 HT_ ?_
             refine pw 12 69 m11 HT_ ?_
             refine pt 1 58 m12 rfl HT_ HW_ hHeld ?_ (Or.inl ⟨by rfl, by rintro w' ⟨s0, s1, s2, s3, s4, s5⟩; go_simp; with_reducible rfl⟩)
             refine pw 2 59 m13 HT_ ?_
             refine pt 4 61 m14 rfl HT_ HW_ hHeld ?_ (Or.inl ⟨by rfl, by rintro w' ⟨s0, s1, s2, s3, s4, s5⟩; go_simp; with_reducible rfl⟩)
             refine pw 5 62 m15 HT_ ?_
             refine pt 7 64 m16 rfl HT_ HW_ hHeld ?_ (Or.inl ⟨by rfl, by rintro w' ⟨s0, s1, s2, s3, s4, s5⟩; go_simp; with_reducible rfl⟩)
             refine pw 8 65 m17 HT_ ?_
             refine pt 10 67 m18 rfl HT_ HW_ hHeld ?_ (Or.inl ⟨by rfl, by rintro w' ⟨s0, s1, s2, s3, s4, s5⟩; go_simp; with_reducible rfl⟩)
             refine pw 11 68 m19 HT_ ?_
             refine pw 13 70 m20 HT_ ?_
             refine pw 14 71 m21 HT_ ?_
             refine pw 15 72 m22 HT_ ?_
             refine pw 16 73 m23 HT_ ?_
             refine pw 18 75 m24 HT_ ?_
             refine pt 17 74 m25 rfl HT_ HW_ hHeld ?_ (Or.inl ⟨by rfl, by rintro w' ⟨s0, s1, s2, s3, s4, s5⟩; go_simp; with_reducible rfl⟩)
             refine pt 19 76 m26 rfl HT_ HW_ hHeld ?_ (Or.inl ⟨by rfl, by rintro w' ⟨s0, s1, s2, s3, s4, s5⟩; go_simp; with_reducible rfl⟩)
             refine pw 20 77 m27 HT_ ?_
             refine pw 21 78 m28 HT_ ?_
             refine pu 22 79 m29 HT_ ?_
             refine pu 23 80 m30 HT_ ?_
             refine pu 24 81 m31 HT_ ?_
             refine pu 25 82 m32 HT_ ?_
             refine pu 26 83 m33 HT_ ?_
             refine pu 27 84 m34 HT_ ?_
             refine pu 28 85 m35 HT_ ?_
             refine pu 29 86 m36 HT_ ?_
             refine pu 30 87 m37 HT_ ?_
             refine pu 31 88 m38 HT_ ?_
             refine pw 32 89 m39 HT_ ?_
             refine pw 33 90 m40 HT_ ?_
             refine pw 34 91 m41 HT_ ?_
             refine pt 35 92 m42 rfl HT_ HW_ hHeld ?_ (Or.inl ⟨by rfl, by rintro w' ⟨s0, s1, s2, s3, s4, s5⟩; go_simp; with_reducible rfl⟩)
             refine one_ (i := 36) (N := some 93) m43 rfl rfl (one_of HT_.out (by kernel_rfl)) (by decide) (fun K hK => ?_)
             refine goes_ Try.func13 (by kernel_rfl) rfl #[.agg #[.int .i64 t324, .int .i64 t325, .int .i64 t326]] (by rfl) rfl rfl (by (try simp only [List.map_toArray, List.map_cons, List.map_nil]); first | done | rfl | (simp only [List.length_drop, List.length_take]; rfl)) ?_
             with_reducible refine (impl_DayOk.calls t324 t325 t326 true _ A56.out).mono ?_
             rintro e w72 ⟨rfl, hb⟩
             refine ⟨_, rfl, ?_⟩
             have n0_ := Aside0.mk (blk_below (g := gb323) (o := .cells #[.int .i64 t319, .int .i64 t320, .int .i64 t321] 24 (0, 0)) (by (with_reducible repeat (first | refine blk_drewN ?_ _ | refine blk_drew ?_ | refine blk_alloc ?_ _)); exact BK323.out) hb); have n1_ := Aside0.mk (blk_below (g := gb327) (o := .cells #[.int .i64 t324, .int .i64 t325, .int .i64 t326] 24 (0, 0)) (by (with_reducible repeat (first | refine blk_drewN ?_ _ | refine blk_drew ?_ | refine blk_alloc ?_ _)); exact BK327.out) hb); have n2_ := Aside0.mk (below_step (by repeat (first | (with_reducible first | exact HB.out | apply below_alloc | apply pw_below_drewN | apply below_drew1 | refine below_set ?_ GE323.out | refine below_set ?_ GE327.out) | exact HB.out)) hb); clear BK323; clear BK327; clear HB; have BK323 := n0_; have BK327 := n1_; have HB := n2_; clear n0_ n1_ n2_
             (try clear hb)
             (try clear hb2)
             (try clear hk)
             (try clear hi)
             refine hK.out _ _ ⟨(blk_cell BK327.out 0).trans rfl, (blk_cell BK327.out 1).trans rfl, (blk_cell BK327.out 2).trans rfl, (blk_cell BK323.out 0).trans rfl, (blk_cell BK323.out 1).trans rfl, (blk_cell BK323.out 2).trans rfl⟩ (fun hHeld => ?_)
             clear hK K
             refine norm_ (a' := ?_) ?_ ?_
             rotate_left
             ·show Act.put _ (some 93) _ = _
              simp only [Act.put, sA, s0, s1, i64_w, i32_w]
              rfl
             refine pw 37 94 m44 HT_ ?_
             refine pw 38 95 m45 HT_ ?_
             refine pt 39 96 m46 rfl HT_ HW_ hHeld ?_ (Or.inl ⟨by rfl, by rintro w' ⟨s0, s1, s2, s3, s4, s5⟩; go_simp; with_reducible rfl⟩)
             refine pt 41 98 m47 rfl HT_ HW_ hHeld ?_ (Or.inl ⟨by rfl, by rintro w' ⟨s0, s1, s2, s3, s4, s5⟩; go_simp; with_reducible rfl⟩)
             refine one_ (i := 40) (N := some 97) m48 rfl rfl (one_of HT_.out (by kernel_rfl)) (by decide) (fun K hK => ?_)
             refine goes_ Try.func14 (by kernel_rfl) rfl #[.agg #[.int .i64 t324, .int .i64 t325, .int .i64 t326]] (by rfl) rfl rfl (by (try simp only [List.map_toArray, List.map_cons, List.map_nil]); first | done | rfl | (simp only [List.length_drop, List.length_take]; rfl)) ?_
             with_reducible refine (impl_DayNum.calls kj18 t324 t325 t326 t338 _ A58.out).mono ?_
             rintro e w73 ⟨rfl, hb⟩
             refine ⟨_, rfl, ?_⟩
             have n0_ := Aside0.mk (blk_below (g := gb323) (o := .cells #[.int .i64 t319, .int .i64 t320, .int .i64 t321] 24 (0, 0)) (by (with_reducible repeat (first | refine blk_drewN ?_ _ | refine blk_drew ?_ | refine blk_alloc ?_ _)); exact BK323.out) hb); have n1_ := Aside0.mk (blk_below (g := gb327) (o := .cells #[.int .i64 t324, .int .i64 t325, .int .i64 t326] 24 (0, 0)) (by (with_reducible repeat (first | refine blk_drewN ?_ _ | refine blk_drew ?_ | refine blk_alloc ?_ _)); exact BK327.out) hb); have n2_ := Aside0.mk (below_step (by repeat (first | (with_reducible first | exact HB.out | apply below_alloc | apply pw_below_drewN | apply below_drew1 | refine below_set ?_ GE323.out | refine below_set ?_ GE327.out) | exact HB.out)) hb); clear BK323; clear BK327; clear HB; have BK323 := n0_; have BK327 := n1_; have HB := n2_; clear n0_ n1_ n2_
             (try clear hb)
             (try clear hb2)
             (try clear hk)
             (try clear hi)
             refine hK.out _ _ ⟨(blk_cell BK327.out 0).trans rfl, (blk_cell BK327.out 1).trans rfl, (blk_cell BK327.out 2).trans rfl, (blk_cell BK323.out 0).trans rfl, (blk_cell BK323.out 1).trans rfl, (blk_cell BK323.out 2).trans rfl⟩ (fun hHeld => ?_)
             clear hK K
             refine norm_ (a' := ?_) ?_ ?_
             rotate_left
             ·show Act.put _ (some 97) _ = _
              simp only [Act.put, sA, s0, s1, i64_w, i32_w]
              rfl
             refine one_ (i := 42) (N := some 99) m49 rfl rfl (one_of HT_.out (by kernel_rfl)) (by decide) (fun K hK => ?_)
             refine goes_ Try.func14 (by kernel_rfl) rfl #[.agg #[.int .i64 t319, .int .i64 t320, .int .i64 t321]] (by rfl) rfl rfl (by (try simp only [List.map_toArray, List.map_cons, List.map_nil]); first | done | rfl | (simp only [List.length_drop, List.length_take]; rfl)) ?_
             with_reducible refine (impl_DayNum.calls kj18 t319 t320 t321 t339 _ A59.out).mono ?_
             rintro e w74 ⟨rfl, hb⟩
             refine ⟨_, rfl, ?_⟩
             have n0_ := Aside0.mk (blk_below (g := gb323) (o := .cells #[.int .i64 t319, .int .i64 t320, .int .i64 t321] 24 (0, 0)) (by (with_reducible repeat (first | refine blk_drewN ?_ _ | refine blk_drew ?_ | refine blk_alloc ?_ _)); exact BK323.out) hb); have n1_ := Aside0.mk (blk_below (g := gb327) (o := .cells #[.int .i64 t324, .int .i64 t325, .int .i64 t326] 24 (0, 0)) (by (with_reducible repeat (first | refine blk_drewN ?_ _ | refine blk_drew ?_ | refine blk_alloc ?_ _)); exact BK327.out) hb); have n2_ := Aside0.mk (below_step (by repeat (first | (with_reducible first | exact HB.out | apply below_alloc | apply pw_below_drewN | apply below_drew1 | refine below_set ?_ GE323.out | refine below_set ?_ GE327.out) | exact HB.out)) hb); clear BK323; clear BK327; clear HB; have BK323 := n0_; have BK327 := n1_; have HB := n2_; clear n0_ n1_ n2_
             (try clear hb)
             (try clear hb2)
             (try clear hk)
             (try clear hi)
             refine hK.out _ _ ⟨(blk_cell BK327.out 0).trans rfl, (blk_cell BK327.out 1).trans rfl, (blk_cell BK327.out 2).trans rfl, (blk_cell BK323.out 0).trans rfl, (blk_cell BK323.out 1).trans rfl, (blk_cell BK323.out 2).trans rfl⟩ (fun hHeld => ?_)
             clear hK K
             refine norm_ (a' := ?_) ?_ ?_
             rotate_left
             ·show Act.put _ (some 99) _ = _
              simp only [Act.put, sA, s0, s1, i64_w, i32_w]
              rfl
             refine pw 43 100 m50 HT_ ?_
             refine pw 44 101 m51 HT_ ?_
             refine pw 45 102 m52 HT_ ?_
             refine pw 46 103 m53 HT_ ?_
             refine pw 47 104 m54 HT_ ?_
             refine pw 48 105 m55 HT_ ?_
             refine pw 49 106 m56 HT_ ?_
             refine pw 51 108 m57 HT_ ?_
             refine pt 50 107 m58 rfl HT_ HW_ hHeld ?_ (Or.inl ⟨by rfl, by rintro w' ⟨s0, s1, s2, s3, s4, s5⟩; go_simp; with_reducible rfl⟩)
             refine pt 52 109 m59 rfl HT_ HW_ hHeld ?_ (Or.inl ⟨by rfl, by rintro w' ⟨s0, s1, s2, s3, s4, s5⟩; go_simp; with_reducible rfl⟩)
             refine pw 53 110 m60 HT_ ?_
             refine pw 54 111 m61 HT_ ?_
             refine pw 55 112 m62 HT_ ?_
             refine pu 56 113 m63 HT_ ?_
             refine pu 57 114 m72 HT_ ?_
             refine pu 58 115 m65 HT_ ?_
             refine pu 59 116 m66 HT_ ?_
             refine pu 60 117 m67 HT_ ?_
             refine pw 61 118 m68 HT_ ?_
             refine pw 62 119 m69 HT_ ?_
             refine pw 63 120 m70 HT_ ?_
             refine pw 64 2 m71 HT_ ?_
             refine done_ (done_of HT_.out (by kernel_rfl)) ?_
             try go_wp2
             go_ret
             exact ⟨by first | rfl | (simp [errW_none, errW_some] <;> rfl) | (simp [*, errW_none, errW_some] <;> rfl), by repeat (first | (with_reducible first | exact HB.out | apply below_alloc | apply pw_below_drewN | apply below_drew1 | refine below_set ?_ GE323.out | refine below_set ?_ GE327.out) | exact HB.out)⟩
           ·rw [if_neg c61] at H
            have c61b0 : (t322 == 12) = false := beq_eq_false_iff_ne.mpr c61
            have c61b1 : (t322 != 12) = true := bne_iff_ne.mpr c61
            obtain rfl := Option.some.inj H
            have hnb75 := NB327_323.out
            have hnc75 := NB323_327.out; have hcz76_0 : wc.cell? ⟨gb327, 0, none⟩ = some (.int .i64 t324) := (blk_cell BK327.out 0).trans rfl; have hcz76_1 : wc.cell? ⟨gb327, 1, none⟩ = some (.int .i64 t325) := (blk_cell BK327.out 1).trans rfl; have hcz76_2 : wc.cell? ⟨gb327, 2, none⟩ = some (.int .i64 t326) := (blk_cell BK327.out 2).trans rfl; have hfz76_0 := blk_frozen BK327.out 0; have hfz76_1 := blk_frozen BK327.out 1; have hfz76_2 := blk_frozen BK327.out 2
            try go_wp2_with (first | ((with_reducible refine gate_callee (f := 21) rfl ?_); refine goesL_ (some 56) rfl rfl Try.func21 (by kernel_rfl) rfl #[.int .i64 t324, .int .i64 t325] rfl (by (try simp only [List.map_toArray, List.map_cons, List.map_nil]); first | done | rfl | (simp only [List.length_drop, List.length_take]; rfl)) ?_; (with_reducible refine (impl_DayLast.calls t324 t325 t336 _ A53.out).mono ?_); rintro e w' ⟨rfl, ⟨nd, rfl⟩⟩; refine ⟨_, rfl, ?_⟩))
            (try (rw [drewN_self wc]; generalize hq_ : World.drewN wc _ = wc; have n0_ : Aside0 (wc.heap[gb323]? = some (.cells #[.int .i64 t319, .int .i64 t320, .int .i64 t321] 24 (0, 0))) := ⟨by rw [← hq_]; exact (by (with_reducible repeat (first | refine blk_drewN ?_ _ | refine blk_drew ?_ | refine blk_alloc ?_ _)); exact BK323.out)⟩; have n1_ : Aside0 (wc.heap[gb327]? = some (.cells #[.int .i64 t324, .int .i64 t325, .int .i64 t326] 24 (0, 0))) := ⟨by rw [← hq_]; exact (by (with_reducible repeat (first | refine blk_drewN ?_ _ | refine blk_drew ?_ | refine blk_alloc ?_ _)); exact BK327.out)⟩; have n2_ : Aside0 (Below w.heap.size w wc) := ⟨by rw [← hq_]; exact (by repeat (first | (with_reducible first | exact HB.out | apply below_alloc | apply pw_below_drewN | apply below_drew1 | refine below_set ?_ GE323.out | refine below_set ?_ GE327.out) | exact HB.out))⟩; clear BK323 BK327 HB hq_; have BK323 := n0_; have BK327 := n1_; have HB := n2_; clear n0_ n1_ n2_))
            have n0_ := Aside0.mk (blk_drew BK323.out); have n1_ := Aside0.mk (blk_drew BK327.out); have n2_ := Aside0.mk (below_drew1 HB.out); clear BK323; clear BK327; clear HB; have BK323 := n0_; have BK327 := n1_; have HB := n2_; clear n0_ n1_ n2_
            refine start_ (n := 65) (S := fun w' => w'.cell? ⟨gb327, 0, none⟩ = some (.int .i64 t324) ∧ w'.cell? ⟨gb327, 1, none⟩ = some (.int .i64 t325) ∧ w'.cell? ⟨gb327, 2, none⟩ = some (.int .i64 t326) ∧ w'.cell? ⟨gb323, 0, none⟩ = some (.int .i64 t319) ∧ w'.cell? ⟨gb323, 1, none⟩ = some (.int .i64 t320) ∧ w'.cell? ⟨gb323, 2, none⟩ = some (.int .i64 t321)) (ds := []) m6 (by kernel_rfl) rfl rfl ⟨(blk_cell BK327.out 0).trans rfl, (blk_cell BK327.out 1).trans rfl, (blk_cell BK327.out 2).trans rfl, (blk_cell BK323.out 0).trans rfl, (blk_cell BK323.out 1).trans rfl, (blk_cell BK323.out 2).trans rfl⟩ (fun hHeld => ?_); refine with_tabW laws_FnDayPlus.tab10 laws_FnDayPlus.bits10 (fun HT_ HW_ => ?_)
            generalize wc.drew = w77 at BK323 BK327 HB hHeld ⊢
            refine pw 0 57 m7 HT_ ?_
            refine pw 3 60 m8 HT_ ?_
            refine pw 6 63 m9 HT_ ?_
            refine pw 9 66 m10 HT_ ?_
            refine pw 12 69 m11 HT_ ?_
            refine pt 1 58 m12 rfl HT_ HW_ hHeld ?_ (Or.inl ⟨by rfl, by rintro w' ⟨s0, s1, s2, s3, s4, s5⟩; go_simp; with_reducible rfl⟩)
            refine pw 2 59 m13 HT_ ?_
            refine pt 4 61 m14 rfl HT_ HW_ hHeld ?_ (Or.inl ⟨by rfl, by rintro w' ⟨s0, s1, s2, s3, s4, s5⟩; go_simp; with_reducible rfl⟩)
            refine pw 5 62 m15 HT_ ?_
            refine pt 7 64 m16 rfl HT_ HW_ hHeld ?_ (Or.inl ⟨by rfl, by rintro w' ⟨s0, s1, s2, s3, s4, s5⟩; go_simp; with_reducible rfl⟩)
            refine pw 8 65 m17 HT_ ?_
            refine pt 10 67 m18 rfl HT_ HW_ hHeld ?_ (Or.inl ⟨by rfl, by rintro w' ⟨s0, s1, s2, s3, s4, s5⟩; go_simp; with_reducible rfl⟩)
            refine pw 11 68 m19 HT_ ?_
            refine pw 13 70 m20 HT_ ?_
            refine pw 14 71 m21 HT_ ?_
            refine pw 15 72 m22 HT_ ?_
            refine pw 16 73 m23 HT_ ?_
            refine pw 18 75 m24 HT_ ?_
            refine pt 17 74 m25 rfl HT_ HW_ hHeld ?_ (Or.inl ⟨by rfl, by rintro w' ⟨s0, s1, s2, s3, s4, s5⟩; go_simp; with_reducible rfl⟩)
            refine pt 19 76 m26 rfl HT_ HW_ hHeld ?_ (Or.inl ⟨by rfl, by rintro w' ⟨s0, s1, s2, s3, s4, s5⟩; go_simp; with_reducible rfl⟩)
            refine pw 20 77 m27 HT_ ?_
            refine pw 21 78 m28 HT_ ?_
            refine pu 22 79 m29 HT_ ?_
            refine pu 23 80 m30 HT_ ?_
            refine pu 24 81 m31 HT_ ?_
            refine pu 25 82 m32 HT_ ?_
            refine pu 26 83 m33 HT_ ?_
            refine pu 27 84 m34 HT_ ?_
            refine pu 28 85 m35 HT_ ?_
            refine pu 29 86 m36 HT_ ?_
            refine pu 30 87 m37 HT_ ?_
            refine pu 31 88 m38 HT_ ?_
            refine pw 32 89 m39 HT_ ?_
            refine pw 33 90 m40 HT_ ?_
            refine pw 34 91 m41 HT_ ?_
            refine pt 35 92 m42 rfl HT_ HW_ hHeld ?_ (Or.inl ⟨by rfl, by rintro w' ⟨s0, s1, s2, s3, s4, s5⟩; go_simp; with_reducible rfl⟩)
            refine one_ (i := 36) (N := some 93) m43 rfl rfl (one_of HT_.out (by kernel_rfl)) (by decide) (fun K hK => ?_)
            refine goes_ Try.func13 (by kernel_rfl) rfl #[.agg #[.int .i64 t324, .int .i64 t325, .int .i64 t326]] (by rfl) rfl rfl (by (try simp only [List.map_toArray, List.map_cons, List.map_nil]); first | done | rfl | (simp only [List.length_drop, List.length_take]; rfl)) ?_
            with_reducible refine (impl_DayOk.calls t324 t325 t326 true _ A56.out).mono ?_
            rintro e w78 ⟨rfl, hb⟩
            refine ⟨_, rfl, ?_⟩
            have n0_ := Aside0.mk (blk_below (g := gb323) (o := .cells #[.int .i64 t319, .int .i64 t320, .int .i64 t321] 24 (0, 0)) (by (with_reducible repeat (first | refine blk_drewN ?_ _ | refine blk_drew ?_ | refine blk_alloc ?_ _)); exact BK323.out) hb); have n1_ := Aside0.mk (blk_below (g := gb327) (o := .cells #[.int .i64 t324, .int .i64 t325, .int .i64 t326] 24 (0, 0)) (by (with_reducible repeat (first | refine blk_drewN ?_ _ | refine blk_drew ?_ | refine blk_alloc ?_ _)); exact BK327.out) hb); have n2_ := Aside0.mk (below_step (by repeat (first | (with_reducible first | exact HB.out | apply below_alloc | apply pw_below_drewN | apply below_drew1 | refine below_set ?_ GE323.out | refine below_set ?_ GE327.out) | exact HB.out)) hb); clear BK323; clear BK327; clear HB; have BK323 := n0_; have BK327 := n1_; have HB := n2_; clear n0_ n1_ n2_
            (try clear hb)
            (try clear hb2)
            (try clear hk)
            (try clear hi)
            refine hK.out _ _ ⟨(blk_cell BK327.out 0).trans rfl, (blk_cell BK327.out 1).trans rfl, (blk_cell BK327.out 2).trans rfl, (blk_cell BK323.out 0).trans rfl, (blk_cell BK323.out 1).trans rfl, (blk_cell BK323.out 2).trans rfl⟩ (fun hHeld => ?_)
            clear hK K
            refine norm_ (a' := ?_) ?_ ?_
            rotate_left
            ·show Act.put _ (some 93) _ = _
             simp only [Act.put, sA, s0, s1, i64_w, i32_w]
             rfl
            refine pw 37 94 m44 HT_ ?_
            refine pw 38 95 m45 HT_ ?_
            refine pt 39 96 m46 rfl HT_ HW_ hHeld ?_ (Or.inl ⟨by rfl, by rintro w' ⟨s0, s1, s2, s3, s4, s5⟩; go_simp; with_reducible rfl⟩)
            refine pt 41 98 m47 rfl HT_ HW_ hHeld ?_ (Or.inl ⟨by rfl, by rintro w' ⟨s0, s1, s2, s3, s4, s5⟩; go_simp; with_reducible rfl⟩)
            refine one_ (i := 40) (N := some 97) m48 rfl rfl (one_of HT_.out (by kernel_rfl)) (by decide) (fun K hK => ?_)
            refine goes_ Try.func14 (by kernel_rfl) rfl #[.agg #[.int .i64 t324, .int .i64 t325, .int .i64 t326]] (by rfl) rfl rfl (by (try simp only [List.map_toArray, List.map_cons, List.map_nil]); first | done | rfl | (simp only [List.length_drop, List.length_take]; rfl)) ?_
            with_reducible refine (impl_DayNum.calls kj18 t324 t325 t326 t338 _ A58.out).mono ?_
            rintro e w79 ⟨rfl, hb⟩
            refine ⟨_, rfl, ?_⟩
            have n0_ := Aside0.mk (blk_below (g := gb323) (o := .cells #[.int .i64 t319, .int .i64 t320, .int .i64 t321] 24 (0, 0)) (by (with_reducible repeat (first | refine blk_drewN ?_ _ | refine blk_drew ?_ | refine blk_alloc ?_ _)); exact BK323.out) hb); have n1_ := Aside0.mk (blk_below (g := gb327) (o := .cells #[.int .i64 t324, .int .i64 t325, .int .i64 t326] 24 (0, 0)) (by (with_reducible repeat (first | refine blk_drewN ?_ _ | refine blk_drew ?_ | refine blk_alloc ?_ _)); exact BK327.out) hb); have n2_ := Aside0.mk (below_step (by repeat (first | (with_reducible first | exact HB.out | apply below_alloc | apply pw_below_drewN | apply below_drew1 | refine below_set ?_ GE323.out | refine below_set ?_ GE327.out) | exact HB.out)) hb); clear BK323; clear BK327; clear HB; have BK323 := n0_; have BK327 := n1_; have HB := n2_; clear n0_ n1_ n2_
            (try clear hb)
            (try clear hb2)
            (try clear hk)
            (try clear hi)
            refine hK.out _ _ ⟨(blk_cell BK327.out 0).trans rfl, (blk_cell BK327.out 1).trans rfl, (blk_cell BK327.out 2).trans rfl, (blk_cell BK323.out 0).trans rfl, (blk_cell BK323.out 1).trans rfl, (blk_cell BK323.out 2).trans rfl⟩ (fun hHeld => ?_)
            clear hK K
            refine norm_ (a' := ?_) ?_ ?_
            rotate_left
            ·show Act.put _ (some 97) _ = _
             simp only [Act.put, sA, s0, s1, i64_w, i32_w]
             rfl
            refine one_ (i := 42) (N := some 99) m49 rfl rfl (one_of HT_.out (by kernel_rfl)) (by decide) (fun K hK => ?_)
            refine goes_ Try.func14 (by kernel_rfl) rfl #[.agg #[.int .i64 t319, .int .i64 t320, .int .i64 t321]] (by rfl) rfl rfl (by (try simp only [List.map_toArray, List.map_cons, List.map_nil]); first | done | rfl | (simp only [List.length_drop, List.length_take]; rfl)) ?_
            with_reducible refine (impl_DayNum.calls kj18 t319 t320 t321 t339 _ A59.out).mono ?_
            rintro e w80 ⟨rfl, hb⟩
            refine ⟨_, rfl, ?_⟩
            have n0_ := Aside0.mk (blk_below (g := gb323) (o := .cells #[.int .i64 t319, .int .i64 t320, .int .i64 t321] 24 (0, 0)) (by (with_reducible repeat (first | refine blk_drewN ?_ _ | refine blk_drew ?_ | refine blk_alloc ?_ _)); exact BK323.out) hb); have n1_ := Aside0.mk (blk_below (g := gb327) (o := .cells #[.int .i64 t324, .int .i64 t325, .int .i64 t326] 24 (0, 0)) (by (with_reducible repeat (first | refine blk_drewN ?_ _ | refine blk_drew ?_ | refine blk_alloc ?_ _)); exact BK327.out) hb); have n2_ := Aside0.mk (below_step (by repeat (first | (with_reducible first | exact HB.out | apply below_alloc | apply pw_below_drewN | apply below_drew1 | refine below_set ?_ GE323.out | refine below_set ?_ GE327.out) | exact HB.out)) hb); clear BK323; clear BK327; clear HB; have BK323 := n0_; have BK327 := n1_; have HB := n2_; clear n0_ n1_ n2_
            (try clear hb)
            (try clear hb2)
            (try clear hk)
            (try clear hi)
            refine hK.out _ _ ⟨(blk_cell BK327.out 0).trans rfl, (blk_cell BK327.out 1).trans rfl, (blk_cell BK327.out 2).trans rfl, (blk_cell BK323.out 0).trans rfl, (blk_cell BK323.out 1).trans rfl, (blk_cell BK323.out 2).trans rfl⟩ (fun hHeld => ?_)
            clear hK K
            refine norm_ (a' := ?_) ?_ ?_
            rotate_left
            ·show Act.put _ (some 99) _ = _
             simp only [Act.put, sA, s0, s1, i64_w, i32_w]
             rfl
            refine pw 43 100 m50 HT_ ?_
            refine pw 44 101 m51 HT_ ?_
            refine pw 45 102 m52 HT_ ?_
            refine pw 46 103 m53 HT_ ?_
            refine pw 47 104 m54 HT_ ?_
            refine pw 48 105 m55 HT_ ?_
            refine pu 49 106 m56 HT_ ?_
            refine pu 50 107 m73 HT_ ?_
            refine pu 51 108 m58 HT_ ?_
            refine pu 52 109 m59 HT_ ?_
            refine pu 53 110 m60 HT_ ?_
            refine pu 54 111 m61 HT_ ?_
            refine pu 55 112 m62 HT_ ?_
            refine pu 56 113 m63 HT_ ?_
            refine pu 57 114 m72 HT_ ?_
            refine pu 58 115 m65 HT_ ?_
            refine pu 59 116 m66 HT_ ?_
            refine pu 60 117 m67 HT_ ?_
            refine pu 61 118 m68 HT_ ?_
            refine pw 62 119 m69 HT_ ?_
            refine pw 63 120 m70 HT_ ?_
            refine pw 64 2 m71 HT_ ?_
            refine done_ (done_of HT_.out (by kernel_rfl)) ?_
            try go_wp2
            go_ret
            exact ⟨by first | rfl | (simp [errW_none, errW_some] <;> rfl) | (simp [*, errW_none, errW_some] <;> rfl), by repeat (first | (with_reducible first | exact HB.out | apply below_alloc | apply pw_below_drewN | apply below_drew1 | refine below_set ?_ GE323.out | refine below_set ?_ GE327.out) | exact HB.out)⟩
          ·rw [if_neg c60] at H
           have c60b0 : decide (t339 ≤ t338) = false := decide_eq_false c60
           clear c60
           obtain rfl := Option.some.inj H
           have hnb81 := NB327_323.out
           have hnc81 := NB323_327.out; have hcz82_0 : wc.cell? ⟨gb327, 0, none⟩ = some (.int .i64 t324) := (blk_cell BK327.out 0).trans rfl; have hcz82_1 : wc.cell? ⟨gb327, 1, none⟩ = some (.int .i64 t325) := (blk_cell BK327.out 1).trans rfl; have hcz82_2 : wc.cell? ⟨gb327, 2, none⟩ = some (.int .i64 t326) := (blk_cell BK327.out 2).trans rfl; have hfz82_0 := blk_frozen BK327.out 0; have hfz82_1 := blk_frozen BK327.out 1; have hfz82_2 := blk_frozen BK327.out 2
           try go_wp2_with (first | ((with_reducible refine gate_callee (f := 21) rfl ?_); refine goesL_ (some 56) rfl rfl Try.func21 (by kernel_rfl) rfl #[.int .i64 t324, .int .i64 t325] rfl (by (try simp only [List.map_toArray, List.map_cons, List.map_nil]); first | done | rfl | (simp only [List.length_drop, List.length_take]; rfl)) ?_; (with_reducible refine (impl_DayLast.calls t324 t325 t336 _ A53.out).mono ?_); rintro e w' ⟨rfl, ⟨nd, rfl⟩⟩; refine ⟨_, rfl, ?_⟩))
           (try (rw [drewN_self wc]; generalize hq_ : World.drewN wc _ = wc; have n0_ : Aside0 (wc.heap[gb323]? = some (.cells #[.int .i64 t319, .int .i64 t320, .int .i64 t321] 24 (0, 0))) := ⟨by rw [← hq_]; exact (by (with_reducible repeat (first | refine blk_drewN ?_ _ | refine blk_drew ?_ | refine blk_alloc ?_ _)); exact BK323.out)⟩; have n1_ : Aside0 (wc.heap[gb327]? = some (.cells #[.int .i64 t324, .int .i64 t325, .int .i64 t326] 24 (0, 0))) := ⟨by rw [← hq_]; exact (by (with_reducible repeat (first | refine blk_drewN ?_ _ | refine blk_drew ?_ | refine blk_alloc ?_ _)); exact BK327.out)⟩; have n2_ : Aside0 (Below w.heap.size w wc) := ⟨by rw [← hq_]; exact (by repeat (first | (with_reducible first | exact HB.out | apply below_alloc | apply pw_below_drewN | apply below_drew1 | refine below_set ?_ GE323.out | refine below_set ?_ GE327.out) | exact HB.out))⟩; clear BK323 BK327 HB hq_; have BK323 := n0_; have BK327 := n1_; have HB := n2_; clear n0_ n1_ n2_))
           have n0_ := Aside0.mk (blk_drew BK323.out); have n1_ := Aside0.mk (blk_drew BK327.out); have n2_ := Aside0.mk (below_drew1 HB.out); clear BK323; clear BK327; clear HB; have BK323 := n0_; have BK327 := n1_; have HB := n2_; clear n0_ n1_ n2_
           refine start_ (n := 65) (S := fun w' => w'.cell? ⟨gb327, 0, none⟩ = some (.int .i64 t324) ∧ w'.cell? ⟨gb327, 1, none⟩ = some (.int .i64 t325) ∧ w'.cell? ⟨gb327, 2, none⟩ = some (.int .i64 t326) ∧ w'.cell? ⟨gb323, 0, none⟩ = some (.int .i64 t319) ∧ w'.cell? ⟨gb323, 1, none⟩ = some (.int .i64 t320) ∧ w'.cell? ⟨gb323, 2, none⟩ = some (.int .i64 t321)) (ds := []) m6 (by kernel_rfl) rfl rfl ⟨(blk_cell BK327.out 0).trans rfl, (blk_cell BK327.out 1).trans rfl, (blk_cell BK327.out 2).trans rfl, (blk_cell BK323.out 0).trans rfl, (blk_cell BK323.out 1).trans rfl, (blk_cell BK323.out 2).trans rfl⟩ (fun hHeld => ?_); refine with_tabW laws_FnDayPlus.tab10 laws_FnDayPlus.bits10 (fun HT_ HW_ => ?_)
           generalize wc.drew = w83 at BK323 BK327 HB hHeld ⊢
           refine pw 0 57 m7 HT_ ?_
           refine pw 3 60 m8 HT_ ?_
           refine pw 6 63 m9 HT_ ?_
           refine pw 9 66 m10 HT_ ?_
           refine pw 12 69 m11 HT_ ?_
           refine pt 1 58 m12 rfl HT_ HW_ hHeld ?_ (Or.inl ⟨by rfl, by rintro w' ⟨s0, s1, s2, s3, s4, s5⟩; go_simp; with_reducible rfl⟩)
           refine pw 2 59 m13 HT_ ?_
           refine pt 4 61 m14 rfl HT_ HW_ hHeld ?_ (Or.inl ⟨by rfl, by rintro w' ⟨s0, s1, s2, s3, s4, s5⟩; go_simp; with_reducible rfl⟩)
           refine pw 5 62 m15 HT_ ?_
           refine pt 7 64 m16 rfl HT_ HW_ hHeld ?_ (Or.inl ⟨by rfl, by rintro w' ⟨s0, s1, s2, s3, s4, s5⟩; go_simp; with_reducible rfl⟩)
           refine pw 8 65 m17 HT_ ?_
           refine pt 10 67 m18 rfl HT_ HW_ hHeld ?_ (Or.inl ⟨by rfl, by rintro w' ⟨s0, s1, s2, s3, s4, s5⟩; go_simp; with_reducible rfl⟩)
           refine pw 11 68 m19 HT_ ?_
           refine pw 13 70 m20 HT_ ?_
           refine pw 14 71 m21 HT_ ?_
           refine pw 15 72 m22 HT_ ?_
           refine pw 16 73 m23 HT_ ?_
           refine pw 18 75 m24 HT_ ?_
           refine pt 17 74 m25 rfl HT_ HW_ hHeld ?_ (Or.inl ⟨by rfl, by rintro w' ⟨s0, s1, s2, s3, s4, s5⟩; go_simp; with_reducible rfl⟩)
           refine pt 19 76 m26 rfl HT_ HW_ hHeld ?_ (Or.inl ⟨by rfl, by rintro w' ⟨s0, s1, s2, s3, s4, s5⟩; go_simp; with_reducible rfl⟩)
           refine pw 20 77 m27 HT_ ?_
           refine pw 21 78 m28 HT_ ?_
           refine pu 22 79 m29 HT_ ?_
           refine pu 23 80 m30 HT_ ?_
           refine pu 24 81 m31 HT_ ?_
           refine pu 25 82 m32 HT_ ?_
           refine pu 26 83 m33 HT_ ?_
           refine pu 27 84 m34 HT_ ?_
           refine pu 28 85 m35 HT_ ?_
           refine pu 29 86 m36 HT_ ?_
           refine pu 30 87 m37 HT_ ?_
           refine pu 31 88 m38 HT_ ?_
           refine pw 32 89 m39 HT_ ?_
           refine pw 33 90 m40 HT_ ?_
           refine pw 34 91 m41 HT_ ?_
           refine pt 35 92 m42 rfl HT_ HW_ hHeld ?_ (Or.inl ⟨by rfl, by rintro w' ⟨s0, s1, s2, s3, s4, s5⟩; go_simp; with_reducible rfl⟩)
           refine one_ (i := 36) (N := some 93) m43 rfl rfl (one_of HT_.out (by kernel_rfl)) (by decide) (fun K hK => ?_)
           refine goes_ Try.func13 (by kernel_rfl) rfl #[.agg #[.int .i64 t324, .int .i64 t325, .int .i64 t326]] (by rfl) rfl rfl (by (try simp only [List.map_toArray, List.map_cons, List.map_nil]); first | done | rfl | (simp only [List.length_drop, List.length_take]; rfl)) ?_
           with_reducible refine (impl_DayOk.calls t324 t325 t326 true _ A56.out).mono ?_
           rintro e w84 ⟨rfl, hb⟩
           refine ⟨_, rfl, ?_⟩
           have n0_ := Aside0.mk (blk_below (g := gb323) (o := .cells #[.int .i64 t319, .int .i64 t320, .int .i64 t321] 24 (0, 0)) (by (with_reducible repeat (first | refine blk_drewN ?_ _ | refine blk_drew ?_ | refine blk_alloc ?_ _)); exact BK323.out) hb); have n1_ := Aside0.mk (blk_below (g := gb327) (o := .cells #[.int .i64 t324, .int .i64 t325, .int .i64 t326] 24 (0, 0)) (by (with_reducible repeat (first | refine blk_drewN ?_ _ | refine blk_drew ?_ | refine blk_alloc ?_ _)); exact BK327.out) hb); have n2_ := Aside0.mk (below_step (by repeat (first | (with_reducible first | exact HB.out | apply below_alloc | apply pw_below_drewN | apply below_drew1 | refine below_set ?_ GE323.out | refine below_set ?_ GE327.out) | exact HB.out)) hb); clear BK323; clear BK327; clear HB; have BK323 := n0_; have BK327 := n1_; have HB := n2_; clear n0_ n1_ n2_
           (try clear hb)
           (try clear hb2)
           (try clear hk)
           (try clear hi)
           refine hK.out _ _ ⟨(blk_cell BK327.out 0).trans rfl, (blk_cell BK327.out 1).trans rfl, (blk_cell BK327.out 2).trans rfl, (blk_cell BK323.out 0).trans rfl, (blk_cell BK323.out 1).trans rfl, (blk_cell BK323.out 2).trans rfl⟩ (fun hHeld => ?_)
           clear hK K
           refine norm_ (a' := ?_) ?_ ?_
           rotate_left
           ·show Act.put _ (some 93) _ = _
            simp only [Act.put, sA, s0, s1, i64_w, i32_w]
            rfl
           refine pw 37 94 m44 HT_ ?_
           refine pw 38 95 m45 HT_ ?_
           refine pt 39 96 m46 rfl HT_ HW_ hHeld ?_ (Or.inl ⟨by rfl, by rintro w' ⟨s0, s1, s2, s3, s4, s5⟩; go_simp; with_reducible rfl⟩)
           refine pt 41 98 m47 rfl HT_ HW_ hHeld ?_ (Or.inl ⟨by rfl, by rintro w' ⟨s0, s1, s2, s3, s4, s5⟩; go_simp; with_reducible rfl⟩)
           refine one_ (i := 40) (N := some 97) m48 rfl rfl (one_of HT_.out (by kernel_rfl)) (by decide) (fun K hK => ?_)
           refine goes_ Try.func14 (by kernel_rfl) rfl #[.agg #[.int .i64 t324, .int .i64 t325, .int .i64 t326]] (by rfl) rfl rfl (by (try simp only [List.map_toArray, List.map_cons, List.map_nil]); first | done | rfl | (simp only [List.length_drop, List.length_take]; rfl)) ?_
           with_reducible refine (impl_DayNum.calls kj18 t324 t325 t326 t338 _ A58.out).mono ?_
           rintro e w85 ⟨rfl, hb⟩
           refine ⟨_, rfl, ?_⟩
           have n0_ := Aside0.mk (blk_below (g := gb323) (o := .cells #[.int .i64 t319, .int .i64 t320, .int .i64 t321] 24 (0, 0)) (by (with_reducible repeat (first | refine blk_drewN ?_ _ | refine blk_drew ?_ | refine blk_alloc ?_ _)); exact BK323.out) hb); have n1_ := Aside0.mk (blk_below (g := gb327) (o := .cells #[.int .i64 t324, .int .i64 t325, .int .i64 t326] 24 (0, 0)) (by (with_reducible repeat (first | refine blk_drewN ?_ _ | refine blk_drew ?_ | refine blk_alloc ?_ _)); exact BK327.out) hb); have n2_ := Aside0.mk (below_step (by repeat (first | (with_reducible first | exact HB.out | apply below_alloc | apply pw_below_drewN | apply below_drew1 | refine below_set ?_ GE323.out | refine below_set ?_ GE327.out) | exact HB.out)) hb); clear BK323; clear BK327; clear HB; have BK323 := n0_; have BK327 := n1_; have HB := n2_; clear n0_ n1_ n2_
           (try clear hb)
           (try clear hb2)
           (try clear hk)
           (try clear hi)
           refine hK.out _ _ ⟨(blk_cell BK327.out 0).trans rfl, (blk_cell BK327.out 1).trans rfl, (blk_cell BK327.out 2).trans rfl, (blk_cell BK323.out 0).trans rfl, (blk_cell BK323.out 1).trans rfl, (blk_cell BK323.out 2).trans rfl⟩ (fun hHeld => ?_)
           clear hK K
           refine norm_ (a' := ?_) ?_ ?_
           rotate_left
           ·show Act.put _ (some 97) _ = _
            simp only [Act.put, sA, s0, s1, i64_w, i32_w]
            rfl
           refine one_ (i := 42) (N := some 99) m49 rfl rfl (one_of HT_.out (by kernel_rfl)) (by decide) (fun K hK => ?_)
           refine goes_ Try.func14 (by kernel_rfl) rfl #[.agg #[.int .i64 t319, .int .i64 t320, .int .i64 t321]] (by rfl) rfl rfl (by (try simp only [List.map_toArray, List.map_cons, List.map_nil]); first | done | rfl | (simp only [List.length_drop, List.length_take]; rfl)) ?_
           with_reducible refine (impl_DayNum.calls kj18 t319 t320 t321 t339 _ A59.out).mono ?_
           rintro e w86 ⟨rfl, hb⟩
           refine ⟨_, rfl, ?_⟩
           have n0_ := Aside0.mk (blk_below (g := gb323) (o := .cells #[.int .i64 t319, .int .i64 t320, .int .i64 t321] 24 (0, 0)) (by (with_reducible repeat (first | refine blk_drewN ?_ _ | refine blk_drew ?_ | refine blk_alloc ?_ _)); exact BK323.out) hb); have n1_ := Aside0.mk (blk_below (g := gb327) (o := .cells #[.int .i64 t324, .int .i64 t325, .int .i64 t326] 24 (0, 0)) (by (with_reducible repeat (first | refine blk_drewN ?_ _ | refine blk_drew ?_ | refine blk_alloc ?_ _)); exact BK327.out) hb); have n2_ := Aside0.mk (below_step (by repeat (first | (with_reducible first | exact HB.out | apply below_alloc | apply pw_below_drewN | apply below_drew1 | refine below_set ?_ GE323.out | refine below_set ?_ GE327.out) | exact HB.out)) hb); clear BK323; clear BK327; clear HB; have BK323 := n0_; have BK327 := n1_; have HB := n2_; clear n0_ n1_ n2_
           (try clear hb)
           (try clear hb2)
           (try clear hk)
           (try clear hi)
           refine hK.out _ _ ⟨(blk_cell BK327.out 0).trans rfl, (blk_cell BK327.out 1).trans rfl, (blk_cell BK327.out 2).trans rfl, (blk_cell BK323.out 0).trans rfl, (blk_cell BK323.out 1).trans rfl, (blk_cell BK323.out 2).trans rfl⟩ (fun hHeld => ?_)
           clear hK K
           refine norm_ (a' := ?_) ?_ ?_
           rotate_left
           ·show Act.put _ (some 99) _ = _
            simp only [Act.put, sA, s0, s1, i64_w, i32_w]
            rfl
           refine pw 43 100 m50 HT_ ?_
           refine pw 44 101 m51 HT_ ?_
           refine pw 45 102 m52 HT_ ?_
           refine pu 46 103 m53 HT_ ?_
           refine pu 47 104 m54 HT_ ?_
           refine pu 48 105 m55 HT_ ?_
           refine pu 49 106 m56 HT_ ?_
           refine pu 50 107 m73 HT_ ?_
           refine pu 51 108 m58 HT_ ?_
           refine pu 52 109 m59 HT_ ?_
           refine pu 53 110 m60 HT_ ?_
           refine pu 54 111 m61 HT_ ?_
           refine pu 55 112 m62 HT_ ?_
           refine pu 56 113 m63 HT_ ?_
           refine pu 57 114 m72 HT_ ?_
           refine pu 58 115 m65 HT_ ?_
           refine pu 59 116 m66 HT_ ?_
           refine pu 60 117 m67 HT_ ?_
           refine pu 61 118 m68 HT_ ?_
           refine pu 62 119 m69 HT_ ?_
           refine pw 63 120 m70 HT_ ?_
           refine pw 64 2 m71 HT_ ?_
           refine done_ (done_of HT_.out (by kernel_rfl)) ?_
           try go_wp2
           go_ret
           exact ⟨by first | rfl | (simp [errW_none, errW_some] <;> rfl) | (simp [*, errW_none, errW_some] <;> rfl), by repeat (first | (with_reducible first | exact HB.out | apply below_alloc | apply pw_below_drewN | apply below_drew1 | refine below_set ?_ GE323.out | refine below_set ?_ GE327.out) | exact HB.out)⟩
         ·replace c57 := Bool.eq_false_iff.mpr c57
          subst c57
          have H1 : (some false) = some r := by rw [if_neg (show ¬ (false = true) by decide)] at H; exact H
          clear H; have H := H1; clear H1
          obtain rfl := Option.some.inj H
          have hnb87 := NB327_323.out
          have hnc87 := NB323_327.out; have hcz88_0 : wc.cell? ⟨gb327, 0, none⟩ = some (.int .i64 t324) := (blk_cell BK327.out 0).trans rfl; have hcz88_1 : wc.cell? ⟨gb327, 1, none⟩ = some (.int .i64 t325) := (blk_cell BK327.out 1).trans rfl; have hcz88_2 : wc.cell? ⟨gb327, 2, none⟩ = some (.int .i64 t326) := (blk_cell BK327.out 2).trans rfl; have hfz88_0 := blk_frozen BK327.out 0; have hfz88_1 := blk_frozen BK327.out 1; have hfz88_2 := blk_frozen BK327.out 2
          try go_wp2_with (first | ((with_reducible refine gate_callee (f := 21) rfl ?_); refine goesL_ (some 56) rfl rfl Try.func21 (by kernel_rfl) rfl #[.int .i64 t324, .int .i64 t325] rfl (by (try simp only [List.map_toArray, List.map_cons, List.map_nil]); first | done | rfl | (simp only [List.length_drop, List.length_take]; rfl)) ?_; (with_reducible refine (impl_DayLast.calls t324 t325 t336 _ A53.out).mono ?_); rintro e w' ⟨rfl, ⟨nd, rfl⟩⟩; refine ⟨_, rfl, ?_⟩))
          (try (rw [drewN_self wc]; generalize hq_ : World.drewN wc _ = wc; have n0_ : Aside0 (wc.heap[gb323]? = some (.cells #[.int .i64 t319, .int .i64 t320, .int .i64 t321] 24 (0, 0))) := ⟨by rw [← hq_]; exact (by (with_reducible repeat (first | refine blk_drewN ?_ _ | refine blk_drew ?_ | refine blk_alloc ?_ _)); exact BK323.out)⟩; have n1_ : Aside0 (wc.heap[gb327]? = some (.cells #[.int .i64 t324, .int .i64 t325, .int .i64 t326] 24 (0, 0))) := ⟨by rw [← hq_]; exact (by (with_reducible repeat (first | refine blk_drewN ?_ _ | refine blk_drew ?_ | refine blk_alloc ?_ _)); exact BK327.out)⟩; have n2_ : Aside0 (Below w.heap.size w wc) := ⟨by rw [← hq_]; exact (by repeat (first | (with_reducible first | exact HB.out | apply below_alloc | apply pw_below_drewN | apply below_drew1 | refine below_set ?_ GE323.out | refine below_set ?_ GE327.out) | exact HB.out))⟩; clear BK323 BK327 HB hq_; have BK323 := n0_; have BK327 := n1_; have HB := n2_; clear n0_ n1_ n2_))
          have n0_ := Aside0.mk (blk_drew BK323.out); have n1_ := Aside0.mk (blk_drew BK327.out); have n2_ := Aside0.mk (below_drew1 HB.out); clear BK323; clear BK327; clear HB; have BK323 := n0_; have BK327 := n1_; have HB := n2_; clear n0_ n1_ n2_
          refine start_ (n := 65) (S := fun w' => w'.cell? ⟨gb327, 0, none⟩ = some (.int .i64 t324) ∧ w'.cell? ⟨gb327, 1, none⟩ = some (.int .i64 t325) ∧ w'.cell? ⟨gb327, 2, none⟩ = some (.int .i64 t326) ∧ w'.cell? ⟨gb323, 0, none⟩ = some (.int .i64 t319) ∧ w'.cell? ⟨gb323, 1, none⟩ = some (.int .i64 t320) ∧ w'.cell? ⟨gb323, 2, none⟩ = some (.int .i64 t321)) (ds := []) m6 (by kernel_rfl) rfl rfl ⟨(blk_cell BK327.out 0).trans rfl, (blk_cell BK327.out 1).trans rfl, (blk_cell BK327.out 2).trans rfl, (blk_cell BK323.out 0).trans rfl, (blk_cell BK323.out 1).trans rfl, (blk_cell BK323.out 2).trans rfl⟩ (fun hHeld => ?_); refine with_tabW laws_FnDayPlus.tab10 laws_FnDayPlus.bits10 (fun HT_ HW_ => ?_)
          generalize wc.drew = w89 at BK323 BK327 HB hHeld ⊢
          refine pw 0 57 m7 HT_ ?_
          refine pw 3 60 m8 HT_ ?_
          refine pw 6 63 m9 HT_ ?_
          refine pw 9 66 m10 HT_ ?_
          refine pw 12 69 m11 HT_ ?_
          refine pt 1 58 m12 rfl HT_ HW_ hHeld ?_ (Or.inl ⟨by rfl, by rintro w' ⟨s0, s1, s2, s3, s4, s5⟩; go_simp; with_reducible rfl⟩)
          refine pw 2 59 m13 HT_ ?_
          refine pt 4 61 m14 rfl HT_ HW_ hHeld ?_ (Or.inl ⟨by rfl, by rintro w' ⟨s0, s1, s2, s3, s4, s5⟩; go_simp; with_reducible rfl⟩)
          refine pw 5 62 m15 HT_ ?_
          refine pt 7 64 m16 rfl HT_ HW_ hHeld ?_ (Or.inl ⟨by rfl, by rintro w' ⟨s0, s1, s2, s3, s4, s5⟩; go_simp; with_reducible rfl⟩)
          refine pw 8 65 m17 HT_ ?_
          refine pt 10 67 m18 rfl HT_ HW_ hHeld ?_ (Or.inl ⟨by rfl, by rintro w' ⟨s0, s1, s2, s3, s4, s5⟩; go_simp; with_reducible rfl⟩)
          refine pw 11 68 m19 HT_ ?_
          refine pw 13 70 m20 HT_ ?_
          refine pw 14 71 m21 HT_ ?_
          refine pw 15 72 m22 HT_ ?_
          refine pw 16 73 m23 HT_ ?_
          refine pw 18 75 m24 HT_ ?_
          refine pt 17 74 m25 rfl HT_ HW_ hHeld ?_ (Or.inl ⟨by rfl, by rintro w' ⟨s0, s1, s2, s3, s4, s5⟩; go_simp; with_reducible rfl⟩)
          refine pt 19 76 m26 rfl HT_ HW_ hHeld ?_ (Or.inl ⟨by rfl, by rintro w' ⟨s0, s1, s2, s3, s4, s5⟩; go_simp; with_reducible rfl⟩)
          refine pw 20 77 m27 HT_ ?_
          refine pw 21 78 m28 HT_ ?_
          refine pu 22 79 m29 HT_ ?_
          refine pu 23 80 m30 HT_ ?_
          refine pu 24 81 m31 HT_ ?_
          refine pu 25 82 m32 HT_ ?_
          refine pu 26 83 m33 HT_ ?_
          refine pu 27 84 m34 HT_ ?_
          refine pu 28 85 m35 HT_ ?_
          refine pu 29 86 m36 HT_ ?_
          refine pu 30 87 m37 HT_ ?_
          refine pu 31 88 m38 HT_ ?_
          refine pw 32 89 m39 HT_ ?_
          refine pw 33 90 m40 HT_ ?_
          refine pw 34 91 m41 HT_ ?_
          refine pt 35 92 m42 rfl HT_ HW_ hHeld ?_ (Or.inl ⟨by rfl, by rintro w' ⟨s0, s1, s2, s3, s4, s5⟩; go_simp; with_reducible rfl⟩)
          refine one_ (i := 36) (N := some 93) m43 rfl rfl (one_of HT_.out (by kernel_rfl)) (by decide) (fun K hK => ?_)
          refine goes_ Try.func13 (by kernel_rfl) rfl #[.agg #[.int .i64 t324, .int .i64 t325, .int .i64 t326]] (by rfl) rfl rfl (by (try simp only [List.map_toArray, List.map_cons, List.map_nil]); first | done | rfl | (simp only [List.length_drop, List.length_take]; rfl)) ?_
          with_reducible refine (impl_DayOk.calls t324 t325 t326 false _ A56.out).mono ?_
          rintro e w90 ⟨rfl, hb⟩
          refine ⟨_, rfl, ?_⟩
          have n0_ := Aside0.mk (blk_below (g := gb323) (o := .cells #[.int .i64 t319, .int .i64 t320, .int .i64 t321] 24 (0, 0)) (by (with_reducible repeat (first | refine blk_drewN ?_ _ | refine blk_drew ?_ | refine blk_alloc ?_ _)); exact BK323.out) hb); have n1_ := Aside0.mk (blk_below (g := gb327) (o := .cells #[.int .i64 t324, .int .i64 t325, .int .i64 t326] 24 (0, 0)) (by (with_reducible repeat (first | refine blk_drewN ?_ _ | refine blk_drew ?_ | refine blk_alloc ?_ _)); exact BK327.out) hb); have n2_ := Aside0.mk (below_step (by repeat (first | (with_reducible first | exact HB.out | apply below_alloc | apply pw_below_drewN | apply below_drew1 | refine below_set ?_ GE323.out | refine below_set ?_ GE327.out) | exact HB.out)) hb); clear BK323; clear BK327; clear HB; have BK323 := n0_; have BK327 := n1_; have HB := n2_; clear n0_ n1_ n2_
          (try clear hb)
          (try clear hb2)
          (try clear hk)
          (try clear hi)
          refine hK.out _ _ ⟨(blk_cell BK327.out 0).trans rfl, (blk_cell BK327.out 1).trans rfl, (blk_cell BK327.out 2).trans rfl, (blk_cell BK323.out 0).trans rfl, (blk_cell BK323.out 1).trans rfl, (blk_cell BK323.out 2).trans rfl⟩ (fun hHeld => ?_)
          clear hK K
          refine norm_ (a' := ?_) ?_ ?_
          rotate_left
          ·show Act.put _ (some 93) _ = _
           simp only [Act.put, sA, s0, s1, i64_w, i32_w]
           rfl
          refine pw 37 94 m44 HT_ ?_
          refine pw 38 95 m45 HT_ ?_
          refine pu 39 96 m46 HT_ ?_
          refine pu 40 97 m74 HT_ ?_
          refine pu 41 98 m48 HT_ ?_
          refine pu 42 99 m49 HT_ ?_
          refine pu 43 100 m50 HT_ ?_
          refine pw 44 101 m51 HT_ ?_
          refine pw 45 102 m52 HT_ ?_
          refine pu 46 103 m53 HT_ ?_
          refine pu 47 104 m54 HT_ ?_
          refine pu 48 105 m55 HT_ ?_
          refine pu 49 106 m56 HT_ ?_
          refine pu 50 107 m73 HT_ ?_
          refine pu 51 108 m58 HT_ ?_
          refine pu 52 109 m59 HT_ ?_
          refine pu 53 110 m60 HT_ ?_
          refine pu 54 111 m61 HT_ ?_
          refine pu 55 112 m62 HT_ ?_
          refine pu 56 113 m63 HT_ ?_
          refine pu 57 114 m72 HT_ ?_
          refine pu 58 115 m65 HT_ ?_
          refine pu 59 116 m66 HT_ ?_
          refine pu 60 117 m67 HT_ ?_
          refine pu 61 118 m68 HT_ ?_
          refine pu 62 119 m69 HT_ ?_
          refine pw 63 120 m70 HT_ ?_
          refine pw 64 2 m71 HT_ ?_
          refine done_ (done_of HT_.out (by kernel_rfl)) ?_
          try go_wp2
          go_ret
          exact ⟨by first | rfl | (simp [errW_none, errW_some] <;> rfl) | (simp [*, errW_none, errW_some] <;> rfl), by repeat (first | (with_reducible first | exact HB.out | apply below_alloc | apply pw_below_drewN | apply below_drew1 | refine below_set ?_ GE323.out | refine below_set ?_ GE327.out) | exact HB.out)⟩
        ·rw [if_neg c55] at H
         have c55b0 : (t326 == t321) = false := beq_eq_false_iff_ne.mpr c55
         have c55b1 : (t326 != t321) = true := bne_iff_ne.mpr c55
         by_cases c91 : t326 = t336
         ·rw [if_pos c91] at H
          have c91b0 : (t326 == t336) = true := beq_iff_eq.mpr c91
          have c91b1 : (t326 != t336) = false := bne_eq_false_iff_eq.mpr c91
          clear c91
          by_cases c92 : t321 > t336
          ·rw [if_pos c92] at H
           have c92b0 : decide (t336 < t321) = true := decide_eq_true c92
           clear c92
           replace H := Option.bind_eq_some_iff.mp H
           obtain ⟨t340, A930, H⟩ := H
           replace H : (if t340 = true then ((impl_DayNum.f kj18 t324 t325 t326).bind fun t341 => ((impl_DayNum.f kj18 t319 t320 t321).bind fun t342 => (if t341 ≥ t342 then (if t322 = 12 then (if t324 = (wrap64 (t319 + 1)) then (some (t325 == t320)) else (some false)) else (some true)) else (some false)))) else (some false)) = some r := H
           have A93 := Aside0.mk A930; clear A930
           by_cases c94 : t340 = true
           ·subst c94
            have H1 : ((impl_DayNum.f kj18 t324 t325 t326).bind fun t341 => ((impl_DayNum.f kj18 t319 t320 t321).bind fun t342 => (if t341 ≥ t342 then (if t322 = 12 then (if t324 = (wrap64 (t319 + 1)) then (some (t325 == t320)) else (some false)) else (some true)) else (some false)))) = some r := by rw [if_pos rfl] at H; exact H
            clear H; have H := H1; clear H1
            replace H := Option.bind_eq_some_iff.mp H
            obtain ⟨t341, A950, H⟩ := H
            replace H : ((impl_DayNum.f kj18 t319 t320 t321).bind fun t342 => (if t341 ≥ t342 then (if t322 = 12 then (if t324 = (wrap64 (t319 + 1)) then (some (t325 == t320)) else (some false)) else (some true)) else (some false))) = some r := H
            have A95 := Aside0.mk A950; clear A950
            replace H := Option.bind_eq_some_iff.mp H
            obtain ⟨t342, A960, H⟩ := H
            replace H : (if t341 ≥ t342 then (if t322 = 12 then (if t324 = (wrap64 (t319 + 1)) then (some (t325 == t320)) else (some false)) else (some true)) else (some false)) = some r := H
            have A96 := Aside0.mk A960; clear A960
            by_cases c97 : t341 ≥ t342
            ·rw [if_pos c97] at H
             have c97b0 : decide (t342 ≤ t341) = true := decide_eq_true c97
             clear c97
             by_cases c98 : t322 = 12
             ·rw [if_pos c98] at H
              have c98b0 : (t322 == 12) = true := beq_iff_eq.mpr c98
              have c98b1 : (t322 != 12) = false := bne_eq_false_iff_eq.mpr c98
              clear c98
              by_cases c99 : t324 = (wrap64 (t319 + 1))
              ·rw [if_pos c99] at H
               have c99b0 : (t324 == (wrap64 (t319 + 1))) = true := beq_iff_eq.mpr c99
               have c99b1 : (t324 != (wrap64 (t319 + 1))) = false := bne_eq_false_iff_eq.mpr c99
               clear c99
               obtain rfl := Option.some.inj H
               have hnb100 := NB327_323.out
               have hnc100 := NB323_327.out; have hcz101_0 : wc.cell? ⟨gb327, 0, none⟩ = some (.int .i64 t324) := (blk_cell BK327.out 0).trans rfl; have hcz101_1 : wc.cell? ⟨gb327, 1, none⟩ = some (.int .i64 t325) := (blk_cell BK327.out 1).trans rfl; have hcz101_2 : wc.cell? ⟨gb327, 2, none⟩ = some (.int .i64 t326) := (blk_cell BK327.out 2).trans rfl; have hfz101_0 := blk_frozen BK327.out 0; have hfz101_1 := blk_frozen BK327.out 1; have hfz101_2 := blk_frozen BK327.out 2
               try go_wp2_with (first | ((with_reducible refine gate_callee (f := 21) rfl ?_); refine goesL_ (some 56) rfl rfl Try.func21 (by kernel_rfl) rfl #[.int .i64 t324, .int .i64 t325] rfl (by (try simp only [List.map_toArray, List.map_cons, List.map_nil]); first | done | rfl | (simp only [List.length_drop, List.length_take]; rfl)) ?_; (with_reducible refine (impl_DayLast.calls t324 t325 t336 _ A53.out).mono ?_); rintro e w' ⟨rfl, ⟨nd, rfl⟩⟩; refine ⟨_, rfl, ?_⟩))
               (try (rw [drewN_self wc]; generalize hq_ : World.drewN wc _ = wc; have n0_ : Aside0 (wc.heap[gb323]? = some (.cells #[.int .i64 t319, .int .i64 t320, .int .i64 t321] 24 (0, 0))) := ⟨by rw [← hq_]; exact (by (with_reducible repeat (first | refine blk_drewN ?_ _ | refine blk_drew ?_ | refine blk_alloc ?_ _)); exact BK323.out)⟩; have n1_ : Aside0 (wc.heap[gb327]? = some (.cells #[.int .i64 t324, .int .i64 t325, .int .i64 t326] 24 (0, 0))) := ⟨by rw [← hq_]; exact (by (with_reducible repeat (first | refine blk_drewN ?_ _ | refine blk_drew ?_ | refine blk_alloc ?_ _)); exact BK327.out)⟩; have n2_ : Aside0 (Below w.heap.size w wc) := ⟨by rw [← hq_]; exact (by repeat (first | (with_reducible first | exact HB.out | apply below_alloc | apply pw_below_drewN | apply below_drew1 | refine below_set ?_ GE323.out | refine below_set ?_ GE327.out) | exact HB.out))⟩; clear BK323 BK327 HB hq_; have BK323 := n0_; have BK327 := n1_; have HB := n2_; clear n0_ n1_ n2_))
               have n0_ := Aside0.mk (blk_drew BK323.out); have n1_ := Aside0.mk (blk_drew BK327.out); have n2_ := Aside0.mk (below_drew1 HB.out); clear BK323; clear BK327; clear HB; have BK323 := n0_; have BK327 := n1_; have HB := n2_; clear n0_ n1_ n2_
               refine start_ (n := 65) (S := fun w' => w'.cell? ⟨gb327, 0, none⟩ = some (.int .i64 t324) ∧ w'.cell? ⟨gb327, 1, none⟩ = some (.int .i64 t325) ∧ w'.cell? ⟨gb327, 2, none⟩ = some (.int .i64 t326) ∧ w'.cell? ⟨gb323, 0, none⟩ = some (.int .i64 t319) ∧ w'.cell? ⟨gb323, 1, none⟩ = some (.int .i64 t320) ∧ w'.cell? ⟨gb323, 2, none⟩ = some (.int .i64 t321)) (ds := []) m6 (by kernel_rfl) rfl rfl ⟨(blk_cell BK327.out 0).trans rfl, (blk_cell BK327.out 1).trans rfl, (blk_cell BK327.out 2).trans rfl, (blk_cell BK323.out 0).trans rfl, (blk_cell BK323.out 1).trans rfl, (blk_cell BK323.out 2).trans rfl⟩ (fun hHeld => ?_); refine with_tabW laws_FnDayPlus.tab10 laws_FnDayPlus.bits10 (fun HT_ HW_ => ?_)
               generalize wc.drew = w102 at BK323 BK327 HB hHeld ⊢
               refine pw 0 57 m7 HT_ ?_
               refine pw 3 60 m8 HT_ ?_
               refine pw 6 63 m9 HT_ ?_
               refine pw 9 66 m10 HT_ ?_
               refine pw 12 69 m11 HT_ ?_
               refine pt 1 58 m12 rfl HT_ HW_ hHeld ?_ (Or.inl ⟨by rfl, by rintro w' ⟨s0, s1, s2, s3, s4, s5⟩; go_simp; with_reducible rfl⟩)
               refine pw 2 59 m13 HT_ ?_
               refine pt 4 61 m14 rfl HT_ HW_ hHeld ?_ (Or.inl ⟨by rfl, by rintro w' ⟨s0, s1, s2, s3, s4, s5⟩; go_simp; with_reducible rfl⟩)
               refine pw 5 62 m15 HT_ ?_
               refine pt 7 64 m16 rfl HT_ HW_ hHeld ?_ (Or.inl ⟨by rfl, by rintro w' ⟨s0, s1, s2, s3, s4, s5⟩; go_simp; with_reducible rfl⟩)
               refine pw 8 65 m17 HT_ ?_
               refine pt 10 67 m18 rfl HT_ HW_ hHeld ?_ (Or.inl ⟨by rfl, by rintro w' ⟨s0, s1, s2, s3, s4, s5⟩; go_simp; with_reducible rfl⟩)
               refine pw 11 68 m19 HT_ ?_
               refine pw 13 70 m20 HT_ ?_
               refine pw 14 71 m21 HT_ ?_
               refine pw 15 72 m22 HT_ ?_
               refine pw 16 73 m23 HT_ ?_
               refine pw 18 75 m24 HT_ ?_
               refine pt 17 74 m25 rfl HT_ HW_ hHeld ?_ (Or.inl ⟨by rfl, by rintro w' ⟨s0, s1, s2, s3, s4, s5⟩; go_simp; with_reducible rfl⟩)
               refine pt 19 76 m26 rfl HT_ HW_ hHeld ?_ (Or.inl ⟨by rfl, by rintro w' ⟨s0, s1, s2, s3, s4, s5⟩; go_simp; with_reducible rfl⟩)
               refine pw 20 77 m27 HT_ ?_
               refine pw 21 78 m28 HT_ ?_
               refine pw 22 79 m29 HT_ ?_
               refine pw 24 81 m75 HT_ ?_
               refine pt 23 80 m31 rfl HT_ HW_ hHeld ?_ (Or.inl ⟨by rfl, by rintro w' ⟨s0, s1, s2, s3, s4, s5⟩; go_simp; with_reducible rfl⟩)
               refine pw 25 82 m32 HT_ ?_
               refine pw 26 83 m33 HT_ ?_
               refine pw 27 84 m34 HT_ ?_
               refine pw 29 86 m76 HT_ ?_
               refine pt 28 85 m36 rfl HT_ HW_ hHeld ?_ (Or.inl ⟨by rfl, by rintro w' ⟨s0, s1, s2, s3, s4, s5⟩; go_simp; with_reducible rfl⟩)
               refine pw 30 87 m37 HT_ ?_
               refine pw 31 88 m38 HT_ ?_
               refine pw 32 89 m39 HT_ ?_
               refine pw 33 90 m40 HT_ ?_
               refine pw 34 91 m41 HT_ ?_
               refine pt 35 92 m42 rfl HT_ HW_ hHeld ?_ (Or.inl ⟨by rfl, by rintro w' ⟨s0, s1, s2, s3, s4, s5⟩; go_simp; with_reducible rfl⟩)
               refine one_ (i := 36) (N := some 93) m43 rfl rfl (one_of HT_.out (by kernel_rfl)) (by decide) (fun K hK => ?_)
               refine goes_ Try.func13 (by kernel_rfl) rfl #[.agg #[.int .i64 t324, .int .i64 t325, .int .i64 t326]] (by rfl) rfl rfl (by (try simp only [List.map_toArray, List.map_cons, List.map_nil]); first | done | rfl | (simp only [List.length_drop, List.length_take]; rfl)) ?_
               with_reducible refine (impl_DayOk.calls t324 t325 t326 true _ A93.out).mono ?_
               rintro e w103 ⟨rfl, hb⟩
               refine ⟨_, rfl, ?_⟩
               have n0_ := Aside0.mk (blk_below (g := gb323) (o := .cells #[.int .i64 t319, .int .i64 t320, .int .i64 t321] 24 (0, 0)) (by (with_reducible repeat (first | refine blk_drewN ?_ _ | refine blk_drew ?_ | refine blk_alloc ?_ _)); exact BK323.out) hb); have n1_ := Aside0.mk (blk_below (g := gb327) (o := .cells #[.int .i64 t324, .int .i64 t325, .int .i64 t326] 24 (0, 0)) (by (with_reducible repeat (first | refine blk_drewN ?_ _ | refine blk_drew ?_ | refine blk_alloc ?_ _)); exact BK327.out) hb); have n2_ := Aside0.mk (below_step (by repeat (first | (with_reducible first | exact HB.out | apply below_alloc | apply pw_below_drewN | apply below_drew1 | refine below_set ?_ GE323.out | refine below_set ?_ GE327.out) | exact HB.out)) hb); clear BK323; clear BK327; clear HB; have BK323 := n0_; have BK327 := n1_; have HB := n2_; clear n0_ n1_ n2_
               (try clear hb)
               (try clear hb2)
               (try clear hk)
               (try clear hi)
               refine hK.out _ _ ⟨(blk_cell BK327.out 0).trans rfl, (blk_cell BK327.out 1).trans rfl, (blk_cell BK327.out 2).trans rfl, (blk_cell BK323.out 0).trans rfl, (blk_cell BK323.out 1).trans rfl, (blk_cell BK323.out 2).trans rfl⟩ (fun hHeld => ?_)
               clear hK K
               refine norm_ (a' := ?_) ?_ ?_
               rotate_left
               ·show Act.put _ (some 93) _ = _
                simp only [Act.put, sA, s0, s1, i64_w, i32_w]
                rfl
               refine pw 37 94 m44 HT_ ?_
               refine pw 38 95 m45 HT_ ?_
               refine pt 39 96 m46 rfl HT_ HW_ hHeld ?_ (Or.inl ⟨by rfl, by rintro w' ⟨s0, s1, s2, s3, s4, s5⟩; go_simp; with_reducible rfl⟩)
               refine pt 41 98 m47 rfl HT_ HW_ hHeld ?_ (Or.inl ⟨by rfl, by rintro w' ⟨s0, s1, s2, s3, s4, s5⟩; go_simp; with_reducible rfl⟩)
               refine one_ (i := 40) (N := some 97) m48 rfl rfl (one_of HT_.out (by kernel_rfl)) (by decide) (fun K hK => ?_)
               refine goes_ Try.func14 (by kernel_rfl) rfl #[.agg #[.int .i64 t324, .int .i64 t325, .int .i64 t326]] (by rfl) rfl rfl (by (try simp only [List.map_toArray, List.map_cons, List.map_nil]); first | done | rfl | (simp only [List.length_drop, List.length_take]; rfl)) ?_
               with_reducible refine (impl_DayNum.calls kj18 t324 t325 t326 t341 _ A95.out).mono ?_
               rintro e w104 ⟨rfl, hb⟩
               refine ⟨_, rfl, ?_⟩
               have n0_ := Aside0.mk (blk_below (g := gb323) (o := .cells #[.int .i64 t319, .int .i64 t320, .int .i64 t321] 24 (0, 0)) (by (with_reducible repeat (first | refine blk_drewN ?_ _ | refine blk_drew ?_ | refine blk_alloc ?_ _)); exact BK323.out) hb); have n1_ := Aside0.mk (blk_below (g := gb327) (o := .cells #[.int .i64 t324, .int .i64 t325, .int .i64 t326] 24 (0, 0)) (by (with_reducible repeat (first | refine blk_drewN ?_ _ | refine blk_drew ?_ | refine blk_alloc ?_ _)); exact BK327.out) hb); have n2_ := Aside0.mk (below_step (by repeat (first | (with_reducible first | exact HB.out | apply below_alloc | apply pw_below_drewN | apply below_drew1 | refine below_set ?_ GE323.out | refine below_set ?_ GE327.out) | exact HB.out)) hb); clear BK323; clear BK327; clear HB; have BK323 := n0_; have BK327 := n1_; have HB := n2_; clear n0_ n1_ n2_
               (try clear hb)
               (try clear hb2)
               (try clear hk)
               (try clear hi)
               refine hK.out _ _ ⟨(blk_cell BK327.out 0).trans rfl, (blk_cell BK327.out 1).trans rfl, (blk_cell BK327.out 2).trans rfl, (blk_cell BK323.out 0).trans rfl, (blk_cell BK323.out 1).trans rfl, (blk_cell BK323.out 2).trans rfl⟩ (fun hHeld => ?_)
               clear hK K
               refine norm_ (a' := ?_) ?_ ?_
               rotate_left
               ·show Act.put _ (some 97) _ = _
                simp only [Act.put, sA, s0, s1, i64_w, i32_w]
                rfl
               refine one_ (i := 42) (N := some 99) m49 rfl rfl (one_of HT_.out (by kernel_rfl)) (by decide) (fun K hK => ?_)
               refine goes_ Try.func14 (by kernel_rfl) rfl #[.agg #[.int .i64 t319, .int .i64 t320, .int .i64 t321]] (by rfl) rfl rfl (by (try simp only [List.map_toArray, List.map_cons, List.map_nil]); first | done | rfl | (simp only [List.length_drop, List.length_take]; rfl)) ?_
               with_reducible refine (impl_DayNum.calls kj18 t319 t320 t321 t342 _ A96.out).mono ?_
               rintro e w105 ⟨rfl, hb⟩
               refine ⟨_, rfl, ?_⟩
               have n0_ := Aside0.mk (blk_below (g := gb323) (o := .cells #[.int .i64 t319, .int .i64 t320, .int .i64 t321] 24 (0, 0)) (by (with_reducible repeat (first | refine blk_drewN ?_ _ | refine blk_drew ?_ | refine blk_alloc ?_ _)); exact BK323.out) hb); have n1_ := Aside0.mk (blk_below (g := gb327) (o := .cells #[.int .i64 t324, .int .i64 t325, .int .i64 t326] 24 (0, 0)) (by (with_reducible repeat (first | refine blk_drewN ?_ _ | refine blk_drew ?_ | refine blk_alloc ?_ _)); exact BK327.out) hb); have n2_ := Aside0.mk (below_step (by repeat (first | (with_reducible first | exact HB.out | apply below_alloc | apply pw_below_drewN | apply below_drew1 | refine below_set ?_ GE323.out | refine below_set ?_ GE327.out) | exact HB.out)) hb); clear BK323; clear BK327; clear HB; have BK323 := n0_; have BK327 := n1_; have HB := n2_; clear n0_ n1_ n2_
               (try clear hb)
               (try clear hb2)
               (try clear hk)
               (try clear hi)
               refine hK.out _ _ ⟨(blk_cell BK327.out 0).trans rfl, (blk_cell BK327.out 1).trans rfl, (blk_cell BK327.out 2).trans rfl, (blk_cell BK323.out 0).trans rfl, (blk_cell BK323.out 1).trans rfl, (blk_cell BK323.out 2).trans rfl⟩ (fun hHeld => ?_)
               clear hK K
               refine norm_ (a' := ?_) ?_ ?_
               rotate_left
               ·show Act.put _ (some 99) _ = _
                simp only [Act.put, sA, s0, s1, i64_w, i32_w]
                rfl
               refine pw 43 100 m50 HT_ ?_
               refine pw 44 101 m51 HT_ ?_
               refine pw 45 102 m52 HT_ ?_
               refine pw 46 103 m53 HT_ ?_
               refine pw 47 104 m54 HT_ ?_
               refine pw 48 105 m55 HT_ ?_
               refine pw 49 106 m56 HT_ ?_
               refine pw 51 108 m57 HT_ ?_
               refine pt 50 107 m58 rfl HT_ HW_ hHeld ?_ (Or.inl ⟨by rfl, by rintro w' ⟨s0, s1, s2, s3, s4, s5⟩; go_simp; with_reducible rfl⟩)
               refine pt 52 109 m59 rfl HT_ HW_ hHeld ?_ (Or.inl ⟨by rfl, by rintro w' ⟨s0, s1, s2, s3, s4, s5⟩; go_simp; with_reducible rfl⟩)
               refine pw 53 110 m60 HT_ ?_
               refine pw 54 111 m61 HT_ ?_
               refine pw 55 112 m62 HT_ ?_
               refine pw 56 113 m63 HT_ ?_
               refine pw 58 115 m64 HT_ ?_
               refine pt 57 114 m65 rfl HT_ HW_ hHeld ?_ (Or.inl ⟨by rfl, by rintro w' ⟨s0, s1, s2, s3, s4, s5⟩; go_simp; with_reducible rfl⟩)
               refine pt 59 116 m66 rfl HT_ HW_ hHeld ?_ (Or.inl ⟨by rfl, by rintro w' ⟨s0, s1, s2, s3, s4, s5⟩; go_simp; with_reducible rfl⟩)
               refine pw 60 117 m67 HT_ ?_
               refine pw 61 118 m68 HT_ ?_
               refine pw 62 119 m69 HT_ ?_
               refine pw 63 120 m70 HT_ ?_
               refine pw 64 2 m71 HT_ ?_
               refine done_ (done_of HT_.out (by kernel_rfl)) ?_
               try go_wp2
               go_ret
               exact ⟨by first | rfl | (simp [errW_none, errW_some] <;> rfl) | (simp [*, errW_none, errW_some] <;> rfl), by repeat (first | (with_reducible first | exact HB.out | apply below_alloc | apply pw_below_drewN | apply below_drew1 | refine below_set ?_ GE323.out | refine below_set ?_ GE327.out) | exact HB.out)⟩
              ·rw [if_neg c99] at H
               have c99b0 : (t324 == (wrap64 (t319 + 1))) = false := beq_eq_false_iff_ne.mpr c99
               have c99b1 : (t324 != (wrap64 (t319 + 1))) = true := bne_iff_ne.mpr c99
               obtain rfl := Option.some.inj H
               have hnb106 := NB327_323.out
               have hnc106 := NB323_327.out; have hcz107_0 : wc.cell? ⟨gb327, 0, none⟩ = some (.int .i64 t324) := (blk_cell BK327.out 0).trans rfl; have hcz107_1 : wc.cell? ⟨gb327, 1, none⟩ = some (.int .i64 t325) := (blk_cell BK327.out 1).trans rfl; have hcz107_2 : wc.cell? ⟨gb327, 2, none⟩ = some (.int .i64 t326) := (blk_cell BK327.out 2).trans rfl; have hfz107_0 := blk_frozen BK327.out 0; have hfz107_1 := blk_frozen BK327.out 1; have hfz107_2 := blk_frozen BK327.out 2
               try go_wp2_with (first | ((with_reducible refine gate_callee (f := 21) rfl ?_); refine goesL_ (some 56) rfl rfl Try.func21 (by kernel_rfl) rfl #[.int .i64 t324, .int .i64 t325] rfl (by (try simp only [List.map_toArray, List.map_cons, List.map_nil]); first | done | rfl | (simp only [List.length_drop, List.length_take]; rfl)) ?_; (with_reducible refine (impl_DayLast.calls t324 t325 t336 _ A53.out).mono ?_); rintro e w' ⟨rfl, ⟨nd, rfl⟩⟩; refine ⟨_, rfl, ?_⟩))
               (try (rw [drewN_self wc]; generalize hq_ : World.drewN wc _ = wc; have n0_ : Aside0 (wc.heap[gb323]? = some (.cells #[.int .i64 t319, .int .i64 t320, .int .i64 t321] 24 (0, 0))) := ⟨by rw [← hq_]; exact (by (with_reducible repeat (first | refine blk_drewN ?_ _ | refine blk_drew ?_ | refine blk_alloc ?_ _)); exact BK323.out)⟩; have n1_ : Aside0 (wc.heap[gb327]? = some (.cells #[.int .i64 t324, .int .i64 t325, .int .i64 t326] 24 (0, 0))) := ⟨by rw [← hq_]; exact (by (with_reducible repeat (first | refine blk_drewN ?_ _ | refine blk_drew ?_ | refine blk_alloc ?_ _)); exact BK327.out)⟩; have n2_ : Aside0 (Below w.heap.size w wc) := ⟨by rw [← hq_]; exact (by repeat (first | (with_reducible first | exact HB.out | apply below_alloc | apply pw_below_drewN | apply below_drew1 | refine below_set ?_ GE323.out | refine below_set ?_ GE327.out) | exact HB.out))⟩; clear BK323 BK327 HB hq_; have BK323 := n0_; have BK327 := n1_; have HB := n2_; clear n0_ n1_ n2_))
               have n0_ := Aside0.mk (blk_drew BK323.out); have n1_ := Aside0.mk (blk_drew BK327.out); have n2_ := Aside0.mk (below_drew1 HB.out); clear BK323; clear BK327; clear HB; have BK323 := n0_; have BK327 := n1_; have HB := n2_; clear n0_ n1_ n2_
               refine start_ (n := 65) (S := fun w' => w'.cell? ⟨gb327, 0, none⟩ = some (.int .i64 t324) ∧ w'.cell? ⟨gb327, 1, none⟩ = some (.int .i64 t325) ∧ w'.cell? ⟨gb327, 2, none⟩ = some (.int .i64 t326) ∧ w'.cell? ⟨gb323, 0, none⟩ = some (.int .i64 t319) ∧ w'.cell? ⟨gb323, 1, none⟩ = some (.int .i64 t320) ∧ w'.cell? ⟨gb323, 2, none⟩ = some (.int .i64 t321)) (ds := []) m6 (by kernel_rfl) rfl rfl ⟨(blk_cell BK327.out 0).trans rfl, (blk_cell BK327.out 1).trans rfl, (blk_cell BK327.out 2).trans rfl, (blk_cell BK323.out 0).trans rfl, (blk_cell BK323.out 1).trans rfl, (blk_cell BK323.out 2).trans rfl⟩ (fun hHeld => ?_); refine with_tabW laws_FnDayPlus.tab10 laws_FnDayPlus.bits10 (fun HT_ HW_ => ?_)
               generalize wc.drew = w108 at BK323 BK327 HB hHeld ⊢
               refine pw 0 57 m7 HT_ ?_
               refine pw 3 60 m8 HT_ ?_
               refine pw 6 63 m9 HT_ ?_
               refine pw 9 66 m10 HT_ ?_
               refine pw 12 69 m11 HT_ ?_
               refine pt 1 58 m12 rfl HT_ HW_ hHeld ?_ (Or.inl ⟨by rfl, by rintro w' ⟨s0, s1, s2, s3, s4, s5⟩; go_simp; with_reducible rfl⟩)
               refine pw 2 59 m13 HT_ ?_
               refine pt 4 61 m14 rfl HT_ HW_ hHeld ?_ (Or.inl ⟨by rfl, by rintro w' ⟨s0, s1, s2, s3, s4, s5⟩; go_simp; with_reducible rfl⟩)
               refine pw 5 62 m15 HT_ ?_
               refine pt 7 64 m16 rfl HT_ HW_ hHeld ?_ (Or.inl ⟨by rfl, by rintro w' ⟨s0, s1, s2, s3, s4, s5⟩; go_simp; with_reducible rfl⟩)
               refine pw 8 65 m17 HT_ ?_
               refine pt 10 67 m18 rfl HT_ HW_ hHeld ?_ (Or.inl ⟨by rfl, by rintro w' ⟨s0, s1, s2, s3, s4, s5⟩; go_simp; with_reducible rfl⟩)
               refine pw 11 68 m19 HT_ ?_
               refine pw 13 70 m20 HT_ ?_
               refine pw 14 71 m21 HT_ ?_
               refine pw 15 72 m22 HT_ ?_
               refine pw 16 73 m23 HT_ ?_
               refine pw 18 75 m24 HT_ ?_
               refine pt 17 74 m25 rfl HT_ HW_ hHeld ?_ (Or.inl ⟨by rfl, by rintro w' ⟨s0, s1, s2, s3, s4, s5⟩; go_simp; with_reducible rfl⟩)
               refine pt 19 76 m26 rfl HT_ HW_ hHeld ?_ (Or.inl ⟨by rfl, by rintro w' ⟨s0, s1, s2, s3, s4, s5⟩; go_simp; with_reducible rfl⟩)
               refine pw 20 77 m27 HT_ ?_
               refine pw 21 78 m28 HT_ ?_
               refine pw 22 79 m29 HT_ ?_
               refine pw 24 81 m75 HT_ ?_
               refine pt 23 80 m31 rfl HT_ HW_ hHeld ?_ (Or.inl ⟨by rfl, by rintro w' ⟨s0, s1, s2, s3, s4, s5⟩; go_simp; with_reducible rfl⟩)
               refine pw 25 82 m32 HT_ ?_
               refine pw 26 83 m33 HT_ ?_
               refine pw 27 84 m34 HT_ ?_
               refine pw 29 86 m76 HT_ ?_
               refine pt 28 85 m36 rfl HT_ HW_ hHeld ?_ (Or.inl ⟨by rfl, by rintro w' ⟨s0, s1, s2, s3, s4, s5⟩; go_simp; with_reducible rfl⟩)
               refine pw 30 87 m37 HT_ ?_
               refine pw 31 88 m38 HT_ ?_
               refine pw 32 89 m39 HT_ ?_
               refine pw 33 90 m40 HT_ ?_
               refine pw 34 91 m41 HT_ ?_
               refine pt 35 92 m42 rfl HT_ HW_ hHeld ?_ (Or.inl ⟨by rfl, by rintro w' ⟨s0, s1, s2, s3, s4, s5⟩; go_simp; with_reducible rfl⟩)
               refine one_ (i := 36) (N := some 93) m43 rfl rfl (one_of HT_.out (by kernel_rfl)) (by decide) (fun K hK => ?_)
               refine goes_ Try.func13 (by kernel_rfl) rfl #[.agg #[.int .i64 t324, .int .i64 t325, .int .i64 t326]] (by rfl) rfl rfl (by (try simp only [List.map_toArray, List.map_cons, List.map_nil]); first | done | rfl | (simp only [List.length_drop, List.length_take]; rfl)) ?_
               with_reducible refine (impl_DayOk.calls t324 t325 t326 true _ A93.out).mono ?_
               rintro e w109 ⟨rfl, hb⟩
               refine ⟨_, rfl, ?_⟩
               have n0_ := Aside0.mk (blk_below (g := gb323) (o := .cells #[.int .i64 t319, .int .i64 t320, .int .i64 t321] 24 (0, 0)) (by (with_reducible repeat (first | refine blk_drewN ?_ _ | refine blk_drew ?_ | refine blk_alloc ?_ _)); exact BK323.out) hb); have n1_ := Aside0.mk (blk_below (g := gb327) (o := .cells #[.int .i64 t324, .int .i64 t325, .int .i64 t326] 24 (0, 0)) (by (with_reducible repeat (first | refine blk_drewN ?_ _ | refine blk_drew ?_ | refine blk_alloc ?_ _)); exact BK327.out) hb); have n2_ := Aside0.mk (below_step (by repeat (first | (with_reducible first | exact HB.out | apply below_alloc | apply pw_below_drewN | apply below_drew1 | refine below_set ?_ GE323.out | refine below_set ?_ GE327.out) | exact HB.out)) hb); clear BK323; clear BK327; clear HB; have BK323 := n0_; have BK327 := n1_; have HB := n2_; clear n0_ n1_ n2_
               (try clear hb)
               (try clear hb2)
               (try clear hk)
               (try clear hi)
               refine hK.out _ _ ⟨(blk_cell BK327.out 0).trans rfl, (blk_cell BK327.out 1).trans rfl, (blk_cell BK327.out 2).trans rfl, (blk_cell BK323.out 0).trans rfl, (blk_cell BK323.out 1).trans rfl, (blk_cell BK323.out 2).trans rfl⟩ (fun hHeld => ?_)
               clear hK K
               refine norm_ (a' := ?_) ?_ ?_
               rotate_left
               ·show Act.put _ (some 93) _ = _
                simp only [Act.put, sA, s0, s1, i64_w, i32_w]
                rfl
               refine pw 37 94 m44 HT_ ?_
               refine pw 38 95 m45 HT_ ?_
               refine pt 39 96 m46 rfl HT_ HW_ hHeld ?_ (Or.inl ⟨by rfl, by rintro w' ⟨s0, s1, s2, s3, s4, s5⟩; go_simp; with_reducible rfl⟩)
               refine pt 41 98 m47 rfl HT_ HW_ hHeld ?_ (Or.inl ⟨by rfl, by rintro w' ⟨s0, s1, s2, s3, s4, s5⟩; go_simp; with_reducible rfl⟩)
               refine one_ (i := 40) (N := some 97) m48 rfl rfl (one_of HT_.out (by kernel_rfl)) (by decide) (fun K hK => ?_)
               refine goes_ Try.func14 (by kernel_rfl) rfl #[.agg #[.int .i64 t324, .int .i64 t325, .int .i64 t326]] (by rfl) rfl rfl (by (try simp only [List.map_toArray, List.map_cons, List.map_nil]); first | done | rfl | (simp only [List.length_drop, List.length_take]; rfl)) ?_
               with_reducible refine (impl_DayNum.calls kj18 t324 t325 t326 t341 _ A95.out).mono ?_
               rintro e w110 ⟨rfl, hb⟩
               refine ⟨_, rfl, ?_⟩
               have n0_ := Aside0.mk (blk_below (g := gb323) (o := .cells #[.int .i64 t319, .int .i64 t320, .int .i64 t321] 24 (0, 0)) (by (with_reducible repeat (first | refine blk_drewN ?_ _ | refine blk_drew ?_ | refine blk_alloc ?_ _)); exact BK323.out) hb); have n1_ := Aside0.mk (blk_below (g := gb327) (o := .cells #[.int .i64 t324, .int .i64 t325, .int .i64 t326] 24 (0, 0)) (by (with_reducible repeat (first | refine blk_drewN ?_ _ | refine blk_drew ?_ | refine blk_alloc ?_ _)); exact BK327.out) hb); have n2_ := Aside0.mk (below_step (by repeat (first | (with_reducible first | exact HB.out | apply below_alloc | apply pw_below_drewN | apply below_drew1 | refine below_set ?_ GE323.out | refine below_set ?_ GE327.out) | exact HB.out)) hb); clear BK323; clear BK327; clear HB; have BK323 := n0_; have BK327 := n1_; have HB := n2_; clear n0_ n1_ n2_
               (try clear hb)
               (try clear hb2)
               (try clear hk)
               (try clear hi)
               refine hK.out _ _ ⟨(blk_cell BK327.out 0).trans rfl, (blk_cell BK327.out 1).trans rfl, (blk_cell BK327.out 2).trans rfl, (blk_cell BK323.out 0).trans rfl, (blk_cell BK323.out 1).trans rfl, (blk_cell BK323.out 2).trans rfl⟩ (fun hHeld => ?_)
               clear hK K
               refine norm_ (a' := ?_) ?_ ?_
               rotate_left
               ·show Act.put _ (some 97) _ = _
                simp only [Act.put, sA, s0, s1, i64_w, i32_w]
                rfl
               refine one_ (i := 42) (N := some 99) m49 rfl rfl (one_of HT_.out (by kernel_rfl)) (by decide) (fun K hK => ?_)
               refine goes_ Try.func14 (by kernel_rfl) rfl #[.agg #[.int .i64 t319, .int .i64 t320, .int .i64 t321]] (by rfl) rfl rfl (by (try simp only [List.map_toArray, List.map_cons, List.map_nil]); first | done | rfl | (simp only [List.length_drop, List.length_take]; rfl)) ?_
               with_reducible refine (impl_DayNum.calls kj18 t319 t320 t321 t342 _ A96.out).mono ?_
               rintro e w111 ⟨rfl, hb⟩
               refine ⟨_, rfl, ?_⟩
               have n0_ := Aside0.mk (blk_below (g := gb323) (o := .cells #[.int .i64 t319, .int .i64 t320, .int .i64 t321] 24 (0, 0)) (by (with_reducible repeat (first | refine blk_drewN ?_ _ | refine blk_drew ?_ | refine blk_alloc ?_ _)); exact BK323.out) hb); have n1_ := Aside0.mk (blk_below (g := gb327) (o := .cells #[.int .i64 t324, .int .i64 t325, .int .i64 t326] 24 (0, 0)) (by (with_reducible repeat (first | refine blk_drewN ?_ _ | refine blk_drew ?_ | refine blk_alloc ?_ _)); exact BK327.out) hb); have n2_ := Aside0.mk (below_step (by repeat (first | (with_reducible first | exact HB.out | apply below_alloc | apply pw_below_drewN | apply below_drew1 | refine below_set ?_ GE323.out | refine below_set ?_ GE327.out) | exact HB.out)) hb); clear BK323; clear BK327; clear HB; have BK323 := n0_; have BK327 := n1_; have HB := n2_; clear n0_ n1_ n2_
               (try clear hb)
               (try clear hb2)
               (try clear hk)
               (try clear hi)
               refine hK.out _ _ ⟨(blk_cell BK327.out 0).trans rfl, (blk_cell BK327.out 1).trans rfl, (blk_cell BK327.out 2).trans rfl, (blk_cell BK323.out 0).trans rfl, (blk_cell BK323.out 1).trans rfl, (blk_cell BK323.out 2).trans rfl⟩ (fun hHeld => ?_)
               clear hK K
               refine norm_ (a' := ?_) ?_ ?_
               rotate_left
               ·show Act.put _ (some 99) _ = _
                simp only [Act.put, sA, s0, s1, i64_w, i32_w]
                rfl
               refine pw 43 100 m50 HT_ ?_
               refine pw 44 101 m51 HT_ ?_
               refine pw 45 102 m52 HT_ ?_
               refine pw 46 103 m53 HT_ ?_
               refine pw 47 104 m54 HT_ ?_
               refine pw 48 105 m55 HT_ ?_
               refine pw 49 106 m56 HT_ ?_
               refine pw 51 108 m57 HT_ ?_
               refine pt 50 107 m58 rfl HT_ HW_ hHeld ?_ (Or.inl ⟨by rfl, by rintro w' ⟨s0, s1, s2, s3, s4, s5⟩; go_simp; with_reducible rfl⟩)
               refine pt 52 109 m59 rfl HT_ HW_ hHeld ?_ (Or.inl ⟨by rfl, by rintro w' ⟨s0, s1, s2, s3, s4, s5⟩; go_simp; with_reducible rfl⟩)
               refine pw 53 110 m60 HT_ ?_
               refine pw 54 111 m61 HT_ ?_
               refine pw 55 112 m62 HT_ ?_
               refine pu 56 113 m63 HT_ ?_
               refine pu 57 114 m72 HT_ ?_
               refine pu 58 115 m65 HT_ ?_
               refine pu 59 116 m66 HT_ ?_
               refine pu 60 117 m67 HT_ ?_
               refine pw 61 118 m68 HT_ ?_
               refine pw 62 119 m69 HT_ ?_
               refine pw 63 120 m70 HT_ ?_
               refine pw 64 2 m71 HT_ ?_
               refine done_ (done_of HT_.out (by kernel_rfl)) ?_
               try go_wp2
               go_ret
               exact ⟨by first | rfl | (simp [errW_none, errW_some] <;> rfl) | (simp [*, errW_none, errW_some] <;> rfl), by repeat (first | (with_reducible first | exact HB.out | apply below_alloc | apply pw_below_drewN | apply below_drew1 | refine below_set ?_ GE323.out | refine below_set ?_ GE327.out) | exact HB.out)⟩
             ·rw [if_neg c98] at H
              have c98b0 : (t322 == 12) = false := beq_eq_false_iff_ne.mpr c98
              have c98b1 : (t322 != 12) = true := bne_iff_ne.mpr c98
              obtain rfl := Option.some.inj H
              have hnb112 := NB327_323.out
              have hnc112 := NB323_327.out; have hcz113_0 : wc.cell? ⟨gb327, 0, none⟩ = some (.int .i64 t324) := (blk_cell BK327.out 0).trans rfl; have hcz113_1 : wc.cell? ⟨gb327, 1, none⟩ = some (.int .i64 t325) := (blk_cell BK327.out 1).trans rfl; have hcz113_2 : wc.cell? ⟨gb327, 2, none⟩ = some (.int .i64 t326) := (blk_cell BK327.out 2).trans rfl; have hfz113_0 := blk_frozen BK327.out 0; have hfz113_1 := blk_frozen BK327.out 1; have hfz113_2 := blk_frozen BK327.out 2
              try go_wp2_with (first | ((with_reducible refine gate_callee (f := 21) rfl ?_); refine goesL_ (some 56) rfl rfl Try.func21 (by kernel_rfl) rfl #[.int .i64 t324, .int .i64 t325] rfl (by (try simp only [List.map_toArray, List.map_cons, List.map_nil]); first | done | rfl | (simp only [List.length_drop, List.length_take]; rfl)) ?_; (with_reducible refine (impl_DayLast.calls t324 t325 t336 _ A53.out).mono ?_); rintro e w' ⟨rfl, ⟨nd, rfl⟩⟩; refine ⟨_, rfl, ?_⟩))
              (try (rw [drewN_self wc]; generalize hq_ : World.drewN wc _ = wc; have n0_ : Aside0 (wc.heap[gb323]? = some (.cells #[.int .i64 t319, .int .i64 t320, .int .i64 t321] 24 (0, 0))) := ⟨by rw [← hq_]; exact (by (with_reducible repeat (first | refine blk_drewN ?_ _ | refine blk_drew ?_ | refine blk_alloc ?_ _)); exact BK323.out)⟩; have n1_ : Aside0 (wc.heap[gb327]? = some (.cells #[.int .i64 t324, .int .i64 t325, .int .i64 t326] 24 (0, 0))) := ⟨by rw [← hq_]; exact (by (with_reducible repeat (first | refine blk_drewN ?_ _ | refine blk_drew ?_ | refine blk_alloc ?_ _)); exact BK327.out)⟩; have n2_ : Aside0 (Below w.heap.size w wc) := ⟨by rw [← hq_]; exact (by repeat (first | (with_reducible first | exact HB.out | apply below_alloc | apply pw_below_drewN | apply below_drew1 | refine below_set ?_ GE323.out | refine below_set ?_ GE327.out) | exact HB.out))⟩; clear BK323 BK327 HB hq_; have BK323 := n0_; have BK327 := n1_; have HB := n2_; clear n0_ n1_ n2_))
              have n0_ := Aside0.mk (blk_drew BK323.out); have n1_ := Aside0.mk (blk_drew BK327.out); have n2_ := Aside0.mk (below_drew1 HB.out); clear BK323; clear BK327; clear HB; have BK323 := n0_; have BK327 := n1_; have HB := n2_; clear n0_ n1_ n2_
              refine start_ (n := 65) (S := fun w' => w'.cell? ⟨gb327, 0, none⟩ = some (.int .i64 t324) ∧ w'.cell? ⟨gb327, 1, none⟩ = some (.int .i64 t325) ∧ w'.cell? ⟨gb327, 2, none⟩ = some (.int .i64 t326) ∧ w'.cell? ⟨gb323, 0, none⟩ = some (.int .i64 t319) ∧ w'.cell? ⟨gb323, 1, none⟩ = some (.int .i64 t320) ∧ w'.cell? ⟨gb323, 2, none⟩ = some (.int .i64 t321)) (ds := []) m6 (by kernel_rfl) rfl rfl ⟨(blk_cell BK327.out 0).trans rfl, (blk_cell BK327.out 1).trans rfl, (blk_cell BK327.out 2).trans rfl, (blk_cell BK323.out 0).trans rfl, (blk_cell BK323.out 1).trans rfl, (blk_cell BK323.out 2).trans rfl⟩ (fun hHeld => ?_); refine with_tabW laws_FnDayPlus.tab10 laws_FnDayPlus.bits10 (fun HT_ HW_ => ?_)
              generalize wc.drew = w114 at BK323 BK327 HB hHeld ⊢
              refine pw 0 57 m7 HT_ ?_
              refine pw 3 60 m8 HT_ ?_
              refine pw 6 63 m9 HT_ ?_
              refine pw 9 66 m10 HT_ ?_
              refine pw 12 69 m11 HT_ ?_
              refine pt 1 58 m12 rfl HT_ HW_ hHeld ?_ (Or.inl ⟨by rfl, by rintro w' ⟨s0, s1, s2, s3, s4, s5⟩; go_simp; with_reducible rfl⟩)
              refine pw 2 59 m13 HT_ ?_
              refine pt 4 61 m14 rfl HT_ HW_ hHeld ?_ (Or.inl ⟨by rfl, by rintro w' ⟨s0, s1, s2, s3, s4, s5⟩; go_simp; with_reducible rfl⟩)
              refine pw 5 62 m15 HT_ ?_
              refine pt 7 64 m16 rfl HT_ HW_ hHeld ?_ (Or.inl ⟨by rfl, by rintro w' ⟨s0, s1, s2, s3, s4, s5⟩; go_simp; with_reducible rfl⟩)
              refine pw 8 65 m17 HT_ ?_
              refine pt 10 67 m18 rfl HT_ HW_ hHeld ?_ (Or.inl ⟨by rfl, by rintro w' ⟨s0, s1, s2, s3, s4, s5⟩; go_simp; with_reducible rfl⟩)
              refine pw 11 68 m19 HT_ ?_
              refine pw 13 70 m20 HT_ ?_
              refine pw 14 71 m21 HT_ ?_
              refine pw 15 72 m22 HT_ ?_
              refine pw 16 73 m23 HT_ ?_
              refine pw 18 75 m24 HT_ ?_
              refine pt 17 74 m25 rfl HT_ HW_ hHeld ?_ (Or.inl ⟨by rfl, by rintro w' ⟨s0, s1, s2, s3, s4, s5⟩; go_simp; with_reducible rfl⟩)
              refine pt 19 76 m26 rfl HT_ HW_ hHeld ?_ (Or.inl ⟨by rfl, by rintro w' ⟨s0, s1, s2, s3, s4, s5⟩; go_simp; with_reducible rfl⟩)
              refine pw 20 77 m27 HT_ ?_
              refine pw 21 78 m28 HT_ ?_
              refine pw 22 79 m29 HT_ ?_
              refine pw 24 81 m75 HT_ ?_
              refine pt 23 80 m31 rfl HT_ HW_ hHeld ?_ (Or.inl ⟨by rfl, by rintro w' ⟨s0, s1, s2, s3, s4, s5⟩; go_simp; with_reducible rfl⟩)
              refine pw 25 82 m32 HT_ ?_
              refine pw 26 83 m33 HT_ ?_
              refine pw 27 84 m34 HT_ ?_
              refine pw 29 86 m76 HT_ ?_
              refine pt 28 85 m36 rfl HT_ HW_ hHeld ?_ (Or.inl ⟨by rfl, by rintro w' ⟨s0, s1, s2, s3, s4, s5⟩; go_simp; with_reducible rfl⟩)
              refine pw 30 87 m37 HT_ ?_
              refine pw 31 88 m38 HT_ ?_
              refine pw 32 89 m39 HT_ ?_
              refine pw 33 90 m40 HT_ ?_
              refine pw 34 91 m41 HT_ ?_
              refine pt 35 92 m42 rfl HT_ HW_ hHeld ?_ (Or.inl ⟨by rfl, by rintro w' ⟨s0, s1, s2, s3, s4, s5⟩; go_simp; with_reducible rfl⟩)
              refine one_ (i := 36) (N := some 93) m43 rfl rfl (one_of HT_.out (by kernel_rfl)) (by decide) (fun K hK => ?_)
              refine goes_ Try.func13 (by kernel_rfl) rfl #[.agg #[.int .i64 t324, .int .i64 t325, .int .i64 t326]] (by rfl) rfl rfl (by (try simp only [List.map_toArray, List.map_cons, List.map_nil]); first | done | rfl | (simp only [List.length_drop, List.length_take]; rfl)) ?_
              with_reducible refine (impl_DayOk.calls t324 t325 t326 true _ A93.out).mono ?_
              rintro e w115 ⟨rfl, hb⟩
              refine ⟨_, rfl, ?_⟩
              have n0_ := Aside0.mk (blk_below (g := gb323) (o := .cells #[.int .i64 t319, .int .i64 t320, .int .i64 t321] 24 (0, 0)) (by (with_reducible repeat (first | refine blk_drewN ?_ _ | refine blk_drew ?_ | refine blk_alloc ?_ _)); exact BK323.out) hb); have n1_ := Aside0.mk (blk_below (g := gb327) (o := .cells #[.int .i64 t324, .int .i64 t325, .int .i64 t326] 24 (0, 0)) (by (with_reducible repeat (first | refine blk_drewN ?_ _ | refine blk_drew ?_ | refine blk_alloc ?_ _)); exact BK327.out) hb); have n2_ := Aside0.mk (below_step (by repeat (first | (with_reducible first | exact HB.out | apply below_alloc | apply pw_below_drewN | apply below_drew1 | refine below_set ?_ GE323.out | refine below_set ?_ GE327.out) | exact HB.out)) hb); clear BK323; clear BK327; clear HB; have BK323 := n0_; have BK327 := n1_; have HB := n2_; clear n0_ n1_ n2_
              (try clear hb)
              (try clear hb2)
              (try clear hk)
              (try clear hi)
              refine hK.out _ _ ⟨(blk_cell BK327.out 0).trans rfl, (blk_cell BK327.out 1).trans rfl, (blk_cell BK327.out 2).trans rfl, (blk_cell BK323.out 0).trans rfl, (blk_cell BK323.out 1).trans rfl, (blk_cell BK323.out 2).trans rfl⟩ (fun hHeld => ?_)
              clear hK K
              refine norm_ (a' := ?_) ?_ ?_
              rotate_left
              ·show Act.put _ (some 93) _ = _
               simp only [Act.put, sA, s0, s1, i64_w, i32_w]
               rfl
              refine pw 37 94 m44 HT_ ?_
              refine pw 38 95 m45 HT_ ?_
              refine pt 39 96 m46 rfl HT_ HW_ hHeld ?_ (Or.inl ⟨by rfl, by rintro w' ⟨s0, s1, s2, s3, s4, s5⟩; go_simp; with_reducible rfl⟩)
              refine pt 41 98 m47 rfl HT_ HW_ hHeld ?_ (Or.inl ⟨by rfl, by rintro w' ⟨s0, s1, s2, s3, s4, s5⟩; go_simp; with_reducible rfl⟩)
              refine one_ (i := 40) (N := some 97) m48 rfl rfl (one_of HT_.out (by kernel_rfl)) (by decide) (fun K hK => ?_)
              refine goes_ Try.func14 (by kernel_rfl) rfl #[.agg #[.int .i64 t324, .int .i64 t325, .int .i64 t326]] (by rfl) rfl rfl (by (try simp only [List.map_toArray, List.map_cons, List.map_nil]); first | done | rfl | (simp only [List.length_drop, List.length_take]; rfl)) ?_
              with_reducible refine (impl_DayNum.calls kj18 t324 t325 t326 t341 _ A95.out).mono ?_
              rintro e w116 ⟨rfl, hb⟩
              refine ⟨_, rfl, ?_⟩
              have n0_ := Aside0.mk (blk_below (g := gb323) (o := .cells #[.int .i64 t319, .int .i64 t320, .int .i64 t321] 24 (0, 0)) (by (with_reducible repeat (first | refine blk_drewN ?_ _ | refine blk_drew ?_ | refine blk_alloc ?_ _)); exact BK323.out) hb); have n1_ := Aside0.mk (blk_below (g := gb327) (o := .cells #[.int .i64 t324, .int .i64 t325, .int .i64 t326] 24 (0, 0)) (by (with_reducible repeat (first | refine blk_drewN ?_ _ | refine blk_drew ?_ | refine blk_alloc ?_ _)); exact BK327.out) hb); have n2_ := Aside0.mk (below_step (by repeat (first | (with_reducible first | exact HB.out | apply below_alloc | apply pw_below_drewN | apply below_drew1 | refine below_set ?_ GE323.out | refine below_set ?_ GE327.out) | exact HB.out)) hb); clear BK323; clear BK327; clear HB; have BK323 := n0_; have BK327 := n1_; have HB := n2_; clear n0_ n1_ n2_
              (try clear hb)
              (try clear hb2)
              (try clear hk)
              (try clear hi)
              refine hK.out _ _ ⟨(blk_cell BK327.out 0).trans rfl, (blk_cell BK327.out 1).trans rfl, (blk_cell BK327.out 2).trans rfl, (blk_cell BK323.out 0).trans rfl, (blk_cell BK323.out 1).trans rfl, (blk_cell BK323.out 2).trans rfl⟩ (fun hHeld => ?_)
              clear hK K
              refine norm_ (a' := ?_) ?_ ?_
              rotate_left
              ·show Act.put _ (some 97) _ = _
               simp only [Act.put, sA, s0, s1, i64_w, i32_w]
               rfl
              refine one_ (i := 42) (N := some 99) m49 rfl rfl (one_of HT_.out (by kernel_rfl)) (by decide) (fun K hK => ?_)
              refine goes_ Try.func14 (by kernel_rfl) rfl #[.agg #[.int .i64 t319, .int .i64 t320, .int .i64 t321]] (by rfl) rfl rfl (by (try simp only [List.map_toArray, List.map_cons, List.map_nil]); first | done | rfl | (simp only [List.length_drop, List.length_take]; rfl)) ?_
              with_reducible refine (impl_DayNum.calls kj18 t319 t320 t321 t342 _ A96.out).mono ?_
              rintro e w117 ⟨rfl, hb⟩
              refine ⟨_, rfl, ?_⟩
              have n0_ := Aside0.mk (blk_below (g := gb323) (o := .cells #[.int .i64 t319, .int .i64 t320, .int .i64 t321] 24 (0, 0)) (by (with_reducible repeat (first | refine blk_drewN ?_ _ | refine blk_drew ?_ | refine blk_alloc ?_ _)); exact BK323.out) hb); have n1_ := Aside0.mk (blk_below (g := gb327) (o := .cells #[.int .i64 t324, .int .i64 t325, .int .i64 t326] 24 (0, 0)) (by (with_reducible repeat (first | refine blk_drewN ?_ _ | refine blk_drew ?_ | refine blk_alloc ?_ _)); exact BK327.out) hb); have n2_ := Aside0.mk (below_step (by repeat (first | (with_reducible first | exact HB.out | apply below_alloc | apply pw_below_drewN | apply below_drew1 | refine below_set ?_ GE323.out | refine below_set ?_ GE327.out) | exact HB.out)) hb); clear BK323; clear BK327; clear HB; have BK323 := n0_; have BK327 := n1_; have HB := n2_; clear n0_ n1_ n2_
              (try clear hb)
              (try clear hb2)
              (try clear hk)
              (try clear hi)
              refine hK.out _ _ ⟨(blk_cell BK327.out 0).trans rfl, (blk_cell BK327.out 1).trans rfl, (blk_cell BK327.out 2).trans rfl, (blk_cell BK323.out 0).trans rfl, (blk_cell BK323.out 1).trans rfl, (blk_cell BK323.out 2).trans rfl⟩ (fun hHeld => ?_)
              clear hK K
              refine norm_ (a' := ?_) ?_ ?_
              rotate_left
              ·show Act.put _ (some 99) _ = _
               simp only [Act.put, sA, s0, s1, i64_w, i32_w]
               rfl
              refine pw 43 100 m50 HT_ ?_
              refine pw 44 101 m51 HT_ ?_
              refine pw 45 102 m52 HT_ ?_
              refine pw 46 103 m53 HT_ ?_
              refine pw 47 104 m54 HT_ ?_
              refine pw 48 105 m55 HT_ ?_
              refine pu 49 106 m56 HT_ ?_
              refine pu 50 107 m73 HT_ ?_
              refine pu 51 108 m58 HT_ ?_
              refine pu 52 109 m59 HT_ ?_
              refine pu 53 110 m60 HT_ ?_
              refine pu 54 111 m61 HT_ ?_
              refine pu 55 112 m62 HT_ ?_
              refine pu 56 113 m63 HT_ ?_
              refine pu 57 114 m72 HT_ ?_
              refine pu 58 115 m65 HT_ ?_
              refine pu 59 116 m66 HT_ ?_
              refine pu 60 117 m67 HT_ ?_
              refine pu 61 118 m68 HT_ ?_
              refine pw 62 119 m69 HT_ ?_
              refine pw 63 120 m70 HT_ ?_
              refine pw 64 2 m71 HT_ ?_
              refine done_ (done_of HT_.out (by kernel_rfl)) ?_
              try go_wp2
              go_ret
              exact ⟨by first | rfl | (simp [errW_none, errW_some] <;> rfl) | (simp [*, errW_none, errW_some] <;> rfl), by repeat (first | (with_reducible first | exact HB.out | apply below_alloc | apply pw_below_drewN | apply below_drew1 | refine below_set ?_ GE323.out | refine below_set ?_ GE327.out) | exact HB.out)⟩
            ·rw [if_neg c97] at H
             have c97b0 : decide (t342 ≤ t341) = false := decide_eq_false c97
             clear c97
             obtain rfl := Option.some.inj H
             have hnb118 := NB327_323.out
             have hnc118 := NB323_327.out; have hcz119_0 : wc.cell? ⟨gb327, 0, none⟩ = some (.int .i64 t324) := (blk_cell BK327.out 0).trans rfl; have hcz119_1 : wc.cell? ⟨gb327, 1, none⟩ = some (.int .i64 t325) := (blk_cell BK327.out 1).trans rfl; have hcz119_2 : wc.cell? ⟨gb327, 2, none⟩ = some (.int .i64 t326) := (blk_cell BK327.out 2).trans rfl; have hfz119_0 := blk_frozen BK327.out 0; have hfz119_1 := blk_frozen BK327.out 1; have hfz119_2 := blk_frozen BK327.out 2
             try go_wp2_with (first | ((with_reducible refine gate_callee (f := 21) rfl ?_); refine goesL_ (some 56) rfl rfl Try.func21 (by kernel_rfl) rfl #[.int .i64 t324, .int .i64 t325] rfl (by (try simp only [List.map_toArray, List.map_cons, List.map_nil]); first | done | rfl | (simp only [List.length_drop, List.length_take]; rfl)) ?_; (with_reducible refine (impl_DayLast.calls t324 t325 t336 _ A53.out).mono ?_); rintro e w' ⟨rfl, ⟨nd, rfl⟩⟩; refine ⟨_, rfl, ?_⟩))
             (try (rw [drewN_self wc]; generalize hq_ : World.drewN wc _ = wc; have n0_ : Aside0 (wc.heap[gb323]? = some (.cells #[.int .i64 t319, .int .i64 t320, .int .i64 t321] 24 (0, 0))) := ⟨by rw [← hq_]; exact (by (with_reducible repeat (first | refine blk_drewN ?_ _ | refine blk_drew ?_ | refine blk_alloc ?_ _)); exact BK323.out)⟩; have n1_ : Aside0 (wc.heap[gb327]? = some (.cells #[.int .i64 t324, .int .i64 t325, .int .i64 t326] 24 (0, 0))) := ⟨by rw [← hq_]; exact (by (with_reducible repeat (first | refine blk_drewN ?_ _ | refine blk_drew ?_ | refine blk_alloc ?_ _)); exact BK327.out)⟩; have n2_ : Aside0 (Below w.heap.size w wc) := ⟨by rw [← hq_]; exact (by repeat (first | (with_reducible first | exact HB.out | apply below_alloc | apply pw_below_drewN | apply below_drew1 | refine below_set ?_ GE323.out | refine below_set ?_ GE327.out) | exact HB.out))⟩; clear BK323 BK327 HB hq_; have BK323 := n0_; have BK327 := n1_; have HB := n2_; clear n0_ n1_ n2_))
             have n0_ := Aside0.mk (blk_drew BK323.out); have n1_ := Aside0.mk (blk_drew BK327.out); have n2_ := Aside0.mk (below_drew1 HB.out); clear BK323; clear BK327; clear HB; have BK323 := n0_; have BK327 := n1_; have HB := n2_; clear n0_ n1_ n2_
             refine start_ (n := 65) (S := fun w' => w'.cell? ⟨gb327, 0, none⟩ = some (.int .i64 t324) ∧ w'.cell? ⟨gb327, 1, none⟩ = some (.int .i64 t325) ∧ w'.cell? ⟨gb327, 2, none⟩ = some (.int .i64 t326) ∧ w'.cell? ⟨gb323, 0, none⟩ = some (.int .i64 t319) ∧ w'.cell? ⟨gb323, 1, none⟩ = some (.int .i64 t320) ∧ w'.cell? ⟨gb323, 2, none⟩ = some (.int .i64 t321)) (ds := []) m6 (by kernel_rfl) rfl rfl ⟨(blk_cell BK327.out 0).trans rfl, (blk_cell BK327.out 1).trans rfl, (blk_cell BK327.out 2).trans rfl, (blk_cell BK323.out 0).trans rfl, (blk_cell BK323.out 1).trans rfl, (blk_cell BK323.out 2).trans rfl⟩ (fun hHeld => ?_); refine with_tabW laws_FnDayPlus.tab10 laws_FnDayPlus.bits10 (fun HT_ HW_ => ?_)
             generalize wc.drew = w120 at BK323 BK327 HB hHeld ⊢
             refine pw 0 57 m7 HT_ ?_
             refine pw 3 60 m8 HT_ ?_
             refine pw 6 63 m9 HT_ ?_
             refine pw 9 66 m10 HT_ ?_
             refine pw 12 69 m11 HT_ ?_
             refine pt 1 58 m12 rfl HT_ HW_ hHeld ?_ (Or.inl ⟨by rfl, by rintro w' ⟨s0, s1, s2, s3, s4, s5⟩; go_simp; with_reducible rfl⟩)
             refine pw 2 59 m13 HT_ ?_
             refine pt 4 61 m14 rfl HT_ HW_ hHeld ?_ (Or.inl ⟨by rfl, by rintro w' ⟨s0, s1, s2, s3, s4, s5⟩; go_simp; with_reducible rfl⟩)
             refine pw 5 62 m15 HT_ ?_
             refine pt 7 64 m16 rfl HT_ HW_ hHeld ?_ (Or.inl ⟨by rfl, by rintro w' ⟨s0, s1, s2, s3, s4, s5⟩; go_simp; with_reducible rfl⟩)
             refine pw 8 65 m17 HT_ ?_
             refine pt 10 67 m18 rfl HT_ HW_ hHeld ?_ (Or.inl ⟨by rfl, by rintro w' ⟨s0, s1, s2, s3, s4, s5⟩; go_simp; with_reducible rfl⟩)
             refine pw 11 68 m19 HT_ ?_
             refine pw 13 70 m20 HT_ ?_
             refine pw 14 71 m21 HT_ ?_
             refine pw 15 72 m22 HT_ ?_
             refine pw 16 73 m23 HT_ ?_
             refine pw 18 75 m24 HT_ ?_
             refine pt 17 74 m25 rfl HT_ HW_ hHeld ?_ (Or.inl ⟨by rfl, by rintro w' ⟨s0, s1, s2, s3, s4, s5⟩; go_simp; with_reducible rfl⟩)
             refine pt 19 76 m26 rfl HT_ HW_ hHeld ?_ (Or.inl ⟨by rfl, by rintro w' ⟨s0, s1, s2, s3, s4, s5⟩; go_simp; with_reducible rfl⟩)
             refine pw 20 77 m27 HT_ ?_
             refine pw 21 78 m28 HT_ ?_
             refine pw 22 79 m29 HT_ ?_
             refine pw 24 81 m75 HT_ ?_
             refine pt 23 80 m31 rfl HT_ HW_ hHeld ?_ (Or.inl ⟨by rfl, by rintro w' ⟨s0, s1, s2, s3, s4, s5⟩; go_simp; with_reducible rfl⟩)
             refine pw 25 82 m32 HT_ ?_
             refine pw 26 83 m33 HT_ ?_
             refine pw 27 84 m34 HT_ ?_
             refine pw 29 86 m76 HT_ ?_
             refine pt 28 85 m36 rfl HT_ HW_ hHeld ?_ (Or.inl ⟨by rfl, by rintro w' ⟨s0, s1, s2, s3, s4, s5⟩; go_simp; with_reducible rfl⟩)
             refine pw 30 87 m37 HT_ ?_
             refine pw 31 88 m38 HT_ ?_
             refine pw 32 89 m39 HT_ ?_
             refine pw 33 90 m40 HT_ ?_
             refine pw 34 91 m41 HT_ ?_
             refine pt 35 92 m42 rfl HT_ HW_ hHeld ?_ (Or.inl ⟨by rfl, by rintro w' ⟨s0, s1, s2, s3, s4, s5⟩; go_simp; with_reducible rfl⟩)
             refine one_ (i := 36) (N := some 93) m43 rfl rfl (one_of HT_.out (by kernel_rfl)) (by decide) (fun K hK => ?_)
             refine goes_ Try.func13 (by kernel_rfl) rfl #[.agg #[.int .i64 t324, .int .i64 t325, .int .i64 t326]] (by rfl) rfl rfl (by (try simp only [List.map_toArray, List.map_cons, List.map_nil]); first | done | rfl | (simp only [List.length_drop, List.length_take]; rfl)) ?_
             with_reducible refine (impl_DayOk.calls t324 t325 t326 true _ A93.out).mono ?_
             rintro e w121 ⟨rfl, hb⟩
             refine ⟨_, rfl, ?_⟩
             have n0_ := Aside0.mk (blk_below (g := gb323) (o := .cells #[.int .i64 t319, .int .i64 t320, .int .i64 t321] 24 (0, 0)) (by (with_reducible repeat (first | refine blk_drewN ?_ _ | refine blk_drew ?_ | refine blk_alloc ?_ _)); exact BK323.out) hb); have n1_ := Aside0.mk (blk_below (g := gb327) (o := .cells #[.int .i64 t324, .int .i64 t325, .int .i64 t326] 24 (0, 0)) (by (with_reducible repeat (first | refine blk_drewN ?_ _ | refine blk_drew ?_ | refine blk_alloc ?_ _)); exact BK327.out) hb); have n2_ := Aside0.mk (below_step (by repeat (first | (with_reducible first | exact HB.out | apply below_alloc | apply pw_below_drewN | apply below_drew1 | refine below_set ?_ GE323.out | refine below_set ?_ GE327.out) | exact HB.out)) hb); clear BK323; clear BK327; clear HB; have BK323 := n0_; have BK327 := n1_; have HB := n2_; clear n0_ n1_ n2_
             (try clear hb)
             (try clear hb2)
             (try clear hk)
             (try clear hi)
             refine hK.out _ _ ⟨(blk_cell BK327.out 0).trans rfl, (blk_cell BK327.out 1).trans rfl, (blk_cell BK327.out 2).trans rfl, (blk_cell BK323.out 0).trans rfl, (blk_cell BK323.out 1).trans rfl, (blk_cell BK323.out 2).trans rfl⟩ (fun hHeld => ?_)
             clear hK K
             refine norm_ (a' := ?_) ?_ ?_
             rotate_left
             ·show Act.put _ (some 93) _ = _
              simp only [Act.put, sA, s0, s1, i64_w, i32_w]
              rfl
             refine pw 37 94 m44 HT_ ?_
             refine pw 38 95 m45 HT_ ?_
             refine pt 39 96 m46 rfl HT_ HW_ hHeld ?_ (Or.inl ⟨by rfl, by rintro w' ⟨s0, s1, s2, s3, s4, s5⟩; go_simp; with_reducible rfl⟩)
             refine pt 41 98 m47 rfl HT_ HW_ hHeld ?_ (Or.inl ⟨by rfl, by rintro w' ⟨s0, s1, s2, s3, s4, s5⟩; go_simp; with_reducible rfl⟩)
             refine one_ (i := 40) (N := some 97) m48 rfl rfl (one_of HT_.out (by kernel_rfl)) (by decide) (fun K hK => ?_)
             refine goes_ Try.func14 (by kernel_rfl) rfl #[.agg #[.int .i64 t324, .int .i64 t325, .int .i64 t326]] (by rfl) rfl rfl (by (try simp only [List.map_toArray, List.map_cons, List.map_nil]); first | done | rfl | (simp only [List.length_drop, List.length_take]; rfl)) ?_
             with_reducible refine (impl_DayNum.calls kj18 t324 t325 t326 t341 _ A95.out).mono ?_
             rintro e w122 ⟨rfl, hb⟩
             refine ⟨_, rfl, ?_⟩
             have n0_ := Aside0.mk (blk_below (g := gb323) (o := .cells #[.int .i64 t319, .int .i64 t320, .int .i64 t321] 24 (0, 0)) (by (with_reducible repeat (first | refine blk_drewN ?_ _ | refine blk_drew ?_ | refine blk_alloc ?_ _)); exact BK323.out) hb); have n1_ := Aside0.mk (blk_below (g := gb327) (o := .cells #[.int .i64 t324, .int .i64 t325, .int .i64 t326] 24 (0, 0)) (by (with_reducible repeat (first | refine blk_drewN ?_ _ | refine blk_drew ?_ | refine blk_alloc ?_ _)); exact BK327.out) hb); have n2_ := Aside0.mk (below_step (by repeat (first | (with_reducible first | exact HB.out | apply below_alloc | apply pw_below_drewN | apply below_drew1 | refine below_set ?_ GE323.out | refine below_set ?_ GE327.out) | exact HB.out)) hb); clear BK323; clear BK327; clear HB; have BK323 := n0_; have BK327 := n1_; have HB := n2_; clear n0_ n1_ n2_
             (try clear hb)
             (try clear hb2)
             (try clear hk)
             (try clear hi)
             refine hK.out _ _ ⟨(blk_cell BK327.out 0).trans rfl, (blk_cell BK327.out 1).trans rfl, (blk_cell BK327.out 2).trans rfl, (blk_cell BK323.out 0).trans rfl, (blk_cell BK323.out 1).trans rfl, (blk_cell BK323.out 2).trans rfl⟩ (fun hHeld => ?_)
             clear hK K
             refine norm_ (a' := ?_) ?_ ?_
             rotate_left
             ·show Act.put _ (some 97) _ = _
              simp only [Act.put, sA, s0, s1, i64_w, i32_w]
              rfl
             refine one_ (i := 42) (N := some 99) m49 rfl rfl (one_of HT_.out (by kernel_rfl)) (by decide) (fun K hK => ?_)
             refine goes_ Try.func14 (by kernel_rfl) rfl #[.agg #[.int .i64 t319, .int .i64 t320, .int .i64 t321]] (by rfl) rfl rfl (by (try simp only [List.map_toArray, List.map_cons, List.map_nil]); first | done | rfl | (simp only [List.length_drop, List.length_take]; rfl)) ?_
             with_reducible refine (impl_DayNum.calls kj18 t319 t320 t321 t342 _ A96.out).mono ?_
             rintro e w123 ⟨rfl, hb⟩
             refine ⟨_, rfl, ?_⟩
             have n0_ := Aside0.mk (blk_below (g := gb323) (o := .cells #[.int .i64 t319, .int .i64 t320, .int .i64 t321] 24 (0, 0)) (by (with_reducible repeat (first | refine blk_drewN ?_ _ | refine blk_drew ?_ | refine blk_alloc ?_ _)); exact BK323.out) hb); have n1_ := Aside0.mk (blk_below (g := gb327) (o := .cells #[.int .i64 t324, .int .i64 t325, .int .i64 t326] 24 (0, 0)) (by (with_reducible repeat (first | refine blk_drewN ?_ _ | refine blk_drew ?_ | refine blk_alloc ?_ _)); exact BK327.out) hb); have n2_ := Aside0.mk (below_step (by repeat (first | (with_reducible first | exact HB.out | apply below_alloc | apply pw_below_drewN | apply below_drew1 | refine below_set ?_ GE323.out | refine below_set ?_ GE327.out) | exact HB.out)) hb); clear BK323; clear BK327; clear HB; have BK323 := n0_; have BK327 := n1_; have HB := n2_; clear n0_ n1_ n2_
             (try clear hb)
             (try clear hb2)
             (try clear hk)
             (try clear hi)
             refine hK.out _ _ ⟨(blk_cell BK327.out 0).trans rfl, (blk_cell BK327.out 1).trans rfl, (blk_cell BK327.out 2).trans rfl, (blk_cell BK323.out 0).trans rfl, (blk_cell BK323.out 1).trans rfl, (blk_cell BK323.out 2).trans rfl⟩ (fun hHeld => ?_)
             clear hK K
             refine norm_ (a' := ?_) ?_ ?_
             rotate_left
             ·show Act.put _ (some 99) _ = _
              simp only [Act.put, sA, s0, s1, i64_w, i32_w]
              rfl
             refine pw 43 100 m50 HT_ ?_
             refine pw 44 101 m51 HT_ ?_
             refine pw 45 102 m52 HT_ ?_
             refine pu 46 103 m53 HT_ ?_
             refine pu 47 104 m54 HT_ ?_
             refine pu 48 105 m55 HT_ ?_
             refine pu 49 106 m56 HT_ ?_
             refine pu 50 107 m73 HT_ ?_
             refine pu 51 108 m58 HT_ ?_
             refine pu 52 109 m59 HT_ ?_
             refine pu 53 110 m60 HT_ ?_
             refine pu 54 111 m61 HT_ ?_
             refine pu 55 112 m62 HT_ ?_
             refine pu 56 113 m63 HT_ ?_
             refine pu 57 114 m72 HT_ ?_
             refine pu 58 115 m65 HT_ ?_
             refine pu 59 116 m66 HT_ ?_
             refine pu 60 117 m67 HT_ ?_
             refine pu 61 118 m68 HT_ ?_
             refine pu 62 119 m69 HT_ ?_
             refine pw 63 120 m70 HT_ ?_
             refine pw 64 2 m71 HT_ ?_
             refine done_ (done_of HT_.out (by kernel_rfl)) ?_
             try go_wp2
             go_ret
             exact ⟨by first | rfl | (simp [errW_none, errW_some] <;> rfl) | (simp [*, errW_none, errW_some] <;> rfl), by repeat (first | (with_reducible first | exact HB.out | apply below_alloc | apply pw_below_drewN | apply below_drew1 | refine below_set ?_ GE323.out | refine below_set ?_ GE327.out) | exact HB.out)⟩
           ·replace c94 := Bool.eq_false_iff.mpr c94
            subst c94
            have H1 : (some false) = some r := by rw [if_neg (show ¬ (false = true) by decide)] at H; exact H
            clear H; have H := H1; clear H1
            obtain rfl := Option.some.inj H
            have hnb124 := NB327_323.out
            have hnc124 := NB323_327.out; have hcz125_0 : wc.cell? ⟨gb327, 0, none⟩ = some (.int .i64 t324) := (blk_cell BK327.out 0).trans rfl; have hcz125_1 : wc.cell? ⟨gb327, 1, none⟩ = some (.int .i64 t325) := (blk_cell BK327.out 1).trans rfl; have hcz125_2 : wc.cell? ⟨gb327, 2, none⟩ = some (.int .i64 t326) := (blk_cell BK327.out 2).trans rfl; have hfz125_0 := blk_frozen BK327.out 0; have hfz125_1 := blk_frozen BK327.out 1; have hfz125_2 := blk_frozen BK327.out 2
            try go_wp2_with (first | ((with_reducible refine gate_callee (f := 21) rfl ?_); refine goesL_ (some 56) rfl rfl Try.func21 (by kernel_rfl) rfl #[.int .i64 t324, .int .i64 t325] rfl (by (try simp only [List.map_toArray, List.map_cons, List.map_nil]); first | done | rfl | (simp only [List.length_drop, List.length_take]; rfl)) ?_; (with_reducible refine (impl_DayLast.calls t324 t325 t336 _ A53.out).mono ?_); rintro e w' ⟨rfl, ⟨nd, rfl⟩⟩; refine ⟨_, rfl, ?_⟩))
            (try (rw [drewN_self wc]; generalize hq_ : World.drewN wc _ = wc; have n0_ : Aside0 (wc.heap[gb323]? = some (.cells #[.int .i64 t319, .int .i64 t320, .int .i64 t321] 24 (0, 0))) := ⟨by rw [← hq_]; exact (by (with_reducible repeat (first | refine blk_drewN ?_ _ | refine blk_drew ?_ | refine blk_alloc ?_ _)); exact BK323.out)⟩; have n1_ : Aside0 (wc.heap[gb327]? = some (.cells #[.int .i64 t324, .int .i64 t325, .int .i64 t326] 24 (0, 0))) := ⟨by rw [← hq_]; exact (by (with_reducible repeat (first | refine blk_drewN ?_ _ | refine blk_drew ?_ | refine blk_alloc ?_ _)); exact BK327.out)⟩; have n2_ : Aside0 (Below w.heap.size w wc) := ⟨by rw [← hq_]; exact (by repeat (first | (with_reducible first | exact HB.out | apply below_alloc | apply pw_below_drewN | apply below_drew1 | refine below_set ?_ GE323.out | refine below_set ?_ GE327.out) | exact HB.out))⟩; clear BK323 BK327 HB hq_; have BK323 := n0_; have BK327 := n1_; have HB := n2_; clear n0_ n1_ n2_))
            have n0_ := Aside0.mk (blk_drew BK323.out); have n1_ := Aside0.mk (blk_drew BK327.out); have n2_ := Aside0.mk (below_drew1 HB.out); clear BK323; clear BK327; clear HB; have BK323 := n0_; have BK327 := n1_; have HB := n2_; clear n0_ n1_ n2_
            refine start_ (n := 65) (S := fun w' => w'.cell? ⟨gb327, 0, none⟩ = some (.int .i64 t324) ∧ w'.cell? ⟨gb327, 1, none⟩ = some (.int .i64 t325) ∧ w'.cell? ⟨gb327, 2, none⟩ = some (.int .i64 t326) ∧ w'.cell? ⟨gb323, 0, none⟩ = some (.int .i64 t319) ∧ w'.cell? ⟨gb323, 1, none⟩ = some (.int .i64 t320) ∧ w'.cell? ⟨gb323, 2, none⟩ = some (.int .i64 t321)) (ds := []) m6 (by kernel_rfl) rfl rfl ⟨(blk_cell BK327.out 0).trans rfl, (blk_cell BK327.out 1).trans rfl, (blk_cell BK327.out 2).trans rfl, (blk_cell BK323.out 0).trans rfl, (blk_cell BK323.out 1).trans rfl, (blk_cell BK323.out 2).trans rfl⟩ (fun hHeld => ?_); refine with_tabW laws_FnDayPlus.tab10 laws_FnDayPlus.bits10 (fun HT_ HW_ => ?_)
            generalize wc.drew = w126 at BK323 BK327 HB hHeld ⊢
            refine pw 0 57 m7 HT_ ?_
            refine pw 3 60 m8 HT_ ?_
            refine pw 6 63 m9 HT_ ?_
            refine pw 9 66 m10 HT_ ?_
            refine pw 12 69 m11 HT_ ?_
            refine pt 1 58 m12 rfl HT_ HW_ hHeld ?_ (Or.inl ⟨by rfl, by rintro w' ⟨s0, s1, s2, s3, s4, s5⟩; go_simp; with_reducible rfl⟩)
            refine pw 2 59 m13 HT_ ?_
            refine pt 4 61 m14 rfl HT_ HW_ hHeld ?_ (Or.inl ⟨by rfl, by rintro w' ⟨s0, s1, s2, s3, s4, s5⟩; go_simp; with_reducible rfl⟩)
            refine pw 5 62 m15 HT_ ?_
            refine pt 7 64 m16 rfl HT_ HW_ hHeld ?_ (Or.inl ⟨by rfl, by rintro w' ⟨s0, s1, s2, s3, s4, s5⟩; go_simp; with_reducible rfl⟩)
            refine pw 8 65 m17 HT_ ?_
            refine pt 10 67 m18 rfl HT_ HW_ hHeld ?_ (Or.inl ⟨by rfl, by rintro w' ⟨s0, s1, s2, s3, s4, s5⟩; go_simp; with_reducible rfl⟩)
            refine pw 11 68 m19 HT_ ?_
            refine pw 13 70 m20 HT_ ?_
            refine pw 14 71 m21 HT_ ?_
            refine pw 15 72 m22 HT_ ?_
            refine pw 16 73 m23 HT_ ?_
            refine pw 18 75 m24 HT_ ?_
            refine pt 17 74 m25 rfl HT_ HW_ hHeld ?_ (Or.inl ⟨by rfl, by rintro w' ⟨s0, s1, s2, s3, s4, s5⟩; go_simp; with_reducible rfl⟩)
            refine pt 19 76 m26 rfl HT_ HW_ hHeld ?_ (Or.inl ⟨by rfl, by rintro w' ⟨s0, s1, s2, s3, s4, s5⟩; go_simp; with_reducible rfl⟩)
            refine pw 20 77 m27 HT_ ?_
            refine pw 21 78 m28 HT_ ?_
            refine pw 22 79 m29 HT_ ?_
            refine pw 24 81 m75 HT_ ?_
            refine pt 23 80 m31 rfl HT_ HW_ hHeld ?_ (Or.inl ⟨by rfl, by rintro w' ⟨s0, s1, s2, s3, s4, s5⟩; go_simp; with_reducible rfl⟩)
            refine pw 25 82 m32 HT_ ?_
            refine pw 26 83 m33 HT_ ?_
            refine pw 27 84 m34 HT_ ?_
            refine pw 29 86 m76 HT_ ?_
            refine pt 28 85 m36 rfl HT_ HW_ hHeld ?_ (Or.inl ⟨by rfl, by rintro w' ⟨s0, s1, s2, s3, s4, s5⟩; go_simp; with_reducible rfl⟩)
            refine pw 30 87 m37 HT_ ?_
            refine pw 31 88 m38 HT_ ?_
            refine pw 32 89 m39 HT_ ?_
            refine pw 33 90 m40 HT_ ?_
            refine pw 34 91 m41 HT_ ?_
            refine pt 35 92 m42 rfl HT_ HW_ hHeld ?_ (Or.inl ⟨by rfl, by rintro w' ⟨s0, s1, s2, s3, s4, s5⟩; go_simp; with_reducible rfl⟩)
            refine one_ (i := 36) (N := some 93) m43 rfl rfl (one_of HT_.out (by kernel_rfl)) (by decide) (fun K hK => ?_)
            refine goes_ Try.func13 (by kernel_rfl) rfl #[.agg #[.int .i64 t324, .int .i64 t325, .int .i64 t326]] (by rfl) rfl rfl (by (try simp only [List.map_toArray, List.map_cons, List.map_nil]); first | done | rfl | (simp only [List.length_drop, List.length_take]; rfl)) ?_
            with_reducible refine (impl_DayOk.calls t324 t325 t326 false _ A93.out).mono ?_
            rintro e w127 ⟨rfl, hb⟩
            refine ⟨_, rfl, ?_⟩
            have n0_ := Aside0.mk (blk_below (g := gb323) (o := .cells #[.int .i64 t319, .int .i64 t320, .int .i64 t321] 24 (0, 0)) (by (with_reducible repeat (first | refine blk_drewN ?_ _ | refine blk_drew ?_ | refine blk_alloc ?_ _)); exact BK323.out) hb); have n1_ := Aside0.mk (blk_below (g := gb327) (o := .cells #[.int .i64 t324, .int .i64 t325, .int .i64 t326] 24 (0, 0)) (by (with_reducible repeat (first | refine blk_drewN ?_ _ | refine blk_drew ?_ | refine blk_alloc ?_ _)); exact BK327.out) hb); have n2_ := Aside0.mk (below_step (by repeat (first | (with_reducible first | exact HB.out | apply below_alloc | apply pw_below_drewN | apply below_drew1 | refine below_set ?_ GE323.out | refine below_set ?_ GE327.out) | exact HB.out)) hb); clear BK323; clear BK327; clear HB; have BK323 := n0_; have BK327 := n1_; have HB := n2_; clear n0_ n1_ n2_
            (try clear hb)
            (try clear hb2)
            (try clear hk)
            (try clear hi)
            refine hK.out _ _ ⟨(blk_cell BK327.out 0).trans rfl, (blk_cell BK327.out 1).trans rfl, (blk_cell BK327.out 2).trans rfl, (blk_cell BK323.out 0).trans rfl, (blk_cell BK323.out 1).trans rfl, (blk_cell BK323.out 2).trans rfl⟩ (fun hHeld => ?_)
            clear hK K
            refine norm_ (a' := ?_) ?_ ?_
            rotate_left
            ·show Act.put _ (some 93) _ = _
             simp only [Act.put, sA, s0, s1, i64_w, i32_w]
             rfl
            refine pw 37 94 m44 HT_ ?_
            refine pw 38 95 m45 HT_ ?_
            refine pu 39 96 m46 HT_ ?_
            refine pu 40 97 m74 HT_ ?_
            refine pu 41 98 m48 HT_ ?_
            refine pu 42 99 m49 HT_ ?_
            refine pu 43 100 m50 HT_ ?_
            refine pw 44 101 m51 HT_ ?_
            refine pw 45 102 m52 HT_ ?_
            refine pu 46 103 m53 HT_ ?_
            refine pu 47 104 m54 HT_ ?_
            refine pu 48 105 m55 HT_ ?_
            refine pu 49 106 m56 HT_ ?_
            refine pu 50 107 m73 HT_ ?_
            refine pu 51 108 m58 HT_ ?_
            refine pu 52 109 m59 HT_ ?_
            refine pu 53 110 m60 HT_ ?_
            refine pu 54 111 m61 HT_ ?_
            refine pu 55 112 m62 HT_ ?_
            refine pu 56 113 m63 HT_ ?_
            refine pu 57 114 m72 HT_ ?_
            refine pu 58 115 m65 HT_ ?_
            refine pu 59 116 m66 HT_ ?_
            refine pu 60 117 m67 HT_ ?_
            refine pu 61 118 m68 HT_ ?_
            refine pu 62 119 m69 HT_ ?_
            refine pw 63 120 m70 HT_ ?_
            refine pw 64 2 m71 HT_ ?_
            refine done_ (done_of HT_.out (by kernel_rfl)) ?_
            try go_wp2
            go_ret
            exact ⟨by first | rfl | (simp [errW_none, errW_some] <;> rfl) | (simp [*, errW_none, errW_some] <;> rfl), by repeat (first | (with_reducible first | exact HB.out | apply below_alloc | apply pw_below_drewN | apply below_drew1 | refine below_set ?_ GE323.out | refine below_set ?_ GE327.out) | exact HB.out)⟩
          ·rw [if_neg c92] at H
           have c92b0 : decide (t336 < t321) = false := decide_eq_false c92
           clear c92
           obtain rfl := Option.some.inj H
           have hnb128 := NB327_323.out
           have hnc128 := NB323_327.out; have hcz129_0 : wc.cell? ⟨gb327, 0, none⟩ = some (.int .i64 t324) := (blk_cell BK327.out 0).trans rfl; have hcz129_1 : wc.cell? ⟨gb327, 1, none⟩ = some (.int .i64 t325) := (blk_cell BK327.out 1).trans rfl; have hcz129_2 : wc.cell? ⟨gb327, 2, none⟩ = some (.int .i64 t326) := (blk_cell BK327.out 2).trans rfl; have hfz129_0 := blk_frozen BK327.out 0; have hfz129_1 := blk_frozen BK327.out 1; have hfz129_2 := blk_frozen BK327.out 2
           try go_wp2_with (first | ((with_reducible refine gate_callee (f := 21) rfl ?_); refine goesL_ (some 56) rfl rfl Try.func21 (by kernel_rfl) rfl #[.int .i64 t324, .int .i64 t325] rfl (by (try simp only [List.map_toArray, List.map_cons, List.map_nil]); first | done | rfl | (simp only [List.length_drop, List.length_take]; rfl)) ?_; (with_reducible refine (impl_DayLast.calls t324 t325 t336 _ A53.out).mono ?_); rintro e w' ⟨rfl, ⟨nd, rfl⟩⟩; refine ⟨_, rfl, ?_⟩))
           (try (rw [drewN_self wc]; generalize hq_ : World.drewN wc _ = wc; have n0_ : Aside0 (wc.heap[gb323]? = some (.cells #[.int .i64 t319, .int .i64 t320, .int .i64 t321] 24 (0, 0))) := ⟨by rw [← hq_]; exact (by (with_reducible repeat (first | refine blk_drewN ?_ _ | refine blk_drew ?_ | refine blk_alloc ?_ _)); exact BK323.out)⟩; have n1_ : Aside0 (wc.heap[gb327]? = some (.cells #[.int .i64 t324, .int .i64 t325, .int .i64 t326] 24 (0, 0))) := ⟨by rw [← hq_]; exact (by (with_reducible repeat (first | refine blk_drewN ?_ _ | refine blk_drew ?_ | refine blk_alloc ?_ _)); exact BK327.out)⟩; have n2_ : Aside0 (Below w.heap.size w wc) := ⟨by rw [← hq_]; exact (by repeat (first | (with_reducible first | exact HB.out | apply below_alloc | apply pw_below_drewN | apply below_drew1 | refine below_set ?_ GE323.out | refine below_set ?_ GE327.out) | exact HB.out))⟩; clear BK323 BK327 HB hq_; have BK323 := n0_; have BK327 := n1_; have HB := n2_; clear n0_ n1_ n2_))
           have n0_ := Aside0.mk (blk_drew BK323.out); have n1_ := Aside0.mk (blk_drew BK327.out); have n2_ := Aside0.mk (below_drew1 HB.out); clear BK323; clear BK327; clear HB; have BK323 := n0_; have BK327 := n1_; have HB := n2_; clear n0_ n1_ n2_
           refine start_ (n := 65) (S := fun w' => w'.cell? ⟨gb327, 0, none⟩ = some (.int .i64 t324) ∧ w'.cell? ⟨gb327, 1, none⟩ = some (.int .i64 t325) ∧ w'.cell? ⟨gb327, 2, none⟩ = some (.int .i64 t326) ∧ w'.cell? ⟨gb323, 0, none⟩ = some (.int .i64 t319) ∧ w'.cell? ⟨gb323, 1, none⟩ = some (.int .i64 t320) ∧ w'.cell? ⟨gb323, 2, none⟩ = some (.int .i64 t321)) (ds := []) m6 (by kernel_rfl) rfl rfl ⟨(blk_cell BK327.out 0).trans rfl, (blk_cell BK327.out 1).trans rfl, (blk_cell BK327.out 2).trans rfl, (blk_cell BK323.out 0).trans rfl, (blk_cell BK323.out 1).trans rfl, (blk_cell BK323.out 2).trans rfl⟩ (fun hHeld => ?_); refine with_tabW laws_FnDayPlus.tab10 laws_FnDayPlus.bits10 (fun HT_ HW_ => ?_)
           generalize wc.drew = w130 at BK323 BK327 HB hHeld ⊢
           refine pw 0 57 m7 HT_ ?_
           refine pw 3 60 m8 HT_ ?_
           refine pw 6 63 m9 HT_ ?_
           refine pw 9 66 m10 HT_ ?_
           refine pw 12 69 m11 HT_ ?_
           refine pt 1 58 m12 rfl HT_ HW_ hHeld ?_ (Or.inl ⟨by rfl, by rintro w' ⟨s0, s1, s2, s3, s4, s5⟩; go_simp; with_reducible rfl⟩)
           refine pw 2 59 m13 HT_ ?_
           refine pt 4 61 m14 rfl HT_ HW_ hHeld ?_ (Or.inl ⟨by rfl, by rintro w' ⟨s0, s1, s2, s3, s4, s5⟩; go_simp; with_reducible rfl⟩)
           refine pw 5 62 m15 HT_ ?_
           refine pt 7 64 m16 rfl HT_ HW_ hHeld ?_ (Or.inl ⟨by rfl, by rintro w' ⟨s0, s1, s2, s3, s4, s5⟩; go_simp; with_reducible rfl⟩)
           refine pw 8 65 m17 HT_ ?_
           refine pt 10 67 m18 rfl HT_ HW_ hHeld ?_ (Or.inl ⟨by rfl, by rintro w' ⟨s0, s1, s2, s3, s4, s5⟩; go_simp; with_reducible rfl⟩)
           refine pw 11 68 m19 HT_ ?_
           refine pw 13 70 m20 HT_ ?_
           refine pw 14 71 m21 HT_ ?_
           refine pw 15 72 m22 HT_ ?_
           refine pw 16 73 m23 HT_ ?_
           refine pw 18 75 m24 HT_ ?_
           refine pt 17 74 m25 rfl HT_ HW_ hHeld ?_ (Or.inl ⟨by rfl, by rintro w' ⟨s0, s1, s2, s3, s4, s5⟩; go_simp; with_reducible rfl⟩)
           refine pt 19 76 m26 rfl HT_ HW_ hHeld ?_ (Or.inl ⟨by rfl, by rintro w' ⟨s0, s1, s2, s3, s4, s5⟩; go_simp; with_reducible rfl⟩)
           refine pw 20 77 m27 HT_ ?_
           refine pw 21 78 m28 HT_ ?_
           refine pw 22 79 m29 HT_ ?_
           refine pw 24 81 m75 HT_ ?_
           refine pt 23 80 m31 rfl HT_ HW_ hHeld ?_ (Or.inl ⟨by rfl, by rintro w' ⟨s0, s1, s2, s3, s4, s5⟩; go_simp; with_reducible rfl⟩)
           refine pw 25 82 m32 HT_ ?_
           refine pw 26 83 m33 HT_ ?_
           refine pw 27 84 m34 HT_ ?_
           refine pw 29 86 m76 HT_ ?_
           refine pt 28 85 m36 rfl HT_ HW_ hHeld ?_ (Or.inl ⟨by rfl, by rintro w' ⟨s0, s1, s2, s3, s4, s5⟩; go_simp; with_reducible rfl⟩)
           refine pw 30 87 m37 HT_ ?_
           refine pw 31 88 m38 HT_ ?_
           refine pw 32 89 m39 HT_ ?_
           refine pw 33 90 m40 HT_ ?_
           refine pw 34 91 m41 HT_ ?_
           refine pu 35 92 m42 HT_ ?_
           refine pu 36 93 m43 HT_ ?_
           refine pw 37 94 m44 HT_ ?_
           refine pw 38 95 m45 HT_ ?_
           refine pu 39 96 m46 HT_ ?_
           refine pu 40 97 m74 HT_ ?_
           refine pu 41 98 m48 HT_ ?_
           refine pu 42 99 m49 HT_ ?_
           refine pu 43 100 m50 HT_ ?_
           refine pw 44 101 m51 HT_ ?_
           refine pw 45 102 m52 HT_ ?_
           refine pu 46 103 m53 HT_ ?_
           refine pu 47 104 m54 HT_ ?_
           refine pu 48 105 m55 HT_ ?_
           refine pu 49 106 m56 HT_ ?_
           refine pu 50 107 m73 HT_ ?_
           refine pu 51 108 m58 HT_ ?_
           refine pu 52 109 m59 HT_ ?_
           refine pu 53 110 m60 HT_ ?_
           refine pu 54 111 m61 HT_ ?_
           refine pu 55 112 m62 HT_ ?_
           refine pu 56 113 m63 HT_ ?_
           refine pu 57 114 m72 HT_ ?_
           refine pu 58 115 m65 HT_ ?_
           refine pu 59 116 m66 HT_ ?_
           refine pu 60 117 m67 HT_ ?_
           refine pu 61 118 m68 HT_ ?_
           refine pu 62 119 m69 HT_ ?_
           refine pw 63 120 m70 HT_ ?_
           refine pw 64 2 m71 HT_ ?_
           refine done_ (done_of HT_.out (by kernel_rfl)) ?_
           try go_wp2
           go_ret
           exact ⟨by first | rfl | (simp [errW_none, errW_some] <;> rfl) | (simp [*, errW_none, errW_some] <;> rfl), by repeat (first | (with_reducible first | exact HB.out | apply below_alloc | apply pw_below_drewN | apply below_drew1 | refine below_set ?_ GE323.out | refine below_set ?_ GE327.out) | exact HB.out)⟩
         ·rw [if_neg c91] at H
          have c91b0 : (t326 == t336) = false := beq_eq_false_iff_ne.mpr c91
          have c91b1 : (t326 != t336) = true := bne_iff_ne.mpr c91
          obtain rfl := Option.some.inj H
          have hnb131 := NB327_323.out
          have hnc131 := NB323_327.out; have hcz132_0 : wc.cell? ⟨gb327, 0, none⟩ = some (.int .i64 t324) := (blk_cell BK327.out 0).trans rfl; have hcz132_1 : wc.cell? ⟨gb327, 1, none⟩ = some (.int .i64 t325) := (blk_cell BK327.out 1).trans rfl; have hcz132_2 : wc.cell? ⟨gb327, 2, none⟩ = some (.int .i64 t326) := (blk_cell BK327.out 2).trans rfl; have hfz132_0 := blk_frozen BK327.out 0; have hfz132_1 := blk_frozen BK327.out 1; have hfz132_2 := blk_frozen BK327.out 2
          try go_wp2_with (first | ((with_reducible refine gate_callee (f := 21) rfl ?_); refine goesL_ (some 56) rfl rfl Try.func21 (by kernel_rfl) rfl #[.int .i64 t324, .int .i64 t325] rfl (by (try simp only [List.map_toArray, List.map_cons, List.map_nil]); first | done | rfl | (simp only [List.length_drop, List.length_take]; rfl)) ?_; (with_reducible refine (impl_DayLast.calls t324 t325 t336 _ A53.out).mono ?_); rintro e w' ⟨rfl, ⟨nd, rfl⟩⟩; refine ⟨_, rfl, ?_⟩))
          (try (rw [drewN_self wc]; generalize hq_ : World.drewN wc _ = wc; have n0_ : Aside0 (wc.heap[gb323]? = some (.cells #[.int .i64 t319, .int .i64 t320, .int .i64 t321] 24 (0, 0))) := ⟨by rw [← hq_]; exact (by (with_reducible repeat (first | refine blk_drewN ?_ _ | refine blk_drew ?_ | refine blk_alloc ?_ _)); exact BK323.out)⟩; have n1_ : Aside0 (wc.heap[gb327]? = some (.cells #[.int .i64 t324, .int .i64 t325, .int .i64 t326] 24 (0, 0))) := ⟨by rw [← hq_]; exact (by (with_reducible repeat (first | refine blk_drewN ?_ _ | refine blk_drew ?_ | refine blk_alloc ?_ _)); exact BK327.out)⟩; have n2_ : Aside0 (Below w.heap.size w wc) := ⟨by rw [← hq_]; exact (by repeat (first | (with_reducible first | exact HB.out | apply below_alloc | apply pw_below_drewN | apply below_drew1 | refine below_set ?_ GE323.out | refine below_set ?_ GE327.out) | exact HB.out))⟩; clear BK323 BK327 HB hq_; have BK323 := n0_; have BK327 := n1_; have HB := n2_; clear n0_ n1_ n2_))
          have n0_ := Aside0.mk (blk_drew BK323.out); have n1_ := Aside0.mk (blk_drew BK327.out); have n2_ := Aside0.mk (below_drew1 HB.out); clear BK323; clear BK327; clear HB; have BK323 := n0_; have BK327 := n1_; have HB := n2_; clear n0_ n1_ n2_
          refine start_ (n := 65) (S := fun w' => w'.cell? ⟨gb327, 0, none⟩ = some (.int .i64 t324) ∧ w'.cell? ⟨gb327, 1, none⟩ = some (.int .i64 t325) ∧ w'.cell? ⟨gb327, 2, none⟩ = some (.int .i64 t326) ∧ w'.cell? ⟨gb323, 0, none⟩ = some (.int .i64 t319) ∧ w'.cell? ⟨gb323, 1, none⟩ = some (.int .i64 t320) ∧ w'.cell? ⟨gb323, 2, none⟩ = some (.int .i64 t321)) (ds := []) m6 (by kernel_rfl) rfl rfl ⟨(blk_cell BK327.out 0).trans rfl, (blk_cell BK327.out 1).trans rfl, (blk_cell BK327.out 2).trans rfl, (blk_cell BK323.out 0).trans rfl, (blk_cell BK323.out 1).trans rfl, (blk_cell BK323.out 2).trans rfl⟩ (fun hHeld => ?_); refine with_tabW laws_FnDayPlus.tab10 laws_FnDayPlus.bits10 (fun HT_ HW_ => ?_)
          generalize wc.drew = w133 at BK323 BK327 HB hHeld ⊢
          refine pw 0 57 m7 HT_ ?_
          refine pw 3 60 m8 HT_ ?_
          refine pw 6 63 m9 HT_ ?_
          refine pw 9 66 m10 HT_ ?_
          refine pw 12 69 m11 HT_ ?_
          refine pt 1 58 m12 rfl HT_ HW_ hHeld ?_ (Or.inl ⟨by rfl, by rintro w' ⟨s0, s1, s2, s3, s4, s5⟩; go_simp; with_reducible rfl⟩)
          refine pw 2 59 m13 HT_ ?_
          refine pt 4 61 m14 rfl HT_ HW_ hHeld ?_ (Or.inl ⟨by rfl, by rintro w' ⟨s0, s1, s2, s3, s4, s5⟩; go_simp; with_reducible rfl⟩)
          refine pw 5 62 m15 HT_ ?_
          refine pt 7 64 m16 rfl HT_ HW_ hHeld ?_ (Or.inl ⟨by rfl, by rintro w' ⟨s0, s1, s2, s3, s4, s5⟩; go_simp; with_reducible rfl⟩)
          refine pw 8 65 m17 HT_ ?_
          refine pt 10 67 m18 rfl HT_ HW_ hHeld ?_ (Or.inl ⟨by rfl, by rintro w' ⟨s0, s1, s2, s3, s4, s5⟩; go_simp; with_reducible rfl⟩)
          refine pw 11 68 m19 HT_ ?_
          refine pw 13 70 m20 HT_ ?_
          refine pw 14 71 m21 HT_ ?_
          refine pw 15 72 m22 HT_ ?_
          refine pw 16 73 m23 HT_ ?_
          refine pw 18 75 m24 HT_ ?_
          refine pt 17 74 m25 rfl HT_ HW_ hHeld ?_ (Or.inl ⟨by rfl, by rintro w' ⟨s0, s1, s2, s3, s4, s5⟩; go_simp; with_reducible rfl⟩)
          refine pt 19 76 m26 rfl HT_ HW_ hHeld ?_ (Or.inl ⟨by rfl, by rintro w' ⟨s0, s1, s2, s3, s4, s5⟩; go_simp; with_reducible rfl⟩)
          refine pw 20 77 m27 HT_ ?_
          refine pw 21 78 m28 HT_ ?_
          refine pw 22 79 m29 HT_ ?_
          refine pw 24 81 m75 HT_ ?_
          refine pt 23 80 m31 rfl HT_ HW_ hHeld ?_ (Or.inl ⟨by rfl, by rintro w' ⟨s0, s1, s2, s3, s4, s5⟩; go_simp; with_reducible rfl⟩)
          refine pw 25 82 m32 HT_ ?_
          refine pw 26 83 m33 HT_ ?_
          refine pu 27 84 m34 HT_ ?_
          refine pu 28 85 m35 HT_ ?_
          refine pu 29 86 m36 HT_ ?_
          refine pu 30 87 m37 HT_ ?_
          refine pw 31 88 m38 HT_ ?_
          refine pw 32 89 m39 HT_ ?_
          refine pw 33 90 m40 HT_ ?_
          refine pw 34 91 m41 HT_ ?_
          refine pu 35 92 m42 HT_ ?_
          refine pu 36 93 m43 HT_ ?_
          refine pw 37 94 m44 HT_ ?_
          refine pw 38 95 m45 HT_ ?_
          refine pu 39 96 m46 HT_ ?_
          refine pu 40 97 m74 HT_ ?_
          refine pu 41 98 m48 HT_ ?_
          refine pu 42 99 m49 HT_ ?_
          refine pu 43 100 m50 HT_ ?_
          refine pw 44 101 m51 HT_ ?_
          refine pw 45 102 m52 HT_ ?_
          refine pu 46 103 m53 HT_ ?_
          refine pu 47 104 m54 HT_ ?_
          refine pu 48 105 m55 HT_ ?_
          refine pu 49 106 m56 HT_ ?_
          refine pu 50 107 m73 HT_ ?_
          refine pu 51 108 m58 HT_ ?_
          refine pu 52 109 m59 HT_ ?_
          refine pu 53 110 m60 HT_ ?_
          refine pu 54 111 m61 HT_ ?_
          refine pu 55 112 m62 HT_ ?_
          refine pu 56 113 m63 HT_ ?_
          refine pu 57 114 m72 HT_ ?_
          refine pu 58 115 m65 HT_ ?_
          refine pu 59 116 m66 HT_ ?_
          refine pu 60 117 m67 HT_ ?_
          refine pu 61 118 m68 HT_ ?_
          refine pu 62 119 m69 HT_ ?_
          refine pw 63 120 m70 HT_ ?_
          refine pw 64 2 m71 HT_ ?_
          refine done_ (done_of HT_.out (by kernel_rfl)) ?_
          try go_wp2
          go_ret
          exact ⟨by first | rfl | (simp [errW_none, errW_some] <;> rfl) | (simp [*, errW_none, errW_some] <;> rfl), by repeat (first | (with_reducible first | exact HB.out | apply below_alloc | apply pw_below_drewN | apply below_drew1 | refine below_set ?_ GE323.out | refine below_set ?_ GE327.out) | exact HB.out)⟩
       ·rw [if_neg c54] at H
        have c54b0 : ((wrap64 ((wrap64 (t324 * 12)) + t325)) == (wrap64 ((wrap64 ((wrap64 (t319 * 12)) + t320)) + t322))) = false := beq_eq_false_iff_ne.mpr c54
        have c54b1 : ((wrap64 ((wrap64 (t324 * 12)) + t325)) != (wrap64 ((wrap64 ((wrap64 (t319 * 12)) + t320)) + t322))) = true := bne_iff_ne.mpr c54
        obtain rfl := Option.some.inj H
        have hnb134 := NB327_323.out
        have hnc134 := NB323_327.out; have hcz135_0 : wc.cell? ⟨gb327, 0, none⟩ = some (.int .i64 t324) := (blk_cell BK327.out 0).trans rfl; have hcz135_1 : wc.cell? ⟨gb327, 1, none⟩ = some (.int .i64 t325) := (blk_cell BK327.out 1).trans rfl; have hcz135_2 : wc.cell? ⟨gb327, 2, none⟩ = some (.int .i64 t326) := (blk_cell BK327.out 2).trans rfl; have hfz135_0 := blk_frozen BK327.out 0; have hfz135_1 := blk_frozen BK327.out 1; have hfz135_2 := blk_frozen BK327.out 2
        try go_wp2_with (first | ((with_reducible refine gate_callee (f := 21) rfl ?_); refine goesL_ (some 56) rfl rfl Try.func21 (by kernel_rfl) rfl #[.int .i64 t324, .int .i64 t325] rfl (by (try simp only [List.map_toArray, List.map_cons, List.map_nil]); first | done | rfl | (simp only [List.length_drop, List.length_take]; rfl)) ?_; (with_reducible refine (impl_DayLast.calls t324 t325 t336 _ A53.out).mono ?_); rintro e w' ⟨rfl, ⟨nd, rfl⟩⟩; refine ⟨_, rfl, ?_⟩))
        (try (rw [drewN_self wc]; generalize hq_ : World.drewN wc _ = wc; have n0_ : Aside0 (wc.heap[gb323]? = some (.cells #[.int .i64 t319, .int .i64 t320, .int .i64 t321] 24 (0, 0))) := ⟨by rw [← hq_]; exact (by (with_reducible repeat (first | refine blk_drewN ?_ _ | refine blk_drew ?_ | refine blk_alloc ?_ _)); exact BK323.out)⟩; have n1_ : Aside0 (wc.heap[gb327]? = some (.cells #[.int .i64 t324, .int .i64 t325, .int .i64 t326] 24 (0, 0))) := ⟨by rw [← hq_]; exact (by (with_reducible repeat (first | refine blk_drewN ?_ _ | refine blk_drew ?_ | refine blk_alloc ?_ _)); exact BK327.out)⟩; have n2_ : Aside0 (Below w.heap.size w wc) := ⟨by rw [← hq_]; exact (by repeat (first | (with_reducible first | exact HB.out | apply below_alloc | apply pw_below_drewN | apply below_drew1 | refine below_set ?_ GE323.out | refine below_set ?_ GE327.out) | exact HB.out))⟩; clear BK323 BK327 HB hq_; have BK323 := n0_; have BK327 := n1_; have HB := n2_; clear n0_ n1_ n2_))
        have n0_ := Aside0.mk (blk_drew BK323.out); have n1_ := Aside0.mk (blk_drew BK327.out); have n2_ := Aside0.mk (below_drew1 HB.out); clear BK323; clear BK327; clear HB; have BK323 := n0_; have BK327 := n1_; have HB := n2_; clear n0_ n1_ n2_
        refine start_ (n := 65) (S := fun w' => w'.cell? ⟨gb327, 0, none⟩ = some (.int .i64 t324) ∧ w'.cell? ⟨gb327, 1, none⟩ = some (.int .i64 t325) ∧ w'.cell? ⟨gb327, 2, none⟩ = some (.int .i64 t326) ∧ w'.cell? ⟨gb323, 0, none⟩ = some (.int .i64 t319) ∧ w'.cell? ⟨gb323, 1, none⟩ = some (.int .i64 t320) ∧ w'.cell? ⟨gb323, 2, none⟩ = some (.int .i64 t321)) (ds := []) m6 (by kernel_rfl) rfl rfl ⟨(blk_cell BK327.out 0).trans rfl, (blk_cell BK327.out 1).trans rfl, (blk_cell BK327.out 2).trans rfl, (blk_cell BK323.out 0).trans rfl, (blk_cell BK323.out 1).trans rfl, (blk_cell BK323.out 2).trans rfl⟩ (fun hHeld => ?_); refine with_tabW laws_FnDayPlus.tab10 laws_FnDayPlus.bits10 (fun HT_ HW_ => ?_)
        generalize wc.drew = w136 at BK323 BK327 HB hHeld ⊢
        refine pw 0 57 m7 HT_ ?_
        refine pw 3 60 m8 HT_ ?_
        refine pw 6 63 m9 HT_ ?_
        refine pw 9 66 m10 HT_ ?_
        refine pw 12 69 m11 HT_ ?_
        refine pt 1 58 m12 rfl HT_ HW_ hHeld ?_ (Or.inl ⟨by rfl, by rintro w' ⟨s0, s1, s2, s3, s4, s5⟩; go_simp; with_reducible rfl⟩)
        refine pw 2 59 m13 HT_ ?_
        refine pt 4 61 m14 rfl HT_ HW_ hHeld ?_ (Or.inl ⟨by rfl, by rintro w' ⟨s0, s1, s2, s3, s4, s5⟩; go_simp; with_reducible rfl⟩)
        refine pw 5 62 m15 HT_ ?_
        refine pt 7 64 m16 rfl HT_ HW_ hHeld ?_ (Or.inl ⟨by rfl, by rintro w' ⟨s0, s1, s2, s3, s4, s5⟩; go_simp; with_reducible rfl⟩)
        refine pw 8 65 m17 HT_ ?_
        refine pt 10 67 m18 rfl HT_ HW_ hHeld ?_ (Or.inl ⟨by rfl, by rintro w' ⟨s0, s1, s2, s3, s4, s5⟩; go_simp; with_reducible rfl⟩)
        refine pw 11 68 m19 HT_ ?_
        refine pw 13 70 m20 HT_ ?_
        refine pw 14 71 m21 HT_ ?_
        refine pw 15 72 m22 HT_ ?_
        refine pu 16 73 m23 HT_ ?_
        refine pu 17 74 m77 HT_ ?_
        refine pu 18 75 m25 HT_ ?_
        refine pu 19 76 m26 HT_ ?_
        refine pu 20 77 m27 HT_ ?_
        refine pu 21 78 m28 HT_ ?_
        refine pu 22 79 m29 HT_ ?_
        refine pu 23 80 m30 HT_ ?_
        refine pu 24 81 m31 HT_ ?_
        refine pu 25 82 m32 HT_ ?_
        refine pu 26 83 m33 HT_ ?_
        refine pu 27 84 m34 HT_ ?_
        refine pu 28 85 m35 HT_ ?_
        refine pu 29 86 m36 HT_ ?_
        refine pu 30 87 m37 HT_ ?_
        refine pu 31 88 m38 HT_ ?_
        refine pu 32 89 m39 HT_ ?_
        refine pw 33 90 m40 HT_ ?_
        refine pw 34 91 m41 HT_ ?_
        refine pu 35 92 m42 HT_ ?_
        refine pu 36 93 m43 HT_ ?_
        refine pw 37 94 m44 HT_ ?_
        refine pw 38 95 m45 HT_ ?_
        refine pu 39 96 m46 HT_ ?_
        refine pu 40 97 m74 HT_ ?_
        refine pu 41 98 m48 HT_ ?_
        refine pu 42 99 m49 HT_ ?_
        refine pu 43 100 m50 HT_ ?_
        refine pw 44 101 m51 HT_ ?_
        refine pw 45 102 m52 HT_ ?_
        refine pu 46 103 m53 HT_ ?_
        refine pu 47 104 m54 HT_ ?_
        refine pu 48 105 m55 HT_ ?_
        refine pu 49 106 m56 HT_ ?_
        refine pu 50 107 m73 HT_ ?_
        refine pu 51 108 m58 HT_ ?_
        refine pu 52 109 m59 HT_ ?_
        refine pu 53 110 m60 HT_ ?_
        refine pu 54 111 m61 HT_ ?_
        refine pu 55 112 m62 HT_ ?_
        refine pu 56 113 m63 HT_ ?_
        refine pu 57 114 m72 HT_ ?_
        refine pu 58 115 m65 HT_ ?_
        refine pu 59 116 m66 HT_ ?_
        refine pu 60 117 m67 HT_ ?_
        refine pu 61 118 m68 HT_ ?_
        refine pu 62 119 m69 HT_ ?_
        refine pw 63 120 m70 HT_ ?_
        refine pw 64 2 m71 HT_ ?_
        refine done_ (done_of HT_.out (by kernel_rfl)) ?_
        try go_wp2
        go_ret
        exact ⟨by first | rfl | (simp [errW_none, errW_some] <;> rfl) | (simp [*, errW_none, errW_some] <;> rfl), by repeat (first | (with_reducible first | exact HB.out | apply below_alloc | apply pw_below_drewN | apply below_drew1 | refine below_set ?_ GE323.out | refine below_set ?_ GE327.out) | exact HB.out)⟩

/-- THE ONE PURE STATEMENT of laws_FnDayPlus: yours. -/
def laws_FnDayPlus.Pure : Prop := ∀ (l0 : List Int), l0.length ≤ maxLen → l0.length * 1 ≤ 140737488351232 → (∀ x ∈ l0, (Lit.int .u8 x).wf = true) → ∃ k, laws_FnDayPlus.f k l0 = some true
theorem laws_FnDayPlus.walk (P : laws_FnDayPlus.Pure) (a0 : Option Addr) (len0 cap0 : Nat) (z0 : List Int) (w : World) (w0 : (a0 = none ∧ len0 = 0 ∧ cap0 = 0 ∧ z0 = []) ∨ ∃ x, a0 = some x ∧ len0 ≤ cap0 ∧ cap0 ≤ maxLen ∧ z0.length = cap0 ∧ (∀ i, i < z0.length → w.cell? (x.add i) = some (.int .u8 (z0.getD i 0))) ∧ ∀ n ∈ z0, (Lit.int .u8 n).wf = true) (y0 : len0 * 1 ≤ 140737488351232) :
  Calls Try.prog 5 #[.slice a0 len0 cap0] w fun e w' => e = .returned (.bool true) ∧ Below w.heap.size w w' := by
 obtain ⟨l0, rfl, hr0, hm0, hw0, hc0⟩ := ReadsInt.ofRowC w0
 obtain ⟨k, h⟩ := P l0 hm0 y0 hw0
 refine (laws_FnDayPlus.calls k _ _ l0 true w (Kd.C_of_reads (d := (0 : Int)) (h1 := fun _ => rfl) hr0) hc0 h).mono ?_
 rintro e w' ⟨rfl, hd⟩
 exact ⟨rfl, hd⟩

end Go.Proofs.Ytpbmobgpipmldaa.All
