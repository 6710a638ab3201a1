/- A year has as many days as its months, at every two codes: the law's pure statement; no conditions. -/
import Derived.Test.YtcollniblajhiaaAllx0
import Derived.Test.YtcollniblajhiaaAllx2
import Derived.Test.YtcollniblajhiaaAllx5
import Derived.Test.YtcollniblajhiaaAllx6
import Derived.Test.YtcollniblajhiaaLemA
set_option linter.unusedVariables false
set_option linter.unusedSimpArgs false
namespace Go.Proofs.Ytcollniblajhiaa.Pure
open Go.RowKit Go.Proofs.Ytcollniblajhiaa.All Go.Proofs.YtcollniblajhiaaW.PrintWords Go.Proofs.YtcollniblajhiaaW.PrintLast Go.Proofs.YtcollniblajhiaaW.PrintMore

def leapN (y : Int) : Int := if leap y = true then 1 else 0
def before (y : Int) : Int := (y - 1) / 4 - (y - 1) / 100 + (y - 1) / 400
theorem before_succ (y : Int) : before (y + 1) = before y + leapN y := by
  unfold before leapN leap
  rw [show y + 1 - 1 = y by omega]
  by_cases h : y % 4 = 0 ∧ (y % 100 ≠ 0 ∨ y % 400 = 0)
  · rw [if_pos (by simpa using h)]; omega
  · rw [if_neg (by simpa using h)]; omega
theorem draw_last (l : List Int) (h : ∀ x ∈ l, (Lit.int .u8 x).wf = true) : ∃ y m, 1900 ≤ y ∧ y ≤ 2155 ∧ Ev (fun k => spec_DrawDayLast.f k l) (y, m) := by
  obtain ⟨b, hb, e0⟩ := open_some l h
  obtain ⟨v1, a1, c1, ⟨K1, e1⟩⟩ := pick_pos b hb 0 256 (by omega) (by omega) (by omega) (by omega)
  dsimp only at e1
  obtain ⟨v2, a2, c2, ⟨K2, e2⟩⟩ := pick_pos b hb 1 15 (by omega) (by omega) (by omega) (by omega)
  dsimp only at e2
  refine ⟨1900 + v1, v2 - 1, by omega, by omega, max K1 K2, fun k hk => ?_⟩
  unfold spec_DrawDayLast.f
  simp only [e0, Option.bind_some, e1 k (by omega), show (0 : Int) + 1 = 1 from rfl, e2 k (by omega)]
  rw [wr (x := 1900 + v1) (by omega) (by omega), wr (x := v2 - 1) (by omega) (by omega)]
theorem draw_leap (l : List Int) (h : ∀ x ∈ l, (Lit.int .u8 x).wf = true) : ∃ z, -4 ≤ z ∧ z ≤ 2155 ∧ Ev (fun k => spec_DrawDayLeap.f k l) z := by
  obtain ⟨b, hb, e0⟩ := open_some l h
  obtain ⟨v1, a1, c1, ⟨K1, e1⟩⟩ := pick_pos b hb 0 256 (by omega) (by omega) (by omega) (by omega)
  dsimp only at e1
  obtain ⟨v2, a2, c2, ⟨K2, e2⟩⟩ := pick_pos b hb 1 8 (by omega) (by omega) (by omega) (by omega)
  dsimp only at e2
  have hm := rd_mem [1900, 2000, 2024, 2025, 2100, 0, -4, 1900 + v1] v2 a2 (by simpa using c2)
  simp only [List.mem_cons, List.not_mem_nil, or_false] at hm
  refine ⟨rd [1900, 2000, 2024, 2025, 2100, 0, -4, 1900 + v1] v2, by omega, by omega, max K1 K2, fun k hk => ?_⟩
  unfold spec_DrawDayLeap.f
  simp only [e0, Option.bind_some, e1 k (by omega), show (0 : Int) + 1 = 1 from rfl, e2 k (by omega), wr (x := 1900 + v1) (by omega) (by omega)]
  rw [if_pos a2, if_pos (by simpa using c2)]
def sumdl (y : Int) : Int → Nat → Int
  | _, 0 => 0
  | i, d + 1 => dl y i + sumdl y (i + 1) d
theorem months_round (y z s i : Int) (k : Nat) (hi : -1 ≤ i) (hi2 : i < 15) (hs : 0 ≤ s) (hs2 : s ≤ 1000) : laws_FnDayLast.l0 (k + 2) y z s i = laws_FnDayLast.l0 k y z (s + dl y i) (i + 1) := by
  have hb := dl_bound y i
  have w1 : wrap64 (s + dl y i) = s + dl y i := wr (by omega) (by omega)
  have w2 : wrap64 (i + 1) = i + 1 := wr (by omega) (by omega)
  have h0 : ¬ (1 ≤ i ∧ i ≤ 12) → dl y i = 0 := fun h => by unfold dl; rw [if_neg h]
  simp only [laws_FnDayLast.l0]
  rw [if_pos hi2]
  by_cases h1 : i < 1
  · rw [if_pos h1]
    simp only [laws_FnDayLast.j3, impl_last, Option.bind_some, if_true]
    rw [if_pos (h0 (by omega)), w1, w2]
  · rw [if_neg h1]
    by_cases h2 : i > 12
    · rw [decide_eq_true h2]
      simp only [laws_FnDayLast.j3, impl_last, Option.bind_some, if_true]
      rw [if_pos (h0 (by omega)), w1, w2]
    · rw [decide_eq_false h2]
      simp only [laws_FnDayLast.j3, impl_last, Option.bind_some]
      rw [if_neg (by simp), w1, w2]
theorem months_all (y z : Int) (d : Nat) : ∀ (s i : Int) (k : Nat), -1 ≤ i → (15 : Int) - i = d → 0 ≤ s → s + 31 * d ≤ 1000 → laws_FnDayLast.l0 (k + 1 + 2 * d) y z s i = laws_FnDayLast.l1 k y z (s + sumdl y i d) 0 0 := by
  induction d with
  | zero =>
    intro s i k hi hd hs hs2
    simp only [Nat.mul_zero, Nat.add_zero, laws_FnDayLast.l0, sumdl]
    rw [if_neg (by omega), Int.add_zero]
  | succ d ih =>
    intro s i k hi hd hs hs2
    have hb := dl_bound y i
    rw [show k + 1 + 2 * (d + 1) = (k + 1 + 2 * d) + 2 by omega, months_round y z s i _ hi (by omega) hs (by omega), ih (s + dl y i) (i + 1) k (by omega) (by omega) (by omega) (by omega)]
    simp only [sumdl, Int.add_assoc]
theorem year_all (y : Int) : sumdl y (-1) 16 = if leap y = true then 366 else 365 := by
  simp only [sumdl]
  unfold dl impl_DayLast.tab
  cases leap y <;> simp
theorem leaps_all (y z n : Int) (hz : -4 ≤ z) (hz2 : z ≤ 2155) (d : Nat) : ∀ (c i : Int) (k : Nat), 0 ≤ i → (400 : Int) - i = d → 0 ≤ c → c ≤ i →
    laws_FnDayLast.l1 (k + 1 + d) y z n c i = laws_FnDayLast.l1 (k + 1) y z n (c + (before (z + 400) - before (z + i))) 400 := by
  induction d with
  | zero =>
    intro c i k hi hd hc hci
    obtain rfl : i = 400 := by omega
    rw [Int.sub_self, Int.add_zero, Nat.add_zero]
  | succ d ih =>
    intro c i k hi hd hc hci
    have w1 : wrap64 (z + i) = z + i := wr (by omega) (by omega)
    have w2 : wrap64 (c + 1) = c + 1 := wr (by omega) (by omega)
    have w3 : wrap64 (i + 1) = i + 1 := wr (by omega) (by omega)
    have hb := before_succ (z + i)
    rw [show k + 1 + (d + 1) = (k + 1 + d) + 1 by omega]
    simp only [laws_FnDayLast.l1]
    rw [if_pos (by omega), w1, impl_leap]
    simp only [Option.bind_some, w2, w3]
    unfold leapN at hb
    cases hl : leap (z + i) with
    | true =>
      rw [if_pos rfl, ih (c + 1) (i + 1) k (by omega) (by omega) (by omega) (by omega)]
      rw [hl, if_pos rfl] at hb
      simp only [laws_FnDayLast.l1]
      rw [show z + (i + 1) = z + i + 1 by omega, hb, show c + 1 + (before (z + 400) - (before (z + i) + 1)) = c + (before (z + 400) - before (z + i)) by omega]
    | false =>
      rw [if_neg (by simp), ih c (i + 1) k (by omega) (by omega) (by omega) (by omega)]
      rw [hl, if_neg (by simp)] at hb
      simp only [laws_FnDayLast.l1]
      rw [show z + (i + 1) = z + i + 1 by omega, hb, Int.add_zero]
theorem FnDayLast : laws_FnDayLast.Pure := by
  intro l m _ _ hx _ _ hy
  by_cases hl : (l.length : Int) > 1048576
  · exact ⟨1, by unfold laws_FnDayLast.f; rw [if_pos hl]; simp only [laws_FnDayLast.j0]; simp⟩
  · by_cases hm : (m.length : Int) > 1048576
    · exact ⟨1, by unfold laws_FnDayLast.f; rw [if_neg hl, decide_eq_true hm]; simp only [laws_FnDayLast.j0]; simp⟩
    · obtain ⟨y, mo, y1, y2, ⟨K1, e1⟩⟩ := draw_last l hx
      dsimp only at e1
      obtain ⟨z, z1, z2, ⟨K2, e2⟩⟩ := draw_leap m hy
      dsimp only at e2
      obtain ⟨K3, e3⟩ := spec_last y mo
      dsimp only at e3
      refine ⟨max K1 (max K2 K3) + 1 + 32 + 400 + 1 + 1 + 1, ?_⟩
      unfold laws_FnDayLast.f
      rw [if_neg hl, decide_eq_false hm]
      simp only [laws_FnDayLast.j0]
      rw [if_neg (by simp), e1 _ (by omega)]
      simp only [Option.bind_some]
      rw [e2 _ (by omega)]
      simp only [Option.bind_some, impl_last]
      rw [e3 _ (by omega)]
      simp only [Option.bind_some, if_true, impl_leap, spec_leap, bne_self_eq_false]
      simp only [laws_FnDayLast.j1]
      rw [if_neg (by simp), show max K1 (max K2 K3) + 1 + 32 + 400 + 1 = (max K1 (max K2 K3) + 1 + 400) + 1 + 2 * 16 by omega,
        months_all y z 16 0 (-1) _ (by omega) (by omega) (by omega) (by omega), show max K1 (max K2 K3) + 1 + 400 = max K1 (max K2 K3) + 1 + 400 from rfl,
        leaps_all y z _ z1 z2 400 0 0 (max K1 (max K2 K3)) (by omega) (by omega) (by omega) (by omega), year_all]
      have hc : (0 : Int) + (before (z + 400) - before (z + 0)) = 97 := by unfold before; omega
      rw [hc]
      simp only [laws_FnDayLast.l1]
      rw [if_neg (by omega), if_pos trivial, impl_leap]
      simp only [Option.bind_some]
      cases leap y <;> simp

end Go.Proofs.Ytcollniblajhiaa.Pure
