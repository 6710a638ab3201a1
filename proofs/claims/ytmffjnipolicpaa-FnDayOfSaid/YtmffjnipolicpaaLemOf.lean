/- Plain lemmas about the printed functions of this seat: dayof. -/
import Derived.Test.YtmffjnipolicpaaAllx0
import Derived.Test.YtmffjnipolicpaaAllx10
import Derived.Test.YtmffjnipolicpaaAllx3
import Derived.Test.YtmffjnipolicpaaAllx9
import Derived.Test.YtmffjnipolicpaaLemDay
set_option linter.unusedVariables false
set_option linter.unusedSimpArgs false
namespace Go.Proofs.Ytmffjnipolicpaa.Pure
open Go.RowKit Go.Proofs.Ytmffjnipolicpaa.All Go.Proofs.YtmffjnipolicpaaW.PrintWords Go.Proofs.YtmffjnipolicpaaW.PrintLast Go.Proofs.YtmffjnipolicpaaW.PrintMore

/-! ### the day of a number -/
theorem num_dok (y m d : Int) (h : dok y m d = true) : num y m d = num0 y m d := by unfold num; rw [if_pos h]
theorem dok_first (y : Int) (h1 : 1900 ≤ y) (h2 : y ≤ 2199) (m : Int) (m1 : 1 ≤ m) (m2 : m ≤ 12) : dok y m 1 = true := by
  rw [dok_iff]
  have : 28 ≤ dl y m := by
    unfold dl impl_DayLast.tab
    rw [if_pos ⟨m1, m2⟩]
    repeat' split
    all_goals omega
  omega
theorem impl_of_months (n y : Int) (hy1 : 1900 ≤ y) (hy2 : y ≤ 2199) (hn : n < nyear (y + 1)) (dd : Nat) : ∀ (k : Nat) (m : Int), 1 ≤ m → 13 - m = dd → nyear y + cum y m ≤ n →
    ∃ m' d', impl_DayOf.l1 (k + 1 + dd) (n - nyear y - cum y m) y m 1 = some (y, m', d') ∧ dok y m' d' = true ∧ num0 y m' d' = n := by
  induction dd with
  | zero =>
    intro k m h1 hd hc
    obtain rfl : m = 13 := by omega
    rw [cum_end] at hc
    have := nyear_succ y
    omega
  | succ dd ih =>
    intro k m h1 hd hc
    have hb := dl_bound y m
    have hs := cum_succ y m h1 (by omega)
    have hny := nyear_bound y hy1 (by omega)
    have hny2 := nyear_bound (y + 1) (by omega) (by omega)
    have hcb := cum_bound y m h1 (by omega)
    rw [show k + 1 + (dd + 1) = (k + 1 + dd) + 1 by omega]
    simp only [impl_DayOf.l1, impl_last, Option.bind_some]
    by_cases h : n - nyear y - cum y m ≥ dl y m
    · rw [if_pos h, wr (x := n - nyear y - cum y m - dl y m) (by omega) (by omega), wr (x := m + 1) (by omega) (by omega)]
      obtain ⟨m', d', e, g⟩ := ih k (m + 1) (by omega) (by omega) (by omega)
      rw [show n - nyear y - cum y m - dl y m = n - nyear y - cum y (m + 1) by omega]
      exact ⟨m', d', e, g⟩
    · rw [if_neg h, wr (x := 1 + (n - nyear y - cum y m)) (by omega) (by omega)]
      refine ⟨m, _, rfl, ?_, ?_⟩
      · rw [dok_iff]; omega
      · unfold num0; omega
theorem impl_of_years (n : Int) (h0 : 0 ≤ n) (hn : n ≤ 109572) (dd : Nat) : ∀ (k : Nat) (y : Int), 1900 ≤ y → 2200 - y = dd → nyear y ≤ n →
    ∃ y' m' d', impl_DayOf.l0 (k + 15 + dd) (n - nyear y) y 1 1 = some (y', m', d') ∧ dok y' m' d' = true ∧ num0 y' m' d' = n := by
  induction dd with
  | zero =>
    intro k y h1 hd hc
    obtain rfl : y = 2200 := by omega
    rw [nyear_end] at hc
    omega
  | succ dd ih =>
    intro k y h1 hd hc
    have hs := nyear_succ y
    have hl := leapN_bound y
    have hb := nyear_bound y h1 (by omega)
    rw [show k + 15 + (dd + 1) = (k + 15 + dd) + 1 by omega]
    simp only [impl_DayOf.l0, impl_year, Option.bind_some]
    by_cases h : n - nyear y ≥ 365 + leapN y
    · rw [if_pos h, wr (x := n - nyear y - (365 + leapN y)) (by omega) (by omega), wr (x := y + 1) (by omega) (by omega)]
      obtain ⟨y', m', d', e, g⟩ := ih k (y + 1) (by omega) (by omega) (by omega)
      rw [show n - nyear y - (365 + leapN y) = n - nyear (y + 1) by omega]
      exact ⟨y', m', d', e, g⟩
    · rw [if_neg h]
      obtain ⟨m', d', e, g⟩ := impl_of_months n y h1 (by omega) (by omega) 12 (k + dd + 2) 1 (by omega) (by omega) (by rw [cum_one]; omega)
      refine ⟨y, m', d', ?_, g⟩
      rw [cum_one, Int.sub_zero] at e
      rw [show k + 15 + dd = k + dd + 2 + 1 + 12 by omega]
      exact e
/-- The day of a number is the day that has it. -/
def isOf (n y m d : Int) : Prop := if 0 ≤ n ∧ n ≤ 109572 then dok y m d = true ∧ num0 y m d = n else y = 0 ∧ m = 0 ∧ d = 0
theorem isOf_one {n y m d y' m' d' : Int} (h : isOf n y m d) (h' : isOf n y' m' d') : y = y' ∧ m = m' ∧ d = d' := by
  unfold isOf at h h'
  by_cases hn : 0 ≤ n ∧ n ≤ 109572
  · rw [if_pos hn] at h h'
    exact num0_inj _ _ _ _ _ _ h.1 h'.1 (by omega)
  · rw [if_neg hn] at h h'
    omega
theorem impl_of (n : Int) : ∃ y m d, isOf n y m d ∧ ∀ k, impl_DayOf.f (k + 320) n = some (y, m, d) := by
  by_cases hn : 0 ≤ n ∧ n ≤ 109572
  · obtain ⟨y, m, d, e, g⟩ := impl_of_years n hn.1 hn.2 300 0 1900 (by omega) (by omega) (by rw [nyear_first]; omega)
    refine ⟨y, m, d, by unfold isOf; rw [if_pos hn]; exact g, fun k => ?_⟩
    obtain ⟨y2, m2, d2, e2, g2⟩ := impl_of_years n hn.1 hn.2 300 (k + 5) 1900 (by omega) (by omega) (by rw [nyear_first]; omega)
    obtain ⟨rfl, rfl, rfl⟩ := num0_inj _ _ _ _ _ _ g.1 g2.1 (by omega)
    unfold impl_DayOf.f
    rw [in_impl, decide_eq_true hn]
    rw [nyear_first, Int.sub_zero] at e2
    simp only [Option.bind_some, if_true]
    rw [show k + 320 = k + 5 + 15 + 300 by omega]
    exact e2
  · refine ⟨0, 0, 0, by unfold isOf; rw [if_neg hn]; exact ⟨rfl, rfl, rfl⟩, fun k => ?_⟩
    unfold impl_DayOf.f
    rw [in_impl, decide_eq_false hn]
    rfl
theorem spec_of_months (n y : Int) (hy1 : 1900 ≤ y) (hy2 : y ≤ 2199) (h0 : 0 ≤ n) (hn : n < nyear (y + 1)) (dd : Nat) : ∀ (k : Nat) (m : Int), 1 ≤ m → 12 - m = dd → nyear y + cum y m ≤ n →
    ∃ m' d', spec_DayOf.l1 (k + 22 + 2 * dd) n y m 1 = some (y, m', d') ∧ dok y m' d' = true ∧ num0 y m' d' = n := by
  have hny := nyear_bound y hy1 (by omega)
  have hny2 := nyear_bound (y + 1) (by omega) (by omega)
  have fin : ∀ (k : Nat) (m : Int), 1 ≤ m → m ≤ 12 → nyear y + cum y m ≤ n → (m < 12 → n < nyear y + cum y (m + 1)) → ∃ m' d', spec_DayOf.j3 (k + 21) n false y m 1 = some (y, m', d') ∧ dok y m' d' = true ∧ num0 y m' d' = n := by
    intro k m h1 h2 hc hlt
    have hs := cum_succ y m h1 h2
    have hcb := cum_bound y m h1 (by omega)
    have hd1 := dok_first y hy1 hy2 m h1 h2
    have hend : n < nyear y + cum y (m + 1) := by
      by_cases h : m < 12
      · exact hlt h
      · obtain rfl : m = 12 := by omega
        have := nyear_succ y
        have h13 : cum y (12 + 1) = 365 + leapN y := cum_end y
        omega
    simp only [spec_DayOf.j3]
    rw [if_neg (by simp), spec_num, num_dok y m 1 hd1]
    simp only [Option.bind_some]
    have e : num0 y m 1 = nyear y + cum y m := by unfold num0; omega
    rw [e, wr (x := 1 + n) (by omega) (by omega), wr (x := 1 + n - (nyear y + cum y m)) (by omega) (by omega)]
    refine ⟨m, _, rfl, ?_, ?_⟩
    · rw [dok_iff]; omega
    · unfold num0; omega
  induction dd with
  | zero =>
    intro k m h1 hd hc
    obtain rfl : m = 12 := by omega
    simp only [Nat.mul_zero, Nat.add_zero, spec_DayOf.l1]
    rw [if_neg (by omega)]
    exact fin k 12 (by omega) (by omega) hc (fun h => absurd h (by omega))
  | succ dd ih =>
    intro k m h1 hd hc
    have hs := cum_succ y m h1 (by omega)
    have hd1 := dok_first y hy1 hy2 (m + 1) (by omega) (by omega)
    rw [show k + 22 + 2 * (dd + 1) = (k + 22 + 2 * dd + 1) + 1 by omega]
    simp only [spec_DayOf.l1]
    rw [if_pos (by omega), wr (x := m + 1) (by omega) (by omega), show k + 22 + 2 * dd + 1 = (k + 3 + 2 * dd) + 20 by omega, spec_num, num_dok y (m + 1) 1 hd1]
    simp only [Option.bind_some]
    have e : num0 y (m + 1) 1 = nyear y + cum y (m + 1) := by unfold num0; omega
    rw [e]
    by_cases h : nyear y + cum y (m + 1) ≤ n
    · rw [decide_eq_true h, show k + 3 + 2 * dd + 20 = (k + 22 + 2 * dd) + 1 by omega]
      simp only [spec_DayOf.j3]
      rw [if_pos trivial, wr (x := m + 1) (by omega) (by omega)]
      exact ih k (m + 1) (by omega) (by omega) h
    · rw [decide_eq_false h, show k + 3 + 2 * dd + 20 = (k + 2 + 2 * dd) + 21 by omega]
      exact fin _ m h1 (by omega) hc (fun _ => by omega)
theorem spec_of_years (n : Int) (h0 : 0 ≤ n) (hn : n ≤ 109572) (dd : Nat) : ∀ (k : Nat) (y : Int), 1900 ≤ y → 2199 - y = dd → nyear y ≤ n →
    ∃ y' m' d', spec_DayOf.l0 (k + 60 + 2 * dd) n y 1 1 = some (y', m', d') ∧ dok y' m' d' = true ∧ num0 y' m' d' = n := by
  have fin : ∀ (k : Nat) (y : Int), 1900 ≤ y → y ≤ 2199 → nyear y ≤ n → n < nyear (y + 1) → ∃ y' m' d', spec_DayOf.j1 (k + 59) n false y 1 1 = some (y', m', d') ∧ dok y' m' d' = true ∧ num0 y' m' d' = n := by
    intro k y h1 h2 hc hlt
    simp only [spec_DayOf.j1]
    rw [if_neg (by simp)]
    obtain ⟨m', d', e, g⟩ := spec_of_months n y h1 h2 h0 hlt 11 (k + 14) 1 (by omega) (by omega) (by rw [cum_one]; omega)
    exact ⟨y, m', d', e, g⟩
  induction dd with
  | zero =>
    intro k y h1 hd hc
    obtain rfl : y = 2199 := by omega
    simp only [Nat.mul_zero, Nat.add_zero, spec_DayOf.l0]
    rw [if_neg (by omega)]
    exact fin k 2199 (by omega) (by omega) hc (by have : nyear (2199 + 1) = 109573 := nyear_end; omega)
  | succ dd ih =>
    intro k y h1 hd hc
    have hd1 := dok_first (y + 1) (by omega) (by omega) 1 (by omega) (by omega)
    rw [show k + 60 + 2 * (dd + 1) = (k + 60 + 2 * dd + 1) + 1 by omega]
    simp only [spec_DayOf.l0]
    rw [if_pos (by omega), wr (x := y + 1) (by omega) (by omega), show k + 60 + 2 * dd + 1 = (k + 41 + 2 * dd) + 20 by omega, spec_num, num_dok (y + 1) 1 1 hd1]
    simp only [Option.bind_some]
    have e : num0 (y + 1) 1 1 = nyear (y + 1) := by unfold num0; rw [cum_one]; omega
    rw [e]
    by_cases h : nyear (y + 1) ≤ n
    · rw [decide_eq_true h, show k + 41 + 2 * dd + 20 = (k + 60 + 2 * dd) + 1 by omega]
      simp only [spec_DayOf.j1]
      rw [if_pos trivial, wr (x := y + 1) (by omega) (by omega)]
      exact ih k (y + 1) (by omega) (by omega) h
    · rw [decide_eq_false h, show k + 41 + 2 * dd + 20 = (k + 2 + 2 * dd) + 59 by omega]
      exact fin _ y h1 (by omega) hc (by omega)
theorem spec_of (n : Int) : ∃ y m d, isOf n y m d ∧ ∀ k, spec_DayOf.f (k + 700) n = some (y, m, d) := by
  by_cases hn : 0 ≤ n ∧ n ≤ 109572
  · have t : Int.tdiv n 366 = n / 366 := Int.tdiv_eq_ediv_of_nonneg hn.1
    have hb := nyear_bound (1900 + n / 366) (by omega) (by omega)
    have key : ∀ k, ∃ y' m' d', spec_DayOf.f (k + 700) n = some (y', m', d') ∧ dok y' m' d' = true ∧ num0 y' m' d' = n := by
      intro k
      obtain ⟨y, m, d, e, g⟩ := spec_of_years n hn.1 hn.2 (2199 - (1900 + n / 366)).toNat (k + 640 - 2 * (2199 - (1900 + n / 366)).toNat) (1900 + n / 366) (by omega) (by omega) (by omega)
      refine ⟨y, m, d, ?_, g⟩
      unfold spec_DayOf.f
      rw [in_spec, decide_eq_true hn, t, wr (x := n / 366) (by omega) (by omega), wr (x := 1900 + n / 366) (by omega) (by omega)]
      simp only [Option.bind_some, if_true]
      rw [show k + 640 - 2 * (2199 - (1900 + n / 366)).toNat + 60 + 2 * (2199 - (1900 + n / 366)).toNat = k + 700 by omega] at e
      exact e
    obtain ⟨y, m, d, _, g⟩ := key 0
    refine ⟨y, m, d, by unfold isOf; rw [if_pos hn]; exact g, fun k => ?_⟩
    obtain ⟨y2, m2, d2, e2, g2⟩ := key k
    obtain ⟨rfl, rfl, rfl⟩ := num0_inj _ _ _ _ _ _ g.1 g2.1 (by omega)
    exact e2
  · refine ⟨0, 0, 0, by unfold isOf; rw [if_neg hn]; exact ⟨rfl, rfl, rfl⟩, fun k => ?_⟩
    unfold spec_DayOf.f
    rw [in_spec, decide_eq_false hn]
    rfl

end Go.Proofs.Ytmffjnipolicpaa.Pure
