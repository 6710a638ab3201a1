/- Plain lemmas about the printed functions of this seat: exact_a, root_a. -/
import Derived.Test.YtmffjnipolicpaaAllx0
import Derived.Test.YtmffjnipolicpaaAllx2
import Derived.Test.YtmffjnipolicpaaAllx3
import Derived.Test.YtmffjnipolicpaaAllx6
import Derived.Test.YtmffjnipolicpaaLemPick
set_option linter.unusedVariables false
set_option linter.unusedSimpArgs false
namespace Go.Proofs.Ytmffjnipolicpaa.Pure
open Go.RowKit Go.Proofs.Ytmffjnipolicpaa.All Go.Proofs.YtmffjnipolicpaaW.PrintWords Go.Proofs.YtmffjnipolicpaaW.PrintLast Go.Proofs.YtmffjnipolicpaaW.PrintMore

/-! ### leap years, last days -/
def leap (y : Int) : Bool := decide (y % 4 = 0 ∧ (y % 100 ≠ 0 ∨ y % 400 = 0))
theorem tb (a n : Int) : (Int.tmod a n == 0) = decide (a % n = 0) := by
  rw [← decide_eq_decide.mpr (iff_of_eq (tmod0 a n))]
  rfl
theorem spec_leap (y : Int) : spec_DayLeap.f y = some (leap y) := by
  unfold spec_DayLeap.f leap
  simp only [tmod0, tb]
  by_cases h4 : y % 4 = 0 <;> by_cases h1 : y % 100 = 0 <;> by_cases h2 : y % 400 = 0 <;> simp [h4, h1, h2]
  all_goals omega
theorem impl_leap (y : Int) : impl_DayLeap.f y = some (leap y) := by
  unfold impl_DayLeap.f leap
  simp only [tmod0, tb]
  by_cases h4 : y % 4 = 0 <;> by_cases h1 : y % 100 = 0 <;> by_cases h2 : y % 400 = 0 <;> simp [h4, h1, h2]
def dl (y m : Int) : Int := if 1 ≤ m ∧ m ≤ 12 then (if m = 2 then (if leap y = true then 29 else 28) else impl_DayLast.tab m) else 0
theorem impl_last (y m : Int) : impl_DayLast.f y m = some (dl y m) := by
  unfold impl_DayLast.f dl
  by_cases h1 : m ≥ 1
  · by_cases h2 : m ≤ 12
    · rw [if_pos h1, if_pos h2, if_pos (show 1 ≤ m ∧ m ≤ 12 from ⟨h1, h2⟩)]
      by_cases h3 : m = 2
      · simp only [if_pos h3, impl_leap]
        cases leap y <;> rfl
      · simp only [if_neg h3]
    · rw [if_pos h1, if_neg h2, if_neg (by omega)]
  · rw [if_neg h1, if_neg (by omega)]
theorem spec_last_two (y m : Int) (k : Nat) (hk : 2 ≤ k) : spec_DayLast.f k y m = some (dl y m) := by
  obtain ⟨k, rfl⟩ : ∃ j, k = j + 2 := ⟨k - 2, by omega⟩
  by_cases h : 1 ≤ m ∧ m ≤ 12
  · rcases (by omega : m = 1 ∨ m = 2 ∨ m = 3 ∨ m = 4 ∨ m = 5 ∨ m = 6 ∨ m = 7 ∨ m = 8 ∨ m = 9 ∨ m = 10 ∨ m = 11 ∨ m = 12) with rfl | rfl | rfl | rfl | rfl | rfl | rfl | rfl | rfl | rfl | rfl | rfl
    all_goals simp [spec_DayLast.f, spec_DayLast.j0, spec_DayLast.j1, spec_leap, dl, impl_DayLast.tab]
    cases leap y <;> simp
  · have hn : ∀ c : Int, 1 ≤ c → c ≤ 12 → m ≠ c := fun c h1 h2 e => h ⟨by omega, by omega⟩
    have e : ∀ c : Int, 1 ≤ c → c ≤ 12 → (m == c) = false := fun c h1 h2 => by simpa using hn c h1 h2
    have e1 := e 12 (by omega) (by omega)
    have e2 := e 11 (by omega) (by omega)
    simp only [spec_DayLast.f]
    rw [if_neg (hn 1 (by omega) (by omega)), if_neg (hn 3 (by omega) (by omega)), if_neg (hn 5 (by omega) (by omega)), if_neg (hn 7 (by omega) (by omega)), if_neg (hn 8 (by omega) (by omega)), if_neg (hn 10 (by omega) (by omega)), e1]
    simp only [spec_DayLast.j0]
    rw [if_neg (by simp), if_neg (hn 4 (by omega) (by omega)), if_neg (hn 6 (by omega) (by omega)), if_neg (hn 9 (by omega) (by omega)), e2]
    simp only [spec_DayLast.j1]
    rw [if_neg (by simp), if_neg (hn 2 (by omega) (by omega))]
    unfold dl
    rw [if_neg h]
theorem spec_last (y m : Int) : Ev (fun k => spec_DayLast.f k y m) (dl y m) := evs 2 fun k hk => spec_last_two y m k hk
theorem dl_bound (y m : Int) : 0 ≤ dl y m ∧ dl y m ≤ 31 := by
  unfold dl impl_DayLast.tab
  repeat' split
  all_goals omega
theorem in_impl (a b c : Int) : impl_in.f a b c = some (decide (b ≤ a ∧ a ≤ c)) := by
  unfold impl_in.f
  by_cases h : a ≥ b
  · rw [if_pos h]; simp [show b ≤ a from h]
  · rw [if_neg h]; simp [show ¬ b ≤ a from h]
theorem in_spec (a b c : Int) : spec_l1In.f a b c = some (decide (b ≤ a ∧ a ≤ c)) := by
  unfold spec_l1In.f
  by_cases h : a ≥ b
  · rw [if_pos h]; simp [show b ≤ a from h]
  · rw [if_neg h]; simp [show ¬ b ≤ a from h]
def dok (y m d : Int) : Bool := decide (1900 ≤ y ∧ y ≤ 2199 ∧ 1 ≤ m ∧ m ≤ 12 ∧ 1 ≤ d ∧ d ≤ dl y m)
theorem impl_ok (y m d : Int) : impl_DayOk.f y m d = some (dok y m d) := by
  unfold impl_DayOk.f dok
  rw [in_impl, impl_last]
  simp only [Option.bind_some, in_impl, decide_eq_true_eq]
  have hd : ¬ (1 ≤ m ∧ m ≤ 12) → dl y m = 0 := fun h => by unfold dl; rw [if_neg h]
  by_cases h1 : 1900 ≤ y ∧ y ≤ 2199
  · rw [if_pos h1]; congr 1; rw [decide_eq_decide]
    by_cases h : 1 ≤ m ∧ m ≤ 12
    · omega
    · have := hd h
      omega
  · rw [if_neg h1]; congr 1; symm; rw [decide_eq_false_iff_not]; omega
theorem spec_ok (y m d : Int) : Ev (fun k => spec_DayOk.f k y m d) (dok y m d) := by
  obtain ⟨K, hK⟩ := spec_last y m
  refine ⟨K, fun k hk => ?_⟩
  unfold spec_DayOk.f dok
  simp only [in_spec, Option.bind_some, decide_eq_true_eq, hK k hk]
  by_cases h1 : 1900 ≤ y ∧ y ≤ 2199
  · rw [if_pos h1]
    by_cases h2 : 1 ≤ m ∧ m ≤ 12
    · rw [if_pos h2]; congr 1; rw [decide_eq_decide]; omega
    · rw [if_neg h2]; congr 1; symm; rw [decide_eq_false_iff_not]; omega
  · rw [if_neg h1]; congr 1; symm; rw [decide_eq_false_iff_not]; omega
theorem cu_ok : laws_cuOk.f = some true := by
  unfold laws_cuOk.f
  rw [impl_ok]
  rfl

/-! ### roots -/
theorem root_same : ∀ (k : Nat) (n r : Int), impl_SmpRoot.l0 k n r = spec_SmpRoot.l0 k n r
  | 0, _, _ => rfl
  | k + 1, n, r => by
    simp only [impl_SmpRoot.l0, spec_SmpRoot.l0]
    rw [root_same k]
theorem root_round (n : Int) (hn : n ≤ 10000) (d : Nat) : ∀ (k : Nat) (r : Int), 0 ≤ r → (100 : Int) - r = d → r * r ≤ n → d < k →
    ∃ s, spec_SmpRoot.l0 k n r = some s ∧ r ≤ s ∧ s ≤ 100 ∧ s * s ≤ n ∧ n < (s + 1) * (s + 1) := by
  induction d with
  | zero =>
    intro k r h0 hd hr hk
    obtain ⟨k, rfl⟩ : ∃ m, k = m + 1 := ⟨k - 1, by omega⟩
    obtain rfl : r = 100 := by omega
    refine ⟨100, ?_, by omega, by omega, hr, by omega⟩
    simp only [spec_SmpRoot.l0]
    rw [if_neg (by unfold wrap64; omega)]
  | succ d ih =>
    intro k r h0 hd hr hk
    obtain ⟨k, rfl⟩ : ∃ m, k = m + 1 := ⟨k - 1, by omega⟩
    have e1 : wrap64 (r + 1) = r + 1 := wr (by omega) (by omega)
    have b1 : 0 ≤ (r + 1) * (r + 1) := Int.mul_nonneg (by omega) (by omega)
    have b2 : (r + 1) * (r + 1) ≤ 100 * 100 := Int.mul_le_mul (by omega) (by omega) (by omega) (by omega)
    have e2 : wrap64 ((r + 1) * (r + 1)) = (r + 1) * (r + 1) := wr (by omega) (by omega)
    simp only [spec_SmpRoot.l0, e1, e2]
    by_cases h : (r + 1) * (r + 1) ≤ n
    · rw [if_pos h]
      obtain ⟨s, hs, g1, g2⟩ := ih k (r + 1) (by omega) (by omega) h (by omega)
      exact ⟨s, hs, by omega, g2⟩
    · rw [if_neg h]
      exact ⟨r, rfl, by omega, by omega, hr, by omega⟩
def isRoot (n s : Int) : Prop := if 0 ≤ n ∧ n ≤ 10000 then 0 ≤ s ∧ s ≤ 100 ∧ s * s ≤ n ∧ n < (s + 1) * (s + 1) else s = 0
theorem root_any (n : Int) : ∃ s, isRoot n s ∧ Ev (fun k => spec_SmpRoot.f k n) s ∧ Ev (fun k => impl_SmpRoot.f k n) s := by
  by_cases h : 0 ≤ n ∧ n ≤ 10000
  · obtain ⟨s, hs, g1, g2⟩ := root_round n h.2 100 101 0 (by omega) (by omega) (by omega) (by omega)
    refine ⟨s, by unfold isRoot; rw [if_pos h]; exact ⟨g1, g2⟩, ?_, ?_⟩
    · refine Ev.of (fun k => spec_SmpRoot.mono _ k) (k := 101) ?_
      unfold spec_SmpRoot.f
      rw [in_spec, decide_eq_true h]
      exact hs
    · refine Ev.of (fun k => impl_SmpRoot.mono _ k) (k := 101) ?_
      unfold impl_SmpRoot.f
      rw [in_impl, decide_eq_true h]
      show impl_SmpRoot.l0 101 n 0 = some s
      rw [root_same]
      exact hs
  · refine ⟨0, by unfold isRoot; rw [if_neg h], evs 0 fun k _ => ?_, evs 0 fun k _ => ?_⟩
    · unfold spec_SmpRoot.f
      rw [in_spec, decide_eq_false h]
      rfl
    · unfold impl_SmpRoot.f
      rw [in_impl, decide_eq_false h]
      rfl
def isCount (n c : Int) : Prop := if 1 ≤ n ∧ n ≤ 10000 then ∃ s, isRoot n s ∧ c = (if s + 1 > n then n else s + 1) else c = 0
theorem count_any (n : Int) : ∃ c, isCount n c ∧ Ev (fun k => spec_SmpCount.f k n) c ∧ Ev (fun k => impl_SmpCount.f k n) c := by
  by_cases h : 1 ≤ n ∧ n ≤ 10000
  · obtain ⟨s, hs, ⟨K1, h1⟩, ⟨K2, h2⟩⟩ := root_any n
    have hb : 0 ≤ s ∧ s ≤ 100 := by unfold isRoot at hs; rw [if_pos (by omega)] at hs; exact ⟨hs.1, hs.2.1⟩
    have e1 : wrap64 (s + 1) = s + 1 := wr (by omega) (by omega)
    refine ⟨_, by unfold isCount; rw [if_pos h]; exact ⟨s, hs, rfl⟩, ⟨K1, fun k hk => ?_⟩, ⟨K2, fun k hk => ?_⟩⟩
    · unfold spec_SmpCount.f
      rw [in_spec, decide_eq_true h]
      simp only [Option.bind_some, if_true, h1 k hk, e1]
      split <;> rfl
    · unfold impl_SmpCount.f
      rw [in_impl, decide_eq_true h]
      simp only [Option.bind_some, if_true, h2 k hk, e1, mn]
  · refine ⟨0, by unfold isCount; rw [if_neg h], evs 0 fun k _ => ?_, evs 0 fun k _ => ?_⟩
    · unfold spec_SmpCount.f
      rw [in_spec, decide_eq_false h]
      rfl
    · unfold impl_SmpCount.f
      rw [in_impl, decide_eq_false h]
      rfl

end Go.Proofs.Ytmffjnipolicpaa.Pure
