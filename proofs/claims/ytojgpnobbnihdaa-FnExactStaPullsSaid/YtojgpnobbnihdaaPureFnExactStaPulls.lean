/- StaPulls of the program answers as the reference, at a plan of its own room, in memory of its own: the law's pure statement; no conditions. -/
import Derived.Test.YtojgpnobbnihdaaAllx0
import Derived.Test.YtojgpnobbnihdaaAllx1
import Derived.Test.YtojgpnobbnihdaaAllx19
import Derived.Test.YtojgpnobbnihdaaAllx2
import Derived.Test.YtojgpnobbnihdaaAllx20
import Derived.Test.YtojgpnobbnihdaaAllx21
import Derived.Test.YtojgpnobbnihdaaAllx22
import Derived.Test.YtojgpnobbnihdaaAllx3
import Derived.Test.YtojgpnobbnihdaaAllx4
import Derived.Test.YtojgpnobbnihdaaAllx5
import Derived.Test.YtojgpnobbnihdaaAllx9
import Derived.Test.YtojgpnobbnihdaaSaysFnExactStaPulls
set_option linter.unusedVariables false
set_option linter.unusedSimpArgs false
namespace Go.Proofs.Ytojgpnobbnihdaa.Pure
open Go.RowKit Go.Proofs.Ytojgpnobbnihdaa.All Go.Proofs.YtojgpnobbnihdaaW.PrintWords Go.Proofs.YtojgpnobbnihdaaW.PrintLast Go.Proofs.YtojgpnobbnihdaaW.PrintMore

theorem wr {x : Int} (h1 : -9223372036854775808 ≤ x) (h2 : x ≤ 9223372036854775807) : wrap64 x = x := by unfold wrap64; omega
theorem tmod0 (a n : Int) : (Int.tmod a n = 0) = (a % n = 0) := by
  rw [← Int.dvd_iff_tmod_eq_zero, Int.dvd_iff_emod_eq_zero]
def leap (y : Int) : Bool := decide (y % 4 = 0 ∧ (y % 100 ≠ 0 ∨ y % 400 = 0))
theorem tb (a n : Int) : (Int.tmod a n == 0) = decide (a % n = 0) := by
  rw [← decide_eq_decide.mpr (iff_of_eq (tmod0 a n))]
  rfl
theorem spec_leap (y : Int) : spec_DayLeap.f y = some (leap y) := by
  unfold spec_DayLeap.f leap
  simp only [tmod0, tb]
  by_cases h4 : y % 4 = 0 <;> by_cases h1 : y % 100 = 0 <;> by_cases h2 : y % 400 = 0 <;> simp [h4, h1, h2]
  all_goals omega
theorem impl_leap (y : Int) : impl_DayLeap.f y = some (leap y) := by
  unfold impl_DayLeap.f leap
  simp only [tmod0, tb]
  by_cases h4 : y % 4 = 0 <;> by_cases h1 : y % 100 = 0 <;> by_cases h2 : y % 400 = 0 <;> simp [h4, h1, h2]
def dl (y m : Int) : Int := if 1 ≤ m ∧ m ≤ 12 then (if m = 2 then (if leap y = true then 29 else 28) else impl_DayLast.tab m) else 0
theorem impl_last (y m : Int) : impl_DayLast.f y m = some (dl y m) := by
  unfold impl_DayLast.f dl
  by_cases h1 : m ≥ 1
  · by_cases h2 : m ≤ 12
    · rw [if_pos h1, if_pos h2, if_pos (show 1 ≤ m ∧ m ≤ 12 from ⟨h1, h2⟩)]
      by_cases h3 : m = 2
      · simp only [if_pos h3, impl_leap]
        cases leap y <;> rfl
      · simp only [if_neg h3]
    · rw [if_pos h1, if_neg h2, if_neg (by omega)]
  · rw [if_neg h1, if_neg (by omega)]
theorem spec_last_two (y m : Int) (k : Nat) (hk : 2 ≤ k) : spec_DayLast.f k y m = some (dl y m) := by
  obtain ⟨k, rfl⟩ : ∃ j, k = j + 2 := ⟨k - 2, by omega⟩
  by_cases h : 1 ≤ m ∧ m ≤ 12
  · rcases (by omega : m = 1 ∨ m = 2 ∨ m = 3 ∨ m = 4 ∨ m = 5 ∨ m = 6 ∨ m = 7 ∨ m = 8 ∨ m = 9 ∨ m = 10 ∨ m = 11 ∨ m = 12) with rfl | rfl | rfl | rfl | rfl | rfl | rfl | rfl | rfl | rfl | rfl | rfl
    all_goals simp [spec_DayLast.f, spec_DayLast.j0, spec_DayLast.j1, spec_leap, dl, impl_DayLast.tab]
    cases leap y <;> simp
  · have hn : ∀ c : Int, 1 ≤ c → c ≤ 12 → m ≠ c := fun c h1 h2 e => h ⟨by omega, by omega⟩
    have e : ∀ c : Int, 1 ≤ c → c ≤ 12 → (m == c) = false := fun c h1 h2 => by simpa using hn c h1 h2
    have e1 := e 12 (by omega) (by omega)
    have e2 := e 11 (by omega) (by omega)
    simp only [spec_DayLast.f]
    rw [if_neg (hn 1 (by omega) (by omega)), if_neg (hn 3 (by omega) (by omega)), if_neg (hn 5 (by omega) (by omega)), if_neg (hn 7 (by omega) (by omega)), if_neg (hn 8 (by omega) (by omega)), if_neg (hn 10 (by omega) (by omega)), e1]
    simp only [spec_DayLast.j0]
    rw [if_neg (by simp), if_neg (hn 4 (by omega) (by omega)), if_neg (hn 6 (by omega) (by omega)), if_neg (hn 9 (by omega) (by omega)), e2]
    simp only [spec_DayLast.j1]
    rw [if_neg (by simp), if_neg (hn 2 (by omega) (by omega))]
    unfold dl
    rw [if_neg h]
theorem in_impl (a b c : Int) : impl_in.f a b c = some (decide (b ≤ a ∧ a ≤ c)) := by
  unfold impl_in.f
  by_cases h : a ≥ b
  · rw [if_pos h]; simp [show b ≤ a from h]
  · rw [if_neg h]; simp [show ¬ b ≤ a from h]
theorem in_spec (a b c : Int) : spec_l1In.f a b c = some (decide (b ≤ a ∧ a ≤ c)) := by
  unfold spec_l1In.f
  by_cases h : a ≥ b
  · rw [if_pos h]; simp [show b ≤ a from h]
  · rw [if_neg h]; simp [show ¬ b ≤ a from h]
def dok (y m d : Int) : Bool := decide (1900 ≤ y ∧ y ≤ 2199 ∧ 1 ≤ m ∧ m ≤ 12 ∧ 1 ≤ d ∧ d ≤ dl y m)
theorem impl_ok (y m d : Int) : impl_DayOk.f y m d = some (dok y m d) := by
  unfold impl_DayOk.f dok
  rw [in_impl, impl_last]
  simp only [Option.bind_some, in_impl, decide_eq_true_eq]
  have hd : ¬ (1 ≤ m ∧ m ≤ 12) → dl y m = 0 := fun h => by unfold dl; rw [if_neg h]
  by_cases h1 : 1900 ≤ y ∧ y ≤ 2199
  · rw [if_pos h1]; congr 1; rw [decide_eq_decide]
    by_cases h : 1 ≤ m ∧ m ≤ 12
    · omega
    · have := hd h
      omega
  · rw [if_neg h1]; congr 1; symm; rw [decide_eq_false_iff_not]; omega
theorem spec_last2 (k : Nat) (y m : Int) : spec_DayLast.f (k + 2) y m = some (dl y m) := by
  exact spec_last_two y m _ (by omega)
theorem spec_ok2 (k : Nat) (y m d : Int) : spec_DayOk.f (k + 2) y m d = some (dok y m d) := by
  unfold spec_DayOk.f dok
  simp only [in_spec, Option.bind_some, decide_eq_true_eq, spec_last2]
  by_cases h1 : 1900 ≤ y ∧ y ≤ 2199
  · rw [if_pos h1]
    by_cases h2 : 1 ≤ m ∧ m ≤ 12
    · rw [if_pos h2]; congr 1; rw [decide_eq_decide]; omega
    · rw [if_neg h2]; congr 1; symm; rw [decide_eq_false_iff_not]; omega
  · rw [if_neg h1]; congr 1; symm; rw [decide_eq_false_iff_not]; omega
theorem dok_iff (y m d : Int) : dok y m d = true ↔ 1900 ≤ y ∧ y ≤ 2199 ∧ 1 ≤ m ∧ m ≤ 12 ∧ 1 ≤ d ∧ d ≤ dl y m := by unfold dok; rw [decide_eq_true_eq]
def plusY (y m k : Int) : Int := y + (m - 1 + k) / 12
def plusM (m k : Int) : Int := (m - 1 + k) % 12 + 1
def plusD (y m d k : Int) : Int := if dl (plusY y m k) (plusM m k) < d then dl (plusY y m k) (plusM m k) else d
def plus (y m d k : Int) : Int × Int × Int :=
  if dok y m d = true ∧ 0 ≤ k ∧ k ≤ 600 ∧ plusY y m k ≤ 2199 then (plusY y m k, plusM m k, plusD y m d k) else (0, 0, 0)
theorem dl_low (y m : Int) (m1 : 1 ≤ m) (m2 : m ≤ 12) : 28 ≤ dl y m := by
  unfold dl impl_DayLast.tab
  rw [if_pos ⟨m1, m2⟩]
  repeat' split
  all_goals omega
theorem plus_dok (y m d k : Int) (h : dok y m d = true) (h0 : 0 ≤ k) (hy : plusY y m k ≤ 2199) : dok (plusY y m k) (plusM m k) (plusD y m d k) = true := by
  rw [dok_iff] at h
  rw [dok_iff]
  have a : 1 ≤ plusM m k ∧ plusM m k ≤ 12 := by unfold plusM; omega
  have b : y ≤ plusY y m k := by unfold plusY; omega
  have c := dl_low (plusY y m k) (plusM m k) a.1 a.2
  unfold plusD
  split <;> omega
theorem plus_out (y m d k : Int) (hy : ¬ plusY y m k ≤ 2199) : dok (plusY y m k) (plusM m k) (plusD y m d k) = false := by
  unfold dok
  rw [decide_eq_false_iff_not]
  omega
theorem impl_plus (j : Nat) (y m d k : Int) (hk : -9223372036854775808 ≤ k ∧ k ≤ 9223372036854775807) : impl_DayPlus.f (j + 1) y m d k = some (plus y m d k) := by
  unfold impl_DayPlus.f plus
  rw [impl_ok]
  simp only [Option.bind_some]
  by_cases h : dok y m d = true
  · rw [if_pos h, in_impl]
    simp only [Option.bind_some]
    by_cases h2 : 0 ≤ k ∧ k ≤ 600
    · have hd := (dok_iff y m d).mp h
      have t1 : Int.tdiv (m - 1 + k) 12 = (m - 1 + k) / 12 := Int.tdiv_eq_ediv_of_nonneg (by omega)
      have t2 : Int.tmod (m - 1 + k) 12 = (m - 1 + k) % 12 := Int.tmod_eq_emod_of_nonneg (by omega)
      rw [decide_eq_true h2]
      simp only [impl_DayPlus.j0, Bool.not_true]
      rw [if_neg (by simp), wr (x := m - 1) (by omega) (by omega), wr (x := m - 1 + k) (by omega) (by omega), t1, t2, wr (x := (m - 1 + k) / 12) (by omega) (by omega), wr (x := y + (m - 1 + k) / 12) (by omega) (by omega), wr (x := (m - 1 + k) % 12 + 1) (by omega) (by omega), impl_last]
      simp only [Option.bind_some, impl_ok]
      show (if dok (plusY y m k) (plusM m k) (plusD y m d k) = true then some (plusY y m k, plusM m k, plusD y m d k) else some (0, 0, 0)) = _
      by_cases h3 : plusY y m k ≤ 2199
      · rw [if_pos (plus_dok y m d k h h2.1 h3), if_pos ⟨h, h2.1, h2.2, h3⟩]
      · rw [plus_out y m d k h3, if_neg (by simp), if_neg (by omega)]
    · rw [decide_eq_false h2]
      simp only [impl_DayPlus.j0, Bool.not_false]
      rw [if_pos trivial, if_neg (by omega)]
  · rw [if_neg h]
    simp only [impl_DayPlus.j0]
    rw [if_pos trivial, if_neg (by simp [h])]
theorem spec_plus (j : Nat) (y m d k : Int) (hk : -9223372036854775808 ≤ k ∧ k ≤ 9223372036854775807) : spec_DayPlus.f (j + 5) y m d k = some (plus y m d k) := by
  unfold spec_DayPlus.f plus
  rw [show j + 5 = (j + 3) + 2 by omega, spec_ok2]
  simp only [Option.bind_some]
  by_cases h : dok y m d = true
  · rw [if_pos h, in_spec]
    simp only [Option.bind_some]
    by_cases h2 : 0 ≤ k ∧ k ≤ 600
    · have hd := (dok_iff y m d).mp h
      have t1 : Int.tdiv (y * 12 + m - 1 + k) 12 = plusY y m k := by rw [Int.tdiv_eq_ediv_of_nonneg (by omega)]; unfold plusY; omega
      have t2 : Int.tmod (y * 12 + m - 1 + k) 12 + 1 = plusM m k := by rw [Int.tmod_eq_emod_of_nonneg (by omega)]; unfold plusM; omega
      have b1 : -9223372036854775808 ≤ plusY y m k ∧ plusY y m k ≤ 9223372036854775807 := by unfold plusY; omega
      have b2 : -9223372036854775808 ≤ plusM m k ∧ plusM m k ≤ 9223372036854775807 := by unfold plusM; omega
      rw [decide_eq_true h2, show j + 3 + 2 = (j + 2 + 2) + 1 by omega]
      simp only [spec_DayPlus.j0, Bool.not_true]
      rw [if_neg (by simp), wr (x := y * 12) (by omega) (by omega), wr (x := y * 12 + m) (by omega) (by omega), wr (x := y * 12 + m - 1) (by omega) (by omega), wr (x := y * 12 + m - 1 + k) (by omega) (by omega), t1, t2, wr b1.1 b1.2, wr b2.1 b2.2, spec_last2]
      simp only [Option.bind_some]
      have fin : ∀ e : Int, e = plusD y m d k → spec_DayPlus.j1 (j + 2 + 2) (plusY y m k) (plusM m k) e = some (if dok y m d = true ∧ 0 ≤ k ∧ k ≤ 600 ∧ plusY y m k ≤ 2199 then (plusY y m k, plusM m k, plusD y m d k) else (0, 0, 0)) := by
        rintro e rfl
        rw [show j + 2 + 2 = (j + 1 + 2) + 1 by omega]
        simp only [spec_DayPlus.j1, spec_ok2, Option.bind_some]
        by_cases h3 : plusY y m k ≤ 2199
        · rw [if_pos (plus_dok y m d k h h2.1 h3), if_pos ⟨h, h2.1, h2.2, h3⟩]
        · rw [plus_out y m d k h3, if_neg (by simp), if_neg (by omega)]
      by_cases h4 : d > dl (plusY y m k) (plusM m k)
      · rw [if_pos h4]
        exact fin _ (by unfold plusD; rw [if_pos h4])
      · rw [if_neg h4]
        exact fin _ (by unfold plusD; rw [if_neg (by omega)])
    · rw [decide_eq_false h2, show j + 3 + 2 = (j + 4) + 1 by omega]
      simp only [spec_DayPlus.j0, Bool.not_false]
      rw [if_pos trivial, if_neg (by omega)]
  · rw [if_neg h, show j + 3 + 2 = (j + 4) + 1 by omega]
    simp only [spec_DayPlus.j0]
    rw [if_pos trivial, if_neg (by simp [h])]
def riseB (l : List Int) (i : Int) : Nat → Bool
  | 0 => true
  | d + 1 => decide (1 ≤ rd l i ∧ rd l i ≤ 600 ∧ (0 < i → rd l (i - 1) < rd l i)) && riseB l (i + 1) d
theorem riseB_at (l : List Int) (d : Nat) : ∀ i : Int, riseB l i d = true → ∀ j : Int, i ≤ j → j < i + d → 1 ≤ rd l j ∧ rd l j ≤ 600 ∧ (0 < j → rd l (j - 1) < rd l j) := by
  induction d with
  | zero => intro i _ j h1 h2; omega
  | succ d ih =>
    intro i h j h1 h2
    unfold riseB at h
    rw [Bool.and_eq_true, decide_eq_true_eq] at h
    by_cases e : j = i
    · subst e; exact h.1
    · exact ih (i + 1) h.2 j (by omega) (by omega)
def baseOk (y m d : Int) (n : Nat) (w : Int) : Bool := decide (dok y m d = true ∧ y ≤ 2139 ∧ 1 ≤ n ∧ n ≤ 8 ∧ 0 ≤ w ∧ w ≤ 14)
def staOk (y m d : Int) (l : List Int) (w : Int) : Bool := riseB l 0 l.length && baseOk y m d l.length w
theorem spec_rise_loop (y m dd w : Int) (l : List Int) (hl : l.length ≤ 8) (d : Nat) : ∀ (k : Nat) (i : Int), 0 ≤ i → (l.length : Int) - i = d → spec_StaOk.l0 (k + 1 + 2 * d) i y m dd l w = some (riseB l i d) := by
  induction d with
  | zero =>
    intro k i h0 hd
    simp only [Nat.mul_zero, Nat.add_zero, spec_StaOk.l0, riseB]
    rw [if_neg (by omega)]
  | succ d ih =>
    intro k i h0 hd
    have fin : ∀ b : Bool, (b = true ↔ ¬ (1 ≤ rd l i ∧ rd l i ≤ 600 ∧ (0 < i → rd l (i - 1) < rd l i))) → spec_StaOk.j2 (k + 1 + 2 * d + 1) i b y m dd l w = some (riseB l i (d + 1)) := by
      intro b hb
      simp only [spec_StaOk.j2, riseB]
      cases b with
      | true => rw [if_pos rfl, decide_eq_false (hb.mp rfl)]; rfl
      | false =>
        rw [if_neg (by simp), wr (x := i + 1) (by omega) (by omega), ih k (i + 1) (by omega) (by omega)]
        by_cases q : 1 ≤ rd l i ∧ rd l i ≤ 600 ∧ (0 < i → rd l (i - 1) < rd l i)
        · rw [decide_eq_true q]; rfl
        · exact absurd (hb.mpr q) (by simp)
    rw [show k + 1 + 2 * (d + 1) = (k + 1 + 2 * d + 1) + 1 by omega]
    simp only [spec_StaOk.l0, in_spec, Option.bind_some, decide_eq_true_eq]
    rw [if_pos (by omega), if_pos h0]
    by_cases q1 : 1 ≤ rd l i ∧ rd l i ≤ 600
    · rw [if_pos q1]
      by_cases q2 : i > 0
      · rw [if_pos q2, wr (x := i - 1) (by omega) (by omega), if_pos (by omega), if_pos (by omega)]
        exact fin _ (by rw [decide_eq_true_eq]; omega)
      · rw [if_neg q2]
        exact fin _ (by simp; omega)
    · rw [if_neg q1]
      exact fin _ (by simp; omega)
theorem spec_sta (k : Nat) (y m d : Int) (l : List Int) (w : Int) : spec_StaOk.f (k + 20) y m d l w = some (staOk y m d l w) := by
  have no : ∀ j, spec_StaOk.j0 (j + 1) true y m d l w = some false := fun j => by simp only [spec_StaOk.j0]; rw [if_pos trivial]
  have bad : ¬ (dok y m d = true ∧ y ≤ 2139 ∧ 1 ≤ l.length ∧ l.length ≤ 8 ∧ 0 ≤ w ∧ w ≤ 14) → staOk y m d l w = false := by
    intro h
    unfold staOk baseOk
    rw [decide_eq_false h, Bool.and_false]
  unfold spec_StaOk.f
  rw [show k + 20 = (k + 18) + 2 by omega, spec_ok2]
  simp only [Option.bind_some, in_spec]
  by_cases h1 : dok y m d = true
  · rw [if_pos h1]
    by_cases h2 : y > 2139
    · rw [if_pos h2, no, bad (by omega)]
    · rw [if_neg h2]
      by_cases h3 : 1 ≤ (l.length : Int) ∧ (l.length : Int) ≤ 8
      · rw [decide_eq_true h3, if_pos rfl]
        by_cases h4 : 0 ≤ w ∧ w ≤ 14
        · rw [decide_eq_true h4]
          simp only [spec_StaOk.j0, Bool.not_true]
          rw [if_neg (by simp), show k + 18 + 1 = (k + 18 - 2 * l.length) + 1 + 2 * l.length by omega, spec_rise_loop y m d w l (by omega) l.length _ 0 (by omega) (by omega)]
          unfold staOk baseOk
          rw [decide_eq_true (show dok y m d = true ∧ y ≤ 2139 ∧ 1 ≤ l.length ∧ l.length ≤ 8 ∧ 0 ≤ w ∧ w ≤ 14 from ⟨h1, by omega, by omega, by omega, h4.1, h4.2⟩), Bool.and_true]
        · rw [decide_eq_false h4, Bool.not_false, no, bad (by omega)]
      · rw [decide_eq_false h3, if_neg (by simp), no, bad (by omega)]
  · rw [if_neg h1, no, bad (by simp [h1])]
theorem impl_rise_loop (y m dd w : Int) (l : List Int) (hl : l.length ≤ 1048576) (d : Nat) : ∀ (k : Nat) (i : Int), 0 ≤ i → (l.length : Int) - i = d → impl_StaOk.l0 (k + 1 + 2 * d) l (l.length : Int) i y m dd l w = some (riseB l i d && baseOk y m dd l.length w) := by
  induction d with
  | zero =>
    intro k i h0 hd
    simp only [Nat.mul_zero, Nat.add_zero, impl_StaOk.l0, riseB, impl_ok, in_impl, Option.bind_some, Bool.true_and]
    rw [if_neg (by omega)]
    unfold baseOk
    by_cases h1 : dok y m dd = true
    · rw [if_pos h1]
      by_cases h2 : y ≤ 2139
      · rw [if_pos h2]
        by_cases h3 : 1 ≤ (l.length : Int) ∧ (l.length : Int) ≤ 8
        · rw [decide_eq_true h3, if_pos rfl]
          congr 1; rw [decide_eq_decide]; exact ⟨fun g => ⟨h1, h2, by omega, by omega, g.1, g.2⟩, fun g => ⟨g.2.2.2.2.1, g.2.2.2.2.2⟩⟩
        · rw [decide_eq_false h3, if_neg (by simp)]
          congr 1; symm; rw [decide_eq_false_iff_not]; omega
      · rw [if_neg h2]
        congr 1; symm; rw [decide_eq_false_iff_not]; omega
    · rw [if_neg h1]
      congr 1; symm; rw [decide_eq_false_iff_not]; simp [h1]
  | succ d ih =>
    intro k i h0 hd
    have fin : ∀ b : Bool, (b = true ↔ ¬ (1 ≤ rd l i ∧ rd l i ≤ 600 ∧ (0 < i → rd l (i - 1) < rd l i))) → impl_StaOk.j1 (k + 1 + 2 * d + 1) l (l.length : Int) i b y m dd l w = some (riseB l i (d + 1) && baseOk y m dd l.length w) := by
      intro b hb
      simp only [impl_StaOk.j1, riseB]
      cases b with
      | true => rw [if_pos rfl, decide_eq_false (hb.mp rfl)]; rfl
      | false =>
        rw [if_neg (by simp), wr (x := i + 1) (by omega) (by omega), ih k (i + 1) (by omega) (by omega)]
        by_cases q : 1 ≤ rd l i ∧ rd l i ≤ 600 ∧ (0 < i → rd l (i - 1) < rd l i)
        · rw [decide_eq_true q]; rfl
        · exact absurd (hb.mpr q) (by simp)
    rw [show k + 1 + 2 * (d + 1) = (k + 1 + 2 * d + 1) + 1 by omega]
    simp only [impl_StaOk.l0, in_impl, Option.bind_some, decide_eq_true_eq]
    rw [if_pos (by omega), if_pos h0, if_pos (by omega)]
    by_cases q1 : 1 ≤ rd l i ∧ rd l i ≤ 600
    · rw [if_pos q1]
      by_cases q2 : i > 0
      · rw [if_pos q2, wr (x := i - 1) (by omega) (by omega), if_pos (by omega), if_pos (by omega)]
        exact fin _ (by rw [decide_eq_true_eq]; omega)
      · rw [if_neg q2]
        exact fin _ (by simp; omega)
    · rw [if_neg q1]
      exact fin _ (by simp; omega)
theorem impl_sta (k : Nat) (y m d : Int) (l : List Int) (w : Int) (hl : l.length ≤ 1048576) : impl_StaOk.f (k + 1 + 2 * l.length) y m d l w = some (staOk y m d l w) := by
  unfold impl_StaOk.f staOk
  exact impl_rise_loop y m d w l hl l.length k 0 (by omega) (by omega)
theorem sta_facts {y m d : Int} {l : List Int} {w : Int} (h : staOk y m d l w = true) : dok y m d = true ∧ y ≤ 2139 ∧ 1 ≤ l.length ∧ l.length ≤ 8 ∧ 0 ≤ w ∧ w ≤ 14 ∧ ∀ j : Int, 0 ≤ j → j < l.length → 1 ≤ rd l j ∧ rd l j ≤ 600 ∧ (0 < j → rd l (j - 1) < rd l j) := by
  unfold staOk baseOk at h
  rw [Bool.and_eq_true, decide_eq_true_eq] at h
  obtain ⟨h1, a, b, c, e, f, g⟩ := h
  exact ⟨a, b, c, e, f, g, fun j h0 hj => riseB_at l l.length 0 h1 j h0 (by omega)⟩
def pulls (y m d : Int) (l : List Int) : List S29 := l.map fun q => ⟨(plus y m d q).1, (plus y m d q).2.1, (plus y m d q).2.2⟩
theorem take_rd (l : List Int) (i : Nat) (h : i < l.length) : l.take (i + 1) = l.take i ++ [rd l i] := by
  rw [List.take_succ_eq_append_getElem h]
  unfold rd
  rw [List.getD_eq_getElem?_getD, Int.toNat_natCast, List.getElem?_eq_getElem h]
  rfl
theorem pulls_take (y m d : Int) (l : List Int) (i : Nat) (h : i < l.length) : pulls y m d (l.take (i + 1)) = pulls y m d (l.take i) ++ [⟨(plus y m d (rd l i)).1, (plus y m d (rd l i)).2.1, (plus y m d (rd l i)).2.2⟩] := by
  unfold pulls
  rw [take_rd l i h, List.map_append]
  rfl
theorem pulls_length (y m d : Int) (l : List Int) : (pulls y m d l).length = l.length := by unfold pulls; simp
theorem spec_pulls_loop (y m d w : Int) (l : List Int) (h : staOk y m d l w = true) (dd : Nat) : ∀ (k i : Nat), l.length - i = dd → i ≤ l.length → spec_StaPulls.l0 ((k + 6 + dd) + 1) (pulls y m d (l.take i)) i y m d l w = some (pulls y m d l) := by
  obtain ⟨_, _, _, hl8, _, _, hg⟩ := sta_facts h
  induction dd with
  | zero =>
    intro k i hd hi
    simp only [spec_StaPulls.l0]
    rw [if_neg (by omega), List.take_of_length_le (by omega)]
  | succ dd ih =>
    intro k i hd hi
    have hq := hg i (by omega) (by omega)
    have e := spec_plus (k + 2 + dd) y m d (rd l i) (by omega)
    rw [show k + 2 + dd + 5 = k + 6 + (dd + 1) by omega] at e
    obtain ⟨z, hz⟩ : ∃ z, z = k + 6 + (dd + 1) := ⟨_, rfl⟩
    rw [← hz] at e ⊢
    simp only [spec_StaPulls.l0]
    rw [if_pos (by omega), if_pos (by omega), e]
    simp only [Option.bind_some]
    rw [if_pos (by rw [pulls_length, List.length_take]; omega), wr (x := (i : Int) + 1) (by omega) (by omega), ← pulls_take y m d l i (by omega)]
    have := ih k (i + 1) (by omega) (by omega)
    rw [hz, show k + 6 + (dd + 1) = k + 6 + dd + 1 by omega]
    exact this
theorem spec_pulls (k : Nat) (y m d : Int) (l : List Int) (w : Int) : spec_StaPulls.f (k + 20) y m d l w = some (if staOk y m d l w = true then pulls y m d l else []) := by
  unfold spec_StaPulls.f
  simp only [Option.bind_some, spec_sta]
  by_cases h : staOk y m d l w = true
  · obtain ⟨_, _, _, hl8, _, _, _⟩ := sta_facts h
    rw [if_pos h, if_pos h]
    have := spec_pulls_loop y m d w l h l.length (k + 13 - l.length) 0 (by omega) (by omega)
    rw [show k + 13 - l.length + 6 + l.length + 1 = k + 20 by omega] at this
    exact this
  · rw [if_neg h, if_neg h]
theorem impl_pulls_loop (y m d w : Int) (l : List Int) (h : staOk y m d l w = true) (dd : Nat) : ∀ (k i : Nat), l.length - i = dd → i ≤ l.length → impl_StaPulls.l0 ((k + 6 + dd) + 1) (pulls y m d (l.take i)) l (l.length : Int) i y m d l w = some (pulls y m d l) := by
  obtain ⟨_, _, _, hl8, _, _, hg⟩ := sta_facts h
  induction dd with
  | zero =>
    intro k i hd hi
    simp only [impl_StaPulls.l0]
    rw [if_neg (by omega), List.take_of_length_le (by omega)]
  | succ dd ih =>
    intro k i hd hi
    have hq := hg i (by omega) (by omega)
    have e := impl_plus (k + 6 + dd) y m d (rd l i) (by omega)
    rw [show k + 6 + dd + 1 = k + 6 + (dd + 1) by omega] at e
    obtain ⟨z, hz⟩ : ∃ z, z = k + 6 + (dd + 1) := ⟨_, rfl⟩
    rw [← hz] at e ⊢
    simp only [impl_StaPulls.l0]
    rw [if_pos (by omega), if_pos (by omega), if_pos (by omega), e]
    simp only [Option.bind_some]
    rw [if_pos (by rw [pulls_length, List.length_take]; omega), wr (x := (i : Int) + 1) (by omega) (by omega), ← pulls_take y m d l i (by omega)]
    have := ih k (i + 1) (by omega) (by omega)
    rw [hz, show k + 6 + (dd + 1) = k + 6 + dd + 1 by omega]
    exact this
theorem impl_pulls (k : Nat) (y m d : Int) (l : List Int) (w : Int) (hl : l.length ≤ 1048576) : impl_StaPulls.f (k + 20 + 2 * l.length) y m d l w = some (if staOk y m d l w = true then pulls y m d l else []) := by
  unfold impl_StaPulls.f
  rw [show k + 20 + 2 * l.length = (k + 19) + 1 + 2 * l.length by omega, impl_sta _ y m d l w hl]
  simp only [Option.bind_some]
  by_cases h : staOk y m d l w = true
  · rw [if_pos h, if_pos h]
    have := impl_pulls_loop y m d w l h l.length (k + 13 + l.length) 0 (by omega) (by omega)
    rw [show k + 13 + l.length + 6 + l.length + 1 = k + 19 + 1 + 2 * l.length by omega] at this
    exact this
  · rw [if_neg h, if_neg h]
theorem eqInts_loop (l : List Int) (hl : l.length ≤ 4611686018427387904) (d : Nat) : ∀ (k : Nat) (i : Int), 0 ≤ i → (l.length : Int) - i = d → laws_eqIntS.l0 (k + 1 + d) l l i = some true := by
  induction d with
  | zero =>
    intro k i h0 hd
    simp only [Nat.add_zero, laws_eqIntS.l0]
    rw [if_neg (by omega)]
  | succ d ih =>
    intro k i h0 hd
    rw [show k + 1 + (d + 1) = (k + 1 + d) + 1 by omega]
    simp only [laws_eqIntS.l0]
    rw [if_pos (show i < (l.length : Int) by omega), if_pos h0, if_pos (show i < (l.length : Int) by omega), if_pos trivial, wr (x := i + 1) (by omega) (by omega)]
    exact ih k (i + 1) (by omega) (by omega)
theorem eqInts_self (l : List Int) (hl : l.length ≤ 4611686018427387904) (k : Nat) (hk : l.length + 1 ≤ k) : laws_eqIntS.f k l l = some true := by
  unfold laws_eqIntS.f
  rw [if_pos rfl]
  have := eqInts_loop l hl l.length (k - 1 - l.length) 0 (by omega) (by omega)
  rwa [show k - 1 - l.length + 1 + l.length = k by omega] at this
def Marked (l : List Int) (m : Int) (i : Nat) : Prop := ∀ j : Nat, j < i → rd l j = m + j
theorem mark_loop (m : Int) (n : Nat) (hn : n ≤ 4611686018427387904) (hm : 0 ≤ m ∧ m ≤ 4611686018427387903) (d : Nat) : ∀ (k : Nat) (l : List Int) (i : Nat), l.length = n → n - i = d → i ≤ n → Marked l m i →
    ∃ l', laws_markIntS.l0 (k + 1 + d) l (m + i) i = some (m + n, l') ∧ l'.length = n ∧ Marked l' m n := by
  induction d with
  | zero =>
    intro k l i hl hd hi hM
    obtain rfl : i = n := by omega
    simp only [Nat.add_zero, laws_markIntS.l0]
    rw [if_neg (by omega)]
    exact ⟨l, rfl, hl, hM⟩
  | succ d ih =>
    intro k l i hl hd hi hM
    rw [show k + 1 + (d + 1) = (k + 1 + d) + 1 by omega]
    simp only [laws_markIntS.l0]
    rw [if_pos (by omega), if_pos (by omega), wr (x := m + i + 1) (by omega) (by omega), wr (x := (i : Int) + 1) (by omega) (by omega)]
    have := ih k (l.set (i : Int).toNat (m + i)) (i + 1) (by simp [hl]) (by omega) (by omega) (by
      intro j hj
      unfold rd
      rw [List.getD_eq_getElem?_getD, Int.toNat_natCast, Int.toNat_natCast, List.getElem?_set]
      by_cases e : i = j
      · subst e
        simp [show i < l.length by omega]
      · rw [if_neg e]
        have h2 := hM j (by omega)
        unfold rd at h2
        rw [List.getD_eq_getElem?_getD, Int.toNat_natCast] at h2
        exact h2)
    rw [show m + ((i + 1 : Nat) : Int) = m + i + 1 by omega, show ((i + 1 : Nat) : Int) = (i : Int) + 1 by omega] at this
    exact this
theorem mark_ints (l : List Int) (m : Int) (hn : l.length ≤ 4611686018427387904) (hm : 0 ≤ m ∧ m ≤ 4611686018427387903) : ∃ l', l'.length = l.length ∧ Marked l' m l.length ∧ ∀ k, l.length + 1 ≤ k → laws_markIntS.f k l m = some (m + l.length, l') := by
  obtain ⟨l', e, hl, hM⟩ := mark_loop m l.length hn hm l.length 0 l 0 rfl (by omega) (by omega) (fun j hj => absurd hj (by omega))
  refine ⟨l', hl, hM, fun k hk => ?_⟩
  obtain ⟨l2, e2, hl2, hM2⟩ := mark_loop m l.length hn hm l.length (k - 1 - l.length) l 0 rfl (by omega) (by omega) (fun j hj => absurd hj (by omega))
  have same : l2 = l' := by
    apply List.ext_getElem (by omega)
    intro j h1 h2
    have a := hM2 j (by omega)
    have b := hM j (by omega)
    unfold rd at a b
    rw [List.getD_eq_getElem?_getD, Int.toNat_natCast, List.getElem?_eq_getElem (by omega)] at a b
    simp only [Option.getD_some] at a b
    omega
  subst same
  unfold laws_markIntS.f
  rw [show k - 1 - l.length + 1 + l.length = k by omega] at e2
  simpa using e2
theorem toInts_loop (l : List Int) (hl : l.length ≤ 1048576) (d : Nat) : ∀ (k : Nat) (x : List Int) (i : Nat), x.length = l.length → l.length - i = d → i ≤ l.length → (∀ j, j < i → x[j]? = l[j]?) → laws_toIntS.l0 (k + 1 + d) l x i = some l := by
  induction d with
  | zero =>
    intro k x i hx hd hi hM
    simp only [Nat.add_zero, laws_toIntS.l0]
    rw [if_neg (by omega)]
    congr 1
    apply List.ext_getElem? 
    intro j
    by_cases hj : j < l.length
    · exact hM j (by omega)
    · rw [List.getElem?_eq_none (by omega), List.getElem?_eq_none (by omega)]
  | succ d ih =>
    intro k x i hx hd hi hM
    rw [show k + 1 + (d + 1) = (k + 1 + d) + 1 by omega]
    simp only [laws_toIntS.l0]
    rw [if_pos (by omega), if_pos (by omega), if_pos (by omega), wr (x := (i : Int) + 1) (by omega) (by omega)]
    have := ih k (x.set (i : Int).toNat (rd l i)) (i + 1) (by simp [hx]) (by omega) (by omega) (by
      intro j hj
      rw [Int.toNat_natCast, List.getElem?_set]
      by_cases e : i = j
      · subst e
        rw [if_pos rfl, if_pos (by omega)]
        unfold rd
        rw [List.getD_eq_getElem?_getD, Int.toNat_natCast, List.getElem?_eq_getElem (by omega)]
        rfl
      · rw [if_neg e]
        exact hM j (by omega))
    exact this
theorem to_ints (l : List Int) (hl : l.length ≤ 1048576) (k : Nat) (hk : l.length + 1 ≤ k) : laws_toIntS.f k l = some l := by
  unfold laws_toIntS.f
  rw [if_pos (by omega), if_pos (by omega)]
  have := toInts_loop l hl l.length (k - 1 - l.length) (List.replicate ((l.length : Int) : Int).toNat 0) 0 (by simp) (by omega) (by omega) (by omega)
  rwa [show k - 1 - l.length + 1 + l.length = k by omega] at this
theorem sz_plan (y m d : Int) (l : List Int) (w : Int) (big : l.length ≤ 9223372036854775807) : l.length ≤ 1048576 ∧ laws_szStaPlan.f y m d l w 1048576 = some ((1048576 : Int) - (l.length : Int)) ∨ laws_szStaPlan.f y m d l w 1048576 = some (-1) := by
  unfold laws_szStaPlan.f laws_szIntS.f
  rw [wr (x := 1048576 - (l.length : Int)) (by omega) (by omega)]
  by_cases h : (1048576 - (l.length : Int)) < 0
  · rw [if_pos h]
    exact Or.inr rfl
  · rw [if_neg h]
    refine Or.inl ⟨by omega, ?_⟩
    simp only [Option.bind_some]
    rw [if_neg h]
theorem to_plan (y m d : Int) (l : List Int) (w : Int) (hl : l.length ≤ 1048576) (k : Nat) (hk : l.length + 1 ≤ k) : laws_toStaPlan.f k y m d l w = some (y, m, d, l, w) := by
  unfold laws_toStaPlan.f laws_toDayDay.f
  simp only [Option.bind_some, to_ints l hl k hk]
theorem eq_plan (y m d : Int) (l : List Int) (w : Int) (hl : l.length ≤ 1048576) (k : Nat) (hk : l.length + 1 ≤ k) : laws_eqStaPlan.f k y m d l w y m d l w = some true := by
  unfold laws_eqStaPlan.f laws_eqDayDay.f
  simp only [Option.bind_some, if_true, eqInts_self l (by omega) k hk]
theorem rdT_set (l : List S29) (i : Nat) (a : S29) (h : i < l.length) : rd_T29 (l.set i a) i = a := by
  unfold rd_T29
  rw [List.getD_eq_getElem?_getD, Int.toNat_natCast, List.getElem?_set]
  simp [h]
theorem rdT_set_ne (l : List S29) (i j : Nat) (a : S29) (h : i ≠ j) : rd_T29 (l.set i a) j = rd_T29 l j := by
  unfold rd_T29
  rw [List.getD_eq_getElem?_getD, List.getD_eq_getElem?_getD, Int.toNat_natCast, List.getElem?_set, if_neg h]
theorem eqDays_loop (l : List S29) (hl : l.length ≤ 4611686018427387904) (d : Nat) : ∀ (k : Nat) (i : Int), 0 ≤ i → (l.length : Int) - i = d → laws_eqDayDayS.l0 (k + 1 + d) l l i = some true := by
  induction d with
  | zero =>
    intro k i h0 hd
    simp only [Nat.add_zero, laws_eqDayDayS.l0]
    rw [if_neg (by omega)]
  | succ d ih =>
    intro k i h0 hd
    rw [show k + 1 + (d + 1) = (k + 1 + d) + 1 by omega]
    simp only [laws_eqDayDayS.l0, laws_eqDayDay.f, if_true, Option.bind_some]
    rw [if_pos (show i < (l.length : Int) by omega), if_pos h0, if_pos (show i < (l.length : Int) by omega), wr (x := i + 1) (by omega) (by omega)]
    exact ih k (i + 1) (by omega) (by omega)
theorem eqDays_self (l : List S29) (hl : l.length ≤ 4611686018427387904) (k : Nat) (hk : l.length + 1 ≤ k) : laws_eqDayDayS.f k l l = some true := by
  unfold laws_eqDayDayS.f
  rw [if_pos rfl]
  have := eqDays_loop l hl l.length (k - 1 - l.length) 0 (by omega) (by omega)
  rwa [show k - 1 - l.length + 1 + l.length = k by omega] at this
def Marked3 (l : List S29) (m : Int) (i : Nat) : Prop := ∀ j : Nat, j < i → rd_T29 l j = ⟨m + 3 * j, m + 3 * j + 1, m + 3 * j + 1 + 1⟩
theorem mark3_loop (m : Int) (n : Nat) (hn : n ≤ 1048576) (hm : 0 ≤ m ∧ m ≤ 1048576) (d : Nat) : ∀ (k : Nat) (l : List S29) (i : Nat), l.length = n → n - i = d → i ≤ n → Marked3 l m i →
    ∃ l', laws_markDayDayS.l0 (k + 1 + d) l (m + 3 * i) i = some (m + 3 * n, l') ∧ l'.length = n ∧ Marked3 l' m n := by
  induction d with
  | zero =>
    intro k l i hl hd hi hM
    obtain rfl : i = n := by omega
    simp only [Nat.add_zero, laws_markDayDayS.l0]
    rw [if_neg (by omega)]
    exact ⟨l, rfl, hl, hM⟩
  | succ d ih =>
    intro k l i hl hd hi hM
    have hi' : i < l.length := by omega
    rw [show k + 1 + (d + 1) = (k + 1 + d) + 1 by omega]
    simp only [laws_markDayDayS.l0, Option.bind_some, Int.toNat_natCast, rdT_set l i _ hi', List.set_set]
    rw [if_pos (by omega), if_pos (by omega), wr (x := m + 3 * i + 1) (by omega) (by omega), wr (x := m + 3 * i + 1 + 1) (by omega) (by omega), wr (x := m + 3 * i + 1 + 1 + 1) (by omega) (by omega), wr (x := (i : Int) + 1) (by omega) (by omega)]
    have := ih k (l.set i ⟨m + 3 * i, m + 3 * i + 1, m + 3 * i + 1 + 1⟩) (i + 1) (by simp [hl]) (by omega) (by omega) (by
      intro j hj
      by_cases e : i = j
      · subst e
        exact rdT_set l i _ hi'
      · rw [rdT_set_ne l i j _ e]
        exact hM j (by omega))
    rw [show m + 3 * ((i + 1 : Nat) : Int) = m + 3 * i + 1 + 1 + 1 by omega, show ((i + 1 : Nat) : Int) = (i : Int) + 1 by omega] at this
    exact this
theorem held3_loop (m : Int) (l : List S29) (hn : l.length ≤ 1048576) (hm : 0 ≤ m ∧ m ≤ 1048576) (hM : Marked3 l m l.length) (d : Nat) : ∀ (k i : Nat), l.length - i = d → i ≤ l.length →
    laws_heldDayDayS.l0 (k + 1 + d) l (m + 3 * i) i = some (m + 3 * l.length) := by
  induction d with
  | zero =>
    intro k i hd hi
    simp only [Nat.add_zero, laws_heldDayDayS.l0]
    rw [if_neg (by omega), show i = l.length by omega]
  | succ d ih =>
    intro k i hd hi
    rw [show k + 1 + (d + 1) = (k + 1 + d) + 1 by omega]
    simp only [laws_heldDayDayS.l0]
    rw [hM i (by omega)]
    dsimp only
    rw [if_pos (by omega), if_pos (by omega), if_pos rfl, wr (x := m + 3 * i + 1) (by omega) (by omega), if_pos rfl, wr (x := m + 3 * i + 1 + 1) (by omega) (by omega), if_pos rfl, wr (x := m + 3 * i + 1 + 1 + 1) (by omega) (by omega), wr (x := (i : Int) + 1) (by omega) (by omega)]
    have := ih k (i + 1) (by omega) (by omega)
    rw [show m + 3 * ((i + 1 : Nat) : Int) = m + 3 * i + 1 + 1 + 1 by omega, show ((i + 1 : Nat) : Int) = (i : Int) + 1 by omega] at this
    exact this
theorem mark_days (l : List S29) (m : Int) (hn : l.length ≤ 1048576) (hm : 0 ≤ m ∧ m ≤ 1048576) : ∃ l', ∀ k, l.length + 1 ≤ k → laws_markDayDayS.f k l m = some (m + 3 * l.length, l') ∧ laws_heldDayDayS.f k l' m = some (m + 3 * l.length) := by
  obtain ⟨l', e, hl, hM⟩ := mark3_loop m l.length hn hm l.length 0 l 0 rfl (by omega) (by omega) (fun j hj => absurd hj (by omega))
  refine ⟨l', fun k hk => ⟨?_, ?_⟩⟩
  · obtain ⟨l2, e2, hl2, hM2⟩ := mark3_loop m l.length hn hm l.length (k - 1 - l.length) l 0 rfl (by omega) (by omega) (fun j hj => absurd hj (by omega))
    have same : l2 = l' := by
      apply List.ext_getElem (by omega)
      intro j h1 h2
      have a := hM2 j (by omega)
      have b := hM j (by omega)
      rw [← b] at a
      unfold rd_T29 at a
      rw [List.getD_eq_getElem?_getD, List.getD_eq_getElem?_getD, Int.toNat_natCast, List.getElem?_eq_getElem (by omega), List.getElem?_eq_getElem (by omega)] at a
      exact a
    subst same
    unfold laws_markDayDayS.f
    rw [show k - 1 - l.length + 1 + l.length = k by omega] at e2
    simpa using e2
  · unfold laws_heldDayDayS.f
    have := held3_loop m l' (by omega) hm (by rw [hl]; exact hM) l'.length (k - 1 - l'.length) 0 (by omega) (by omega)
    rw [show k - 1 - l'.length + 1 + l'.length = k by omega, hl] at this
    simpa using this
theorem FnExactStaPulls : laws_FnExactStaPulls.Pure := by
  intro y m d l w _ _ _ hl _
  have big : l.length ≤ 9223372036854775807 := Nat.le_trans hl.1 (by decide)
  rcases sz_plan y m d l w big with ⟨h1, e⟩ | e
  · have hP : ∃ P : List S29, P.length ≤ 1048576 ∧ (if staOk y m d l w = true then pulls y m d l else []) = P := ⟨_, by split <;> simp [pulls_length, h1], rfl⟩
    obtain ⟨P, hPl, hP⟩ := hP
    obtain ⟨K, hK⟩ : ∃ K, K = 2 * l.length + 2 * P.length + 1000 := ⟨_, rfl⟩
    refine ⟨K + 1, ?_⟩
    have e1 : spec_StaPulls.f (K + 1) y m d l w = some P := by
      have := spec_pulls (K + 1 - 20) y m d l w
      rwa [show K + 1 - 20 + 20 = K + 1 by omega, hP] at this
    have e2 : ∀ q, K ≤ q → impl_StaPulls.f q y m d l w = some P := by
      intro q hq
      have := impl_pulls (q - 20 - 2 * l.length) y m d l w h1
      rwa [show q - 20 - 2 * l.length + 20 + 2 * l.length = q by omega, hP] at this
    obtain ⟨P', eP⟩ := mark_days P 1 hPl (by omega)
    obtain ⟨l', _, _, el⟩ := mark_ints l 1 (by omega) (by omega)
    have fin : laws_FnExactStaPulls.j0 (K + 1) P P false y m d l w = some true := by
      simp only [laws_FnExactStaPulls.j0]
      rw [if_neg (by simp)]
      simp only [(eP K (by omega)).1, (eP K (by omega)).2, Option.bind_some, to_plan y m d l w h1 K (by omega), e2 K (by omega), eqDays_self P (by omega) K (by omega), if_true]
      rw [if_neg (by omega), if_neg (by omega)]
    unfold laws_FnExactStaPulls.f laws_markStaPlan.f
    rw [e]
    simp only [Option.bind_some, to_plan y m d l w h1 (K + 1) (by omega), eq_plan y m d l w h1 (K + 1) (by omega), e1, e2 (K + 1) (by omega), eqDays_self P (by omega) (K + 1) (by omega), el (K + 1) (by omega), if_true, Bool.not_true, fin]
    rw [if_neg (by omega), if_neg (by omega)]
  · refine ⟨0, ?_⟩
    unfold laws_FnExactStaPulls.f
    rw [e]
    simp only [Option.bind_some]
    rw [if_pos (by omega)]

end Go.Proofs.Ytojgpnobbnihdaa.Pure
