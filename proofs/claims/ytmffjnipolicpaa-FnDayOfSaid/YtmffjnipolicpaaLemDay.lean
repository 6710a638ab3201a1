/- Plain lemmas about the printed functions of this seat: day. -/
import Derived.Test.YtmffjnipolicpaaAllx0
import Derived.Test.YtmffjnipolicpaaAllx2
import Derived.Test.YtmffjnipolicpaaAllx3
import Derived.Test.YtmffjnipolicpaaLemA
set_option linter.unusedVariables false
set_option linter.unusedSimpArgs false
namespace Go.Proofs.Ytmffjnipolicpaa.Pure
open Go.RowKit Go.Proofs.Ytmffjnipolicpaa.All Go.Proofs.YtmffjnipolicpaaW.PrintWords Go.Proofs.YtmffjnipolicpaaW.PrintLast Go.Proofs.YtmffjnipolicpaaW.PrintMore

/-! ### days by their numbers -/
theorem spec_last2 (k : Nat) (y m : Int) : spec_DayLast.f (k + 2) y m = some (dl y m) := by
  exact spec_last_two y m _ (by omega)
theorem spec_ok2 (k : Nat) (y m d : Int) : spec_DayOk.f (k + 2) y m d = some (dok y m d) := by
  unfold spec_DayOk.f dok
  simp only [in_spec, Option.bind_some, decide_eq_true_eq, spec_last2]
  by_cases h1 : 1900 ≤ y ∧ y ≤ 2199
  · rw [if_pos h1]
    by_cases h2 : 1 ≤ m ∧ m ≤ 12
    · rw [if_pos h2]; congr 1; rw [decide_eq_decide]; omega
    · rw [if_neg h2]; congr 1; symm; rw [decide_eq_false_iff_not]; omega
  · rw [if_neg h1]; congr 1; symm; rw [decide_eq_false_iff_not]; omega
def leapN (y : Int) : Int := if leap y = true then 1 else 0
theorem leapN_bound (y : Int) : 0 ≤ leapN y ∧ leapN y ≤ 1 := by unfold leapN; split <;> omega
def before (y : Int) : Int := (y - 1) / 4 - (y - 1) / 100 + (y - 1) / 400
theorem before_succ (y : Int) : before (y + 1) = before y + leapN y := by
  unfold before leapN leap
  rw [show y + 1 - 1 = y by omega]
  by_cases h : y % 4 = 0 ∧ (y % 100 ≠ 0 ∨ y % 400 = 0)
  · rw [if_pos (by simpa using h)]; omega
  · rw [if_neg (by simpa using h)]; omega
/-- How many days there are ahead of a year, from the first one of all on. -/
def nyear (y : Int) : Int := 365 * (y - 1900) + before y - 460
theorem nyear_succ (y : Int) : nyear (y + 1) = nyear y + 365 + leapN y := by
  unfold nyear
  rw [before_succ]
  omega
theorem nyear_mono (y z : Int) (h : y ≤ z) : nyear y ≤ nyear z := by
  unfold nyear before
  omega
theorem nyear_bound (y : Int) (h1 : 1900 ≤ y) (h2 : y ≤ 2200) : 0 ≤ nyear y ∧ nyear y ≤ 109573 ∧ nyear y ≤ 366 * (y - 1900) := by
  unfold nyear before
  omega
theorem nyear_first : nyear 1900 = 0 := by decide
theorem nyear_end : nyear 2200 = 109573 := by decide
/-- How many days of a year there are ahead of a month. -/
def cum (y m : Int) : Int :=
  (if m ≤ 1 then 0 else if m = 2 then 31 else if m = 3 then 59 else if m = 4 then 90 else if m = 5 then 120 else if m = 6 then 151 else if m = 7 then 181 else if m = 8 then 212 else if m = 9 then 243 else if m = 10 then 273 else if m = 11 then 304 else if m = 12 then 334 else 365) + (if 2 < m then leapN y else 0)
theorem cum_one (y : Int) : cum y 1 = 0 := by unfold cum; simp
theorem cum_end (y : Int) : cum y 13 = 365 + leapN y := by unfold cum; simp
theorem cum_succ (y m : Int) (h1 : 1 ≤ m) (h2 : m ≤ 12) : cum y (m + 1) = cum y m + dl y m := by
  rcases (by omega : m = 1 ∨ m = 2 ∨ m = 3 ∨ m = 4 ∨ m = 5 ∨ m = 6 ∨ m = 7 ∨ m = 8 ∨ m = 9 ∨ m = 10 ∨ m = 11 ∨ m = 12) with rfl | rfl | rfl | rfl | rfl | rfl | rfl | rfl | rfl | rfl | rfl | rfl
  all_goals
    unfold cum dl leapN impl_DayLast.tab
    cases leap y <;> simp
theorem cum_mono (y m : Int) (h1 : 1 ≤ m) (j : Nat) : m + j ≤ 13 → cum y m ≤ cum y (m + j) := by
  induction j with
  | zero => intro _; simp
  | succ j ih =>
    intro h
    have := ih (by omega)
    have h3 := cum_succ y (m + j) (by omega) (by omega)
    have h4 := dl_bound y (m + j)
    rw [show m + ((j + 1 : Nat) : Int) = m + j + 1 by omega]
    omega
theorem cum_le (y m n : Int) (h1 : 1 ≤ m) (h2 : m ≤ n) (h3 : n ≤ 13) : cum y m ≤ cum y n := by
  have := cum_mono y m h1 (n - m).toNat (by omega)
  rwa [show m + ((n - m).toNat : Int) = n by omega] at this
theorem cum_bound (y m : Int) (h1 : 1 ≤ m) (h2 : m ≤ 13) : 0 ≤ cum y m ∧ cum y m ≤ 366 := by
  have a := cum_le y 1 m (by omega) h1 h2
  have b := cum_le y m 13 h1 h2 (by omega)
  rw [cum_one] at a
  rw [cum_end] at b
  have := leapN_bound y
  omega
def num0 (y m d : Int) : Int := nyear y + cum y m + d - 1
def num (y m d : Int) : Int := if dok y m d = true then num0 y m d else -1
theorem dok_iff (y m d : Int) : dok y m d = true ↔ 1900 ≤ y ∧ y ≤ 2199 ∧ 1 ≤ m ∧ m ≤ 12 ∧ 1 ≤ d ∧ d ≤ dl y m := by unfold dok; rw [decide_eq_true_eq]
theorem num0_in (y m d : Int) (h : dok y m d = true) : nyear y ≤ num0 y m d ∧ num0 y m d < nyear (y + 1) ∧ 0 ≤ num0 y m d ∧ num0 y m d ≤ 109572 := by
  rw [dok_iff] at h
  have a := cum_bound y m (by omega) (by omega)
  have b := cum_succ y m (by omega) (by omega)
  have c := cum_le y (m + 1) 13 (by omega) (by omega) (by omega)
  have e := nyear_succ y
  have f := nyear_bound (y + 1) (by omega) (by omega)
  have g := nyear_bound y (by omega) (by omega)
  rw [cum_end] at c
  unfold num0
  omega
/-- Of two days the later one has the greater number. -/
theorem num0_lt (y m d z n e : Int) (h : dok y m d = true) (h' : dok z n e = true) (hl : y < z ∨ y = z ∧ (m < n ∨ m = n ∧ d < e)) : num0 y m d < num0 z n e := by
  have a := num0_in y m d h
  have b := num0_in z n e h'
  rw [dok_iff] at h h'
  rcases hl with hl | ⟨rfl, hl | ⟨rfl, hl⟩⟩
  · have := nyear_mono (y + 1) z (by omega)
    omega
  · have c := cum_succ y m (by omega) (by omega)
    have c2 := cum_le y (m + 1) n (by omega) (by omega) (by omega)
    unfold num0
    omega
  · unfold num0
    omega
theorem num0_inj (y m d z n e : Int) (h : dok y m d = true) (h' : dok z n e = true) (he : num0 y m d = num0 z n e) : y = z ∧ m = n ∧ d = e := by
  by_cases h1 : y < z ∨ y = z ∧ (m < n ∨ m = n ∧ d < e)
  · have := num0_lt y m d z n e h h' h1; omega
  · by_cases h2 : z < y ∨ z = y ∧ (n < m ∨ n = m ∧ e < d)
    · have := num0_lt z n e y m d h' h h2; omega
    · omega
theorem spec_num_loop (y m d : Int) (hm : m ≤ 12) (hd : 1 ≤ d ∧ d ≤ 31) (dd : Nat) : ∀ (k : Nat) (s i : Int), 1 ≤ i → m - i = dd → 0 ≤ s → s + 31 * dd ≤ 200000 →
    spec_DayNum.l0 (k + 3 + dd) s i y m d = some (s + (cum y m - cum y i) + d - 1) := by
  induction dd with
  | zero =>
    intro k s i hi hd2 hs hs2
    obtain rfl : i = m := by omega
    rw [show k + 3 + 0 = (k + 2) + 1 by omega]
    simp only [spec_DayNum.l0]
    rw [if_neg (by omega), wr (x := s + d) (by omega) (by omega), wr (x := s + d - 1) (by omega) (by omega)]
    congr 1; omega
  | succ dd ih =>
    intro k s i hi hd2 hs hs2
    have hb := dl_bound y i
    have hc := cum_succ y i (by omega) (by omega)
    rw [show k + 3 + (dd + 1) = (k + 3 + dd) + 1 by omega]
    simp only [spec_DayNum.l0]
    rw [if_pos (by omega), show k + 3 + dd = (k + 1 + dd) + 2 by omega, spec_last2]
    simp only [Option.bind_some]
    rw [wr (x := s + dl y i) (by omega) (by omega), wr (x := i + 1) (by omega) (by omega), show (k + 1 + dd) + 2 = k + 3 + dd by omega, ih k _ _ (by omega) (by omega) (by omega) (by omega)]
    congr 1; omega
theorem spec_num (k : Nat) (y m d : Int) : spec_DayNum.f (k + 20) y m d = some (num y m d) := by
  unfold spec_DayNum.f num
  rw [show k + 20 = (k + 18) + 2 by omega, spec_ok2]
  simp only [Option.bind_some]
  by_cases h : dok y m d = true
  · rw [if_pos h, if_pos h]
    have hn := num0_in y m d h
    rw [dok_iff] at h
    have hb := dl_bound y m
    have t4 : Int.tdiv (y - 1) 4 = (y - 1) / 4 := Int.tdiv_eq_ediv_of_nonneg (by omega)
    have t1 : Int.tdiv (y - 1) 100 = (y - 1) / 100 := Int.tdiv_eq_ediv_of_nonneg (by omega)
    have t5 : Int.tdiv (y - 1) 400 = (y - 1) / 400 := Int.tdiv_eq_ediv_of_nonneg (by omega)
    have g := nyear_bound y (by omega) (by omega)
    have e : wrap64 (wrap64 (wrap64 (wrap64 (wrap64 (365 * wrap64 (y - 1900)) + wrap64 (Int.tdiv (wrap64 (y - 1)) 4)) - wrap64 (Int.tdiv (wrap64 (y - 1)) 100)) + wrap64 (Int.tdiv (wrap64 (y - 1)) 400)) - 460) = nyear y := by
      rw [wr (x := y - 1) (by omega) (by omega), t4, t1, t5]
      unfold nyear before wrap64
      omega
    rw [e]
    have := spec_num_loop y m d (by omega) (by omega) (m - 1).toNat (k + 17 - (m - 1).toNat) (nyear y) 1 (by omega) (by omega) (by omega) (by omega)
    rw [show k + 17 - (m - 1).toNat + 3 + (m - 1).toNat = k + 18 + 2 by omega, cum_one] at this
    rw [this]
    unfold num0
    congr 1; omega
  · rw [if_neg h, if_neg h]
theorem impl_year (y : Int) : impl_yearDays.f y = some (365 + leapN y) := by
  unfold impl_yearDays.f leapN
  rw [impl_leap]
  cases leap y <;> rfl
theorem impl_num_months (y m d : Int) (hm : m ≤ 12) (dd : Nat) : ∀ (k : Nat) (s i : Int), 1 ≤ i → m - i = dd → 0 ≤ s → s + 31 * dd ≤ 200000 →
    impl_DayNum.l1 (k + 1 + dd) s i y m d = some (s + (cum y m - cum y i)) := by
  induction dd with
  | zero =>
    intro k s i hi hd2 hs hs2
    obtain rfl : i = m := by omega
    simp only [Nat.add_zero, impl_DayNum.l1]
    rw [if_neg (by omega), Int.sub_self, Int.add_zero]
  | succ dd ih =>
    intro k s i hi hd2 hs hs2
    have hb := dl_bound y i
    have hc := cum_succ y i (by omega) (by omega)
    rw [show k + 1 + (dd + 1) = (k + 1 + dd) + 1 by omega]
    simp only [impl_DayNum.l1]
    rw [if_pos (by omega), impl_last]
    simp only [Option.bind_some]
    rw [wr (x := s + dl y i) (by omega) (by omega), wr (x := i + 1) (by omega) (by omega), ih k _ _ (by omega) (by omega) (by omega) (by omega)]
    congr 1; omega
theorem impl_num_years (y m d : Int) (hy : y ≤ 2199) (hm1 : 1 ≤ m) (hm : m ≤ 12) (dd : Nat) : ∀ (k : Nat) (s i : Int), 1900 ≤ i → y - i = dd → 0 ≤ s → s + (nyear y - nyear i) ≤ 150000 →
    impl_DayNum.l0 (k + 14 + dd) s i y m d = some (s + (nyear y - nyear i) + cum y m) := by
  induction dd with
  | zero =>
    intro k s i hi hd2 hs hs2
    obtain rfl : i = y := by omega
    rw [show k + 14 + 0 = (k + 13) + 1 by omega]
    simp only [impl_DayNum.l0]
    rw [if_neg (by omega), show k + 13 = (k + 12 - (m - 1).toNat) + 1 + (m - 1).toNat by omega, impl_num_months i m d hm (m - 1).toNat _ _ _ (by omega) (by omega) (by omega) (by omega), cum_one]
    congr 1; omega
  | succ dd ih =>
    intro k s i hi hd2 hs hs2
    have hb := leapN_bound i
    have hc := nyear_succ i
    have hq := nyear_mono (i + 1) y (by omega)
    rw [show k + 14 + (dd + 1) = (k + 14 + dd) + 1 by omega]
    simp only [impl_DayNum.l0]
    rw [if_pos (by omega), impl_year]
    simp only [Option.bind_some]
    rw [wr (x := s + (365 + leapN i)) (by omega) (by omega), wr (x := i + 1) (by omega) (by omega), ih k _ _ (by omega) (by omega) (by omega) (by omega)]
    congr 1; omega
theorem impl_num (k : Nat) (y m d : Int) : impl_DayNum.f (k + 400) y m d = some (num y m d) := by
  unfold impl_DayNum.f num
  rw [impl_ok]
  simp only [Option.bind_some]
  by_cases h : dok y m d = true
  · rw [if_pos h, if_pos h]
    rw [dok_iff] at h
    have hb := dl_bound y m
    have g := nyear_bound y (by omega) (by omega)
    rw [wr (x := d - 1) (by omega) (by omega), show k + 400 = (k + 386 - (y - 1900).toNat) + 14 + (y - 1900).toNat by omega,
      impl_num_years y m d (by omega) (by omega) (by omega) (y - 1900).toNat _ _ _ (by omega) (by omega) (by omega) (by rw [nyear_first]; omega), nyear_first]
    unfold num0
    congr 1; omega
  · rw [if_neg h, if_neg h]

end Go.Proofs.Ytmffjnipolicpaa.Pure
