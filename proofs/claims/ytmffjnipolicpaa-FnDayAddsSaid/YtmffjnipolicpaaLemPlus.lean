/- Plain lemmas about the printed functions of this seat: dayplus. -/
import Derived.Test.YtmffjnipolicpaaAllx0
import Derived.Test.YtmffjnipolicpaaAllx3
import Derived.Test.YtmffjnipolicpaaAllx4
import Derived.Test.YtmffjnipolicpaaAllx5
import Derived.Test.YtmffjnipolicpaaLemDay
set_option linter.unusedVariables false
set_option linter.unusedSimpArgs false
namespace Go.Proofs.Ytmffjnipolicpaa.Pure
open Go.RowKit Go.Proofs.Ytmffjnipolicpaa.All Go.Proofs.YtmffjnipolicpaaW.PrintWords Go.Proofs.YtmffjnipolicpaaW.PrintLast Go.Proofs.YtmffjnipolicpaaW.PrintMore

/-! ### months behind -/
def plusY (y m k : Int) : Int := y + (m - 1 + k) / 12
def plusM (m k : Int) : Int := (m - 1 + k) % 12 + 1
def plusD (y m d k : Int) : Int := if dl (plusY y m k) (plusM m k) < d then dl (plusY y m k) (plusM m k) else d
def plus (y m d k : Int) : Int × Int × Int :=
  if dok y m d = true ∧ 0 ≤ k ∧ k ≤ 600 ∧ plusY y m k ≤ 2199 then (plusY y m k, plusM m k, plusD y m d k) else (0, 0, 0)
theorem dl_low (y m : Int) (m1 : 1 ≤ m) (m2 : m ≤ 12) : 28 ≤ dl y m := by
  unfold dl impl_DayLast.tab
  rw [if_pos ⟨m1, m2⟩]
  repeat' split
  all_goals omega
theorem plus_dok (y m d k : Int) (h : dok y m d = true) (h0 : 0 ≤ k) (hy : plusY y m k ≤ 2199) : dok (plusY y m k) (plusM m k) (plusD y m d k) = true := by
  rw [dok_iff] at h
  rw [dok_iff]
  have a : 1 ≤ plusM m k ∧ plusM m k ≤ 12 := by unfold plusM; omega
  have b : y ≤ plusY y m k := by unfold plusY; omega
  have c := dl_low (plusY y m k) (plusM m k) a.1 a.2
  unfold plusD
  split <;> omega
theorem plus_out (y m d k : Int) (hy : ¬ plusY y m k ≤ 2199) : dok (plusY y m k) (plusM m k) (plusD y m d k) = false := by
  unfold dok
  rw [decide_eq_false_iff_not]
  omega
theorem impl_plus (j : Nat) (y m d k : Int) (hk : -9223372036854775808 ≤ k ∧ k ≤ 9223372036854775807) : impl_DayPlus.f (j + 1) y m d k = some (plus y m d k) := by
  unfold impl_DayPlus.f plus
  rw [impl_ok]
  simp only [Option.bind_some]
  by_cases h : dok y m d = true
  · rw [if_pos h, in_impl]
    simp only [Option.bind_some]
    by_cases h2 : 0 ≤ k ∧ k ≤ 600
    · have hd := (dok_iff y m d).mp h
      have t1 : Int.tdiv (m - 1 + k) 12 = (m - 1 + k) / 12 := Int.tdiv_eq_ediv_of_nonneg (by omega)
      have t2 : Int.tmod (m - 1 + k) 12 = (m - 1 + k) % 12 := Int.tmod_eq_emod_of_nonneg (by omega)
      rw [decide_eq_true h2]
      simp only [impl_DayPlus.j0, Bool.not_true]
      rw [if_neg (by simp), wr (x := m - 1) (by omega) (by omega), wr (x := m - 1 + k) (by omega) (by omega), t1, t2, wr (x := (m - 1 + k) / 12) (by omega) (by omega), wr (x := y + (m - 1 + k) / 12) (by omega) (by omega), wr (x := (m - 1 + k) % 12 + 1) (by omega) (by omega), impl_last]
      simp only [Option.bind_some, impl_ok]
      show (if dok (plusY y m k) (plusM m k) (plusD y m d k) = true then some (plusY y m k, plusM m k, plusD y m d k) else some (0, 0, 0)) = _
      by_cases h3 : plusY y m k ≤ 2199
      · rw [if_pos (plus_dok y m d k h h2.1 h3), if_pos ⟨h, h2.1, h2.2, h3⟩]
      · rw [plus_out y m d k h3, if_neg (by simp), if_neg (by omega)]
    · rw [decide_eq_false h2]
      simp only [impl_DayPlus.j0, Bool.not_false]
      rw [if_pos trivial, if_neg (by omega)]
  · rw [if_neg h]
    simp only [impl_DayPlus.j0]
    rw [if_pos trivial, if_neg (by simp [h])]
theorem spec_plus (j : Nat) (y m d k : Int) (hk : -9223372036854775808 ≤ k ∧ k ≤ 9223372036854775807) : spec_DayPlus.f (j + 5) y m d k = some (plus y m d k) := by
  unfold spec_DayPlus.f plus
  rw [show j + 5 = (j + 3) + 2 by omega, spec_ok2]
  simp only [Option.bind_some]
  by_cases h : dok y m d = true
  · rw [if_pos h, in_spec]
    simp only [Option.bind_some]
    by_cases h2 : 0 ≤ k ∧ k ≤ 600
    · have hd := (dok_iff y m d).mp h
      have t1 : Int.tdiv (y * 12 + m - 1 + k) 12 = plusY y m k := by rw [Int.tdiv_eq_ediv_of_nonneg (by omega)]; unfold plusY; omega
      have t2 : Int.tmod (y * 12 + m - 1 + k) 12 + 1 = plusM m k := by rw [Int.tmod_eq_emod_of_nonneg (by omega)]; unfold plusM; omega
      have b1 : -9223372036854775808 ≤ plusY y m k ∧ plusY y m k ≤ 9223372036854775807 := by unfold plusY; omega
      have b2 : -9223372036854775808 ≤ plusM m k ∧ plusM m k ≤ 9223372036854775807 := by unfold plusM; omega
      rw [decide_eq_true h2, show j + 3 + 2 = (j + 2 + 2) + 1 by omega]
      simp only [spec_DayPlus.j0, Bool.not_true]
      rw [if_neg (by simp), wr (x := y * 12) (by omega) (by omega), wr (x := y * 12 + m) (by omega) (by omega), wr (x := y * 12 + m - 1) (by omega) (by omega), wr (x := y * 12 + m - 1 + k) (by omega) (by omega), t1, t2, wr b1.1 b1.2, wr b2.1 b2.2, spec_last2]
      simp only [Option.bind_some]
      have fin : ∀ e : Int, e = plusD y m d k → spec_DayPlus.j1 (j + 2 + 2) (plusY y m k) (plusM m k) e = some (if dok y m d = true ∧ 0 ≤ k ∧ k ≤ 600 ∧ plusY y m k ≤ 2199 then (plusY y m k, plusM m k, plusD y m d k) else (0, 0, 0)) := by
        rintro e rfl
        rw [show j + 2 + 2 = (j + 1 + 2) + 1 by omega]
        simp only [spec_DayPlus.j1, spec_ok2, Option.bind_some]
        by_cases h3 : plusY y m k ≤ 2199
        · rw [if_pos (plus_dok y m d k h h2.1 h3), if_pos ⟨h, h2.1, h2.2, h3⟩]
        · rw [plus_out y m d k h3, if_neg (by simp), if_neg (by omega)]
      by_cases h4 : d > dl (plusY y m k) (plusM m k)
      · rw [if_pos h4]
        exact fin _ (by unfold plusD; rw [if_pos h4])
      · rw [if_neg h4]
        exact fin _ (by unfold plusD; rw [if_neg (by omega)])
    · rw [decide_eq_false h2, show j + 3 + 2 = (j + 4) + 1 by omega]
      simp only [spec_DayPlus.j0, Bool.not_false]
      rw [if_pos trivial, if_neg (by omega)]
  · rw [if_neg h, show j + 3 + 2 = (j + 4) + 1 by omega]
    simp only [spec_DayPlus.j0]
    rw [if_pos trivial, if_neg (by simp [h])]

end Go.Proofs.Ytmffjnipolicpaa.Pure
