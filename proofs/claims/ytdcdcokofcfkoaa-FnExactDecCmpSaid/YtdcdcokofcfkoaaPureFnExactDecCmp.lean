/- DecCmp of the program answers as the reference, for any two decimals: the law's pure statement; no conditions. -/
import Derived.Test.YtdcdcokofcfkoaaAllx0
import Derived.Test.YtdcdcokofcfkoaaAllx10
import Derived.Test.YtdcdcokofcfkoaaAllx17
import Derived.Test.YtdcdcokofcfkoaaAllx2
import Derived.Test.YtdcdcokofcfkoaaAllx3
import Derived.Test.YtdcdcokofcfkoaaAllx4
import Derived.Test.YtdcdcokofcfkoaaAllx5
import Derived.Test.YtdcdcokofcfkoaaAllx8
import Derived.Test.YtdcdcokofcfkoaaSaysFnExactDecCmp
set_option linter.unusedVariables false
set_option linter.unusedSimpArgs false
namespace Go.Proofs.Ytdcdcokofcfkoaa.Pure
open Go.RowKit Go.Proofs.Ytdcdcokofcfkoaa.All Go.Proofs.YtdcdcokofcfkoaaW.PrintWords Go.Proofs.YtdcdcokofcfkoaaW.PrintLast Go.Proofs.YtdcdcokofcfkoaaW.PrintMore

theorem wr {x : Int} (h1 : -9223372036854775808 ≤ x) (h2 : x ≤ 9223372036854775807) : wrap64 x = x := by unfold wrap64; omega
theorem in_impl (a b c : Int) : impl_in.f a b c = some (decide (b ≤ a ∧ a ≤ c)) := by
  unfold impl_in.f
  by_cases h : a ≥ b
  · rw [if_pos h]; simp [show b ≤ a from h]
  · rw [if_neg h]; simp [show ¬ b ≤ a from h]
theorem in_spec (a b c : Int) : spec_l1In.f a b c = some (decide (b ≤ a ∧ a ≤ c)) := by
  unfold spec_l1In.f
  by_cases h : a ≥ b
  · rw [if_pos h]; simp [show b ≤ a from h]
  · rw [if_neg h]; simp [show ¬ b ≤ a from h]
def ten (p : Int) : Int := if p ≤ 0 then 1 else if p = 1 then 10 else if p = 2 then 100 else 1000
theorem spec_ten (k : Nat) (p : Int) (h0 : 0 ≤ p) (h3 : p ≤ 3) : spec_l1Ten.f (k + 4) p = some (ten p) := by
  rcases (by omega : p = 0 ∨ p = 1 ∨ p = 2 ∨ p = 3) with rfl | rfl | rfl | rfl
  all_goals
    simp only [spec_l1Ten.f, spec_l1Ten.l0]
    simp [wrap64, ten]
theorem impl_ten (k : Nat) (p : Int) (h0 : 0 ≤ p) (h3 : p ≤ 3) : impl_power.f (k + 4) p = some (ten p) := by
  rcases (by omega : p = 0 ∨ p = 1 ∨ p = 2 ∨ p = 3) with rfl | rfl | rfl | rfl
  all_goals
    simp only [impl_power.f, impl_power.l0]
    simp [wrap64, ten]
theorem ten_bound (p : Int) : 1 ≤ ten p ∧ ten p ≤ 1000 := by
  unfold ten
  repeat' split
  all_goals omega
def decok (n p : Int) : Bool := decide (0 ≤ p ∧ p ≤ 3 ∧ -(9999 * ten p) ≤ n ∧ n ≤ 9999 * ten p)
theorem impl_decok (k : Nat) (n p : Int) : impl_DecOk.f (k + 4) n p = some (decok n p) := by
  unfold impl_DecOk.f decok
  rw [in_impl]
  by_cases h : 0 ≤ p ∧ p ≤ 3
  · have hb := ten_bound p
    rw [decide_eq_true h]
    simp only [Option.bind_some, if_true, impl_ten k p h.1 h.2, in_impl]
    rw [wr (x := -9999 * ten p) (by omega) (by omega), wr (x := 9999 * ten p) (by omega) (by omega)]
    congr 1; rw [decide_eq_decide]; omega
  · rw [decide_eq_false h]
    simp only [Option.bind_some]
    rw [if_neg (by simp)]; congr 1; symm; rw [decide_eq_false_iff_not]; omega
theorem spec_decok (k : Nat) (n p : Int) : spec_DecOk.f (k + 4) n p = some (decok n p) := by
  unfold spec_DecOk.f decok
  rw [in_spec]
  by_cases h : 0 ≤ p ∧ p ≤ 3
  · have hb := ten_bound p
    rw [decide_eq_true h]
    simp only [Option.bind_some, if_true, spec_ten k p h.1 h.2, in_spec]
    rw [wr (x := -9999 * ten p) (by omega) (by omega), wr (x := 9999 * ten p) (by omega) (by omega)]
    congr 1; rw [decide_eq_decide]; omega
  · rw [decide_eq_false h]
    simp only [Option.bind_some]
    rw [if_neg (by simp)]; congr 1; symm; rw [decide_eq_false_iff_not]; omega
theorem ten_vals (p : Int) : ten p = 1 ∨ ten p = 10 ∨ ten p = 100 ∨ ten p = 1000 := by
  unfold ten
  repeat' split
  all_goals simp
def near (n t : Int) : Int := if n < 0 then -((2 * (-n) + t) / (2 * t)) else (2 * n + t) / (2 * t)
theorem near_bound (n t : Int) (ht : 1 ≤ t ∧ t ≤ 1000) (h0 : 0 ≤ n) : 0 ≤ (2 * n + t) / (2 * t) ∧ (2 * n + t) / (2 * t) ≤ 2 * n + t :=
  ⟨Int.ediv_nonneg (by omega) (by omega), Int.ediv_le_self _ (by omega)⟩
theorem spec_near_pos (n t : Int) (ht : 1 ≤ t ∧ t ≤ 1000) (h0 : 0 ≤ n) (h1 : n ≤ 10000000) (z : Nat) : spec_l1Near.f (z + 1) n t = some ((2 * n + t) / (2 * t)) := by
  have hb := near_bound n t ht h0
  simp only [spec_l1Near.f]
  rw [if_neg (by omega), wr (x := 2 * t) (by omega) (by omega), if_neg (by omega), wr (x := 2 * n) (by omega) (by omega), wr (x := 2 * n + t) (by omega) (by omega), Int.tdiv_eq_ediv_of_nonneg (by omega), wr (x := (2 * n + t) / (2 * t)) (by omega) (by omega)]
theorem spec_near (n t : Int) (ht : 1 ≤ t ∧ t ≤ 1000) (h0 : -10000000 ≤ n) (h1 : n ≤ 10000000) (k : Nat) : spec_l1Near.f (k + 2) n t = some (near n t) := by
  unfold near
  by_cases h : n < 0
  · have e := spec_near_pos (-n) t ht (by omega) (by omega) k
    have hb := near_bound (-n) t ht (by omega)
    rw [if_pos h, show k + 2 = (k + 1) + 1 from rfl]
    generalize k + 1 = z at *
    simp only [spec_l1Near.f]
    rw [if_pos h, wr (x := -n) (by omega) (by omega), e]
    simp only [Option.bind_some]
    rw [wr (by omega) (by omega)]
  · rw [if_neg h]
    exact spec_near_pos n t ht (by omega) h1 (k + 1)
theorem impl_near_pos (n t : Int) (ht : 1 ≤ t ∧ t ≤ 1000) (h0 : 0 ≤ n) (h1 : n ≤ 10000000) (z : Nat) : impl_nearest.f (z + 1) n t = some ((2 * n + t) / (2 * t)) := by
  have hb := near_bound n t ht h0
  simp only [impl_nearest.f]
  rw [if_neg (by omega), wr (x := 2 * t) (by omega) (by omega), if_neg (by omega), wr (x := 2 * n) (by omega) (by omega), wr (x := 2 * n + t) (by omega) (by omega), Int.tdiv_eq_ediv_of_nonneg (by omega), wr (x := (2 * n + t) / (2 * t)) (by omega) (by omega)]
theorem impl_near (n t : Int) (ht : 1 ≤ t ∧ t ≤ 1000) (h0 : -10000000 ≤ n) (h1 : n ≤ 10000000) (k : Nat) : impl_nearest.f (k + 2) n t = some (near n t) := by
  unfold near
  by_cases h : n < 0
  · have e := impl_near_pos (-n) t ht (by omega) (by omega) k
    have hb := near_bound (-n) t ht (by omega)
    rw [if_pos h, show k + 2 = (k + 1) + 1 from rfl]
    generalize k + 1 = z at *
    simp only [impl_nearest.f]
    rw [if_pos h, wr (x := -n) (by omega) (by omega), e]
    simp only [Option.bind_some]
    rw [wr (by omega) (by omega)]
  · rw [if_neg h]
    exact impl_near_pos n t ht (by omega) h1 (k + 1)
def at_ (n p q : Int) : Int × Int := if q ≥ p then (n * ten (q - p), q) else (near n (ten (p - q)), q)
def decat (n p q : Int) : Int × Int := if decok n p = true ∧ 0 ≤ q ∧ q ≤ 3 then at_ n p q else (0, 0)
theorem ok_facts {n p : Int} (h : decok n p = true) : 0 ≤ p ∧ p ≤ 3 ∧ -(9999 * ten p) ≤ n ∧ n ≤ 9999 * ten p ∧ ten p ≤ 1000 := by
  unfold decok at h
  rw [decide_eq_true_eq] at h
  have := ten_bound p
  omega
theorem scale_bound {n p : Int} (h : decok n p = true) (q : Int) : -9999000000 ≤ n * ten q ∧ n * ten q ≤ 9999000000 := by
  have := ok_facts h
  rcases ten_vals q with e | e | e | e <;> rw [e] <;> omega
theorem spec_at (k : Nat) {n p : Int} (h : decok n p = true) (q : Int) (h0 : 0 ≤ q) (h3 : q ≤ 3) : spec_l1At.f (k + 4) n p q = some (at_ n p q) := by
  have ho := ok_facts h
  unfold spec_l1At.f at_
  by_cases hq : q ≥ p
  · have hs := scale_bound h (q - p)
    rw [if_pos hq, if_pos hq, wr (x := q - p) (by omega) (by omega), spec_ten k (q - p) (by omega) (by omega)]
    simp only [Option.bind_some]
    rw [wr (by omega) (by omega)]
  · rw [if_neg hq, if_neg hq, wr (x := p - q) (by omega) (by omega), spec_ten k (p - q) (by omega) (by omega)]
    simp only [Option.bind_some]
    rw [show k + 4 = (k + 2) + 2 from rfl, spec_near n _ (ten_bound _) (by omega) (by omega)]
    rfl
theorem impl_decat (k : Nat) (n p q : Int) : impl_DecAt.f (k + 5) n p q = some (decat n p q) := by
  have no : impl_DecAt.j0 (k + 5) q true n p = some (0, 0) := by
    rw [show k + 5 = (k + 4) + 1 from rfl]
    generalize k + 4 = z
    simp only [impl_DecAt.j0]
    rw [if_pos trivial]
  unfold impl_DecAt.f decat
  rw [show k + 5 = (k + 1) + 4 from rfl, impl_decok]
  simp only [Option.bind_some]
  by_cases h : decok n p = true
  · have ho := ok_facts h
    rw [if_pos h, in_impl]
    simp only [Option.bind_some]
    by_cases hq : 0 ≤ q ∧ q ≤ 3
    · rw [decide_eq_true hq, if_pos ⟨h, hq⟩, show k + 1 + 4 = (k + 4) + 1 from rfl]
      unfold at_
      by_cases hp : q ≥ p
      · have hs := scale_bound h (q - p)
        have e := impl_ten k (q - p) (by omega) (by omega)
        generalize k + 4 = z at *
        simp only [impl_DecAt.j0]
        rw [if_neg (by simp), if_pos hp, if_pos hp, wr (x := q - p) (by omega) (by omega), e]
        simp only [Option.bind_some]
        rw [wr (by omega) (by omega)]
      · have e := impl_ten k (p - q) (by omega) (by omega)
        have e2 := impl_near n (ten (p - q)) (ten_bound _) (by omega) (by omega) (k + 2)
        rw [show k + 2 + 2 = k + 4 from rfl] at e2
        generalize k + 4 = z at *
        simp only [impl_DecAt.j0]
        rw [if_neg (by simp), if_neg hp, if_neg hp, wr (x := p - q) (by omega) (by omega), e]
        simp only [Option.bind_some, e2]
    · rw [decide_eq_false hq, if_neg (fun g => hq g.2)]
      exact no
  · rw [if_neg h, if_neg (fun g => h g.1)]
    exact no
def cmp3 (n p m q : Int) : Int := if decok n p = true ∧ decok m q = true then (if n * ten (3 - p) < m * ten (3 - q) then -1 else if n * ten (3 - p) > m * ten (3 - q) then 1 else 0) else 0
theorem at3 {n p : Int} (h : decok n p = true) : at_ n p 3 = (n * ten (3 - p), 3) := by
  have := ok_facts h
  unfold at_
  rw [if_pos (by omega)]
theorem compare_int (a b : Int) : cmp_Compare_int.f a b = some (if a < b then -1 else if a > b then 1 else 0) := by
  unfold cmp_Compare_int.f cmp_isNaN_int.f
  simp only [Option.bind_some]
  by_cases h1 : a < b
  · simp [h1]
  · by_cases h2 : b < a
    · simp [h1, h2]
    · simp [h1, h2]
theorem spec_cmp (k : Nat) (n p m q : Int) : spec_DecCmp.f (k + 5) n p m q = some (cmp3 n p m q) := by
  have no : spec_DecCmp.j0 (k + 5) true n p m q = some 0 := by
    rw [show k + 5 = (k + 4) + 1 from rfl]
    generalize k + 4 = z
    simp only [spec_DecCmp.j0]
    rw [if_pos trivial]
  unfold spec_DecCmp.f cmp3
  rw [show k + 5 = (k + 1) + 4 from rfl, spec_decok]
  simp only [Option.bind_some]
  by_cases h : decok n p = true
  · rw [if_pos h, spec_decok]
    simp only [Option.bind_some]
    by_cases g : decok m q = true
    · have e1 := spec_at k h 3 (by omega) (by omega)
      have e2 := spec_at k g 3 (by omega) (by omega)
      rw [g, if_pos ⟨h, rfl⟩, show k + 1 + 4 = (k + 4) + 1 from rfl]
      generalize k + 4 = z at *
      simp only [spec_DecCmp.j0, e1, e2, Option.bind_some, at3 h, at3 g]
      rw [if_neg (by simp)]
      split <;> (first | rfl | (split <;> rfl))
    · rw [Bool.not_eq_true] at g
      rw [g, if_neg (by simp)]
      exact no
  · rw [if_neg h, if_neg (fun g => h g.1)]
    exact no
theorem impl_cmp (k : Nat) (n p m q : Int) : impl_DecCmp.f (k + 6) n p m q = some (cmp3 n p m q) := by
  have no : impl_DecCmp.j0 (k + 6) true n p m q = some 0 := by
    rw [show k + 6 = (k + 5) + 1 from rfl]
    generalize k + 5 = z
    simp only [impl_DecCmp.j0]
    rw [if_pos trivial]
  unfold impl_DecCmp.f cmp3
  rw [show k + 6 = (k + 2) + 4 from rfl, impl_decok]
  simp only [Option.bind_some]
  by_cases h : decok n p = true
  · rw [if_pos h, impl_decok]
    simp only [Option.bind_some]
    by_cases g : decok m q = true
    · have e1 := impl_decat k n p 3
      have e2 := impl_decat k m q 3
      unfold decat at e1 e2
      rw [if_pos ⟨h, by omega, by omega⟩, at3 h] at e1
      rw [if_pos ⟨g, by omega, by omega⟩, at3 g] at e2
      rw [g, if_pos ⟨h, rfl⟩, show k + 2 + 4 = (k + 5) + 1 from rfl]
      generalize k + 5 = z at *
      simp only [impl_DecCmp.j0, e1, e2, Option.bind_some, compare_int]
      rw [if_neg (by simp)]
    · rw [Bool.not_eq_true] at g
      rw [g, if_neg (by simp)]
      exact no
  · rw [if_neg h, if_neg (fun g => h g.1)]
    exact no
theorem FnExactDecCmp : laws_FnExactDecCmp.Pure := by
  intro n p m q _ _ _ _
  refine ⟨6, ?_⟩
  unfold laws_FnExactDecCmp.f laws_toDecDec.f
  simp only [Option.bind_some, spec_cmp 1, impl_cmp 0]
  simp

end Go.Proofs.Ytdcdcokofcfkoaa.Pure
