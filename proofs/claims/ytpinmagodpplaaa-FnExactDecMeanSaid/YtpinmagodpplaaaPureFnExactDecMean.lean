/- DecMean of the program answers as the reference, at decimals of their own room and every number of places: the law's pure statement; no conditions. -/
import Derived.Test.YtpinmagodpplaaaAllx0
import Derived.Test.YtpinmagodpplaaaAllx13
import Derived.Test.YtpinmagodpplaaaAllx14
import Derived.Test.YtpinmagodpplaaaAllx15
import Derived.Test.YtpinmagodpplaaaAllx16
import Derived.Test.YtpinmagodpplaaaAllx2
import Derived.Test.YtpinmagodpplaaaAllx3
import Derived.Test.YtpinmagodpplaaaAllx6
import Derived.Test.YtpinmagodpplaaaAllx7
import Derived.Test.YtpinmagodpplaaaSaysFnExactDecMean
set_option linter.unusedVariables false
set_option linter.unusedSimpArgs false
namespace Go.Proofs.Ytpinmagodpplaaa.Pure
open Go.RowKit Go.Proofs.Ytpinmagodpplaaa.All Go.Proofs.YtpinmagodpplaaaW.PrintWords Go.Proofs.YtpinmagodpplaaaW.PrintLast Go.Proofs.YtpinmagodpplaaaW.PrintMore

theorem wr {x : Int} (h1 : -9223372036854775808 ≤ x) (h2 : x ≤ 9223372036854775807) : wrap64 x = x := by unfold wrap64; omega
theorem in_impl (a b c : Int) : impl_in.f a b c = some (decide (b ≤ a ∧ a ≤ c)) := by
  unfold impl_in.f
  by_cases h : a ≥ b
  · rw [if_pos h]; simp [show b ≤ a from h]
  · rw [if_neg h]; simp [show ¬ b ≤ a from h]
theorem in_spec (a b c : Int) : spec_l1In.f a b c = some (decide (b ≤ a ∧ a ≤ c)) := by
  unfold spec_l1In.f
  by_cases h : a ≥ b
  · rw [if_pos h]; simp [show b ≤ a from h]
  · rw [if_neg h]; simp [show ¬ b ≤ a from h]
def ten (p : Int) : Int := if p ≤ 0 then 1 else if p = 1 then 10 else if p = 2 then 100 else 1000
theorem spec_ten (k : Nat) (p : Int) (h0 : 0 ≤ p) (h3 : p ≤ 3) : spec_l1Ten.f (k + 4) p = some (ten p) := by
  rcases (by omega : p = 0 ∨ p = 1 ∨ p = 2 ∨ p = 3) with rfl | rfl | rfl | rfl
  all_goals
    simp only [spec_l1Ten.f, spec_l1Ten.l0]
    simp [wrap64, ten]
theorem impl_ten (k : Nat) (p : Int) (h0 : 0 ≤ p) (h3 : p ≤ 3) : impl_power.f (k + 4) p = some (ten p) := by
  rcases (by omega : p = 0 ∨ p = 1 ∨ p = 2 ∨ p = 3) with rfl | rfl | rfl | rfl
  all_goals
    simp only [impl_power.f, impl_power.l0]
    simp [wrap64, ten]
theorem ten_bound (p : Int) : 1 ≤ ten p ∧ ten p ≤ 1000 := by
  unfold ten
  repeat' split
  all_goals omega
def decok (n p : Int) : Bool := decide (0 ≤ p ∧ p ≤ 3 ∧ -(9999 * ten p) ≤ n ∧ n ≤ 9999 * ten p)
theorem impl_decok (k : Nat) (n p : Int) : impl_DecOk.f (k + 4) n p = some (decok n p) := by
  unfold impl_DecOk.f decok
  rw [in_impl]
  by_cases h : 0 ≤ p ∧ p ≤ 3
  · have hb := ten_bound p
    rw [decide_eq_true h]
    simp only [Option.bind_some, if_true, impl_ten k p h.1 h.2, in_impl]
    rw [wr (x := -9999 * ten p) (by omega) (by omega), wr (x := 9999 * ten p) (by omega) (by omega)]
    congr 1; rw [decide_eq_decide]; omega
  · rw [decide_eq_false h]
    simp only [Option.bind_some]
    rw [if_neg (by simp)]; congr 1; symm; rw [decide_eq_false_iff_not]; omega
theorem spec_decok (k : Nat) (n p : Int) : spec_DecOk.f (k + 4) n p = some (decok n p) := by
  unfold spec_DecOk.f decok
  rw [in_spec]
  by_cases h : 0 ≤ p ∧ p ≤ 3
  · have hb := ten_bound p
    rw [decide_eq_true h]
    simp only [Option.bind_some, if_true, spec_ten k p h.1 h.2, in_spec]
    rw [wr (x := -9999 * ten p) (by omega) (by omega), wr (x := 9999 * ten p) (by omega) (by omega)]
    congr 1; rw [decide_eq_decide]; omega
  · rw [decide_eq_false h]
    simp only [Option.bind_some]
    rw [if_neg (by simp)]; congr 1; symm; rw [decide_eq_false_iff_not]; omega
theorem ten_vals (p : Int) : ten p = 1 ∨ ten p = 10 ∨ ten p = 100 ∨ ten p = 1000 := by
  unfold ten
  repeat' split
  all_goals simp
def near (n t : Int) : Int := if n < 0 then -((2 * (-n) + t) / (2 * t)) else (2 * n + t) / (2 * t)
theorem near_bound (n t : Int) (ht : 1 ≤ t ∧ t ≤ 1000) (h0 : 0 ≤ n) : 0 ≤ (2 * n + t) / (2 * t) ∧ (2 * n + t) / (2 * t) ≤ 2 * n + t :=
  ⟨Int.ediv_nonneg (by omega) (by omega), Int.ediv_le_self _ (by omega)⟩
theorem spec_near_pos (n t : Int) (ht : 1 ≤ t ∧ t ≤ 1000) (h0 : 0 ≤ n) (h1 : n ≤ 10000000) (z : Nat) : spec_l1Near.f (z + 1) n t = some ((2 * n + t) / (2 * t)) := by
  have hb := near_bound n t ht h0
  simp only [spec_l1Near.f]
  rw [if_neg (by omega), wr (x := 2 * t) (by omega) (by omega), if_neg (by omega), wr (x := 2 * n) (by omega) (by omega), wr (x := 2 * n + t) (by omega) (by omega), Int.tdiv_eq_ediv_of_nonneg (by omega), wr (x := (2 * n + t) / (2 * t)) (by omega) (by omega)]
theorem spec_near (n t : Int) (ht : 1 ≤ t ∧ t ≤ 1000) (h0 : -10000000 ≤ n) (h1 : n ≤ 10000000) (k : Nat) : spec_l1Near.f (k + 2) n t = some (near n t) := by
  unfold near
  by_cases h : n < 0
  · have e := spec_near_pos (-n) t ht (by omega) (by omega) k
    have hb := near_bound (-n) t ht (by omega)
    rw [if_pos h, show k + 2 = (k + 1) + 1 from rfl]
    generalize k + 1 = z at *
    simp only [spec_l1Near.f]
    rw [if_pos h, wr (x := -n) (by omega) (by omega), e]
    simp only [Option.bind_some]
    rw [wr (by omega) (by omega)]
  · rw [if_neg h]
    exact spec_near_pos n t ht (by omega) h1 (k + 1)
theorem impl_near_pos (n t : Int) (ht : 1 ≤ t ∧ t ≤ 1000) (h0 : 0 ≤ n) (h1 : n ≤ 10000000) (z : Nat) : impl_nearest.f (z + 1) n t = some ((2 * n + t) / (2 * t)) := by
  have hb := near_bound n t ht h0
  simp only [impl_nearest.f]
  rw [if_neg (by omega), wr (x := 2 * t) (by omega) (by omega), if_neg (by omega), wr (x := 2 * n) (by omega) (by omega), wr (x := 2 * n + t) (by omega) (by omega), Int.tdiv_eq_ediv_of_nonneg (by omega), wr (x := (2 * n + t) / (2 * t)) (by omega) (by omega)]
theorem impl_near (n t : Int) (ht : 1 ≤ t ∧ t ≤ 1000) (h0 : -10000000 ≤ n) (h1 : n ≤ 10000000) (k : Nat) : impl_nearest.f (k + 2) n t = some (near n t) := by
  unfold near
  by_cases h : n < 0
  · have e := impl_near_pos (-n) t ht (by omega) (by omega) k
    have hb := near_bound (-n) t ht (by omega)
    rw [if_pos h, show k + 2 = (k + 1) + 1 from rfl]
    generalize k + 1 = z at *
    simp only [impl_nearest.f]
    rw [if_pos h, wr (x := -n) (by omega) (by omega), e]
    simp only [Option.bind_some]
    rw [wr (by omega) (by omega)]
  · rw [if_neg h]
    exact impl_near_pos n t ht (by omega) h1 (k + 1)
def at_ (n p q : Int) : Int × Int := if q ≥ p then (n * ten (q - p), q) else (near n (ten (p - q)), q)
def decat (n p q : Int) : Int × Int := if decok n p = true ∧ 0 ≤ q ∧ q ≤ 3 then at_ n p q else (0, 0)
theorem ok_facts {n p : Int} (h : decok n p = true) : 0 ≤ p ∧ p ≤ 3 ∧ -(9999 * ten p) ≤ n ∧ n ≤ 9999 * ten p ∧ ten p ≤ 1000 := by
  unfold decok at h
  rw [decide_eq_true_eq] at h
  have := ten_bound p
  omega
theorem scale_bound {n p : Int} (h : decok n p = true) (q : Int) : -9999000000 ≤ n * ten q ∧ n * ten q ≤ 9999000000 := by
  have := ok_facts h
  rcases ten_vals q with e | e | e | e <;> rw [e] <;> omega
theorem spec_at (k : Nat) {n p : Int} (h : decok n p = true) (q : Int) (h0 : 0 ≤ q) (h3 : q ≤ 3) : spec_l1At.f (k + 4) n p q = some (at_ n p q) := by
  have ho := ok_facts h
  unfold spec_l1At.f at_
  by_cases hq : q ≥ p
  · have hs := scale_bound h (q - p)
    rw [if_pos hq, if_pos hq, wr (x := q - p) (by omega) (by omega), spec_ten k (q - p) (by omega) (by omega)]
    simp only [Option.bind_some]
    rw [wr (by omega) (by omega)]
  · rw [if_neg hq, if_neg hq, wr (x := p - q) (by omega) (by omega), spec_ten k (p - q) (by omega) (by omega)]
    simp only [Option.bind_some]
    rw [show k + 4 = (k + 2) + 2 from rfl, spec_near n _ (ten_bound _) (by omega) (by omega)]
    rfl
theorem impl_decat (k : Nat) (n p q : Int) : impl_DecAt.f (k + 5) n p q = some (decat n p q) := by
  have no : impl_DecAt.j0 (k + 5) q true n p = some (0, 0) := by
    rw [show k + 5 = (k + 4) + 1 from rfl]
    generalize k + 4 = z
    simp only [impl_DecAt.j0]
    rw [if_pos trivial]
  unfold impl_DecAt.f decat
  rw [show k + 5 = (k + 1) + 4 from rfl, impl_decok]
  simp only [Option.bind_some]
  by_cases h : decok n p = true
  · have ho := ok_facts h
    rw [if_pos h, in_impl]
    simp only [Option.bind_some]
    by_cases hq : 0 ≤ q ∧ q ≤ 3
    · rw [decide_eq_true hq, if_pos ⟨h, hq⟩, show k + 1 + 4 = (k + 4) + 1 from rfl]
      unfold at_
      by_cases hp : q ≥ p
      · have hs := scale_bound h (q - p)
        have e := impl_ten k (q - p) (by omega) (by omega)
        generalize k + 4 = z at *
        simp only [impl_DecAt.j0]
        rw [if_neg (by simp), if_pos hp, if_pos hp, wr (x := q - p) (by omega) (by omega), e]
        simp only [Option.bind_some]
        rw [wr (by omega) (by omega)]
      · have e := impl_ten k (p - q) (by omega) (by omega)
        have e2 := impl_near n (ten (p - q)) (ten_bound _) (by omega) (by omega) (k + 2)
        rw [show k + 2 + 2 = k + 4 from rfl] at e2
        generalize k + 4 = z at *
        simp only [impl_DecAt.j0]
        rw [if_neg (by simp), if_neg hp, if_neg hp, wr (x := p - q) (by omega) (by omega), e]
        simp only [Option.bind_some, e2]
    · rw [decide_eq_false hq, if_neg (fun g => hq g.2)]
      exact no
  · rw [if_neg h, if_neg (fun g => h g.1)]
    exact no
theorem at3 {n p : Int} (h : decok n p = true) : at_ n p 3 = (n * ten (3 - p), 3) := by
  have := ok_facts h
  unfold at_
  rw [if_pos (by omega)]
def convD (s : S64) : S25 := ⟨s.f0, s.f1⟩
theorem to_decs_loop (l : List S64) (hl : l.length ≤ 1048576) (d : Nat) : ∀ (k : Nat) (x : List S25) (i : Nat), x.length = l.length → l.length - i = d → i ≤ l.length → (∀ j, j < i → x[j]? = (l.map convD)[j]?) → laws_toDecDecS.l0 (k + 1 + d) l x i = some (l.map convD) := by
  induction d with
  | zero =>
    intro k x i hx hd hi hM
    simp only [Nat.add_zero, laws_toDecDecS.l0]
    rw [if_neg (by omega)]
    congr 1
    apply List.ext_getElem?
    intro j
    by_cases hj : j < l.length
    · exact hM j (by omega)
    · rw [List.getElem?_eq_none (by omega), List.getElem?_eq_none (by simp; omega)]
  | succ d ih =>
    intro k x i hx hd hi hM
    rw [show k + 1 + (d + 1) = (k + 1 + d) + 1 by omega]
    simp only [laws_toDecDecS.l0, laws_toDecDec.f, Option.bind_some]
    rw [if_pos (by omega), if_pos (by omega), if_pos (by omega), wr (x := (i : Int) + 1) (by omega) (by omega)]
    have := ih k (x.set (i : Int).toNat (convD (rd_T64 l i))) (i + 1) (by simp [hx]) (by omega) (by omega) (by
      intro j hj
      rw [Int.toNat_natCast, List.getElem?_set]
      by_cases e : i = j
      · subst e
        rw [if_pos rfl, if_pos (by omega), List.getElem?_map, List.getElem?_eq_getElem (by omega)]
        unfold rd_T64
        rw [List.getD_eq_getElem?_getD, Int.toNat_natCast, List.getElem?_eq_getElem (by omega)]
        rfl
      · rw [if_neg e]
        exact hM j (by omega))
    exact this
theorem to_decs (l : List S64) (hl : l.length ≤ 1048576) (k : Nat) (hk : l.length + 1 ≤ k) : laws_toDecDecS.f k l = some (l.map convD) := by
  unfold laws_toDecDecS.f
  rw [if_pos (by omega), if_pos (by omega)]
  have := to_decs_loop l hl l.length (k - 1 - l.length) (List.replicate ((l.length : Int) : Int).toNat z25) 0 (by simp) (by omega) (by omega) (by omega)
  rwa [show k - 1 - l.length + 1 + l.length = k by omega] at this
theorem eq_decs_loop (l : List S25) (hl : l.length ≤ 1048576) (d : Nat) : ∀ (k : Nat) (i : Int), 0 ≤ i → (l.length : Int) - i = d → laws_eqDecDecS.l0 (k + 1 + d) l l i = some true := by
  induction d with
  | zero =>
    intro k i h0 hd
    simp only [Nat.add_zero, laws_eqDecDecS.l0]
    rw [if_neg (by omega)]
  | succ d ih =>
    intro k i h0 hd
    rw [show k + 1 + (d + 1) = (k + 1 + d) + 1 by omega]
    simp only [laws_eqDecDecS.l0, laws_eqDecDec.f, if_true, Option.bind_some]
    rw [if_pos (show i < (l.length : Int) by omega), if_pos h0, if_pos (show i < (l.length : Int) by omega), wr (x := i + 1) (by omega) (by omega)]
    exact ih k (i + 1) (by omega) (by omega)
theorem eq_decs (l : List S25) (hl : l.length ≤ 1048576) (k : Nat) (hk : l.length + 1 ≤ k) : laws_eqDecDecS.f k l l = some true := by
  unfold laws_eqDecDecS.f
  rw [if_pos rfl]
  have := eq_decs_loop l hl l.length (k - 1 - l.length) 0 (by omega) (by omega)
  rwa [show k - 1 - l.length + 1 + l.length = k by omega] at this
theorem near2_bound (n t : Int) (ht : 1 ≤ t ∧ t ≤ 100000) (h0 : 0 ≤ n) : 0 ≤ (2 * n + t) / (2 * t) ∧ (2 * n + t) / (2 * t) ≤ 2 * n + t :=
  ⟨Int.ediv_nonneg (by omega) (by omega), Int.ediv_le_self _ (by omega)⟩
theorem snear2_pos (n t : Int) (ht : 1 ≤ t ∧ t ≤ 100000) (h0 : 0 ≤ n) (h1 : n ≤ 1000000000000) (z : Nat) : spec_l1Near.f (z + 1) n t = some ((2 * n + t) / (2 * t)) := by
  have hb := near2_bound n t ht h0
  simp only [spec_l1Near.f]
  rw [if_neg (by omega), wr (x := 2 * t) (by omega) (by omega), if_neg (by omega), wr (x := 2 * n) (by omega) (by omega), wr (x := 2 * n + t) (by omega) (by omega), Int.tdiv_eq_ediv_of_nonneg (by omega), wr (x := (2 * n + t) / (2 * t)) (by omega) (by omega)]
theorem snear2 (n t : Int) (ht : 1 ≤ t ∧ t ≤ 100000) (h0 : -1000000000000 ≤ n) (h1 : n ≤ 1000000000000) (k : Nat) (hk : 2 ≤ k) : spec_l1Near.f k n t = some (near n t) := by
  obtain ⟨z, rfl⟩ : ∃ z, k = z + 1 + 1 := ⟨k - 2, by omega⟩
  unfold near
  by_cases h : n < 0
  · have e := snear2_pos (-n) t ht (by omega) (by omega) z
    have hb := near2_bound (-n) t ht (by omega)
    rw [if_pos h]
    generalize z + 1 = z at *
    simp only [spec_l1Near.f]
    rw [if_pos h, wr (x := -n) (by omega) (by omega), e]
    simp only [Option.bind_some]
    rw [wr (by omega) (by omega)]
  · rw [if_neg h]
    exact snear2_pos n t ht (by omega) h1 (z + 1)
theorem inear2_pos (n t : Int) (ht : 1 ≤ t ∧ t ≤ 100000) (h0 : 0 ≤ n) (h1 : n ≤ 1000000000000) (z : Nat) : impl_nearest.f (z + 1) n t = some ((2 * n + t) / (2 * t)) := by
  have hb := near2_bound n t ht h0
  simp only [impl_nearest.f]
  rw [if_neg (by omega), wr (x := 2 * t) (by omega) (by omega), if_neg (by omega), wr (x := 2 * n) (by omega) (by omega), wr (x := 2 * n + t) (by omega) (by omega), Int.tdiv_eq_ediv_of_nonneg (by omega), wr (x := (2 * n + t) / (2 * t)) (by omega) (by omega)]
theorem inear2 (n t : Int) (ht : 1 ≤ t ∧ t ≤ 100000) (h0 : -1000000000000 ≤ n) (h1 : n ≤ 1000000000000) (k : Nat) (hk : 2 ≤ k) : impl_nearest.f k n t = some (near n t) := by
  obtain ⟨z, rfl⟩ : ∃ z, k = z + 1 + 1 := ⟨k - 2, by omega⟩
  unfold near
  by_cases h : n < 0
  · have e := inear2_pos (-n) t ht (by omega) (by omega) z
    have hb := near2_bound (-n) t ht (by omega)
    rw [if_pos h]
    generalize z + 1 = z at *
    simp only [impl_nearest.f]
    rw [if_pos h, wr (x := -n) (by omega) (by omega), e]
    simp only [Option.bind_some]
    rw [wr (by omega) (by omega)]
  · rw [if_neg h]
    exact inear2_pos n t ht (by omega) h1 (z + 1)
theorem near_scale (s n p : Int) (h0 : 0 ≤ p) (h3 : p ≤ 3) : near (s * ten p) (n * 1000) = near s (n * ten (3 - p)) := by
  unfold near
  rcases (by omega : p = 0 ∨ p = 1 ∨ p = 2 ∨ p = 3) with rfl | rfl | rfl | rfl
  · rw [show ten 0 = 1 from rfl, show ten (3 - 0) = 1000 from rfl, Int.mul_one]
  · rw [show ten 1 = 10 from rfl, show ten (3 - 1) = 100 from rfl]
    by_cases h : s < 0
    · rw [if_pos (show s * 10 < 0 by omega), if_pos h, show 2 * (-(s * 10)) + n * 1000 = 10 * (2 * (-s) + n * 100) by omega, show 2 * (n * 1000) = 10 * (2 * (n * 100)) by omega, Int.mul_ediv_mul_of_pos _ _ (by decide)]
    · rw [if_neg (show ¬ s * 10 < 0 by omega), if_neg h, show 2 * (s * 10) + n * 1000 = 10 * (2 * s + n * 100) by omega, show 2 * (n * 1000) = 10 * (2 * (n * 100)) by omega, Int.mul_ediv_mul_of_pos _ _ (by decide)]
  · rw [show ten 2 = 100 from rfl, show ten (3 - 2) = 10 from rfl]
    by_cases h : s < 0
    · rw [if_pos (show s * 100 < 0 by omega), if_pos h, show 2 * (-(s * 100)) + n * 1000 = 100 * (2 * (-s) + n * 10) by omega, show 2 * (n * 1000) = 100 * (2 * (n * 10)) by omega, Int.mul_ediv_mul_of_pos _ _ (by decide)]
    · rw [if_neg (show ¬ s * 100 < 0 by omega), if_neg h, show 2 * (s * 100) + n * 1000 = 100 * (2 * s + n * 10) by omega, show 2 * (n * 1000) = 100 * (2 * (n * 10)) by omega, Int.mul_ediv_mul_of_pos _ _ (by decide)]
  · rw [show ten 3 = 1000 from rfl, show ten (3 - 3) = 1 from rfl]
    by_cases h : s < 0
    · rw [if_pos (show s * 1000 < 0 by omega), if_pos h, show 2 * (-(s * 1000)) + n * 1000 = 1000 * (2 * (-s) + n * 1) by omega, show 2 * (n * 1000) = 1000 * (2 * (n * 1)) by omega, Int.mul_ediv_mul_of_pos _ _ (by decide)]
    · rw [if_neg (show ¬ s * 1000 < 0 by omega), if_neg h, show 2 * (s * 1000) + n * 1000 = 1000 * (2 * s + n * 1) by omega, show 2 * (n * 1000) = 1000 * (2 * (n * 1)) by omega, Int.mul_ediv_mul_of_pos _ _ (by decide)]
def okAll (l : List S25) : Nat → Int → Bool
  | 0, _ => true
  | n + 1, i => decok (rd_T25 l i).f0 (rd_T25 l i).f1 && okAll l n (i + 1)
def msum (l : List S25) : Nat → Int → Int → Int
  | 0, _, x => x
  | n + 1, i, x => msum l n (i + 1) (x + (rd_T25 l i).f0 * ten (3 - (rd_T25 l i).f1))
theorem scale3 {n p : Int} (h : decok n p = true) : -9999000 ≤ n * ten (3 - p) ∧ n * ten (3 - p) ≤ 9999000 := by
  have := ok_facts h
  rcases (by omega : p = 0 ∨ p = 1 ∨ p = 2 ∨ p = 3) with rfl | rfl | rfl | rfl
  · rw [show ten 0 = 1 from rfl] at this; rw [show ten (3 - 0) = 1000 from rfl]; omega
  · rw [show ten 1 = 10 from rfl] at this; rw [show ten (3 - 1) = 100 from rfl]; omega
  · rw [show ten 2 = 100 from rfl] at this; rw [show ten (3 - 2) = 10 from rfl]; omega
  · rw [show ten 3 = 1000 from rfl] at this; rw [show ten (3 - 3) = 1 from rfl]; omega
theorem smean_loop (l : List S25) (p : Int) (hp0 : 0 ≤ p) (hp3 : p ≤ 3) (h1 : 1 ≤ l.length) (hl : l.length ≤ 100) (d : Nat) : ∀ (k : Nat) (x i : Int), 0 ≤ i → (l.length : Int) - i = d → -(9999000 * i) ≤ x → x ≤ 9999000 * i →
    spec_DecMean.l0 (k + 10 + d) l p x i = some (if okAll l d i = true then (near (msum l d i x) (l.length * ten (3 - p)), p) else (0, 0)) := by
  induction d with
  | zero =>
    intro k x i h0 hd hx1 hx2
    have ht := spec_ten (k + 5) (3 - p) (by omega) (by omega)
    rw [show k + 5 + 4 = k + 9 by omega] at ht
    have hb := ten_bound (3 - p)
    have hm : 1 ≤ (l.length : Int) * ten (3 - p) ∧ (l.length : Int) * ten (3 - p) ≤ 100000 := by
      rcases ten_vals (3 - p) with e | e | e | e <;> rw [e] <;> omega
    have hz : 2 ≤ k + 9 := by omega
    rw [show k + 10 + 0 = (k + 9) + 1 by omega]
    generalize k + 9 = z at *
    simp only [spec_DecMean.l0, okAll, msum]
    rw [if_neg (by omega), wr (x := 3 - p) (by omega) (by omega), ht]
    simp only [Option.bind_some]
    rw [wr (x := (l.length : Int) * ten (3 - p)) (by omega) (by omega), snear2 x _ hm (by omega) (by omega) z hz]
    simp
  | succ d ih =>
    intro k x i h0 hd hx1 hx2
    have ho := spec_decok (k + 6 + d) (rd_T25 l i).f0 (rd_T25 l i).f1
    rw [show k + 6 + d + 4 = k + 10 + d by omega] at ho
    rw [show k + 10 + (d + 1) = (k + 10 + d) + 1 by omega]
    have eo : okAll l (d + 1) i = (decok (rd_T25 l i).f0 (rd_T25 l i).f1 && okAll l d (i + 1)) := rfl
    simp only [spec_DecMean.l0, msum]
    rw [if_pos (by omega), if_pos h0, ho, eo]
    simp only [Option.bind_some]
    by_cases hk : decok (rd_T25 l i).f0 (rd_T25 l i).f1 = true
    · have ha := spec_at (k + 6 + d) hk 3 (by omega) (by omega)
      rw [show k + 6 + d + 4 = k + 10 + d by omega, at3 hk] at ha
      have hs := scale3 hk
      rw [if_pos hk, ha]
      simp only [hk, Option.bind_some, Bool.true_and]
      generalize (rd_T25 l i).f0 * ten (3 - (rd_T25 l i).f1) = y at *
      rw [wr (x := x + y) (by omega) (by omega), wr (x := i + 1) (by omega) (by omega)]
      exact ih k (x + y) (i + 1) (by omega) (by omega) (by omega) (by omega)
    · rw [if_neg hk, if_neg (by simp [hk])]
theorem idecs_loop (l : List S25) (hl : l.length ≤ 100) (d : Nat) : ∀ (k : Nat) (i : Int), 0 ≤ i → (l.length : Int) - i = d → ∃ j, impl_decsOk.l0 (k + 10 + d) l i = some j ∧ decide (j ≥ 0) = !okAll l d i := by
  induction d with
  | zero =>
    intro k i h0 hd
    refine ⟨-1, ?_, rfl⟩
    rw [show k + 10 + 0 = (k + 9) + 1 by omega]
    generalize k + 9 = z at *
    simp only [impl_decsOk.l0]
    rw [if_neg (by omega)]
  | succ d ih =>
    intro k i h0 hd
    have ho := impl_decok (k + 6 + d) (rd_T25 l i).f0 (rd_T25 l i).f1
    rw [show k + 6 + d + 4 = k + 10 + d by omega] at ho
    rw [show k + 10 + (d + 1) = (k + 10 + d) + 1 by omega]
    simp only [impl_decsOk.l0, okAll]
    rw [if_pos (by omega), if_pos h0, ho]
    simp only [Option.bind_some]
    by_cases hk : decok (rd_T25 l i).f0 (rd_T25 l i).f1 = true
    · rw [if_pos hk, hk, wr (x := i + 1) (by omega) (by omega)]
      simp only [Bool.true_and]
      exact ih k (i + 1) (by omega) (by omega)
    · rw [if_neg hk, Bool.eq_false_iff.mpr hk]
      exact ⟨i, rfl, by simpa using h0⟩
theorem imean_loop (l : List S25) (p : Int) (hp0 : 0 ≤ p) (hp3 : p ≤ 3) (h1 : 1 ≤ l.length) (hl : l.length ≤ 100) (d : Nat) : ∀ (k : Nat) (x i : Int), 0 ≤ i → (l.length : Int) - i = d → -(9999000 * i) ≤ x → x ≤ 9999000 * i → okAll l d i = true →
    impl_DecMean.l0 (k + 10 + d) l p x l (l.length : Int) i = some (near (msum l d i x) (l.length * ten (3 - p)), p) := by
  induction d with
  | zero =>
    intro k x i h0 hd hx1 hx2 _
    have ht := impl_ten (k + 5) p (by omega) (by omega)
    have ht3 := impl_ten (k + 5) 3 (by omega) (by omega)
    rw [show k + 5 + 4 = k + 9 by omega] at ht ht3
    have hb : -1000000000000 ≤ x * ten p ∧ x * ten p ≤ 1000000000000 := by
      rcases ten_vals p with e | e | e | e <;> rw [e] <;> omega
    have hn := inear2 (x * ten p) ((l.length : Int) * 1000) (by omega) hb.1 hb.2 (k + 9) (by omega)
    rw [show k + 10 + 0 = (k + 9) + 1 by omega]
    generalize k + 9 = z at *
    have e3 : (1000 : Int) = ten 3 := rfl
    rw [← e3] at ht3
    rw [impl_DecMean.l0, if_neg (show ¬ i < (l.length : Int) by omega), ht, Option.bind_some, ht3, Option.bind_some, wr (x := x * ten p) (by omega) (by omega), wr (x := (l.length : Int) * 1000) (by omega) (by omega), hn, Option.bind_some, near_scale x _ p hp0 hp3]
    rfl
  | succ d ih =>
    intro k x i h0 hd hx1 hx2 hok
    simp only [okAll, Bool.and_eq_true] at hok
    have ha := impl_decat (k + 5 + d) (rd_T25 l i).f0 (rd_T25 l i).f1 3
    rw [show k + 5 + d + 5 = k + 10 + d by omega] at ha
    unfold decat at ha
    rw [if_pos ⟨hok.1, by omega, by omega⟩, at3 hok.1] at ha
    have hs := scale3 hok.1
    rw [show k + 10 + (d + 1) = (k + 10 + d) + 1 by omega]
    simp only [impl_DecMean.l0, msum]
    rw [if_pos (by omega), if_pos h0, if_pos (by omega), ha]
    simp only [Option.bind_some]
    generalize (rd_T25 l i).f0 * ten (3 - (rd_T25 l i).f1) = y at *
    rw [wr (x := x + y) (by omega) (by omega), wr (x := i + 1) (by omega) (by omega)]
    exact ih k (x + y) (i + 1) (by omega) (by omega) (by omega) (by omega) hok.2
def meanv (l : List S25) (p : Int) : Int × Int := if (1 ≤ l.length ∧ l.length ≤ 100) ∧ (0 ≤ p ∧ p ≤ 3) ∧ okAll l l.length 0 = true then (near (msum l l.length 0 0) (l.length * ten (3 - p)), p) else (0, 0)
theorem smean (l : List S25) (p : Int) (k : Nat) (hk : 130 ≤ k) : spec_DecMean.f k l p = some (meanv l p) := by
  obtain ⟨z, rfl⟩ : ∃ z, k = z + 1 := ⟨k - 1, by omega⟩
  unfold meanv spec_DecMean.f
  by_cases hl : 1 ≤ l.length ∧ l.length ≤ 100
  · rw [if_neg (show ¬ (l.length : Int) = 0 by omega), if_neg (show ¬ (l.length : Int) > 100 by omega), in_spec]
    simp only [Option.bind_some]
    by_cases hp : 0 ≤ p ∧ p ≤ 3
    · rw [decide_eq_true hp]
      have := smean_loop l p hp.1 hp.2 hl.1 hl.2 l.length (z - 10 - l.length) 0 0 (by omega) (by omega) (by omega) (by omega)
      rw [show z - 10 - l.length + 10 + l.length = z by omega] at this
      simp only [spec_DecMean.j0, Bool.not_true]
      rw [if_neg (by simp), this]
      by_cases ho : okAll l l.length 0 = true
      · rw [if_pos ho, if_pos ⟨hl, hp, ho⟩]
      · rw [if_neg ho, if_neg (fun c => ho c.2.2)]
    · rw [decide_eq_false hp, if_neg (fun c => hp c.2.1)]
      simp [spec_DecMean.j0]
  · rw [if_neg (show ¬ ((1 ≤ l.length ∧ l.length ≤ 100) ∧ (0 ≤ p ∧ p ≤ 3) ∧ okAll l l.length 0 = true) from fun c => hl c.1)]
    by_cases h0 : (l.length : Int) = 0
    · rw [if_pos h0, spec_DecMean.j0, if_pos rfl]
    · rw [if_neg h0, if_pos (show (l.length : Int) > 100 by omega), spec_DecMean.j0, if_pos rfl]
theorem imean (l : List S25) (p : Int) (k : Nat) (hk : 130 ≤ k) : impl_DecMean.f k l p = some (meanv l p) := by
  obtain ⟨z, rfl⟩ : ∃ z, k = z + 1 := ⟨k - 1, by omega⟩
  unfold meanv impl_DecMean.f
  rw [in_impl]
  simp only [Option.bind_some, decide_eq_true_eq]
  by_cases hl : 1 ≤ l.length ∧ l.length ≤ 100
  · rw [if_pos (by omega)]
    obtain ⟨j, hj, hd⟩ := idecs_loop l hl.2 l.length (z + 1 - 10 - l.length) 0 (by omega) (by omega)
    rw [show z + 1 - 10 - l.length + 10 + l.length = z + 1 by omega] at hj
    unfold impl_decsOk.f
    rw [hj]
    simp only [Option.bind_some, hd, Bool.not_not]
    by_cases ho : okAll l l.length 0 = true
    · rw [if_pos ho, in_impl]
      simp only [Option.bind_some]
      by_cases hp : 0 ≤ p ∧ p ≤ 3
      · rw [decide_eq_true hp]
        have := imean_loop l p hp.1 hp.2 hl.1 hl.2 l.length (z - 10 - l.length) 0 0 (by omega) (by omega) (by omega) (by omega) ho
        rw [show z - 10 - l.length + 10 + l.length = z by omega] at this
        simp only [impl_DecMean.j0, Bool.not_true]
        rw [if_neg (by simp), this, if_pos ⟨hl, hp, ho⟩]
      · rw [decide_eq_false hp, if_neg (fun c => hp c.2.1)]
        simp [impl_DecMean.j0]
    · rw [if_neg ho, if_neg (fun c => ho c.2.2)]
      simp [impl_DecMean.j0]
  · rw [if_neg (show ¬ ((1 ≤ l.length ∧ l.length ≤ 100) ∧ (0 ≤ p ∧ p ≤ 3) ∧ okAll l l.length 0 = true) from fun c => hl c.1), if_neg (by omega), impl_DecMean.j0, if_pos rfl]
theorem FnExactDecMean : laws_FnExactDecMean.Pure := by
  intro l p hl _
  have big : l.length ≤ 9223372036854775807 := Nat.le_trans hl.1 (by decide)
  clear hl
  by_cases h : (1048576 - (l.length : Int)) < 0
  · refine ⟨0, ?_⟩
    unfold laws_FnExactDecMean.f laws_szDecDecS.f
    rw [wr (x := 1048576 - (l.length : Int)) (by omega) (by omega), if_pos h]
    simp
  · refine ⟨l.length + 130, ?_⟩
    have h1 : l.length ≤ 1048576 := by omega
    have t1 := to_decs l h1 (l.length + 130) (by omega)
    have hL : (l.map convD).length = l.length := by simp
    have q := eq_decs (l.map convD) (by omega) (l.length + 130) (by omega)
    have s := smean (l.map convD) p (l.length + 130) (by omega)
    have i := imean (l.map convD) p (l.length + 130) (by omega)
    generalize l.map convD = L at *
    generalize meanv L p = T at *
    unfold laws_FnExactDecMean.f laws_szDecDecS.f laws_eqDecDec.f
    rw [wr (x := 1048576 - (l.length : Int)) (by omega) (by omega), if_neg h, t1]
    simp only [Option.bind_some, s, i, if_true, q]
    rw [if_neg h]

end Go.Proofs.Ytpinmagodpplaaa.Pure
