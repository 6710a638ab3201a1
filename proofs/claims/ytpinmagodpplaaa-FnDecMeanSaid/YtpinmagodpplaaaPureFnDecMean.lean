/- The mean of decimals lies between the least and the greatest, has as many places, hangs on no order, and of one is that one, at every code: the law's pure statement; no conditions. -/
import Derived.Test.YtpinmagodpplaaaAllx0
import Derived.Test.YtpinmagodpplaaaAllx2
import Derived.Test.YtpinmagodpplaaaAllx3
import Derived.Test.YtpinmagodpplaaaAllx4
import Derived.Test.YtpinmagodpplaaaAllx5
import Derived.Test.YtpinmagodpplaaaAllx6
import Derived.Test.YtpinmagodpplaaaAllx7
import Derived.Test.YtpinmagodpplaaaAllx8
set_option linter.unusedVariables false
set_option linter.unusedSimpArgs false
namespace Go.Proofs.Ytpinmagodpplaaa.Pure
open Go.RowKit Go.Proofs.Ytpinmagodpplaaa.All Go.Proofs.YtpinmagodpplaaaW.PrintWords Go.Proofs.YtpinmagodpplaaaW.PrintLast Go.Proofs.YtpinmagodpplaaaW.PrintMore

theorem wr {x : Int} (h1 : -9223372036854775808 ≤ x) (h2 : x ≤ 9223372036854775807) : wrap64 x = x := by unfold wrap64; omega
theorem wf8 {x : Int} (h : (Lit.int .u8 x).wf = true) : 0 ≤ x ∧ x ≤ 255 := by
  simp only [Lit.wf, Bool.and_eq_true, decide_eq_true_eq] at h
  have h1 : IntKind.u8.min = 0 := by decide
  have h2 : IntKind.u8.max = 255 := by decide
  omega
theorem tmod0 (a n : Int) : (Int.tmod a n = 0) = (a % n = 0) := by
  rw [← Int.dvd_iff_tmod_eq_zero, Int.dvd_iff_emod_eq_zero]
theorem evs {α : Type} {g : Nat → Option α} {r : α} (K : Nat) (h : ∀ k, K ≤ k → g k = some r) : Ev g r := ⟨K, h⟩
theorem xor_pos (x y : Int) (hx : 0 ≤ x) (hx2 : x < 1099511627776) (hy : 0 ≤ y) (hy2 : y < 1099511627776) : 0 ≤ Go.bits .xor .i64 x y ∧ Go.bits .xor .i64 x y ≤ 1099511627776 := by
  obtain ⟨a, rfl⟩ := Int.eq_ofNat_of_zero_le hx
  obtain ⟨b, rfl⟩ := Int.eq_ofNat_of_zero_le hy
  have e : (BitVec.ofInt 64 (a : Int) ^^^ BitVec.ofInt 64 (b : Int)).toNat = a ^^^ b := by
    rw [BitVec.toNat_xor, BitVec.toNat_ofInt, BitVec.toNat_ofInt]
    congr 1 <;> omega
  have hlt : a ^^^ b < 2 ^ 40 := Nat.xor_lt_two_pow (by omega) (by omega)
  unfold Go.bits
  show 0 ≤ IntKind.i64.wrap ((BitVec.ofInt 64 (a : Int) ^^^ BitVec.ofInt 64 (b : Int)).toNat : Int) ∧ IntKind.i64.wrap ((BitVec.ofInt 64 (a : Int) ^^^ BitVec.ofInt 64 (b : Int)).toNat : Int) ≤ 1099511627776
  rw [e, IntKind.wrap_i64]
  omega
def Code (b : List Int) : Prop := b.length ≤ 2000 ∧ ∀ x ∈ b, 0 ≤ x ∧ x ≤ 255
theorem rd_code {b : List Int} (h : Code b) (i : Int) : 0 ≤ rd b i ∧ rd b i ≤ 255 := by
  unfold rd
  by_cases hi : i.toNat < b.length
  · rw [List.getD_eq_getElem?_getD, List.getElem?_eq_getElem hi]
    exact h.2 _ (List.getElem_mem hi)
  · rw [List.getD_eq_getElem?_getD, List.getElem?_eq_none (by omega)]
    exact ⟨by decide, by decide⟩
theorem open_some (l : List Int) (h : ∀ x ∈ l, (Lit.int .u8 x).wf = true) : ∃ b, Code b ∧ spec_l20Open.f l = some (b, 0) := by
  unfold spec_l20Open.f
  by_cases hl : (l.length : Int) > 2000
  · rw [if_pos hl, if_pos (by omega)]
    exact ⟨_, ⟨by rw [List.length_take]; omega, fun x hx => wf8 (h x (List.mem_of_mem_take hx))⟩, rfl⟩
  · rw [if_neg hl]
    exact ⟨_, ⟨by omega, fun x hx => wf8 (h x hx)⟩, rfl⟩
theorem pick_any (b : List Int) (hb : Code b) (p n : Int) (h0 : 0 ≤ p) (hp : p ≤ 1000000) (hn : n ≤ 1000000) :
    ∃ v, 0 ≤ v ∧ (1 ≤ n → v < n) ∧ (n < 1 → v = 0) ∧ Ev (fun k => spec_l20Rd_pick.f k b p n) (v, p + 1) := by
  have ep : wrap64 (p + 1) = p + 1 := wr (by omega) (by omega)
  have ep2 : wrap64 (p + 1 - 1) = p := by rw [show p + 1 - 1 = p by omega]; exact wr (by omega) (by omega)
  have eu : ∀ i, wrap64 (rd b i) = rd b i := fun i => by have := rd_code hb i; exact wr (by omega) (by omega)
  by_cases h1 : n < 1
  · refine ⟨0, by omega, by omega, fun _ => rfl, evs 1 fun k hk => ?_⟩
    obtain ⟨k, rfl⟩ : ∃ m, k = m + 1 := ⟨k - 1, by omega⟩
    simp only [spec_l20Rd_pick.f]
    rw [if_pos h1]; simp only [spec_l20Rd_pick.j0]
    rw [if_pos trivial, ep]
  · by_cases h2 : (b.length : Int) = 0
    · refine ⟨0, by omega, by omega, by omega, evs 1 fun k hk => ?_⟩
      obtain ⟨k, rfl⟩ : ∃ m, k = m + 1 := ⟨k - 1, by omega⟩
      simp only [spec_l20Rd_pick.f]
      rw [if_neg h1, h2]; simp only [spec_l20Rd_pick.j0]
      rw [if_pos (by first | trivial | rfl), ep]
    · have hlen := hb.1
      have e2 : ((b.length : Int) == 0) = false := by simpa using h2
      by_cases h3 : p < (b.length : Int)
      · refine ⟨Int.tmod (rd b p) n, Int.tmod_nonneg _ (rd_code hb p).1, fun h => Int.tmod_lt_of_pos _ (by omega), by omega, evs 1 fun k hk => ?_⟩
        obtain ⟨k, rfl⟩ : ∃ m, k = m + 1 := ⟨k - 1, by omega⟩
        simp only [spec_l20Rd_pick.f]
        rw [if_neg h1, e2]; simp only [spec_l20Rd_pick.j0]
        rw [if_neg (by simp), ep, ep2, if_pos h3, if_pos h0, if_neg (by omega), eu]
      · have q1 := Int.tmod_nonneg (b.length : Int) h0
        have q2 := Int.tmod_lt_of_pos p (b := (b.length : Int)) (by omega)
        have w7 : wrap64 (wrap64 (p * 7) + 3) = p * 7 + 3 := by rw [wr (x := p * 7) (by omega) (by omega)]; exact wr (by omega) (by omega)
        have q3 := Int.tmod_nonneg (b.length : Int) (show 0 ≤ p * 7 + 3 by omega)
        have q4 := Int.tmod_lt_of_pos (p * 7 + 3) (b := (b.length : Int)) (by omega)
        have r1 := rd_code hb (Int.tmod p b.length)
        have r2 := rd_code hb (Int.tmod (p * 7 + 3) b.length)
        have d1 : 0 ≤ Int.tdiv p b.length ∧ Int.tdiv p b.length ≤ p := by
          rw [Int.tdiv_eq_ediv_of_nonneg h0]
          exact ⟨Int.ediv_nonneg h0 (by omega), Int.ediv_le_self _ h0⟩
        generalize hX : Int.tdiv p b.length = X at d1
        generalize hA : rd b (Int.tmod p b.length) = A at r1
        generalize hB : rd b (Int.tmod (p * 7 + 3) b.length) = B at r2
        have wA0 : wrap64 A = A := wr (by omega) (by omega)
        have wB0 : wrap64 B = B := wr (by omega) (by omega)
        have wA : wrap64 (A * 131) = A * 131 := wr (by omega) (by omega)
        have wB : wrap64 (B * 1117) = B * 1117 := wr (by omega) (by omega)
        have wS : wrap64 (A * 131 + B * 1117) = A * 131 + B * 1117 := wr (by omega) (by omega)
        have wp : wrap64 (p * 29) = p * 29 := wr (by omega) (by omega)
        have wS2 : wrap64 (A * 131 + B * 1117 + p * 29) = A * 131 + B * 1117 + p * 29 := wr (by omega) (by omega)
        have wX : wrap64 X = X := wr (by omega) (by omega)
        have wX2 : wrap64 (X * 53) = X * 53 := wr (by omega) (by omega)
        have wS3 : wrap64 (A * 131 + B * 1117 + p * 29 + X * 53) = A * 131 + B * 1117 + p * 29 + X * 53 := wr (by omega) (by omega)
        have hS : 0 ≤ A * 131 + B * 1117 + p * 29 + X * 53 ∧ A * 131 + B * 1117 + p * 29 + X * 53 ≤ 100000000 := by omega
        generalize hT : A * 131 + B * 1117 + p * 29 + X * 53 = T at hS wS3
        have w64 : wrap64 (Int.tdiv T 64) = T / 64 := by rw [Int.tdiv_eq_ediv_of_nonneg hS.1]; exact wr (by omega) (by omega)
        have hx := xor_pos T (T / 64) hS.1 (by omega) (by omega) (by omega)
        refine ⟨Int.tmod (Go.bits .xor .i64 T (T / 64)) n, Int.tmod_nonneg _ hx.1, fun h => Int.tmod_lt_of_pos _ (by omega), by omega, evs 1 fun k hk => ?_⟩
        obtain ⟨k, rfl⟩ : ∃ m, k = m + 1 := ⟨k - 1, by omega⟩
        simp only [spec_l20Rd_pick.f]
        rw [if_neg h1, e2]; simp only [spec_l20Rd_pick.j0]
        rw [if_neg (by simp), ep, ep2, if_neg h3, if_neg h2, if_pos q1, if_pos q2, w7, if_pos q3, if_pos q4, if_neg (by omega)]
        simp only [eu, hX, hA, hB, wA0, wB0, wA, wB, wS, wp, wS2, wX, wX2, hT, wS3, w64]
theorem pick_pos (b : List Int) (hb : Code b) (p n : Int) (h0 : 0 ≤ p) (hp : p ≤ 1000000) (h1 : 1 ≤ n) (hn : n ≤ 1000000) :
    ∃ v, 0 ≤ v ∧ v < n ∧ Ev (fun k => spec_l20Rd_pick.f k b p n) (v, p + 1) := by
  obtain ⟨v, a, c, _, e⟩ := pick_any b hb p n h0 hp hn
  exact ⟨v, a, c h1, e⟩
def leap (y : Int) : Bool := decide (y % 4 = 0 ∧ (y % 100 ≠ 0 ∨ y % 400 = 0))
theorem tb (a n : Int) : (Int.tmod a n == 0) = decide (a % n = 0) := by
  rw [← decide_eq_decide.mpr (iff_of_eq (tmod0 a n))]
  rfl
theorem impl_leap (y : Int) : impl_DayLeap.f y = some (leap y) := by
  unfold impl_DayLeap.f leap
  simp only [tmod0, tb]
  by_cases h4 : y % 4 = 0 <;> by_cases h1 : y % 100 = 0 <;> by_cases h2 : y % 400 = 0 <;> simp [h4, h1, h2]
def dl (y m : Int) : Int := if 1 ≤ m ∧ m ≤ 12 then (if m = 2 then (if leap y = true then 29 else 28) else impl_DayLast.tab m) else 0
theorem impl_last (y m : Int) : impl_DayLast.f y m = some (dl y m) := by
  unfold impl_DayLast.f dl
  by_cases h1 : m ≥ 1
  · by_cases h2 : m ≤ 12
    · rw [if_pos h1, if_pos h2, if_pos (show 1 ≤ m ∧ m ≤ 12 from ⟨h1, h2⟩)]
      by_cases h3 : m = 2
      · simp only [if_pos h3, impl_leap]
        cases leap y <;> rfl
      · simp only [if_neg h3]
    · rw [if_pos h1, if_neg h2, if_neg (by omega)]
  · rw [if_neg h1, if_neg (by omega)]
theorem in_impl (a b c : Int) : impl_in.f a b c = some (decide (b ≤ a ∧ a ≤ c)) := by
  unfold impl_in.f
  by_cases h : a ≥ b
  · rw [if_pos h]; simp [show b ≤ a from h]
  · rw [if_neg h]; simp [show ¬ b ≤ a from h]
theorem in_spec (a b c : Int) : spec_l1In.f a b c = some (decide (b ≤ a ∧ a ≤ c)) := by
  unfold spec_l1In.f
  by_cases h : a ≥ b
  · rw [if_pos h]; simp [show b ≤ a from h]
  · rw [if_neg h]; simp [show ¬ b ≤ a from h]
def dok (y m d : Int) : Bool := decide (1900 ≤ y ∧ y ≤ 2199 ∧ 1 ≤ m ∧ m ≤ 12 ∧ 1 ≤ d ∧ d ≤ dl y m)
theorem impl_ok (y m d : Int) : impl_DayOk.f y m d = some (dok y m d) := by
  unfold impl_DayOk.f dok
  rw [in_impl, impl_last]
  simp only [Option.bind_some, in_impl, decide_eq_true_eq]
  have hd : ¬ (1 ≤ m ∧ m ≤ 12) → dl y m = 0 := fun h => by unfold dl; rw [if_neg h]
  by_cases h1 : 1900 ≤ y ∧ y ≤ 2199
  · rw [if_pos h1]; congr 1; rw [decide_eq_decide]
    by_cases h : 1 ≤ m ∧ m ≤ 12
    · omega
    · have := hd h
      omega
  · rw [if_neg h1]; congr 1; symm; rw [decide_eq_false_iff_not]; omega
theorem cu_ok : laws_cuOk.f = some true := by
  unfold laws_cuOk.f
  rw [impl_ok]
  rfl
def ten (p : Int) : Int := if p ≤ 0 then 1 else if p = 1 then 10 else if p = 2 then 100 else 1000
theorem spec_ten (k : Nat) (p : Int) (h0 : 0 ≤ p) (h3 : p ≤ 3) : spec_l1Ten.f (k + 4) p = some (ten p) := by
  rcases (by omega : p = 0 ∨ p = 1 ∨ p = 2 ∨ p = 3) with rfl | rfl | rfl | rfl
  all_goals
    simp only [spec_l1Ten.f, spec_l1Ten.l0]
    simp [wrap64, ten]
theorem impl_ten (k : Nat) (p : Int) (h0 : 0 ≤ p) (h3 : p ≤ 3) : impl_power.f (k + 4) p = some (ten p) := by
  rcases (by omega : p = 0 ∨ p = 1 ∨ p = 2 ∨ p = 3) with rfl | rfl | rfl | rfl
  all_goals
    simp only [impl_power.f, impl_power.l0]
    simp [wrap64, ten]
theorem ten_bound (p : Int) : 1 ≤ ten p ∧ ten p ≤ 1000 := by
  unfold ten
  repeat' split
  all_goals omega
def decok (n p : Int) : Bool := decide (0 ≤ p ∧ p ≤ 3 ∧ -(9999 * ten p) ≤ n ∧ n ≤ 9999 * ten p)
theorem impl_decok (k : Nat) (n p : Int) : impl_DecOk.f (k + 4) n p = some (decok n p) := by
  unfold impl_DecOk.f decok
  rw [in_impl]
  by_cases h : 0 ≤ p ∧ p ≤ 3
  · have hb := ten_bound p
    rw [decide_eq_true h]
    simp only [Option.bind_some, if_true, impl_ten k p h.1 h.2, in_impl]
    rw [wr (x := -9999 * ten p) (by omega) (by omega), wr (x := 9999 * ten p) (by omega) (by omega)]
    congr 1; rw [decide_eq_decide]; omega
  · rw [decide_eq_false h]
    simp only [Option.bind_some]
    rw [if_neg (by simp)]; congr 1; symm; rw [decide_eq_false_iff_not]; omega
theorem spec_decok (k : Nat) (n p : Int) : spec_DecOk.f (k + 4) n p = some (decok n p) := by
  unfold spec_DecOk.f decok
  rw [in_spec]
  by_cases h : 0 ≤ p ∧ p ≤ 3
  · have hb := ten_bound p
    rw [decide_eq_true h]
    simp only [Option.bind_some, if_true, spec_ten k p h.1 h.2, in_spec]
    rw [wr (x := -9999 * ten p) (by omega) (by omega), wr (x := 9999 * ten p) (by omega) (by omega)]
    congr 1; rw [decide_eq_decide]; omega
  · rw [decide_eq_false h]
    simp only [Option.bind_some]
    rw [if_neg (by simp)]; congr 1; symm; rw [decide_eq_false_iff_not]; omega
theorem ten_vals (p : Int) : ten p = 1 ∨ ten p = 10 ∨ ten p = 100 ∨ ten p = 1000 := by
  unfold ten
  repeat' split
  all_goals simp
def near (n t : Int) : Int := if n < 0 then -((2 * (-n) + t) / (2 * t)) else (2 * n + t) / (2 * t)
theorem near_bound (n t : Int) (ht : 1 ≤ t ∧ t ≤ 1000) (h0 : 0 ≤ n) : 0 ≤ (2 * n + t) / (2 * t) ∧ (2 * n + t) / (2 * t) ≤ 2 * n + t :=
  ⟨Int.ediv_nonneg (by omega) (by omega), Int.ediv_le_self _ (by omega)⟩
theorem spec_near_pos (n t : Int) (ht : 1 ≤ t ∧ t ≤ 1000) (h0 : 0 ≤ n) (h1 : n ≤ 10000000) (z : Nat) : spec_l1Near.f (z + 1) n t = some ((2 * n + t) / (2 * t)) := by
  have hb := near_bound n t ht h0
  simp only [spec_l1Near.f]
  rw [if_neg (by omega), wr (x := 2 * t) (by omega) (by omega), if_neg (by omega), wr (x := 2 * n) (by omega) (by omega), wr (x := 2 * n + t) (by omega) (by omega), Int.tdiv_eq_ediv_of_nonneg (by omega), wr (x := (2 * n + t) / (2 * t)) (by omega) (by omega)]
theorem spec_near (n t : Int) (ht : 1 ≤ t ∧ t ≤ 1000) (h0 : -10000000 ≤ n) (h1 : n ≤ 10000000) (k : Nat) : spec_l1Near.f (k + 2) n t = some (near n t) := by
  unfold near
  by_cases h : n < 0
  · have e := spec_near_pos (-n) t ht (by omega) (by omega) k
    have hb := near_bound (-n) t ht (by omega)
    rw [if_pos h, show k + 2 = (k + 1) + 1 from rfl]
    generalize k + 1 = z at *
    simp only [spec_l1Near.f]
    rw [if_pos h, wr (x := -n) (by omega) (by omega), e]
    simp only [Option.bind_some]
    rw [wr (by omega) (by omega)]
  · rw [if_neg h]
    exact spec_near_pos n t ht (by omega) h1 (k + 1)
theorem impl_near_pos (n t : Int) (ht : 1 ≤ t ∧ t ≤ 1000) (h0 : 0 ≤ n) (h1 : n ≤ 10000000) (z : Nat) : impl_nearest.f (z + 1) n t = some ((2 * n + t) / (2 * t)) := by
  have hb := near_bound n t ht h0
  simp only [impl_nearest.f]
  rw [if_neg (by omega), wr (x := 2 * t) (by omega) (by omega), if_neg (by omega), wr (x := 2 * n) (by omega) (by omega), wr (x := 2 * n + t) (by omega) (by omega), Int.tdiv_eq_ediv_of_nonneg (by omega), wr (x := (2 * n + t) / (2 * t)) (by omega) (by omega)]
theorem impl_near (n t : Int) (ht : 1 ≤ t ∧ t ≤ 1000) (h0 : -10000000 ≤ n) (h1 : n ≤ 10000000) (k : Nat) : impl_nearest.f (k + 2) n t = some (near n t) := by
  unfold near
  by_cases h : n < 0
  · have e := impl_near_pos (-n) t ht (by omega) (by omega) k
    have hb := near_bound (-n) t ht (by omega)
    rw [if_pos h, show k + 2 = (k + 1) + 1 from rfl]
    generalize k + 1 = z at *
    simp only [impl_nearest.f]
    rw [if_pos h, wr (x := -n) (by omega) (by omega), e]
    simp only [Option.bind_some]
    rw [wr (by omega) (by omega)]
  · rw [if_neg h]
    exact impl_near_pos n t ht (by omega) h1 (k + 1)
def at_ (n p q : Int) : Int × Int := if q ≥ p then (n * ten (q - p), q) else (near n (ten (p - q)), q)
def decat (n p q : Int) : Int × Int := if decok n p = true ∧ 0 ≤ q ∧ q ≤ 3 then at_ n p q else (0, 0)
theorem ok_facts {n p : Int} (h : decok n p = true) : 0 ≤ p ∧ p ≤ 3 ∧ -(9999 * ten p) ≤ n ∧ n ≤ 9999 * ten p ∧ ten p ≤ 1000 := by
  unfold decok at h
  rw [decide_eq_true_eq] at h
  have := ten_bound p
  omega
theorem scale_bound {n p : Int} (h : decok n p = true) (q : Int) : -9999000000 ≤ n * ten q ∧ n * ten q ≤ 9999000000 := by
  have := ok_facts h
  rcases ten_vals q with e | e | e | e <;> rw [e] <;> omega
theorem spec_at (k : Nat) {n p : Int} (h : decok n p = true) (q : Int) (h0 : 0 ≤ q) (h3 : q ≤ 3) : spec_l1At.f (k + 4) n p q = some (at_ n p q) := by
  have ho := ok_facts h
  unfold spec_l1At.f at_
  by_cases hq : q ≥ p
  · have hs := scale_bound h (q - p)
    rw [if_pos hq, if_pos hq, wr (x := q - p) (by omega) (by omega), spec_ten k (q - p) (by omega) (by omega)]
    simp only [Option.bind_some]
    rw [wr (by omega) (by omega)]
  · rw [if_neg hq, if_neg hq, wr (x := p - q) (by omega) (by omega), spec_ten k (p - q) (by omega) (by omega)]
    simp only [Option.bind_some]
    rw [show k + 4 = (k + 2) + 2 from rfl, spec_near n _ (ten_bound _) (by omega) (by omega)]
    rfl
theorem impl_decat (k : Nat) (n p q : Int) : impl_DecAt.f (k + 5) n p q = some (decat n p q) := by
  have no : impl_DecAt.j0 (k + 5) q true n p = some (0, 0) := by
    rw [show k + 5 = (k + 4) + 1 from rfl]
    generalize k + 4 = z
    simp only [impl_DecAt.j0]
    rw [if_pos trivial]
  unfold impl_DecAt.f decat
  rw [show k + 5 = (k + 1) + 4 from rfl, impl_decok]
  simp only [Option.bind_some]
  by_cases h : decok n p = true
  · have ho := ok_facts h
    rw [if_pos h, in_impl]
    simp only [Option.bind_some]
    by_cases hq : 0 ≤ q ∧ q ≤ 3
    · rw [decide_eq_true hq, if_pos ⟨h, hq⟩, show k + 1 + 4 = (k + 4) + 1 from rfl]
      unfold at_
      by_cases hp : q ≥ p
      · have hs := scale_bound h (q - p)
        have e := impl_ten k (q - p) (by omega) (by omega)
        generalize k + 4 = z at *
        simp only [impl_DecAt.j0]
        rw [if_neg (by simp), if_pos hp, if_pos hp, wr (x := q - p) (by omega) (by omega), e]
        simp only [Option.bind_some]
        rw [wr (by omega) (by omega)]
      · have e := impl_ten k (p - q) (by omega) (by omega)
        have e2 := impl_near n (ten (p - q)) (ten_bound _) (by omega) (by omega) (k + 2)
        rw [show k + 2 + 2 = k + 4 from rfl] at e2
        generalize k + 4 = z at *
        simp only [impl_DecAt.j0]
        rw [if_neg (by simp), if_neg hp, if_neg hp, wr (x := p - q) (by omega) (by omega), e]
        simp only [Option.bind_some, e2]
    · rw [decide_eq_false hq, if_neg (fun g => hq g.2)]
      exact no
  · rw [if_neg h, if_neg (fun g => h g.1)]
    exact no
def cmp3 (n p m q : Int) : Int := if decok n p = true ∧ decok m q = true then (if n * ten (3 - p) < m * ten (3 - q) then -1 else if n * ten (3 - p) > m * ten (3 - q) then 1 else 0) else 0
theorem at3 {n p : Int} (h : decok n p = true) : at_ n p 3 = (n * ten (3 - p), 3) := by
  have := ok_facts h
  unfold at_
  rw [if_pos (by omega)]
theorem compare_int (a b : Int) : cmp_Compare_int.f a b = some (if a < b then -1 else if a > b then 1 else 0) := by
  unfold cmp_Compare_int.f cmp_isNaN_int.f
  simp only [Option.bind_some]
  by_cases h1 : a < b
  · simp [h1]
  · by_cases h2 : b < a
    · simp [h1, h2]
    · simp [h1, h2]
theorem impl_cmp (k : Nat) (n p m q : Int) : impl_DecCmp.f (k + 6) n p m q = some (cmp3 n p m q) := by
  have no : impl_DecCmp.j0 (k + 6) true n p m q = some 0 := by
    rw [show k + 6 = (k + 5) + 1 from rfl]
    generalize k + 5 = z
    simp only [impl_DecCmp.j0]
    rw [if_pos trivial]
  unfold impl_DecCmp.f cmp3
  rw [show k + 6 = (k + 2) + 4 from rfl, impl_decok]
  simp only [Option.bind_some]
  by_cases h : decok n p = true
  · rw [if_pos h, impl_decok]
    simp only [Option.bind_some]
    by_cases g : decok m q = true
    · have e1 := impl_decat k n p 3
      have e2 := impl_decat k m q 3
      unfold decat at e1 e2
      rw [if_pos ⟨h, by omega, by omega⟩, at3 h] at e1
      rw [if_pos ⟨g, by omega, by omega⟩, at3 g] at e2
      rw [g, if_pos ⟨h, rfl⟩, show k + 2 + 4 = (k + 5) + 1 from rfl]
      generalize k + 5 = z at *
      simp only [impl_DecCmp.j0, e1, e2, Option.bind_some, compare_int]
      rw [if_neg (by simp)]
    · rw [Bool.not_eq_true] at g
      rw [g, if_neg (by simp)]
      exact no
  · rw [if_neg h, if_neg (fun g => h g.1)]
    exact no
theorem dec_draw (b : List Int) (hb : Code b) (p n : Int) (h0 : 0 ≤ p) (hp : p ≤ 800000) (hn : 1 ≤ n) (hn2 : n ≤ 1000000) :
    ∃ x m q, (p ≤ q ∧ q ≤ p + 6) ∧ Ev (fun k => spec_l20Dec.f k b p n) (x, m, q) := by
  obtain ⟨v1, a1, c1, ⟨K1, e1⟩⟩ := pick_pos b hb p 4 h0 (by omega) (by omega) (by omega)
  obtain ⟨v2, a2, c2, ⟨K2, e2⟩⟩ := pick_pos b hb (p + 1) 256 (by omega) (by omega) (by omega) (by omega)
  obtain ⟨v3, a3, c3, ⟨K3, e3⟩⟩ := pick_pos b hb (p + 1 + 1) 9 (by omega) (by omega) (by omega) (by omega)
  obtain ⟨v4, a4, c4, ⟨K4, e4⟩⟩ := pick_pos b hb (p + 1 + 1 + 1) n (by omega) (by omega) hn hn2
  obtain ⟨v5, a5, c5, ⟨K5, e5⟩⟩ := pick_pos b hb (p + 1 + 1 + 1 + 1) 2 (by omega) (by omega) (by omega) (by omega)
  obtain ⟨v6, a6, c6, ⟨K6, e6⟩⟩ := pick_pos b hb (p + 1 + 1 + 1 + 1 + 1) 2 (by omega) (by omega) (by omega) (by omega)
  dsimp only at e1 e2 e3 e4 e5 e6
  have et : ∀ k, 4 ≤ k → spec_l1Ten.f k v1 = some (ten v1) := by
    intro k hk
    have := spec_ten (k - 4) v1 a1 (by omega)
    rwa [show k - 4 + 4 = k by omega] at this
  by_cases h1 : v4 = 0
  · by_cases h2 : v5 = 0
    · refine ⟨rd [0, 5, 15, 149, 995, -25, wrap64 (9999 * ten v1), wrap64 (-9999 * ten v1), wrap64 (v2 * 7)] v3, rd [-1, 4] v6, p + 1 + 1 + 1 + 1 + 1 + 1, by omega, max K1 (max K2 (max K3 (max K4 (max K5 K6)))) + 4, fun k hk => ?_⟩
      unfold spec_l20Dec.f
      simp only [Option.bind_some, e1 k (by omega), e2 k (by omega), e3 k (by omega), e4 k (by omega), et k (by omega)]
      rw [if_pos a3, if_pos (by simpa using c3), if_pos h1, e5 k (by omega)]
      simp only [Option.bind_some]
      rw [if_pos h2, e6 k (by omega)]
      simp only [Option.bind_some]
      rw [if_pos a6, if_pos (by simpa using c6)]
    · refine ⟨rd [wrap64 (wrap64 (9999 * ten v1) + 1), wrap64 (wrap64 (-9999 * ten v1) - 1)] v6, v1, p + 1 + 1 + 1 + 1 + 1 + 1, by omega, max K1 (max K2 (max K3 (max K4 (max K5 K6)))) + 4, fun k hk => ?_⟩
      unfold spec_l20Dec.f
      simp only [Option.bind_some, e1 k (by omega), e2 k (by omega), e3 k (by omega), e4 k (by omega), et k (by omega)]
      rw [if_pos a3, if_pos (by simpa using c3), if_pos h1, e5 k (by omega)]
      simp only [Option.bind_some]
      rw [if_neg h2, e6 k (by omega)]
      simp only [Option.bind_some]
      rw [if_pos a6, if_pos (by simpa using c6)]
  · refine ⟨rd [0, 5, 15, 149, 995, -25, wrap64 (9999 * ten v1), wrap64 (-9999 * ten v1), wrap64 (v2 * 7)] v3, v1, p + 1 + 1 + 1 + 1, by omega, max K1 (max K2 (max K3 K4)) + 4, fun k hk => ?_⟩
    unfold spec_l20Dec.f
    simp only [Option.bind_some, e1 k (by omega), e2 k (by omega), e3 k (by omega), e4 k (by omega), et k (by omega)]
    rw [if_pos a3, if_pos (by simpa using c3), if_neg h1]
theorem near2_bound (n t : Int) (ht : 1 ≤ t ∧ t ≤ 100000) (h0 : 0 ≤ n) : 0 ≤ (2 * n + t) / (2 * t) ∧ (2 * n + t) / (2 * t) ≤ 2 * n + t :=
  ⟨Int.ediv_nonneg (by omega) (by omega), Int.ediv_le_self _ (by omega)⟩
theorem snear2_pos (n t : Int) (ht : 1 ≤ t ∧ t ≤ 100000) (h0 : 0 ≤ n) (h1 : n ≤ 1000000000000) (z : Nat) : spec_l1Near.f (z + 1) n t = some ((2 * n + t) / (2 * t)) := by
  have hb := near2_bound n t ht h0
  simp only [spec_l1Near.f]
  rw [if_neg (by omega), wr (x := 2 * t) (by omega) (by omega), if_neg (by omega), wr (x := 2 * n) (by omega) (by omega), wr (x := 2 * n + t) (by omega) (by omega), Int.tdiv_eq_ediv_of_nonneg (by omega), wr (x := (2 * n + t) / (2 * t)) (by omega) (by omega)]
theorem snear2 (n t : Int) (ht : 1 ≤ t ∧ t ≤ 100000) (h0 : -1000000000000 ≤ n) (h1 : n ≤ 1000000000000) (k : Nat) (hk : 2 ≤ k) : spec_l1Near.f k n t = some (near n t) := by
  obtain ⟨z, rfl⟩ : ∃ z, k = z + 1 + 1 := ⟨k - 2, by omega⟩
  unfold near
  by_cases h : n < 0
  · have e := snear2_pos (-n) t ht (by omega) (by omega) z
    have hb := near2_bound (-n) t ht (by omega)
    rw [if_pos h]
    generalize z + 1 = z at *
    simp only [spec_l1Near.f]
    rw [if_pos h, wr (x := -n) (by omega) (by omega), e]
    simp only [Option.bind_some]
    rw [wr (by omega) (by omega)]
  · rw [if_neg h]
    exact snear2_pos n t ht (by omega) h1 (z + 1)
theorem inear2_pos (n t : Int) (ht : 1 ≤ t ∧ t ≤ 100000) (h0 : 0 ≤ n) (h1 : n ≤ 1000000000000) (z : Nat) : impl_nearest.f (z + 1) n t = some ((2 * n + t) / (2 * t)) := by
  have hb := near2_bound n t ht h0
  simp only [impl_nearest.f]
  rw [if_neg (by omega), wr (x := 2 * t) (by omega) (by omega), if_neg (by omega), wr (x := 2 * n) (by omega) (by omega), wr (x := 2 * n + t) (by omega) (by omega), Int.tdiv_eq_ediv_of_nonneg (by omega), wr (x := (2 * n + t) / (2 * t)) (by omega) (by omega)]
theorem inear2 (n t : Int) (ht : 1 ≤ t ∧ t ≤ 100000) (h0 : -1000000000000 ≤ n) (h1 : n ≤ 1000000000000) (k : Nat) (hk : 2 ≤ k) : impl_nearest.f k n t = some (near n t) := by
  obtain ⟨z, rfl⟩ : ∃ z, k = z + 1 + 1 := ⟨k - 2, by omega⟩
  unfold near
  by_cases h : n < 0
  · have e := inear2_pos (-n) t ht (by omega) (by omega) z
    have hb := near2_bound (-n) t ht (by omega)
    rw [if_pos h]
    generalize z + 1 = z at *
    simp only [impl_nearest.f]
    rw [if_pos h, wr (x := -n) (by omega) (by omega), e]
    simp only [Option.bind_some]
    rw [wr (by omega) (by omega)]
  · rw [if_neg h]
    exact inear2_pos n t ht (by omega) h1 (z + 1)
theorem near_scale (s n p : Int) (h0 : 0 ≤ p) (h3 : p ≤ 3) : near (s * ten p) (n * 1000) = near s (n * ten (3 - p)) := by
  unfold near
  rcases (by omega : p = 0 ∨ p = 1 ∨ p = 2 ∨ p = 3) with rfl | rfl | rfl | rfl
  · rw [show ten 0 = 1 from rfl, show ten (3 - 0) = 1000 from rfl, Int.mul_one]
  · rw [show ten 1 = 10 from rfl, show ten (3 - 1) = 100 from rfl]
    by_cases h : s < 0
    · rw [if_pos (show s * 10 < 0 by omega), if_pos h, show 2 * (-(s * 10)) + n * 1000 = 10 * (2 * (-s) + n * 100) by omega, show 2 * (n * 1000) = 10 * (2 * (n * 100)) by omega, Int.mul_ediv_mul_of_pos _ _ (by decide)]
    · rw [if_neg (show ¬ s * 10 < 0 by omega), if_neg h, show 2 * (s * 10) + n * 1000 = 10 * (2 * s + n * 100) by omega, show 2 * (n * 1000) = 10 * (2 * (n * 100)) by omega, Int.mul_ediv_mul_of_pos _ _ (by decide)]
  · rw [show ten 2 = 100 from rfl, show ten (3 - 2) = 10 from rfl]
    by_cases h : s < 0
    · rw [if_pos (show s * 100 < 0 by omega), if_pos h, show 2 * (-(s * 100)) + n * 1000 = 100 * (2 * (-s) + n * 10) by omega, show 2 * (n * 1000) = 100 * (2 * (n * 10)) by omega, Int.mul_ediv_mul_of_pos _ _ (by decide)]
    · rw [if_neg (show ¬ s * 100 < 0 by omega), if_neg h, show 2 * (s * 100) + n * 1000 = 100 * (2 * s + n * 10) by omega, show 2 * (n * 1000) = 100 * (2 * (n * 10)) by omega, Int.mul_ediv_mul_of_pos _ _ (by decide)]
  · rw [show ten 3 = 1000 from rfl, show ten (3 - 3) = 1 from rfl]
    by_cases h : s < 0
    · rw [if_pos (show s * 1000 < 0 by omega), if_pos h, show 2 * (-(s * 1000)) + n * 1000 = 1000 * (2 * (-s) + n * 1) by omega, show 2 * (n * 1000) = 1000 * (2 * (n * 1)) by omega, Int.mul_ediv_mul_of_pos _ _ (by decide)]
    · rw [if_neg (show ¬ s * 1000 < 0 by omega), if_neg h, show 2 * (s * 1000) + n * 1000 = 1000 * (2 * s + n * 1) by omega, show 2 * (n * 1000) = 1000 * (2 * (n * 1)) by omega, Int.mul_ediv_mul_of_pos _ _ (by decide)]
def okAll (l : List S25) : Nat → Int → Bool
  | 0, _ => true
  | n + 1, i => decok (rd_T25 l i).f0 (rd_T25 l i).f1 && okAll l n (i + 1)
def msum (l : List S25) : Nat → Int → Int → Int
  | 0, _, x => x
  | n + 1, i, x => msum l n (i + 1) (x + (rd_T25 l i).f0 * ten (3 - (rd_T25 l i).f1))
theorem scale3 {n p : Int} (h : decok n p = true) : -9999000 ≤ n * ten (3 - p) ∧ n * ten (3 - p) ≤ 9999000 := by
  have := ok_facts h
  rcases (by omega : p = 0 ∨ p = 1 ∨ p = 2 ∨ p = 3) with rfl | rfl | rfl | rfl
  · rw [show ten 0 = 1 from rfl] at this; rw [show ten (3 - 0) = 1000 from rfl]; omega
  · rw [show ten 1 = 10 from rfl] at this; rw [show ten (3 - 1) = 100 from rfl]; omega
  · rw [show ten 2 = 100 from rfl] at this; rw [show ten (3 - 2) = 10 from rfl]; omega
  · rw [show ten 3 = 1000 from rfl] at this; rw [show ten (3 - 3) = 1 from rfl]; omega
theorem smean_loop (l : List S25) (p : Int) (hp0 : 0 ≤ p) (hp3 : p ≤ 3) (h1 : 1 ≤ l.length) (hl : l.length ≤ 100) (d : Nat) : ∀ (k : Nat) (x i : Int), 0 ≤ i → (l.length : Int) - i = d → -(9999000 * i) ≤ x → x ≤ 9999000 * i →
    spec_DecMean.l0 (k + 10 + d) l p x i = some (if okAll l d i = true then (near (msum l d i x) (l.length * ten (3 - p)), p) else (0, 0)) := by
  induction d with
  | zero =>
    intro k x i h0 hd hx1 hx2
    have ht := spec_ten (k + 5) (3 - p) (by omega) (by omega)
    rw [show k + 5 + 4 = k + 9 by omega] at ht
    have hb := ten_bound (3 - p)
    have hm : 1 ≤ (l.length : Int) * ten (3 - p) ∧ (l.length : Int) * ten (3 - p) ≤ 100000 := by
      rcases ten_vals (3 - p) with e | e | e | e <;> rw [e] <;> omega
    have hz : 2 ≤ k + 9 := by omega
    rw [show k + 10 + 0 = (k + 9) + 1 by omega]
    generalize k + 9 = z at *
    simp only [spec_DecMean.l0, okAll, msum]
    rw [if_neg (by omega), wr (x := 3 - p) (by omega) (by omega), ht]
    simp only [Option.bind_some]
    rw [wr (x := (l.length : Int) * ten (3 - p)) (by omega) (by omega), snear2 x _ hm (by omega) (by omega) z hz]
    simp
  | succ d ih =>
    intro k x i h0 hd hx1 hx2
    have ho := spec_decok (k + 6 + d) (rd_T25 l i).f0 (rd_T25 l i).f1
    rw [show k + 6 + d + 4 = k + 10 + d by omega] at ho
    rw [show k + 10 + (d + 1) = (k + 10 + d) + 1 by omega]
    have eo : okAll l (d + 1) i = (decok (rd_T25 l i).f0 (rd_T25 l i).f1 && okAll l d (i + 1)) := rfl
    simp only [spec_DecMean.l0, msum]
    rw [if_pos (by omega), if_pos h0, ho, eo]
    simp only [Option.bind_some]
    by_cases hk : decok (rd_T25 l i).f0 (rd_T25 l i).f1 = true
    · have ha := spec_at (k + 6 + d) hk 3 (by omega) (by omega)
      rw [show k + 6 + d + 4 = k + 10 + d by omega, at3 hk] at ha
      have hs := scale3 hk
      rw [if_pos hk, ha]
      simp only [hk, Option.bind_some, Bool.true_and]
      generalize (rd_T25 l i).f0 * ten (3 - (rd_T25 l i).f1) = y at *
      rw [wr (x := x + y) (by omega) (by omega), wr (x := i + 1) (by omega) (by omega)]
      exact ih k (x + y) (i + 1) (by omega) (by omega) (by omega) (by omega)
    · rw [if_neg hk, if_neg (by simp [hk])]
theorem idecs_loop (l : List S25) (hl : l.length ≤ 100) (d : Nat) : ∀ (k : Nat) (i : Int), 0 ≤ i → (l.length : Int) - i = d → ∃ j, impl_decsOk.l0 (k + 10 + d) l i = some j ∧ decide (j ≥ 0) = !okAll l d i := by
  induction d with
  | zero =>
    intro k i h0 hd
    refine ⟨-1, ?_, rfl⟩
    rw [show k + 10 + 0 = (k + 9) + 1 by omega]
    generalize k + 9 = z at *
    simp only [impl_decsOk.l0]
    rw [if_neg (by omega)]
  | succ d ih =>
    intro k i h0 hd
    have ho := impl_decok (k + 6 + d) (rd_T25 l i).f0 (rd_T25 l i).f1
    rw [show k + 6 + d + 4 = k + 10 + d by omega] at ho
    rw [show k + 10 + (d + 1) = (k + 10 + d) + 1 by omega]
    simp only [impl_decsOk.l0, okAll]
    rw [if_pos (by omega), if_pos h0, ho]
    simp only [Option.bind_some]
    by_cases hk : decok (rd_T25 l i).f0 (rd_T25 l i).f1 = true
    · rw [if_pos hk, hk, wr (x := i + 1) (by omega) (by omega)]
      simp only [Bool.true_and]
      exact ih k (i + 1) (by omega) (by omega)
    · rw [if_neg hk, Bool.eq_false_iff.mpr hk]
      exact ⟨i, rfl, by simpa using h0⟩
theorem imean_loop (l : List S25) (p : Int) (hp0 : 0 ≤ p) (hp3 : p ≤ 3) (h1 : 1 ≤ l.length) (hl : l.length ≤ 100) (d : Nat) : ∀ (k : Nat) (x i : Int), 0 ≤ i → (l.length : Int) - i = d → -(9999000 * i) ≤ x → x ≤ 9999000 * i → okAll l d i = true →
    impl_DecMean.l0 (k + 10 + d) l p x l (l.length : Int) i = some (near (msum l d i x) (l.length * ten (3 - p)), p) := by
  induction d with
  | zero =>
    intro k x i h0 hd hx1 hx2 _
    have ht := impl_ten (k + 5) p (by omega) (by omega)
    have ht3 := impl_ten (k + 5) 3 (by omega) (by omega)
    rw [show k + 5 + 4 = k + 9 by omega] at ht ht3
    have hb : -1000000000000 ≤ x * ten p ∧ x * ten p ≤ 1000000000000 := by
      rcases ten_vals p with e | e | e | e <;> rw [e] <;> omega
    have hn := inear2 (x * ten p) ((l.length : Int) * 1000) (by omega) hb.1 hb.2 (k + 9) (by omega)
    rw [show k + 10 + 0 = (k + 9) + 1 by omega]
    generalize k + 9 = z at *
    have e3 : (1000 : Int) = ten 3 := rfl
    rw [← e3] at ht3
    rw [impl_DecMean.l0, if_neg (show ¬ i < (l.length : Int) by omega), ht, Option.bind_some, ht3, Option.bind_some, wr (x := x * ten p) (by omega) (by omega), wr (x := (l.length : Int) * 1000) (by omega) (by omega), hn, Option.bind_some, near_scale x _ p hp0 hp3]
    rfl
  | succ d ih =>
    intro k x i h0 hd hx1 hx2 hok
    simp only [okAll, Bool.and_eq_true] at hok
    have ha := impl_decat (k + 5 + d) (rd_T25 l i).f0 (rd_T25 l i).f1 3
    rw [show k + 5 + d + 5 = k + 10 + d by omega] at ha
    unfold decat at ha
    rw [if_pos ⟨hok.1, by omega, by omega⟩, at3 hok.1] at ha
    have hs := scale3 hok.1
    rw [show k + 10 + (d + 1) = (k + 10 + d) + 1 by omega]
    simp only [impl_DecMean.l0, msum]
    rw [if_pos (by omega), if_pos h0, if_pos (by omega), ha]
    simp only [Option.bind_some]
    generalize (rd_T25 l i).f0 * ten (3 - (rd_T25 l i).f1) = y at *
    rw [wr (x := x + y) (by omega) (by omega), wr (x := i + 1) (by omega) (by omega)]
    exact ih k (x + y) (i + 1) (by omega) (by omega) (by omega) (by omega) hok.2
def meanv (l : List S25) (p : Int) : Int × Int := if (1 ≤ l.length ∧ l.length ≤ 100) ∧ (0 ≤ p ∧ p ≤ 3) ∧ okAll l l.length 0 = true then (near (msum l l.length 0 0) (l.length * ten (3 - p)), p) else (0, 0)
theorem smean (l : List S25) (p : Int) (k : Nat) (hk : 130 ≤ k) : spec_DecMean.f k l p = some (meanv l p) := by
  obtain ⟨z, rfl⟩ : ∃ z, k = z + 1 := ⟨k - 1, by omega⟩
  unfold meanv spec_DecMean.f
  by_cases hl : 1 ≤ l.length ∧ l.length ≤ 100
  · rw [if_neg (show ¬ (l.length : Int) = 0 by omega), if_neg (show ¬ (l.length : Int) > 100 by omega), in_spec]
    simp only [Option.bind_some]
    by_cases hp : 0 ≤ p ∧ p ≤ 3
    · rw [decide_eq_true hp]
      have := smean_loop l p hp.1 hp.2 hl.1 hl.2 l.length (z - 10 - l.length) 0 0 (by omega) (by omega) (by omega) (by omega)
      rw [show z - 10 - l.length + 10 + l.length = z by omega] at this
      simp only [spec_DecMean.j0, Bool.not_true]
      rw [if_neg (by simp), this]
      by_cases ho : okAll l l.length 0 = true
      · rw [if_pos ho, if_pos ⟨hl, hp, ho⟩]
      · rw [if_neg ho, if_neg (fun c => ho c.2.2)]
    · rw [decide_eq_false hp, if_neg (fun c => hp c.2.1)]
      simp [spec_DecMean.j0]
  · rw [if_neg (show ¬ ((1 ≤ l.length ∧ l.length ≤ 100) ∧ (0 ≤ p ∧ p ≤ 3) ∧ okAll l l.length 0 = true) from fun c => hl c.1)]
    by_cases h0 : (l.length : Int) = 0
    · rw [if_pos h0, spec_DecMean.j0, if_pos rfl]
    · rw [if_neg h0, if_pos (show (l.length : Int) > 100 by omega), spec_DecMean.j0, if_pos rfl]
theorem imean (l : List S25) (p : Int) (k : Nat) (hk : 130 ≤ k) : impl_DecMean.f k l p = some (meanv l p) := by
  obtain ⟨z, rfl⟩ : ∃ z, k = z + 1 := ⟨k - 1, by omega⟩
  unfold meanv impl_DecMean.f
  rw [in_impl]
  simp only [Option.bind_some, decide_eq_true_eq]
  by_cases hl : 1 ≤ l.length ∧ l.length ≤ 100
  · rw [if_pos (by omega)]
    obtain ⟨j, hj, hd⟩ := idecs_loop l hl.2 l.length (z + 1 - 10 - l.length) 0 (by omega) (by omega)
    rw [show z + 1 - 10 - l.length + 10 + l.length = z + 1 by omega] at hj
    unfold impl_decsOk.f
    rw [hj]
    simp only [Option.bind_some, hd, Bool.not_not]
    by_cases ho : okAll l l.length 0 = true
    · rw [if_pos ho, in_impl]
      simp only [Option.bind_some]
      by_cases hp : 0 ≤ p ∧ p ≤ 3
      · rw [decide_eq_true hp]
        have := imean_loop l p hp.1 hp.2 hl.1 hl.2 l.length (z - 10 - l.length) 0 0 (by omega) (by omega) (by omega) (by omega) ho
        rw [show z - 10 - l.length + 10 + l.length = z by omega] at this
        simp only [impl_DecMean.j0, Bool.not_true]
        rw [if_neg (by simp), this, if_pos ⟨hl, hp, ho⟩]
      · rw [decide_eq_false hp, if_neg (fun c => hp c.2.1)]
        simp [impl_DecMean.j0]
    · rw [if_neg ho, if_neg (fun c => ho c.2.2)]
      simp [impl_DecMean.j0]
  · rw [if_neg (show ¬ ((1 ≤ l.length ∧ l.length ≤ 100) ∧ (0 ≤ p ∧ p ≤ 3) ∧ okAll l l.length 0 = true) from fun c => hl c.1), if_neg (by omega), impl_DecMean.j0, if_pos rfl]
def sc (s : S25) : Int := s.f0 * ten (3 - s.f1)
def vv (q : Int) (s : S25) : Int := near (sc s) (ten (3 - q))
theorem at_near {n p q : Int} (h : decok n p = true) (h0 : 0 ≤ q) (h3 : q ≤ 3) : at_ n p q = (near (n * ten (3 - p)) (ten (3 - q)), q) := by
  have ho := ok_facts h
  unfold at_
  rcases (by omega : p = 0 ∨ p = 1 ∨ p = 2 ∨ p = 3) with rfl | rfl | rfl | rfl <;> rcases (by omega : q = 0 ∨ q = 1 ∨ q = 2 ∨ q = 3) with rfl | rfl | rfl | rfl
  · rw [if_pos (by omega), show ten (0 - 0) = 1 from rfl, show ten (3 - 0) = 1000 from rfl]; congr 1; unfold near; split <;> omega
  · rw [if_pos (by omega), show ten (1 - 0) = 10 from rfl, show ten (3 - 0) = 1000 from rfl, show ten (3 - 1) = 100 from rfl]; congr 1; unfold near; split <;> omega
  · rw [if_pos (by omega), show ten (2 - 0) = 100 from rfl, show ten (3 - 0) = 1000 from rfl, show ten (3 - 2) = 10 from rfl]; congr 1; unfold near; split <;> omega
  · rw [if_pos (by omega), show ten (3 - 0) = 1000 from rfl, show ten (3 - 3) = 1 from rfl]; congr 1; unfold near; split <;> omega
  · rw [if_neg (by omega), show ten (1 - 0) = 10 from rfl, show ten (3 - 1) = 100 from rfl, show ten (3 - 0) = 1000 from rfl]; congr 1; unfold near; split <;> split <;> omega
  · rw [if_pos (by omega), show ten (1 - 1) = 1 from rfl, show ten (3 - 1) = 100 from rfl]; congr 1; unfold near; split <;> omega
  · rw [if_pos (by omega), show ten (2 - 1) = 10 from rfl, show ten (3 - 1) = 100 from rfl, show ten (3 - 2) = 10 from rfl]; congr 1; unfold near; split <;> omega
  · rw [if_pos (by omega), show ten (3 - 1) = 100 from rfl, show ten (3 - 3) = 1 from rfl]; congr 1; unfold near; split <;> omega
  · rw [if_neg (by omega), show ten (2 - 0) = 100 from rfl, show ten (3 - 2) = 10 from rfl, show ten (3 - 0) = 1000 from rfl]; congr 1; unfold near; split <;> split <;> omega
  · rw [if_neg (by omega), show ten (2 - 1) = 10 from rfl, show ten (3 - 2) = 10 from rfl, show ten (3 - 1) = 100 from rfl]; congr 1; unfold near; split <;> split <;> omega
  · rw [if_pos (by omega), show ten (2 - 2) = 1 from rfl, show ten (3 - 2) = 10 from rfl]; congr 1; unfold near; split <;> omega
  · rw [if_pos (by omega), show ten (3 - 2) = 10 from rfl, show ten (3 - 3) = 1 from rfl]; congr 1; unfold near; split <;> omega
  · rw [if_neg (by omega), show ten (3 - 0) = 1000 from rfl, show ten (3 - 3) = 1 from rfl]; congr 1; unfold near; split <;> split <;> omega
  · rw [if_neg (by omega), show ten (3 - 1) = 100 from rfl, show ten (3 - 3) = 1 from rfl]; congr 1; unfold near; split <;> split <;> omega
  · rw [if_neg (by omega), show ten (3 - 2) = 10 from rfl, show ten (3 - 3) = 1 from rfl]; congr 1; unfold near; split <;> split <;> omega
  · rw [if_pos (by omega), show ten (3 - 3) = 1 from rfl]; congr 1; unfold near; split <;> omega
theorem near_ge (s t u : Int) (ht : 1 ≤ t) : u ≤ near s t ↔ 2 * (t * u) - t + (if 1 ≤ u then 0 else 1) ≤ 2 * s := by
  unfold near
  have z1 : 1 ≤ u → t ≤ t * u := fun h => by have := Int.mul_le_mul_of_nonneg_left h (show 0 ≤ t by omega); rwa [Int.mul_one] at this
  have z2 : u ≤ 0 → t * u ≤ 0 := fun h => by have := Int.mul_le_mul_of_nonneg_left h (show 0 ≤ t by omega); rwa [Int.mul_zero] at this
  have e : u * (2 * t) = 2 * (t * u) := by rw [Int.mul_comm u, Int.mul_assoc]
  have e2 : (1 - u) * (2 * t) = 2 * t - 2 * (t * u) := by rw [Int.sub_mul, e, Int.one_mul]
  by_cases hs : s < 0
  · rw [if_pos hs]
    have a := Int.ediv_lt_iff_lt_mul (a := 2 * (-s) + t) (b := 1 - u) (c := 2 * t) (by omega)
    rw [e2] at a
    generalize (2 * (-s) + t) / (2 * t) = Q at *
    generalize t * u = z at *
    by_cases h1 : 1 ≤ u
    · rw [if_pos h1]; have := z1 h1; omega
    · rw [if_neg h1]; have := z2 (by omega); omega
  · rw [if_neg hs]
    have a := Int.le_ediv_iff_mul_le (a := u) (b := 2 * s + t) (c := 2 * t) (by omega)
    have b : 0 ≤ (2 * s + t) / (2 * t) := Int.ediv_nonneg (by omega) (by omega)
    rw [e] at a
    generalize (2 * s + t) / (2 * t) = Q at *
    generalize t * u = z at *
    by_cases h1 : 1 ≤ u
    · rw [if_pos h1]; have := z1 h1; omega
    · rw [if_neg h1]; have := z2 (by omega); omega
theorem near_neg (s t : Int) (ht : 1 ≤ t) : near (-s) t = -near s t := by
  unfold near
  by_cases h1 : s < 0
  · rw [if_neg (show ¬ -s < 0 by omega), if_pos h1, Int.neg_neg]
  · by_cases h2 : s = 0
    · subst h2
      rw [if_neg (by omega), if_neg (by omega), show 2 * -0 + t = t by omega, show 2 * 0 + t = t by omega, Int.ediv_eq_zero_of_lt (by omega) (by omega)]
      rfl
    · rw [if_pos (show -s < 0 by omega), if_neg h1, Int.neg_neg]
theorem msum_ge (l : List S25) (T : Int) (d : Nat) : ∀ i x : Int, (∀ j, i ≤ j → j < i + d → T ≤ 2 * sc (rd_T25 l j)) → (d : Int) * T + 2 * x ≤ 2 * msum l d i x := by
  induction d with
  | zero => intro i x _; simp [msum]
  | succ d ih =>
    intro i x h
    have h1 := h i (by omega) (by omega)
    have h2 := ih (i + 1) (x + sc (rd_T25 l i)) (fun j a b => h j (by omega) (by omega))
    have e : ((d + 1 : Nat) : Int) * T = (d : Int) * T + T := by rw [Int.natCast_add, Int.add_mul]; simp
    rw [e]
    have e2 : msum l (d + 1) i x = msum l d (i + 1) (x + sc (rd_T25 l i)) := rfl
    rw [e2]
    omega
theorem msum_le (l : List S25) (T : Int) (d : Nat) : ∀ i x : Int, (∀ j, i ≤ j → j < i + d → T ≤ 2 * (-sc (rd_T25 l j))) → (d : Int) * T - 2 * x ≤ 2 * (-msum l d i x) := by
  induction d with
  | zero => intro i x _; simp [msum]; omega
  | succ d ih =>
    intro i x h
    have h1 := h i (by omega) (by omega)
    have h2 := ih (i + 1) (x + sc (rd_T25 l i)) (fun j a b => h j (by omega) (by omega))
    have e : ((d + 1 : Nat) : Int) * T = (d : Int) * T + T := by rw [Int.natCast_add, Int.add_mul]; simp
    rw [e]
    have e2 : msum l (d + 1) i x = msum l d (i + 1) (x + sc (rd_T25 l i)) := rfl
    rw [e2]
    omega
theorem bound_scale (N t u S : Int) (hN : 1 ≤ N) (ht : 1 ≤ t) (h : N * (2 * (t * u) - t + (if 1 ≤ u then 0 else 1)) ≤ 2 * S) : u ≤ near S (N * t) := by
  have hNt : 1 ≤ N * t := by have := Int.mul_le_mul hN ht (by omega) (by omega); simpa using this
  rw [near_ge S (N * t) u hNt, Int.mul_assoc]
  rw [Int.mul_add, Int.mul_sub, Int.mul_left_comm N 2 (t * u)] at h
  generalize N * (t * u) = A at *
  generalize N * t = B at *
  by_cases h1 : 1 ≤ u
  · rw [if_pos h1] at h ⊢; omega
  · rw [if_neg h1] at h ⊢; omega
theorem mean_low (l : List S25) (q u : Int) (hl : 1 ≤ l.length) (h : ∀ j : Int, 0 ≤ j → j < l.length → u ≤ vv q (rd_T25 l j)) : u ≤ near (msum l l.length 0 0) (l.length * ten (3 - q)) := by
  have ht := (ten_bound (3 - q)).1
  refine bound_scale _ _ _ _ (by omega) ht ?_
  have := msum_ge l (2 * (ten (3 - q) * u) - ten (3 - q) + (if 1 ≤ u then 0 else 1)) l.length 0 0 (fun j a b => (near_ge _ _ _ ht).mp (h j a (by omega)))
  omega
theorem mean_high (l : List S25) (q u : Int) (hl : 1 ≤ l.length) (h : ∀ j : Int, 0 ≤ j → j < l.length → vv q (rd_T25 l j) ≤ u) : near (msum l l.length 0 0) (l.length * ten (3 - q)) ≤ u := by
  have ht := (ten_bound (3 - q)).1
  have hN : 1 ≤ (l.length : Int) * ten (3 - q) := by have := Int.mul_le_mul (show (1 : Int) ≤ l.length by omega) ht (by omega) (by omega); simpa using this
  have := bound_scale (l.length : Int) (ten (3 - q)) (-u) (-msum l l.length 0 0) (by omega) ht (by
    have := msum_le l (2 * (ten (3 - q) * -u) - ten (3 - q) + (if 1 ≤ -u then 0 else 1)) l.length 0 0 (fun j a b => (near_ge _ _ _ ht).mp (by have := h j a (by omega); unfold vv at this; rw [near_neg _ _ ht]; omega))
    omega)
  rw [near_neg _ _ hN] at this
  omega
theorem vv_ok {s : S25} (h : decok s.f0 s.f1 = true) {q : Int} (h0 : 0 ≤ q) (h3 : q ≤ 3) : decok (vv q s) q = true := by
  have hs := scale3 h
  unfold vv sc
  generalize s.f0 * ten (3 - s.f1) = x at *
  unfold decok near
  rw [decide_eq_true_eq]
  rcases (by omega : q = 0 ∨ q = 1 ∨ q = 2 ∨ q = 3) with rfl | rfl | rfl | rfl
  · rw [show ten (3 - 0) = 1000 from rfl, show ten 0 = 1 from rfl]; split <;> omega
  · rw [show ten (3 - 1) = 100 from rfl, show ten 1 = 10 from rfl]; split <;> omega
  · rw [show ten (3 - 2) = 10 from rfl, show ten 2 = 100 from rfl]; split <;> omega
  · rw [show ten (3 - 3) = 1 from rfl, show ten 3 = 1000 from rfl]; split <;> omega
theorem decat_vv {s : S25} (h : decok s.f0 s.f1 = true) {q : Int} (h0 : 0 ≤ q) (h3 : q ≤ 3) : decat s.f0 s.f1 q = (vv q s, q) := by
  unfold decat
  rw [if_pos ⟨h, h0, h3⟩, at_near h h0 h3]
  rfl
theorem cmp_same {a b q : Int} (ha : decok a q = true) (hb : decok b q = true) : cmp3 a q b q = if a < b then -1 else if a > b then 1 else 0 := by
  unfold cmp3
  rw [if_pos ⟨ha, hb⟩]
  rcases ten_vals (3 - q) with e | e | e | e <;> rw [e] <;> (repeat' split) <;> omega
theorem cmp_le {a b q : Int} (h : a ≤ b) : cmp3 a q b q ≤ 0 := by
  unfold cmp3
  rcases ten_vals (3 - q) with e | e | e | e <;> rw [e] <;> (repeat' split) <;> omega
theorem okAll_at (l : List S25) (d : Nat) : ∀ i : Int, okAll l d i = true → ∀ j, i ≤ j → j < i + d → decok (rd_T25 l j).f0 (rd_T25 l j).f1 = true := by
  induction d with
  | zero => intro i _ j a b; omega
  | succ d ih =>
    intro i h j a b
    simp only [okAll, Bool.and_eq_true] at h
    by_cases c : j = i
    · subst c; exact h.1
    · exact ih (i + 1) h.2 j (by omega) (by omega)
theorem drop_rd (l : List S25) (i : Nat) (h : i < l.length) : l.drop i = rd_T25 l i :: l.drop (i + 1) := by
  rw [List.drop_eq_getElem_cons h]
  unfold rd_T25
  rw [List.getD_eq_getElem?_getD, Int.toNat_natCast, List.getElem?_eq_getElem h]
  rfl
theorem okAll_list (l : List S25) (d : Nat) : ∀ i : Nat, l.length - i = d → i ≤ l.length → okAll l d i = (l.drop i).all fun s => decok s.f0 s.f1 := by
  induction d with
  | zero => intro i hd hi; rw [List.drop_eq_nil_of_le (by omega)]; rfl
  | succ d ih =>
    intro i hd hi
    rw [drop_rd l i (by omega), List.all_cons, ← ih (i + 1) (by omega) (by omega)]
    rfl
theorem msum_list (l : List S25) (d : Nat) : ∀ (i : Nat) (x : Int), l.length - i = d → i ≤ l.length → msum l d i x = x + ((l.drop i).map sc).sum := by
  induction d with
  | zero => intro i x hd hi; rw [List.drop_eq_nil_of_le (by omega)]; simp [msum]
  | succ d ih =>
    intro i x hd hi
    have := ih (i + 1) (x + sc (rd_T25 l i)) (by omega) (by omega)
    rw [drop_rd l i (by omega), List.map_cons, List.sum_cons, ← Int.add_assoc, ← this]
    rfl
theorem sum_rev (l : List Int) : l.reverse.sum = l.sum := by
  induction l with
  | nil => rfl
  | cons a t ih => rw [List.reverse_cons, List.sum_append, ih, List.sum_cons, List.sum_cons, List.sum_nil]; omega
theorem meanv_rev (l : List S25) (p : Int) : meanv l.reverse p = meanv l p := by
  have o1 := okAll_list l l.length 0 (by omega) (by omega)
  have o2 := okAll_list l.reverse l.reverse.length 0 (by omega) (by omega)
  have m1 := msum_list l l.length 0 0 (by omega) (by omega)
  have m2 := msum_list l.reverse l.reverse.length 0 0 (by omega) (by omega)
  rw [List.drop_zero] at o1 o2 m1 m2
  rw [List.all_reverse] at o2
  rw [List.map_reverse, sum_rev] at m2
  simp only [Int.natCast_zero, Int.zero_add] at o1 o2 m1 m2
  unfold meanv
  rw [o1, o2, m1, m2, List.length_reverse]
theorem meanv_one (s : S25) (p : Int) (h : decok s.f0 s.f1 = true) (h0 : 0 ≤ p) (h3 : p ≤ 3) : meanv [s] p = (vv p s, p) := by
  have e : okAll [s] 1 0 = true := by
    show (decok s.f0 s.f1 && true) = true
    rw [h]; rfl
  unfold meanv
  rw [if_pos ⟨⟨by simp, by simp⟩, ⟨h0, h3⟩, e⟩]
  have e2 : msum [s] ([s] : List S25).length 0 0 = sc s := by
    show 0 + s.f0 * ten (3 - s.f1) = sc s
    unfold sc; omega
  rw [e2]
  show (near (sc s) (((1 : Nat) : Int) * ten (3 - p)), p) = _
  rw [show ((1 : Nat) : Int) * ten (3 - p) = ten (3 - p) by omega]
  rfl
theorem decs_draw (b : List Int) (hb : Code b) (n p : Int) (hn : 1 ≤ n) (hn2 : n ≤ 1000000) (h0 : 0 ≤ p) (hp : p ≤ 500000) :
    ∃ R q, (R.length ≤ 4 ∧ p ≤ q ∧ q ≤ p + 50) ∧ Ev (fun k => spec_l20Decs.f k b p n) (R, q) := by
  obtain ⟨v, a, c, ⟨K, e⟩⟩ := pick_pos b hb p 5 h0 (by omega) (by omega) (by omega)
  dsimp only at e
  have loop : ∀ (d : Nat) (L : List S25) (p : Int), 0 ≤ p → p + 6 * d ≤ 600000 → L.length + d ≤ 4 → ∃ R q, (R.length ≤ 4 ∧ p ≤ q ∧ q ≤ p + 6 * d) ∧ ∃ K, ∀ k, K ≤ k → spec_l20Decs.l0 k n L d b p = some (R, q) := by
    intro d
    induction d with
    | zero =>
      intro L p h0 hp hL
      refine ⟨L, p, ⟨by omega, by omega, by omega⟩, 1, fun k hk => ?_⟩
      obtain ⟨z, rfl⟩ : ∃ z, k = z + 1 := ⟨k - 1, by omega⟩
      rw [spec_l20Decs.l0, if_neg (by omega)]
    | succ d ih =>
      intro L p h0 hp hL
      obtain ⟨x, m, q1, hq1, ⟨K1, e1⟩⟩ := dec_draw b hb p n h0 (by omega) hn hn2
      obtain ⟨R, q, hq, K2, e2⟩ := ih (L ++ [⟨x, m⟩]) q1 (by omega) (by omega) (by simp; omega)
      dsimp only at e1
      refine ⟨R, q, ⟨hq.1, by omega, by omega⟩, max K1 K2 + 1, fun k hk => ?_⟩
      obtain ⟨z, rfl⟩ : ∃ z, k = z + 1 := ⟨k - 1, by omega⟩
      rw [spec_l20Decs.l0, if_pos (by omega), e1 z (by omega), Option.bind_some, if_pos (by omega), wr (x := ((d + 1 : Nat) : Int) - 1) (by omega) (by omega), show ((d + 1 : Nat) : Int) - 1 = d by omega]
      exact e2 z (by omega)
  obtain ⟨R, q, hq, K2, e2⟩ := loop v.toNat [] (p + 1) (by omega) (by omega) (by simp; omega)
  refine ⟨R, q, ⟨hq.1, by omega, by omega⟩, max K K2, fun k hk => ?_⟩
  dsimp only
  unfold spec_l20Decs.f
  rw [e k (by omega), Option.bind_some]
  have := e2 k (by omega)
  rwa [show ((v.toNat : Nat) : Int) = v by omega] at this
theorem drawMean_ev (l : List Int) (h : ∀ x ∈ l, (Lit.int .u8 x).wf = true) : ∃ R p, R.length ≤ 101 ∧ ∃ K, ∀ k, K ≤ k → spec_DrawDecMean.f k l = some (R, p) := by
  obtain ⟨b, hb, e0⟩ := open_some l h
  obtain ⟨R, q, hq, ⟨K1, e1⟩⟩ := decs_draw b hb 24 0 (by omega) (by omega) (by omega) (by omega)
  obtain ⟨v, a, c, ⟨K2, e2⟩⟩ := pick_pos b hb q 40 (by omega) (by omega) (by omega) (by omega)
  obtain ⟨u, a3, c3, ⟨K3, e3⟩⟩ := pick_pos b hb (q + 1) 6 (by omega) (by omega) (by omega) (by omega)
  dsimp only at e1 e2 e3
  have loop : ∀ (d : Nat) (L : List S25), L.length + d = 101 → ∃ R : List S25, R.length ≤ 101 ∧ ∀ k, K3 + 2 + d ≤ k → spec_DrawDecMean.l0 k L b (q + 1) = some (R, wrap64 (u - 1)) := by
    intro d
    induction d with
    | zero =>
      intro L hL
      refine ⟨L, by omega, fun k hk => ?_⟩
      obtain ⟨z, rfl⟩ : ∃ z, k = z + 1 := ⟨k - 1, by omega⟩
      rw [spec_DrawDecMean.l0, if_neg (by omega), e3 z (by omega), Option.bind_some]
    | succ d ih =>
      intro L hL
      obtain ⟨R, hR, e⟩ := ih (L ++ [⟨1, 0⟩]) (by simp; omega)
      refine ⟨R, hR, fun k hk => ?_⟩
      obtain ⟨z, rfl⟩ : ∃ z, k = z + 1 := ⟨k - 1, by omega⟩
      rw [spec_DrawDecMean.l0, if_pos (by omega), if_pos (by omega), e z (by omega)]
  by_cases hv : v = 0
  · obtain ⟨R', hR', e'⟩ := loop (101 - R.length) R (by omega)
    refine ⟨R', wrap64 (u - 1), hR', max K1 (max K2 (K3 + 200)), fun k hk => ?_⟩
    unfold spec_DrawDecMean.f
    rw [e0, Option.bind_some, e1 k (by omega), Option.bind_some, e2 k (by omega), Option.bind_some, if_pos hv]
    exact e' k (by omega)
  · refine ⟨R, wrap64 (u - 1), by omega, max K1 (max K2 (K3 + 200)), fun k hk => ?_⟩
    unfold spec_DrawDecMean.f
    rw [e0, Option.bind_some, e1 k (by omega), Option.bind_some, e2 k (by omega), Option.bind_some, if_neg hv, e3 k (by omega), Option.bind_some]
theorem mean_l1 (L : List S25) (p M : Int) (h1 : 1 ≤ L.length) (hL : L.length ≤ 100) (hp0 : 0 ≤ p) (hp3 : p ≤ 3) (hok : okAll L L.length 0 = true) (hM : meanv L p = (M, p)) (d : Nat) : ∀ (k : Nat) (i a b : Int), 0 ≤ i → (L.length : Int) - i = d → decok a p = true → decok b p = true → (∀ j : Int, 0 ≤ j → j < i → a ≤ vv p (rd_T25 L j)) → (∀ j : Int, 0 ≤ j → j < i → vv p (rd_T25 L j) ≤ b) →
    laws_FnDecMean.l1 (k + 140 + 1 + 2 * d) L p L.reverse i M p a p b p = some true := by
  have hMv : M = near (msum L L.length 0 0) (L.length * ten (3 - p)) := by
    unfold meanv at hM
    rw [if_pos ⟨⟨h1, hL⟩, ⟨hp0, hp3⟩, hok⟩] at hM
    simpa using hM.symm
  have hrev := imean L.reverse p
  rw [meanv_rev, hM] at hrev
  have h0ok := okAll_at L L.length 0 hok 0 (by omega) (by omega)
  have hone : L.take 1 = [rd_T25 L 0] := by
    have := drop_rd L 0 (by omega)
    rw [List.drop_zero] at this
    rw [this]
    rfl
  have hmo := imean (L.take 1) p
  rw [hone, meanv_one _ p h0ok hp0 hp3, ← hone] at hmo
  induction d with
  | zero =>
    intro k i a b h0 hd ha hb la lb
    have c1 := impl_cmp (k + 134) a p M p
    have c2 := impl_cmp (k + 134) M p b p
    have d1 := impl_decat (k + 135) (rd_T25 L 0).f0 (rd_T25 L 0).f1 p
    rw [decat_vv h0ok hp0 hp3] at d1
    rw [show k + 134 + 6 = k + 140 from rfl] at c1 c2
    rw [show k + 135 + 5 = k + 140 from rfl] at d1
    have q1 := hrev (k + 140) (by omega)
    have q2 := hmo (k + 140) (by omega)
    have l1 : a ≤ M := by rw [hMv]; exact mean_low L p a h1 (fun j x y => la j x (by omega))
    have l2 : M ≤ b := by rw [hMv]; exact mean_high L p b h1 (fun j x y => lb j x (by omega))
    rw [show k + 140 + 1 + 2 * 0 = (k + 140) + 1 from rfl]
    generalize k + 140 = z at *
    rw [laws_FnDecMean.l1, if_neg (by omega), c1, Option.bind_some, if_pos (cmp_le l1), c2, Option.bind_some, if_pos (cmp_le l2), if_pos rfl, q1, Option.bind_some, if_pos (by simp), if_pos (by omega), q2, Option.bind_some, if_pos (by omega), d1, Option.bind_some]
    simp
  | succ d ih =>
    intro k i a b h0 hd ha hb la lb
    have hik := okAll_at L L.length 0 hok i h0 (by omega)
    have hv := vv_ok hik hp0 hp3
    have d1 := impl_decat (k + 140 + 1 + 2 * d - 4) (rd_T25 L i).f0 (rd_T25 L i).f1 p
    rw [decat_vv hik hp0 hp3, show k + 140 + 1 + 2 * d - 4 + 5 = k + 140 + 1 + 2 * d + 1 by omega] at d1
    have c1 := impl_cmp (k + 140 + 1 + 2 * d - 5) (vv p (rd_T25 L i)) p a p
    rw [cmp_same hv ha, show k + 140 + 1 + 2 * d - 5 + 6 = k + 140 + 1 + 2 * d + 1 by omega] at c1
    have c2 := impl_cmp (k + 140 + 1 + 2 * d - 6) (vv p (rd_T25 L i)) p b p
    rw [cmp_same hv hb, show k + 140 + 1 + 2 * d - 6 + 6 = k + 140 + 1 + 2 * d by omega] at c2
    have hvi : rd_T25 L i = rd_T25 L i := rfl
    generalize hx : vv p (rd_T25 L i) = x at *
    have step : ∀ a', decok a' p = true → a' ≤ x → (∀ j : Int, 0 ≤ j → j < i → a' ≤ vv p (rd_T25 L j)) → laws_FnDecMean.j3 (k + 140 + 1 + 2 * d + 1) L p L.reverse i M p a' p b p x p = some true := by
      intro a' ha' hax la'
      have la2 : ∀ j : Int, 0 ≤ j → j < i + 1 → a' ≤ vv p (rd_T25 L j) := fun j u v => by
        by_cases c : j = i
        · subst c; omega
        · exact la' j u (by omega)
      rw [laws_FnDecMean.j3, c2, Option.bind_some, wr (x := i + 1) (by omega) (by omega)]
      by_cases g : x > b
      · rw [if_pos (by rw [if_neg (by omega), if_pos g]; omega)]
        refine ih k (i + 1) a' x (by omega) (by omega) ha' hv la2 (fun j u v => ?_)
        by_cases c : j = i
        · subst c; omega
        · have := lb j u (by omega); omega
      · rw [if_neg (by split <;> omega)]
        refine ih k (i + 1) a' b (by omega) (by omega) ha' hb la2 (fun j u v => ?_)
        by_cases c : j = i
        · subst c; omega
        · exact lb j u (by omega)
    rw [show k + 140 + 1 + 2 * (d + 1) = k + 140 + 1 + 2 * d + 1 + 1 by omega, laws_FnDecMean.l1, if_pos (by omega), if_pos h0, d1, Option.bind_some, c1, Option.bind_some]
    by_cases g : x < a
    · rw [if_pos (by rw [if_pos g]; omega)]
      exact step x hv (by omega) (fun j u v => by have := la j u v; omega)
    · rw [if_neg (by rw [if_neg g]; split <;> omega)]
      exact step a ha (by omega) la
theorem rev_take (L : List S25) (i : Nat) (h : i < L.length) : L.reverse.take (i + 1) = L.reverse.take i ++ [⟨(rd_T25 L ((L.length : Int) - 1 - i)).f0, (rd_T25 L ((L.length : Int) - 1 - i)).f1⟩] := by
  have hr : i < L.reverse.length := by simp; omega
  rw [List.take_succ_eq_append_getElem hr, List.getElem_reverse]
  unfold rd_T25
  rw [List.getD_eq_getElem?_getD, show ((L.length : Int) - 1 - i).toNat = L.length - 1 - i by omega, List.getElem?_eq_getElem (by omega)]
  rfl
theorem mean_l0 (L : List S25) (hL : L.length ≤ 101) (p m0 m1 : Int) (R : Option Bool) (k : Nat) (hk : 10 ≤ k) (d : Nat) : ∀ (i : Nat) (f : Bool), i ≤ L.length → L.length - i = d →
    (∀ g, g = (f && okAll L d i) → laws_FnDecMean.l0 (k + 1) L p g L.reverse L.length m0 m1 = R) → laws_FnDecMean.l0 (k + 1 + d) L p f (L.reverse.take i) i m0 m1 = R := by
  induction d with
  | zero =>
    intro i f hi hd hb
    obtain rfl : i = L.length := by omega
    rw [List.take_of_length_le (by simp)]
    exact hb f (by simp [okAll])
  | succ d ih =>
    intro i f hi hd hb
    have ho := impl_decok (k + 1 + d - 4) (rd_T25 L i).f0 (rd_T25 L i).f1
    rw [show k + 1 + d - 4 + 4 = k + 1 + d by omega] at ho
    have go : ∀ g, g = (f && decok (rd_T25 L i).f0 (rd_T25 L i).f1) → laws_FnDecMean.l0 (k + 1 + d) L p g (L.reverse.take (i + 1)) ((i : Int) + 1) m0 m1 = R := by
      intro g hg
      refine ih (i + 1) g (by omega) (by omega) (fun g2 h2 => hb g2 ?_)
      rw [h2, hg, Bool.and_assoc]
      rfl
    have hlen : (L.reverse.take i).length < 8796093022208 := by simp; omega
    rw [rev_take L i (by omega)] at go
    rw [show k + 1 + (d + 1) = (k + 1 + d) + 1 by omega, laws_FnDecMean.l0, if_pos (by omega), wr (x := (L.length : Int) - 1) (by omega) (by omega), wr (x := (L.length : Int) - 1 - i) (by omega) (by omega), wr (x := (i : Int) + 1) (by omega) (by omega)]
    cases f with
    | true =>
      rw [if_pos rfl, if_pos (by omega), ho, Option.bind_some, if_pos (by omega), if_pos (by omega), if_pos hlen]
      exact go _ (by simp)
    | false =>
      rw [if_neg (by simp), if_pos (by omega), if_pos (by omega), if_pos hlen]
      exact go _ (by simp)
theorem FnDecMean : laws_FnDecMean.Pure := by
  intro l0 _ _ hx
  by_cases hl : (l0.length : Int) > 1048576
  · exact ⟨0, by unfold laws_FnDecMean.f; rw [if_pos hl]⟩
  obtain ⟨L, p, hL, K, e⟩ := drawMean_ev l0 hx
  obtain ⟨z, hz⟩ : ∃ z, K ≤ z := ⟨_, Nat.le_refl _⟩
  have e := e (z + 600 + 1) (by omega)
  have i := imean L p (z + 600 + 1) (by omega)
  have s := smean L p (z + 600 + 1) (by omega)
  refine ⟨z + 600 + 1, ?_⟩
  have core : ∀ f : Bool, f = decide ((1 ≤ L.length ∧ L.length ≤ 100) ∧ 0 ≤ p ∧ p ≤ 3) → laws_FnDecMean.j0 (z + 600 + 1) L p f (meanv L p).1 (meanv L p).2 = some true := by
    intro f hf
    rw [laws_FnDecMean.j0]
    have q := mean_l0 L hL p (meanv L p).1 (meanv L p).2 (some true) (z + 599 - L.length) (by omega) L.length 0 f (by omega) (by omega)
    rw [show z + 599 - L.length + 1 + L.length = z + 600 by omega] at q
    refine q (fun g hg => ?_)
    rw [laws_FnDecMean.l0, if_neg (by omega)]
    by_cases hc : ((1 ≤ L.length ∧ L.length ≤ 100) ∧ 0 ≤ p ∧ p ≤ 3) ∧ okAll L L.length 0 = true
    · have hg2 : g = true := by rw [hg, hf, decide_eq_true hc.1]; exact hc.2
      have h0ok := okAll_at L L.length 0 hc.2 0 (by omega) (by omega)
      have d1 := impl_decat (z + 599 - L.length - 5) (rd_T25 L 0).f0 (rd_T25 L 0).f1 p
      rw [decat_vv h0ok hc.1.2.1 hc.1.2.2, show z + 599 - L.length - 5 + 5 = z + 599 - L.length by omega] at d1
      have hv := vv_ok h0ok hc.1.2.1 hc.1.2.2
      have hM : meanv L p = ((meanv L p).1, p) := by
        unfold meanv
        rw [if_pos ⟨hc.1.1, hc.1.2, hc.2⟩]
      have q1 := mean_l1 L p (meanv L p).1 hc.1.1.1 hc.1.1.2 hc.1.2.1 hc.1.2.2 hc.2 hM L.length (z + 599 - L.length - 141 - 2 * L.length) 0 (vv p (rd_T25 L 0)) (vv p (rd_T25 L 0)) (by omega) (by omega) hv hv (fun j a b => by omega) (fun j a b => by omega)
      rw [show z + 599 - L.length - 141 - 2 * L.length + 140 + 1 + 2 * L.length = z + 599 - L.length by omega] at q1
      rw [hg2, if_pos rfl, if_pos (by omega), d1, Option.bind_some, Option.bind_some, show (meanv L p).2 = p by rw [hM]]
      exact q1
    · have hg2 : g = false := by
        rw [hg, hf]
        by_cases h2 : (1 ≤ L.length ∧ L.length ≤ 100) ∧ 0 ≤ p ∧ p ≤ 3
        · rw [decide_eq_true h2, Bool.true_and]
          exact Bool.eq_false_iff.mpr (fun h3 => hc ⟨h2, h3⟩)
        · rw [decide_eq_false h2, Bool.false_and]
      have hM : meanv L p = (0, 0) := by
        unfold meanv
        rw [if_neg (fun h3 => hc ⟨⟨h3.1, h3.2.1⟩, h3.2.2⟩)]
      rw [hg2, if_neg (by simp), hM, if_pos (by rfl), cu_ok]
      rfl
  unfold laws_FnDecMean.f
  rw [if_neg hl, e, Option.bind_some, i, Option.bind_some, s, Option.bind_some, if_neg (by simp)]
  by_cases c1 : (L.length : Int) > 0
  · rw [if_pos c1]
    by_cases c2 : (L.length : Int) ≤ 100
    · rw [if_pos c2]
      by_cases c3 : p ≥ 0
      · rw [if_pos c3]
        refine core _ ?_
        by_cases c4 : p ≤ 3
        · rw [decide_eq_true c4, decide_eq_true (by omega)]
        · rw [decide_eq_false c4, decide_eq_false (by omega)]
      · rw [if_neg c3]; exact core false (by rw [decide_eq_false (by omega)])
    · rw [if_neg c2]; exact core false (by rw [decide_eq_false (by omega)])
  · rw [if_neg c1]; exact core false (by rw [decide_eq_false (by omega)])

end Go.Proofs.Ytpinmagodpplaaa.Pure
