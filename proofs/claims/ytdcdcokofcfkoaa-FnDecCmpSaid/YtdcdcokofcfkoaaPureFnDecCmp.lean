/- DecCmp of the program at what two codes draw: an order, and the one of the values: the law's pure statement; no conditions. -/
import Derived.Test.YtdcdcokofcfkoaaAllx0
import Derived.Test.YtdcdcokofcfkoaaAllx10
import Derived.Test.YtdcdcokofcfkoaaAllx11
import Derived.Test.YtdcdcokofcfkoaaAllx12
import Derived.Test.YtdcdcokofcfkoaaAllx2
import Derived.Test.YtdcdcokofcfkoaaAllx23
import Derived.Test.YtdcdcokofcfkoaaAllx24
import Derived.Test.YtdcdcokofcfkoaaAllx3
import Derived.Test.YtdcdcokofcfkoaaAllx4
import Derived.Test.YtdcdcokofcfkoaaAllx6
import Derived.Test.YtdcdcokofcfkoaaAllx8
set_option linter.unusedVariables false
set_option linter.unusedSimpArgs false
namespace Go.Proofs.Ytdcdcokofcfkoaa.Pure
open Go.RowKit Go.Proofs.Ytdcdcokofcfkoaa.All Go.Proofs.YtdcdcokofcfkoaaW.PrintWords Go.Proofs.YtdcdcokofcfkoaaW.PrintLast Go.Proofs.YtdcdcokofcfkoaaW.PrintMore

theorem wr {x : Int} (h1 : -9223372036854775808 ≤ x) (h2 : x ≤ 9223372036854775807) : wrap64 x = x := by unfold wrap64; omega
theorem wf8 {x : Int} (h : (Lit.int .u8 x).wf = true) : 0 ≤ x ∧ x ≤ 255 := by
  simp only [Lit.wf, Bool.and_eq_true, decide_eq_true_eq] at h
  have h1 : IntKind.u8.min = 0 := by decide
  have h2 : IntKind.u8.max = 255 := by decide
  omega
theorem tmod0 (a n : Int) : (Int.tmod a n = 0) = (a % n = 0) := by
  rw [← Int.dvd_iff_tmod_eq_zero, Int.dvd_iff_emod_eq_zero]
theorem evs {α : Type} {g : Nat → Option α} {r : α} (K : Nat) (h : ∀ k, K ≤ k → g k = some r) : Ev g r := ⟨K, h⟩
theorem xor_pos (x y : Int) (hx : 0 ≤ x) (hx2 : x < 1099511627776) (hy : 0 ≤ y) (hy2 : y < 1099511627776) : 0 ≤ Go.bits .xor .i64 x y ∧ Go.bits .xor .i64 x y ≤ 1099511627776 := by
  obtain ⟨a, rfl⟩ := Int.eq_ofNat_of_zero_le hx
  obtain ⟨b, rfl⟩ := Int.eq_ofNat_of_zero_le hy
  have e : (BitVec.ofInt 64 (a : Int) ^^^ BitVec.ofInt 64 (b : Int)).toNat = a ^^^ b := by
    rw [BitVec.toNat_xor, BitVec.toNat_ofInt, BitVec.toNat_ofInt]
    congr 1 <;> omega
  have hlt : a ^^^ b < 2 ^ 40 := Nat.xor_lt_two_pow (by omega) (by omega)
  unfold Go.bits
  show 0 ≤ IntKind.i64.wrap ((BitVec.ofInt 64 (a : Int) ^^^ BitVec.ofInt 64 (b : Int)).toNat : Int) ∧ IntKind.i64.wrap ((BitVec.ofInt 64 (a : Int) ^^^ BitVec.ofInt 64 (b : Int)).toNat : Int) ≤ 1099511627776
  rw [e, IntKind.wrap_i64]
  omega
def Code (b : List Int) : Prop := b.length ≤ 2000 ∧ ∀ x ∈ b, 0 ≤ x ∧ x ≤ 255
theorem rd_code {b : List Int} (h : Code b) (i : Int) : 0 ≤ rd b i ∧ rd b i ≤ 255 := by
  unfold rd
  by_cases hi : i.toNat < b.length
  · rw [List.getD_eq_getElem?_getD, List.getElem?_eq_getElem hi]
    exact h.2 _ (List.getElem_mem hi)
  · rw [List.getD_eq_getElem?_getD, List.getElem?_eq_none (by omega)]
    exact ⟨by decide, by decide⟩
theorem open_some (l : List Int) (h : ∀ x ∈ l, (Lit.int .u8 x).wf = true) : ∃ b, Code b ∧ spec_l20Open.f l = some (b, 0) := by
  unfold spec_l20Open.f
  by_cases hl : (l.length : Int) > 2000
  · rw [if_pos hl, if_pos (by omega)]
    exact ⟨_, ⟨by rw [List.length_take]; omega, fun x hx => wf8 (h x (List.mem_of_mem_take hx))⟩, rfl⟩
  · rw [if_neg hl]
    exact ⟨_, ⟨by omega, fun x hx => wf8 (h x hx)⟩, rfl⟩
theorem pick_any (b : List Int) (hb : Code b) (p n : Int) (h0 : 0 ≤ p) (hp : p ≤ 1000000) (hn : n ≤ 1000000) :
    ∃ v, 0 ≤ v ∧ (1 ≤ n → v < n) ∧ (n < 1 → v = 0) ∧ Ev (fun k => spec_l20Rd_pick.f k b p n) (v, p + 1) := by
  have ep : wrap64 (p + 1) = p + 1 := wr (by omega) (by omega)
  have ep2 : wrap64 (p + 1 - 1) = p := by rw [show p + 1 - 1 = p by omega]; exact wr (by omega) (by omega)
  have eu : ∀ i, wrap64 (rd b i) = rd b i := fun i => by have := rd_code hb i; exact wr (by omega) (by omega)
  by_cases h1 : n < 1
  · refine ⟨0, by omega, by omega, fun _ => rfl, evs 1 fun k hk => ?_⟩
    obtain ⟨k, rfl⟩ : ∃ m, k = m + 1 := ⟨k - 1, by omega⟩
    simp only [spec_l20Rd_pick.f]
    rw [if_pos h1]; simp only [spec_l20Rd_pick.j0]
    rw [if_pos trivial, ep]
  · by_cases h2 : (b.length : Int) = 0
    · refine ⟨0, by omega, by omega, by omega, evs 1 fun k hk => ?_⟩
      obtain ⟨k, rfl⟩ : ∃ m, k = m + 1 := ⟨k - 1, by omega⟩
      simp only [spec_l20Rd_pick.f]
      rw [if_neg h1, h2]; simp only [spec_l20Rd_pick.j0]
      rw [if_pos (by first | trivial | rfl), ep]
    · have hlen := hb.1
      have e2 : ((b.length : Int) == 0) = false := by simpa using h2
      by_cases h3 : p < (b.length : Int)
      · refine ⟨Int.tmod (rd b p) n, Int.tmod_nonneg _ (rd_code hb p).1, fun h => Int.tmod_lt_of_pos _ (by omega), by omega, evs 1 fun k hk => ?_⟩
        obtain ⟨k, rfl⟩ : ∃ m, k = m + 1 := ⟨k - 1, by omega⟩
        simp only [spec_l20Rd_pick.f]
        rw [if_neg h1, e2]; simp only [spec_l20Rd_pick.j0]
        rw [if_neg (by simp), ep, ep2, if_pos h3, if_pos h0, if_neg (by omega), eu]
      · have q1 := Int.tmod_nonneg (b.length : Int) h0
        have q2 := Int.tmod_lt_of_pos p (b := (b.length : Int)) (by omega)
        have w7 : wrap64 (wrap64 (p * 7) + 3) = p * 7 + 3 := by rw [wr (x := p * 7) (by omega) (by omega)]; exact wr (by omega) (by omega)
        have q3 := Int.tmod_nonneg (b.length : Int) (show 0 ≤ p * 7 + 3 by omega)
        have q4 := Int.tmod_lt_of_pos (p * 7 + 3) (b := (b.length : Int)) (by omega)
        have r1 := rd_code hb (Int.tmod p b.length)
        have r2 := rd_code hb (Int.tmod (p * 7 + 3) b.length)
        have d1 : 0 ≤ Int.tdiv p b.length ∧ Int.tdiv p b.length ≤ p := by
          rw [Int.tdiv_eq_ediv_of_nonneg h0]
          exact ⟨Int.ediv_nonneg h0 (by omega), Int.ediv_le_self _ h0⟩
        generalize hX : Int.tdiv p b.length = X at d1
        generalize hA : rd b (Int.tmod p b.length) = A at r1
        generalize hB : rd b (Int.tmod (p * 7 + 3) b.length) = B at r2
        have wA0 : wrap64 A = A := wr (by omega) (by omega)
        have wB0 : wrap64 B = B := wr (by omega) (by omega)
        have wA : wrap64 (A * 131) = A * 131 := wr (by omega) (by omega)
        have wB : wrap64 (B * 1117) = B * 1117 := wr (by omega) (by omega)
        have wS : wrap64 (A * 131 + B * 1117) = A * 131 + B * 1117 := wr (by omega) (by omega)
        have wp : wrap64 (p * 29) = p * 29 := wr (by omega) (by omega)
        have wS2 : wrap64 (A * 131 + B * 1117 + p * 29) = A * 131 + B * 1117 + p * 29 := wr (by omega) (by omega)
        have wX : wrap64 X = X := wr (by omega) (by omega)
        have wX2 : wrap64 (X * 53) = X * 53 := wr (by omega) (by omega)
        have wS3 : wrap64 (A * 131 + B * 1117 + p * 29 + X * 53) = A * 131 + B * 1117 + p * 29 + X * 53 := wr (by omega) (by omega)
        have hS : 0 ≤ A * 131 + B * 1117 + p * 29 + X * 53 ∧ A * 131 + B * 1117 + p * 29 + X * 53 ≤ 100000000 := by omega
        generalize hT : A * 131 + B * 1117 + p * 29 + X * 53 = T at hS wS3
        have w64 : wrap64 (Int.tdiv T 64) = T / 64 := by rw [Int.tdiv_eq_ediv_of_nonneg hS.1]; exact wr (by omega) (by omega)
        have hx := xor_pos T (T / 64) hS.1 (by omega) (by omega) (by omega)
        refine ⟨Int.tmod (Go.bits .xor .i64 T (T / 64)) n, Int.tmod_nonneg _ hx.1, fun h => Int.tmod_lt_of_pos _ (by omega), by omega, evs 1 fun k hk => ?_⟩
        obtain ⟨k, rfl⟩ : ∃ m, k = m + 1 := ⟨k - 1, by omega⟩
        simp only [spec_l20Rd_pick.f]
        rw [if_neg h1, e2]; simp only [spec_l20Rd_pick.j0]
        rw [if_neg (by simp), ep, ep2, if_neg h3, if_neg h2, if_pos q1, if_pos q2, w7, if_pos q3, if_pos q4, if_neg (by omega)]
        simp only [eu, hX, hA, hB, wA0, wB0, wA, wB, wS, wp, wS2, wX, wX2, hT, wS3, w64]
theorem pick_pos (b : List Int) (hb : Code b) (p n : Int) (h0 : 0 ≤ p) (hp : p ≤ 1000000) (h1 : 1 ≤ n) (hn : n ≤ 1000000) :
    ∃ v, 0 ≤ v ∧ v < n ∧ Ev (fun k => spec_l20Rd_pick.f k b p n) (v, p + 1) := by
  obtain ⟨v, a, c, _, e⟩ := pick_any b hb p n h0 hp hn
  exact ⟨v, a, c h1, e⟩
def leap (y : Int) : Bool := decide (y % 4 = 0 ∧ (y % 100 ≠ 0 ∨ y % 400 = 0))
theorem tb (a n : Int) : (Int.tmod a n == 0) = decide (a % n = 0) := by
  rw [← decide_eq_decide.mpr (iff_of_eq (tmod0 a n))]
  rfl
theorem impl_leap (y : Int) : impl_DayLeap.f y = some (leap y) := by
  unfold impl_DayLeap.f leap
  simp only [tmod0, tb]
  by_cases h4 : y % 4 = 0 <;> by_cases h1 : y % 100 = 0 <;> by_cases h2 : y % 400 = 0 <;> simp [h4, h1, h2]
def dl (y m : Int) : Int := if 1 ≤ m ∧ m ≤ 12 then (if m = 2 then (if leap y = true then 29 else 28) else impl_DayLast.tab m) else 0
theorem impl_last (y m : Int) : impl_DayLast.f y m = some (dl y m) := by
  unfold impl_DayLast.f dl
  by_cases h1 : m ≥ 1
  · by_cases h2 : m ≤ 12
    · rw [if_pos h1, if_pos h2, if_pos (show 1 ≤ m ∧ m ≤ 12 from ⟨h1, h2⟩)]
      by_cases h3 : m = 2
      · simp only [if_pos h3, impl_leap]
        cases leap y <;> rfl
      · simp only [if_neg h3]
    · rw [if_pos h1, if_neg h2, if_neg (by omega)]
  · rw [if_neg h1, if_neg (by omega)]
theorem in_impl (a b c : Int) : impl_in.f a b c = some (decide (b ≤ a ∧ a ≤ c)) := by
  unfold impl_in.f
  by_cases h : a ≥ b
  · rw [if_pos h]; simp [show b ≤ a from h]
  · rw [if_neg h]; simp [show ¬ b ≤ a from h]
theorem in_spec (a b c : Int) : spec_l1In.f a b c = some (decide (b ≤ a ∧ a ≤ c)) := by
  unfold spec_l1In.f
  by_cases h : a ≥ b
  · rw [if_pos h]; simp [show b ≤ a from h]
  · rw [if_neg h]; simp [show ¬ b ≤ a from h]
def dok (y m d : Int) : Bool := decide (1900 ≤ y ∧ y ≤ 2199 ∧ 1 ≤ m ∧ m ≤ 12 ∧ 1 ≤ d ∧ d ≤ dl y m)
theorem impl_ok (y m d : Int) : impl_DayOk.f y m d = some (dok y m d) := by
  unfold impl_DayOk.f dok
  rw [in_impl, impl_last]
  simp only [Option.bind_some, in_impl, decide_eq_true_eq]
  have hd : ¬ (1 ≤ m ∧ m ≤ 12) → dl y m = 0 := fun h => by unfold dl; rw [if_neg h]
  by_cases h1 : 1900 ≤ y ∧ y ≤ 2199
  · rw [if_pos h1]; congr 1; rw [decide_eq_decide]
    by_cases h : 1 ≤ m ∧ m ≤ 12
    · omega
    · have := hd h
      omega
  · rw [if_neg h1]; congr 1; symm; rw [decide_eq_false_iff_not]; omega
theorem cu_ok : laws_cuOk.f = some true := by
  unfold laws_cuOk.f
  rw [impl_ok]
  rfl
def ten (p : Int) : Int := if p ≤ 0 then 1 else if p = 1 then 10 else if p = 2 then 100 else 1000
theorem spec_ten (k : Nat) (p : Int) (h0 : 0 ≤ p) (h3 : p ≤ 3) : spec_l1Ten.f (k + 4) p = some (ten p) := by
  rcases (by omega : p = 0 ∨ p = 1 ∨ p = 2 ∨ p = 3) with rfl | rfl | rfl | rfl
  all_goals
    simp only [spec_l1Ten.f, spec_l1Ten.l0]
    simp [wrap64, ten]
theorem impl_ten (k : Nat) (p : Int) (h0 : 0 ≤ p) (h3 : p ≤ 3) : impl_power.f (k + 4) p = some (ten p) := by
  rcases (by omega : p = 0 ∨ p = 1 ∨ p = 2 ∨ p = 3) with rfl | rfl | rfl | rfl
  all_goals
    simp only [impl_power.f, impl_power.l0]
    simp [wrap64, ten]
theorem ten_bound (p : Int) : 1 ≤ ten p ∧ ten p ≤ 1000 := by
  unfold ten
  repeat' split
  all_goals omega
def decok (n p : Int) : Bool := decide (0 ≤ p ∧ p ≤ 3 ∧ -(9999 * ten p) ≤ n ∧ n ≤ 9999 * ten p)
theorem impl_decok (k : Nat) (n p : Int) : impl_DecOk.f (k + 4) n p = some (decok n p) := by
  unfold impl_DecOk.f decok
  rw [in_impl]
  by_cases h : 0 ≤ p ∧ p ≤ 3
  · have hb := ten_bound p
    rw [decide_eq_true h]
    simp only [Option.bind_some, if_true, impl_ten k p h.1 h.2, in_impl]
    rw [wr (x := -9999 * ten p) (by omega) (by omega), wr (x := 9999 * ten p) (by omega) (by omega)]
    congr 1; rw [decide_eq_decide]; omega
  · rw [decide_eq_false h]
    simp only [Option.bind_some]
    rw [if_neg (by simp)]; congr 1; symm; rw [decide_eq_false_iff_not]; omega
theorem spec_decok (k : Nat) (n p : Int) : spec_DecOk.f (k + 4) n p = some (decok n p) := by
  unfold spec_DecOk.f decok
  rw [in_spec]
  by_cases h : 0 ≤ p ∧ p ≤ 3
  · have hb := ten_bound p
    rw [decide_eq_true h]
    simp only [Option.bind_some, if_true, spec_ten k p h.1 h.2, in_spec]
    rw [wr (x := -9999 * ten p) (by omega) (by omega), wr (x := 9999 * ten p) (by omega) (by omega)]
    congr 1; rw [decide_eq_decide]; omega
  · rw [decide_eq_false h]
    simp only [Option.bind_some]
    rw [if_neg (by simp)]; congr 1; symm; rw [decide_eq_false_iff_not]; omega
theorem ten_vals (p : Int) : ten p = 1 ∨ ten p = 10 ∨ ten p = 100 ∨ ten p = 1000 := by
  unfold ten
  repeat' split
  all_goals simp
def near (n t : Int) : Int := if n < 0 then -((2 * (-n) + t) / (2 * t)) else (2 * n + t) / (2 * t)
theorem near_bound (n t : Int) (ht : 1 ≤ t ∧ t ≤ 1000) (h0 : 0 ≤ n) : 0 ≤ (2 * n + t) / (2 * t) ∧ (2 * n + t) / (2 * t) ≤ 2 * n + t :=
  ⟨Int.ediv_nonneg (by omega) (by omega), Int.ediv_le_self _ (by omega)⟩
theorem spec_near_pos (n t : Int) (ht : 1 ≤ t ∧ t ≤ 1000) (h0 : 0 ≤ n) (h1 : n ≤ 10000000) (z : Nat) : spec_l1Near.f (z + 1) n t = some ((2 * n + t) / (2 * t)) := by
  have hb := near_bound n t ht h0
  simp only [spec_l1Near.f]
  rw [if_neg (by omega), wr (x := 2 * t) (by omega) (by omega), if_neg (by omega), wr (x := 2 * n) (by omega) (by omega), wr (x := 2 * n + t) (by omega) (by omega), Int.tdiv_eq_ediv_of_nonneg (by omega), wr (x := (2 * n + t) / (2 * t)) (by omega) (by omega)]
theorem spec_near (n t : Int) (ht : 1 ≤ t ∧ t ≤ 1000) (h0 : -10000000 ≤ n) (h1 : n ≤ 10000000) (k : Nat) : spec_l1Near.f (k + 2) n t = some (near n t) := by
  unfold near
  by_cases h : n < 0
  · have e := spec_near_pos (-n) t ht (by omega) (by omega) k
    have hb := near_bound (-n) t ht (by omega)
    rw [if_pos h, show k + 2 = (k + 1) + 1 from rfl]
    generalize k + 1 = z at *
    simp only [spec_l1Near.f]
    rw [if_pos h, wr (x := -n) (by omega) (by omega), e]
    simp only [Option.bind_some]
    rw [wr (by omega) (by omega)]
  · rw [if_neg h]
    exact spec_near_pos n t ht (by omega) h1 (k + 1)
theorem impl_near_pos (n t : Int) (ht : 1 ≤ t ∧ t ≤ 1000) (h0 : 0 ≤ n) (h1 : n ≤ 10000000) (z : Nat) : impl_nearest.f (z + 1) n t = some ((2 * n + t) / (2 * t)) := by
  have hb := near_bound n t ht h0
  simp only [impl_nearest.f]
  rw [if_neg (by omega), wr (x := 2 * t) (by omega) (by omega), if_neg (by omega), wr (x := 2 * n) (by omega) (by omega), wr (x := 2 * n + t) (by omega) (by omega), Int.tdiv_eq_ediv_of_nonneg (by omega), wr (x := (2 * n + t) / (2 * t)) (by omega) (by omega)]
theorem impl_near (n t : Int) (ht : 1 ≤ t ∧ t ≤ 1000) (h0 : -10000000 ≤ n) (h1 : n ≤ 10000000) (k : Nat) : impl_nearest.f (k + 2) n t = some (near n t) := by
  unfold near
  by_cases h : n < 0
  · have e := impl_near_pos (-n) t ht (by omega) (by omega) k
    have hb := near_bound (-n) t ht (by omega)
    rw [if_pos h, show k + 2 = (k + 1) + 1 from rfl]
    generalize k + 1 = z at *
    simp only [impl_nearest.f]
    rw [if_pos h, wr (x := -n) (by omega) (by omega), e]
    simp only [Option.bind_some]
    rw [wr (by omega) (by omega)]
  · rw [if_neg h]
    exact impl_near_pos n t ht (by omega) h1 (k + 1)
def at_ (n p q : Int) : Int × Int := if q ≥ p then (n * ten (q - p), q) else (near n (ten (p - q)), q)
def decat (n p q : Int) : Int × Int := if decok n p = true ∧ 0 ≤ q ∧ q ≤ 3 then at_ n p q else (0, 0)
theorem ok_facts {n p : Int} (h : decok n p = true) : 0 ≤ p ∧ p ≤ 3 ∧ -(9999 * ten p) ≤ n ∧ n ≤ 9999 * ten p ∧ ten p ≤ 1000 := by
  unfold decok at h
  rw [decide_eq_true_eq] at h
  have := ten_bound p
  omega
theorem scale_bound {n p : Int} (h : decok n p = true) (q : Int) : -9999000000 ≤ n * ten q ∧ n * ten q ≤ 9999000000 := by
  have := ok_facts h
  rcases ten_vals q with e | e | e | e <;> rw [e] <;> omega
theorem spec_at (k : Nat) {n p : Int} (h : decok n p = true) (q : Int) (h0 : 0 ≤ q) (h3 : q ≤ 3) : spec_l1At.f (k + 4) n p q = some (at_ n p q) := by
  have ho := ok_facts h
  unfold spec_l1At.f at_
  by_cases hq : q ≥ p
  · have hs := scale_bound h (q - p)
    rw [if_pos hq, if_pos hq, wr (x := q - p) (by omega) (by omega), spec_ten k (q - p) (by omega) (by omega)]
    simp only [Option.bind_some]
    rw [wr (by omega) (by omega)]
  · rw [if_neg hq, if_neg hq, wr (x := p - q) (by omega) (by omega), spec_ten k (p - q) (by omega) (by omega)]
    simp only [Option.bind_some]
    rw [show k + 4 = (k + 2) + 2 from rfl, spec_near n _ (ten_bound _) (by omega) (by omega)]
    rfl
theorem spec_decat (k : Nat) (n p q : Int) : spec_DecAt.f (k + 5) n p q = some (decat n p q) := by
  have no : spec_DecAt.j0 (k + 5) q true n p = some (0, 0) := by
    rw [show k + 5 = (k + 4) + 1 from rfl]
    generalize k + 4 = z
    simp only [spec_DecAt.j0]
    rw [if_pos trivial]
  unfold spec_DecAt.f decat
  rw [show k + 5 = (k + 1) + 4 from rfl, spec_decok]
  simp only [Option.bind_some]
  by_cases h : decok n p = true
  · rw [if_pos h, in_spec]
    simp only [Option.bind_some]
    by_cases hq : 0 ≤ q ∧ q ≤ 3
    · have e := spec_at k h q hq.1 hq.2
      rw [decide_eq_true hq, if_pos ⟨h, hq⟩, show k + 1 + 4 = (k + 4) + 1 from rfl]
      generalize k + 4 = z at *
      simp only [spec_DecAt.j0, e, Option.bind_some]
      rw [if_neg (by simp)]
    · rw [decide_eq_false hq, if_neg (fun g => hq g.2)]
      exact no
  · rw [if_neg h, if_neg (fun g => h g.1)]
    exact no
theorem impl_decat (k : Nat) (n p q : Int) : impl_DecAt.f (k + 5) n p q = some (decat n p q) := by
  have no : impl_DecAt.j0 (k + 5) q true n p = some (0, 0) := by
    rw [show k + 5 = (k + 4) + 1 from rfl]
    generalize k + 4 = z
    simp only [impl_DecAt.j0]
    rw [if_pos trivial]
  unfold impl_DecAt.f decat
  rw [show k + 5 = (k + 1) + 4 from rfl, impl_decok]
  simp only [Option.bind_some]
  by_cases h : decok n p = true
  · have ho := ok_facts h
    rw [if_pos h, in_impl]
    simp only [Option.bind_some]
    by_cases hq : 0 ≤ q ∧ q ≤ 3
    · rw [decide_eq_true hq, if_pos ⟨h, hq⟩, show k + 1 + 4 = (k + 4) + 1 from rfl]
      unfold at_
      by_cases hp : q ≥ p
      · have hs := scale_bound h (q - p)
        have e := impl_ten k (q - p) (by omega) (by omega)
        generalize k + 4 = z at *
        simp only [impl_DecAt.j0]
        rw [if_neg (by simp), if_pos hp, if_pos hp, wr (x := q - p) (by omega) (by omega), e]
        simp only [Option.bind_some]
        rw [wr (by omega) (by omega)]
      · have e := impl_ten k (p - q) (by omega) (by omega)
        have e2 := impl_near n (ten (p - q)) (ten_bound _) (by omega) (by omega) (k + 2)
        rw [show k + 2 + 2 = k + 4 from rfl] at e2
        generalize k + 4 = z at *
        simp only [impl_DecAt.j0]
        rw [if_neg (by simp), if_neg hp, if_neg hp, wr (x := p - q) (by omega) (by omega), e]
        simp only [Option.bind_some, e2]
    · rw [decide_eq_false hq, if_neg (fun g => hq g.2)]
      exact no
  · rw [if_neg h, if_neg (fun g => h g.1)]
    exact no
def cmp3 (n p m q : Int) : Int := if decok n p = true ∧ decok m q = true then (if n * ten (3 - p) < m * ten (3 - q) then -1 else if n * ten (3 - p) > m * ten (3 - q) then 1 else 0) else 0
theorem at3 {n p : Int} (h : decok n p = true) : at_ n p 3 = (n * ten (3 - p), 3) := by
  have := ok_facts h
  unfold at_
  rw [if_pos (by omega)]
theorem compare_int (a b : Int) : cmp_Compare_int.f a b = some (if a < b then -1 else if a > b then 1 else 0) := by
  unfold cmp_Compare_int.f cmp_isNaN_int.f
  simp only [Option.bind_some]
  by_cases h1 : a < b
  · simp [h1]
  · by_cases h2 : b < a
    · simp [h1, h2]
    · simp [h1, h2]
theorem spec_cmp (k : Nat) (n p m q : Int) : spec_DecCmp.f (k + 5) n p m q = some (cmp3 n p m q) := by
  have no : spec_DecCmp.j0 (k + 5) true n p m q = some 0 := by
    rw [show k + 5 = (k + 4) + 1 from rfl]
    generalize k + 4 = z
    simp only [spec_DecCmp.j0]
    rw [if_pos trivial]
  unfold spec_DecCmp.f cmp3
  rw [show k + 5 = (k + 1) + 4 from rfl, spec_decok]
  simp only [Option.bind_some]
  by_cases h : decok n p = true
  · rw [if_pos h, spec_decok]
    simp only [Option.bind_some]
    by_cases g : decok m q = true
    · have e1 := spec_at k h 3 (by omega) (by omega)
      have e2 := spec_at k g 3 (by omega) (by omega)
      rw [g, if_pos ⟨h, rfl⟩, show k + 1 + 4 = (k + 4) + 1 from rfl]
      generalize k + 4 = z at *
      simp only [spec_DecCmp.j0, e1, e2, Option.bind_some, at3 h, at3 g]
      rw [if_neg (by simp)]
      split <;> (first | rfl | (split <;> rfl))
    · rw [Bool.not_eq_true] at g
      rw [g, if_neg (by simp)]
      exact no
  · rw [if_neg h, if_neg (fun g => h g.1)]
    exact no
theorem impl_cmp (k : Nat) (n p m q : Int) : impl_DecCmp.f (k + 6) n p m q = some (cmp3 n p m q) := by
  have no : impl_DecCmp.j0 (k + 6) true n p m q = some 0 := by
    rw [show k + 6 = (k + 5) + 1 from rfl]
    generalize k + 5 = z
    simp only [impl_DecCmp.j0]
    rw [if_pos trivial]
  unfold impl_DecCmp.f cmp3
  rw [show k + 6 = (k + 2) + 4 from rfl, impl_decok]
  simp only [Option.bind_some]
  by_cases h : decok n p = true
  · rw [if_pos h, impl_decok]
    simp only [Option.bind_some]
    by_cases g : decok m q = true
    · have e1 := impl_decat k n p 3
      have e2 := impl_decat k m q 3
      unfold decat at e1 e2
      rw [if_pos ⟨h, by omega, by omega⟩, at3 h] at e1
      rw [if_pos ⟨g, by omega, by omega⟩, at3 g] at e2
      rw [g, if_pos ⟨h, rfl⟩, show k + 2 + 4 = (k + 5) + 1 from rfl]
      generalize k + 5 = z at *
      simp only [impl_DecCmp.j0, e1, e2, Option.bind_some, compare_int]
      rw [if_neg (by simp)]
    · rw [Bool.not_eq_true] at g
      rw [g, if_neg (by simp)]
      exact no
  · rw [if_neg h, if_neg (fun g => h g.1)]
    exact no
theorem dec_draw (b : List Int) (hb : Code b) (p n : Int) (h0 : 0 ≤ p) (hp : p ≤ 800000) (hn : 1 ≤ n) (hn2 : n ≤ 1000000) :
    ∃ x m q, (p ≤ q ∧ q ≤ p + 6) ∧ Ev (fun k => spec_l20Dec.f k b p n) (x, m, q) := by
  obtain ⟨v1, a1, c1, ⟨K1, e1⟩⟩ := pick_pos b hb p 4 h0 (by omega) (by omega) (by omega)
  obtain ⟨v2, a2, c2, ⟨K2, e2⟩⟩ := pick_pos b hb (p + 1) 256 (by omega) (by omega) (by omega) (by omega)
  obtain ⟨v3, a3, c3, ⟨K3, e3⟩⟩ := pick_pos b hb (p + 1 + 1) 9 (by omega) (by omega) (by omega) (by omega)
  obtain ⟨v4, a4, c4, ⟨K4, e4⟩⟩ := pick_pos b hb (p + 1 + 1 + 1) n (by omega) (by omega) hn hn2
  obtain ⟨v5, a5, c5, ⟨K5, e5⟩⟩ := pick_pos b hb (p + 1 + 1 + 1 + 1) 2 (by omega) (by omega) (by omega) (by omega)
  obtain ⟨v6, a6, c6, ⟨K6, e6⟩⟩ := pick_pos b hb (p + 1 + 1 + 1 + 1 + 1) 2 (by omega) (by omega) (by omega) (by omega)
  dsimp only at e1 e2 e3 e4 e5 e6
  have et : ∀ k, 4 ≤ k → spec_l1Ten.f k v1 = some (ten v1) := by
    intro k hk
    have := spec_ten (k - 4) v1 a1 (by omega)
    rwa [show k - 4 + 4 = k by omega] at this
  by_cases h1 : v4 = 0
  · by_cases h2 : v5 = 0
    · refine ⟨rd [0, 5, 15, 149, 995, -25, wrap64 (9999 * ten v1), wrap64 (-9999 * ten v1), wrap64 (v2 * 7)] v3, rd [-1, 4] v6, p + 1 + 1 + 1 + 1 + 1 + 1, by omega, max K1 (max K2 (max K3 (max K4 (max K5 K6)))) + 4, fun k hk => ?_⟩
      unfold spec_l20Dec.f
      simp only [Option.bind_some, e1 k (by omega), e2 k (by omega), e3 k (by omega), e4 k (by omega), et k (by omega)]
      rw [if_pos a3, if_pos (by simpa using c3), if_pos h1, e5 k (by omega)]
      simp only [Option.bind_some]
      rw [if_pos h2, e6 k (by omega)]
      simp only [Option.bind_some]
      rw [if_pos a6, if_pos (by simpa using c6)]
    · refine ⟨rd [wrap64 (wrap64 (9999 * ten v1) + 1), wrap64 (wrap64 (-9999 * ten v1) - 1)] v6, v1, p + 1 + 1 + 1 + 1 + 1 + 1, by omega, max K1 (max K2 (max K3 (max K4 (max K5 K6)))) + 4, fun k hk => ?_⟩
      unfold spec_l20Dec.f
      simp only [Option.bind_some, e1 k (by omega), e2 k (by omega), e3 k (by omega), e4 k (by omega), et k (by omega)]
      rw [if_pos a3, if_pos (by simpa using c3), if_pos h1, e5 k (by omega)]
      simp only [Option.bind_some]
      rw [if_neg h2, e6 k (by omega)]
      simp only [Option.bind_some]
      rw [if_pos a6, if_pos (by simpa using c6)]
  · refine ⟨rd [0, 5, 15, 149, 995, -25, wrap64 (9999 * ten v1), wrap64 (-9999 * ten v1), wrap64 (v2 * 7)] v3, v1, p + 1 + 1 + 1 + 1, by omega, max K1 (max K2 (max K3 K4)) + 4, fun k hk => ?_⟩
    unfold spec_l20Dec.f
    simp only [Option.bind_some, e1 k (by omega), e2 k (by omega), e3 k (by omega), e4 k (by omega), et k (by omega)]
    rw [if_pos a3, if_pos (by simpa using c3), if_neg h1]
theorem drawDecCmp_ev (l : List Int) (h : ∀ x ∈ l, (Lit.int .u8 x).wf = true) : ∃ n p m q, ∃ K, ∀ k, K ≤ k → spec_DrawDecCmp.f k l = some (n, p, m, q) := by
  obtain ⟨b, hb, e0⟩ := open_some l h
  obtain ⟨n, p, q1, hq1, ⟨K1, e1⟩⟩ := dec_draw b hb 0 16 (by omega) (by omega) (by omega) (by omega)
  obtain ⟨m, q, q2, hq2, ⟨K2, e2⟩⟩ := dec_draw b hb q1 16 (by omega) (by omega) (by omega) (by omega)
  obtain ⟨v, _, _, ⟨K3, e3⟩⟩ := pick_pos b hb q2 2 (by omega) (by omega) (by omega) (by omega)
  obtain ⟨v4, _, _, ⟨K4, e4⟩⟩ := pick_pos b hb (q2 + 1) 4 (by omega) (by omega) (by omega) (by omega)
  obtain ⟨v5, _, _, ⟨K5, e5⟩⟩ := pick_pos b hb (q2 + 1 + 1) 3 (by omega) (by omega) (by omega) (by omega)
  dsimp only at e1 e2 e3 e4 e5
  have f : ∀ z, max K4 K5 + 5 ≤ z → spec_DrawDecCmp.j0 (z + 1) false b (q2 + 1) n p m q = some (n, p, m, q) := by
    intro z hz
    simp only [spec_DrawDecCmp.j0]
    rw [if_neg (by simp)]
  have t : ∀ z, max K4 K5 + 5 ≤ z → spec_DrawDecCmp.j0 (z + 1) true b (q2 + 1) n p m q = some (n, p, wrap64 (wrap64 ((decat n p v4).1 + v5) - 1), (decat n p v4).2) := by
    intro z hz
    have ed := spec_decat (z - 5) n p v4
    rw [show z - 5 + 5 = z by omega] at ed
    simp only [spec_DrawDecCmp.j0, e4 z (by omega), e5 z (by omega), ed, Option.bind_some]
    rw [if_pos trivial]
  by_cases hv : v = 0 ∧ decok n p = true
  · refine ⟨n, p, wrap64 (wrap64 ((decat n p v4).1 + v5) - 1), (decat n p v4).2, max K1 (max K2 (max K3 (max K4 K5))) + 6, fun k hk => ?_⟩
    · have eo := spec_decok (k - 4) n p
      rw [show k - 4 + 4 = k by omega] at eo
      unfold spec_DrawDecCmp.f
      simp only [e0, Option.bind_some, e1 k (by omega), e2 k (by omega), e3 k (by omega), eo]
      rw [if_pos hv.1, hv.2]
      have := t (k - 1) (by omega)
      rw [show k - 1 + 1 = k by omega] at this
      exact this
  · refine ⟨n, p, m, q, max K1 (max K2 (max K3 (max K4 K5))) + 6, fun k hk => ?_⟩
    have eo := spec_decok (k - 4) n p
    rw [show k - 4 + 4 = k by omega] at eo
    have ef := f (k - 1) (by omega)
    rw [show k - 1 + 1 = k by omega] at ef
    unfold spec_DrawDecCmp.f
    simp only [e0, Option.bind_some, e1 k (by omega), e2 k (by omega), e3 k (by omega), eo]
    by_cases h1 : v = 0
    · rw [if_pos h1, (Bool.not_eq_true _).mp (fun g => hv ⟨h1, g⟩)]
      exact ef
    · rw [if_neg h1]
      exact ef
theorem tens : ten 0 = 1 ∧ ten 1 = 10 ∧ ten 2 = 100 ∧ ten 3 = 1000 := ⟨rfl, rfl, rfl, rfl⟩
theorem at_up_ok {n p q : Int} (h : decok n p = true) (hp : p ≤ q) (hq : q ≤ 3) : decok (n * ten (q - p)) q = true := by
  have ho := ok_facts h
  obtain ⟨t0, t1, t2, t3⟩ := tens
  unfold decok at h ⊢
  rw [decide_eq_true_eq] at h ⊢
  rcases (by omega : p = 0 ∨ p = 1 ∨ p = 2 ∨ p = 3) with rfl | rfl | rfl | rfl <;> rcases (by omega : q = 0 ∨ q = 1 ∨ q = 2 ∨ q = 3) with rfl | rfl | rfl | rfl <;>
    first
    | (exfalso; omega)
    | (simp only [Int.reduceSub, t0, t1, t2, t3] at h ⊢; omega)
theorem FnDecCmp : laws_FnDecCmp.Pure := by
  intro l0 l1 _ _ h0 _ _ h1
  obtain ⟨n, p, m, q, K1, e1⟩ := drawDecCmp_ev l0 h0
  obtain ⟨c, r, x, y, K2, e2⟩ := drawDecCmp_ev l1 h1
  refine ⟨max K1 K2 + 24, ?_⟩
  obtain ⟨K, hK⟩ : ∃ K, K = max K1 K2 := ⟨_, rfl⟩
  rw [← hK]
  have big : laws_FnDecCmp.j0 (K + 24) l0 l1 true = some true := by
    rw [show K + 24 = K + 23 + 1 from rfl]
    generalize K + 23 = z
    simp only [laws_FnDecCmp.j0]
    rw [if_pos trivial]
  have ic : ∀ z, K + 6 ≤ z → ∀ n p m q, impl_DecCmp.f z n p m q = some (cmp3 n p m q) := by
    intro z hz n p m q
    have := impl_cmp (z - 6) n p m q
    rwa [show z - 6 + 6 = z by omega] at this
  have sc : ∀ z, K + 6 ≤ z → ∀ n p m q, spec_DecCmp.f z n p m q = some (cmp3 n p m q) := by
    intro z hz n p m q
    have := spec_cmp (z - 5) n p m q
    rwa [show z - 5 + 5 = z by omega] at this
  have io : ∀ z, K + 6 ≤ z → ∀ n p, impl_DecOk.f z n p = some (decok n p) := by
    intro z hz n p
    have := impl_decok (z - 4) n p
    rwa [show z - 4 + 4 = z by omega] at this
  have so : ∀ z, K + 6 ≤ z → ∀ n p, spec_DecOk.f z n p = some (decok n p) := by
    intro z hz n p
    have := spec_decok (z - 4) n p
    rwa [show z - 4 + 4 = z by omega] at this
  have ia : ∀ z, K + 6 ≤ z → ∀ n p q, impl_DecAt.f z n p q = some (decat n p q) := by
    intro z hz n p q
    have := impl_decat (z - 5) n p q
    rwa [show z - 5 + 5 = z by omega] at this
  have anti : wrap64 (-cmp3 n p m q) = cmp3 m q n p := by
    unfold cmp3
    by_cases h : decok n p = true ∧ decok m q = true
    · rw [if_pos h, if_pos (show decok m q = true ∧ decok n p = true from ⟨h.2, h.1⟩)]
      by_cases a : n * ten (3 - p) < m * ten (3 - q)
      · rw [if_pos a, if_neg (by omega), if_pos (by omega)]; unfold wrap64; omega
      · by_cases b : n * ten (3 - p) > m * ten (3 - q)
        · rw [if_neg a, if_pos b, if_pos (by omega)]; unfold wrap64; omega
        · rw [if_neg a, if_neg b, if_neg (by omega), if_neg (by omega)]; unfold wrap64; omega
    · rw [if_neg h, if_neg (show ¬ (decok m q = true ∧ decok n p = true) from fun g => h ⟨g.2, g.1⟩)]; unfold wrap64; omega
  have j3 : decok n p = true → decok m q = true → ∀ z, K + 6 ≤ z → laws_FnDecCmp.j3 (z + 1) (cmp3 n p m q) false n p m q = some true := by
    intro g1 g2 z hz
    have d1 : decat n p 3 = (n * ten (3 - p), 3) := by unfold decat; rw [if_pos ⟨g1, by omega, by omega⟩, at3 g1]
    have d2 : decat m q 3 = (m * ten (3 - q), 3) := by unfold decat; rw [if_pos ⟨g2, by omega, by omega⟩, at3 g2]
    have f1 := ok_facts g1
    have f2 := ok_facts g2
    have same : cmp3 (n * ten (3 - p)) 3 (m * ten (3 - q)) 3 = cmp3 n p m q := by
      unfold cmp3
      rw [if_pos ⟨at_up_ok g1 (by omega) (by omega), at_up_ok g2 (by omega) (by omega)⟩, if_pos (show decok n p = true ∧ decok m q = true from ⟨g1, g2⟩), show ten (3 - 3) = 1 from rfl, Int.mul_one, Int.mul_one]
    have self : cmp3 n p n p = 0 := by
      unfold cmp3
      rw [if_pos ⟨g1, g1⟩, if_neg (by omega), if_neg (by omega)]
    simp only [laws_FnDecCmp.j3, ia z hz, ic z hz, d1, d2, Option.bind_some, same, self, if_true]
    rw [if_neg (by simp), show cmp3 1 0 9 1 = 1 by decide]
    rfl
  have j2 : ∀ z, K + 7 ≤ z → laws_FnDecCmp.j2 (z + 1) (cmp3 n p m q) true n p m q c r = some true := by
    intro z hz
    simp only [laws_FnDecCmp.j2, io z (by omega), so z (by omega), Option.bind_some, cu_ok]
    rw [if_pos trivial, if_pos (by simp)]
  have j2f : decok n p = true → decok m q = true → decok c r = true → ∀ z, K + 7 ≤ z → laws_FnDecCmp.j2 (z + 1) (cmp3 n p m q) false n p m q c r = some true := by
    intro g1 g2 g3 z hz
    have e := j3 g1 g2 (z - 1) (by omega)
    rw [show z - 1 + 1 = z by omega] at e
    simp only [laws_FnDecCmp.j2, ic z (by omega), Option.bind_some]
    rw [if_neg (by simp)]
    by_cases a : cmp3 n p m q > 0
    · rw [if_pos a]
      by_cases b : cmp3 m q c r > 0
      · rw [if_pos b]
        have : ¬ cmp3 n p c r ≤ 0 := by
          unfold cmp3 at a b ⊢
          rw [if_pos ⟨g1, g2⟩] at a
          rw [if_pos ⟨g2, g3⟩] at b
          rw [if_pos ⟨g1, g3⟩]
          have a2 : n * ten (3 - p) > m * ten (3 - q) := by
            by_cases q1 : n * ten (3 - p) < m * ten (3 - q)
            · rw [if_pos q1] at a; omega
            · rw [if_neg q1] at a
              by_cases q2 : n * ten (3 - p) > m * ten (3 - q)
              · exact q2
              · rw [if_neg q2] at a; omega
          have b2 : m * ten (3 - q) > c * ten (3 - r) := by
            by_cases q1 : m * ten (3 - q) < c * ten (3 - r)
            · rw [if_pos q1] at b; omega
            · rw [if_neg q1] at b
              by_cases q2 : m * ten (3 - q) > c * ten (3 - r)
              · exact q2
              · rw [if_neg q2] at b; omega
          rw [if_neg (by omega), if_pos (by omega)]
          omega
        rw [decide_eq_false this]
        exact e
      · rw [if_neg b]
        exact e
    · rw [if_neg a]
      exact e
  have j1 : ∀ z, K + 9 ≤ z → laws_FnDecCmp.j1 (z + 1) (cmp3 n p m q) false n p m q c r = some true := by
    intro z hz
    have t := j2 (z - 1) (by omega)
    rw [show z - 1 + 1 = z by omega] at t
    simp only [laws_FnDecCmp.j1, so z (by omega), Option.bind_some]
    rw [if_neg (by simp)]
    by_cases g1 : decok n p = true
    · rw [if_pos g1]
      by_cases g2 : decok m q = true
      · rw [if_pos g2]
        by_cases g3 : decok c r = true
        · have f := j2f g1 g2 g3 (z - 1) (by omega)
          rw [show z - 1 + 1 = z by omega] at f
          rw [g3]
          exact f
        · rw [(Bool.not_eq_true _).mp g3]
          exact t
      · rw [if_neg g2]
        exact t
    · rw [if_neg g1]
      exact t
  have small : laws_FnDecCmp.j0 (K + 24) l0 l1 false = some true := by
    have f := j1 (K + 22) (by omega)
    have x1 := e1 (K + 23) (by omega)
    have x2 := e2 (K + 23) (by omega)
    have x3 := ic (K + 23) (by omega)
    have x4 := sc (K + 23) (by omega)
    rw [show K + 22 + 1 = K + 23 from rfl] at f
    rw [show K + 24 = K + 23 + 1 from rfl]
    generalize K + 23 = z at *
    simp only [laws_FnDecCmp.j0, x1, x2, x3, x4, Option.bind_some, anti, bne_self_eq_false, if_true]
    rw [if_neg (by simp)]
    exact f
  unfold laws_FnDecCmp.f
  split
  · exact big
  · by_cases g : (l1.length : Int) > 1048576
    · rw [decide_eq_true g]; exact big
    · rw [decide_eq_false g]; exact small

end Go.Proofs.Ytdcdcokofcfkoaa.Pure
