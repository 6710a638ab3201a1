/- DecAt of the program at what a code draws: it answers as the reference, keeps its value where places are won, and rounds half away as the law says: the law's pure statement; no conditions. -/
import Derived.Test.YtdcdcokofcfkoaaAllx0
import Derived.Test.YtdcdcokofcfkoaaAllx11
import Derived.Test.YtdcdcokofcfkoaaAllx12
import Derived.Test.YtdcdcokofcfkoaaAllx2
import Derived.Test.YtdcdcokofcfkoaaAllx21
import Derived.Test.YtdcdcokofcfkoaaAllx22
import Derived.Test.YtdcdcokofcfkoaaAllx3
import Derived.Test.YtdcdcokofcfkoaaAllx4
import Derived.Test.YtdcdcokofcfkoaaAllx6
import Derived.Test.YtdcdcokofcfkoaaAllx8
set_option linter.unusedVariables false
set_option linter.unusedSimpArgs false
namespace Go.Proofs.Ytdcdcokofcfkoaa.Pure
open Go.RowKit Go.Proofs.Ytdcdcokofcfkoaa.All Go.Proofs.YtdcdcokofcfkoaaW.PrintWords Go.Proofs.YtdcdcokofcfkoaaW.PrintLast Go.Proofs.YtdcdcokofcfkoaaW.PrintMore

theorem wr {x : Int} (h1 : -9223372036854775808 ≤ x) (h2 : x ≤ 9223372036854775807) : wrap64 x = x := by unfold wrap64; omega
theorem wf8 {x : Int} (h : (Lit.int .u8 x).wf = true) : 0 ≤ x ∧ x ≤ 255 := by
  simp only [Lit.wf, Bool.and_eq_true, decide_eq_true_eq] at h
  have h1 : IntKind.u8.min = 0 := by decide
  have h2 : IntKind.u8.max = 255 := by decide
  omega
theorem tmod0 (a n : Int) : (Int.tmod a n = 0) = (a % n = 0) := by
  rw [← Int.dvd_iff_tmod_eq_zero, Int.dvd_iff_emod_eq_zero]
theorem evs {α : Type} {g : Nat → Option α} {r : α} (K : Nat) (h : ∀ k, K ≤ k → g k = some r) : Ev g r := ⟨K, h⟩
theorem xor_pos (x y : Int) (hx : 0 ≤ x) (hx2 : x < 1099511627776) (hy : 0 ≤ y) (hy2 : y < 1099511627776) : 0 ≤ Go.bits .xor .i64 x y ∧ Go.bits .xor .i64 x y ≤ 1099511627776 := by
  obtain ⟨a, rfl⟩ := Int.eq_ofNat_of_zero_le hx
  obtain ⟨b, rfl⟩ := Int.eq_ofNat_of_zero_le hy
  have e : (BitVec.ofInt 64 (a : Int) ^^^ BitVec.ofInt 64 (b : Int)).toNat = a ^^^ b := by
    rw [BitVec.toNat_xor, BitVec.toNat_ofInt, BitVec.toNat_ofInt]
    congr 1 <;> omega
  have hlt : a ^^^ b < 2 ^ 40 := Nat.xor_lt_two_pow (by omega) (by omega)
  unfold Go.bits
  show 0 ≤ IntKind.i64.wrap ((BitVec.ofInt 64 (a : Int) ^^^ BitVec.ofInt 64 (b : Int)).toNat : Int) ∧ IntKind.i64.wrap ((BitVec.ofInt 64 (a : Int) ^^^ BitVec.ofInt 64 (b : Int)).toNat : Int) ≤ 1099511627776
  rw [e, IntKind.wrap_i64]
  omega
def Code (b : List Int) : Prop := b.length ≤ 2000 ∧ ∀ x ∈ b, 0 ≤ x ∧ x ≤ 255
theorem rd_code {b : List Int} (h : Code b) (i : Int) : 0 ≤ rd b i ∧ rd b i ≤ 255 := by
  unfold rd
  by_cases hi : i.toNat < b.length
  · rw [List.getD_eq_getElem?_getD, List.getElem?_eq_getElem hi]
    exact h.2 _ (List.getElem_mem hi)
  · rw [List.getD_eq_getElem?_getD, List.getElem?_eq_none (by omega)]
    exact ⟨by decide, by decide⟩
theorem open_some (l : List Int) (h : ∀ x ∈ l, (Lit.int .u8 x).wf = true) : ∃ b, Code b ∧ spec_l20Open.f l = some (b, 0) := by
  unfold spec_l20Open.f
  by_cases hl : (l.length : Int) > 2000
  · rw [if_pos hl, if_pos (by omega)]
    exact ⟨_, ⟨by rw [List.length_take]; omega, fun x hx => wf8 (h x (List.mem_of_mem_take hx))⟩, rfl⟩
  · rw [if_neg hl]
    exact ⟨_, ⟨by omega, fun x hx => wf8 (h x hx)⟩, rfl⟩
theorem pick_any (b : List Int) (hb : Code b) (p n : Int) (h0 : 0 ≤ p) (hp : p ≤ 1000000) (hn : n ≤ 1000000) :
    ∃ v, 0 ≤ v ∧ (1 ≤ n → v < n) ∧ (n < 1 → v = 0) ∧ Ev (fun k => spec_l20Rd_pick.f k b p n) (v, p + 1) := by
  have ep : wrap64 (p + 1) = p + 1 := wr (by omega) (by omega)
  have ep2 : wrap64 (p + 1 - 1) = p := by rw [show p + 1 - 1 = p by omega]; exact wr (by omega) (by omega)
  have eu : ∀ i, wrap64 (rd b i) = rd b i := fun i => by have := rd_code hb i; exact wr (by omega) (by omega)
  by_cases h1 : n < 1
  · refine ⟨0, by omega, by omega, fun _ => rfl, evs 1 fun k hk => ?_⟩
    obtain ⟨k, rfl⟩ : ∃ m, k = m + 1 := ⟨k - 1, by omega⟩
    simp only [spec_l20Rd_pick.f]
    rw [if_pos h1]; simp only [spec_l20Rd_pick.j0]
    rw [if_pos trivial, ep]
  · by_cases h2 : (b.length : Int) = 0
    · refine ⟨0, by omega, by omega, by omega, evs 1 fun k hk => ?_⟩
      obtain ⟨k, rfl⟩ : ∃ m, k = m + 1 := ⟨k - 1, by omega⟩
      simp only [spec_l20Rd_pick.f]
      rw [if_neg h1, h2]; simp only [spec_l20Rd_pick.j0]
      rw [if_pos (by first | trivial | rfl), ep]
    · have hlen := hb.1
      have e2 : ((b.length : Int) == 0) = false := by simpa using h2
      by_cases h3 : p < (b.length : Int)
      · refine ⟨Int.tmod (rd b p) n, Int.tmod_nonneg _ (rd_code hb p).1, fun h => Int.tmod_lt_of_pos _ (by omega), by omega, evs 1 fun k hk => ?_⟩
        obtain ⟨k, rfl⟩ : ∃ m, k = m + 1 := ⟨k - 1, by omega⟩
        simp only [spec_l20Rd_pick.f]
        rw [if_neg h1, e2]; simp only [spec_l20Rd_pick.j0]
        rw [if_neg (by simp), ep, ep2, if_pos h3, if_pos h0, if_neg (by omega), eu]
      · have q1 := Int.tmod_nonneg (b.length : Int) h0
        have q2 := Int.tmod_lt_of_pos p (b := (b.length : Int)) (by omega)
        have w7 : wrap64 (wrap64 (p * 7) + 3) = p * 7 + 3 := by rw [wr (x := p * 7) (by omega) (by omega)]; exact wr (by omega) (by omega)
        have q3 := Int.tmod_nonneg (b.length : Int) (show 0 ≤ p * 7 + 3 by omega)
        have q4 := Int.tmod_lt_of_pos (p * 7 + 3) (b := (b.length : Int)) (by omega)
        have r1 := rd_code hb (Int.tmod p b.length)
        have r2 := rd_code hb (Int.tmod (p * 7 + 3) b.length)
        have d1 : 0 ≤ Int.tdiv p b.length ∧ Int.tdiv p b.length ≤ p := by
          rw [Int.tdiv_eq_ediv_of_nonneg h0]
          exact ⟨Int.ediv_nonneg h0 (by omega), Int.ediv_le_self _ h0⟩
        generalize hX : Int.tdiv p b.length = X at d1
        generalize hA : rd b (Int.tmod p b.length) = A at r1
        generalize hB : rd b (Int.tmod (p * 7 + 3) b.length) = B at r2
        have wA0 : wrap64 A = A := wr (by omega) (by omega)
        have wB0 : wrap64 B = B := wr (by omega) (by omega)
        have wA : wrap64 (A * 131) = A * 131 := wr (by omega) (by omega)
        have wB : wrap64 (B * 1117) = B * 1117 := wr (by omega) (by omega)
        have wS : wrap64 (A * 131 + B * 1117) = A * 131 + B * 1117 := wr (by omega) (by omega)
        have wp : wrap64 (p * 29) = p * 29 := wr (by omega) (by omega)
        have wS2 : wrap64 (A * 131 + B * 1117 + p * 29) = A * 131 + B * 1117 + p * 29 := wr (by omega) (by omega)
        have wX : wrap64 X = X := wr (by omega) (by omega)
        have wX2 : wrap64 (X * 53) = X * 53 := wr (by omega) (by omega)
        have wS3 : wrap64 (A * 131 + B * 1117 + p * 29 + X * 53) = A * 131 + B * 1117 + p * 29 + X * 53 := wr (by omega) (by omega)
        have hS : 0 ≤ A * 131 + B * 1117 + p * 29 + X * 53 ∧ A * 131 + B * 1117 + p * 29 + X * 53 ≤ 100000000 := by omega
        generalize hT : A * 131 + B * 1117 + p * 29 + X * 53 = T at hS wS3
        have w64 : wrap64 (Int.tdiv T 64) = T / 64 := by rw [Int.tdiv_eq_ediv_of_nonneg hS.1]; exact wr (by omega) (by omega)
        have hx := xor_pos T (T / 64) hS.1 (by omega) (by omega) (by omega)
        refine ⟨Int.tmod (Go.bits .xor .i64 T (T / 64)) n, Int.tmod_nonneg _ hx.1, fun h => Int.tmod_lt_of_pos _ (by omega), by omega, evs 1 fun k hk => ?_⟩
        obtain ⟨k, rfl⟩ : ∃ m, k = m + 1 := ⟨k - 1, by omega⟩
        simp only [spec_l20Rd_pick.f]
        rw [if_neg h1, e2]; simp only [spec_l20Rd_pick.j0]
        rw [if_neg (by simp), ep, ep2, if_neg h3, if_neg h2, if_pos q1, if_pos q2, w7, if_pos q3, if_pos q4, if_neg (by omega)]
        simp only [eu, hX, hA, hB, wA0, wB0, wA, wB, wS, wp, wS2, wX, wX2, hT, wS3, w64]
theorem pick_pos (b : List Int) (hb : Code b) (p n : Int) (h0 : 0 ≤ p) (hp : p ≤ 1000000) (h1 : 1 ≤ n) (hn : n ≤ 1000000) :
    ∃ v, 0 ≤ v ∧ v < n ∧ Ev (fun k => spec_l20Rd_pick.f k b p n) (v, p + 1) := by
  obtain ⟨v, a, c, _, e⟩ := pick_any b hb p n h0 hp hn
  exact ⟨v, a, c h1, e⟩
def leap (y : Int) : Bool := decide (y % 4 = 0 ∧ (y % 100 ≠ 0 ∨ y % 400 = 0))
theorem tb (a n : Int) : (Int.tmod a n == 0) = decide (a % n = 0) := by
  rw [← decide_eq_decide.mpr (iff_of_eq (tmod0 a n))]
  rfl
theorem impl_leap (y : Int) : impl_DayLeap.f y = some (leap y) := by
  unfold impl_DayLeap.f leap
  simp only [tmod0, tb]
  by_cases h4 : y % 4 = 0 <;> by_cases h1 : y % 100 = 0 <;> by_cases h2 : y % 400 = 0 <;> simp [h4, h1, h2]
def dl (y m : Int) : Int := if 1 ≤ m ∧ m ≤ 12 then (if m = 2 then (if leap y = true then 29 else 28) else impl_DayLast.tab m) else 0
theorem impl_last (y m : Int) : impl_DayLast.f y m = some (dl y m) := by
  unfold impl_DayLast.f dl
  by_cases h1 : m ≥ 1
  · by_cases h2 : m ≤ 12
    · rw [if_pos h1, if_pos h2, if_pos (show 1 ≤ m ∧ m ≤ 12 from ⟨h1, h2⟩)]
      by_cases h3 : m = 2
      · simp only [if_pos h3, impl_leap]
        cases leap y <;> rfl
      · simp only [if_neg h3]
    · rw [if_pos h1, if_neg h2, if_neg (by omega)]
  · rw [if_neg h1, if_neg (by omega)]
theorem in_impl (a b c : Int) : impl_in.f a b c = some (decide (b ≤ a ∧ a ≤ c)) := by
  unfold impl_in.f
  by_cases h : a ≥ b
  · rw [if_pos h]; simp [show b ≤ a from h]
  · rw [if_neg h]; simp [show ¬ b ≤ a from h]
theorem in_spec (a b c : Int) : spec_l1In.f a b c = some (decide (b ≤ a ∧ a ≤ c)) := by
  unfold spec_l1In.f
  by_cases h : a ≥ b
  · rw [if_pos h]; simp [show b ≤ a from h]
  · rw [if_neg h]; simp [show ¬ b ≤ a from h]
def dok (y m d : Int) : Bool := decide (1900 ≤ y ∧ y ≤ 2199 ∧ 1 ≤ m ∧ m ≤ 12 ∧ 1 ≤ d ∧ d ≤ dl y m)
theorem impl_ok (y m d : Int) : impl_DayOk.f y m d = some (dok y m d) := by
  unfold impl_DayOk.f dok
  rw [in_impl, impl_last]
  simp only [Option.bind_some, in_impl, decide_eq_true_eq]
  have hd : ¬ (1 ≤ m ∧ m ≤ 12) → dl y m = 0 := fun h => by unfold dl; rw [if_neg h]
  by_cases h1 : 1900 ≤ y ∧ y ≤ 2199
  · rw [if_pos h1]; congr 1; rw [decide_eq_decide]
    by_cases h : 1 ≤ m ∧ m ≤ 12
    · omega
    · have := hd h
      omega
  · rw [if_neg h1]; congr 1; symm; rw [decide_eq_false_iff_not]; omega
theorem cu_ok : laws_cuOk.f = some true := by
  unfold laws_cuOk.f
  rw [impl_ok]
  rfl
def ten (p : Int) : Int := if p ≤ 0 then 1 else if p = 1 then 10 else if p = 2 then 100 else 1000
theorem spec_ten (k : Nat) (p : Int) (h0 : 0 ≤ p) (h3 : p ≤ 3) : spec_l1Ten.f (k + 4) p = some (ten p) := by
  rcases (by omega : p = 0 ∨ p = 1 ∨ p = 2 ∨ p = 3) with rfl | rfl | rfl | rfl
  all_goals
    simp only [spec_l1Ten.f, spec_l1Ten.l0]
    simp [wrap64, ten]
theorem impl_ten (k : Nat) (p : Int) (h0 : 0 ≤ p) (h3 : p ≤ 3) : impl_power.f (k + 4) p = some (ten p) := by
  rcases (by omega : p = 0 ∨ p = 1 ∨ p = 2 ∨ p = 3) with rfl | rfl | rfl | rfl
  all_goals
    simp only [impl_power.f, impl_power.l0]
    simp [wrap64, ten]
theorem ten_bound (p : Int) : 1 ≤ ten p ∧ ten p ≤ 1000 := by
  unfold ten
  repeat' split
  all_goals omega
def decok (n p : Int) : Bool := decide (0 ≤ p ∧ p ≤ 3 ∧ -(9999 * ten p) ≤ n ∧ n ≤ 9999 * ten p)
theorem impl_decok (k : Nat) (n p : Int) : impl_DecOk.f (k + 4) n p = some (decok n p) := by
  unfold impl_DecOk.f decok
  rw [in_impl]
  by_cases h : 0 ≤ p ∧ p ≤ 3
  · have hb := ten_bound p
    rw [decide_eq_true h]
    simp only [Option.bind_some, if_true, impl_ten k p h.1 h.2, in_impl]
    rw [wr (x := -9999 * ten p) (by omega) (by omega), wr (x := 9999 * ten p) (by omega) (by omega)]
    congr 1; rw [decide_eq_decide]; omega
  · rw [decide_eq_false h]
    simp only [Option.bind_some]
    rw [if_neg (by simp)]; congr 1; symm; rw [decide_eq_false_iff_not]; omega
theorem spec_decok (k : Nat) (n p : Int) : spec_DecOk.f (k + 4) n p = some (decok n p) := by
  unfold spec_DecOk.f decok
  rw [in_spec]
  by_cases h : 0 ≤ p ∧ p ≤ 3
  · have hb := ten_bound p
    rw [decide_eq_true h]
    simp only [Option.bind_some, if_true, spec_ten k p h.1 h.2, in_spec]
    rw [wr (x := -9999 * ten p) (by omega) (by omega), wr (x := 9999 * ten p) (by omega) (by omega)]
    congr 1; rw [decide_eq_decide]; omega
  · rw [decide_eq_false h]
    simp only [Option.bind_some]
    rw [if_neg (by simp)]; congr 1; symm; rw [decide_eq_false_iff_not]; omega
theorem ten_vals (p : Int) : ten p = 1 ∨ ten p = 10 ∨ ten p = 100 ∨ ten p = 1000 := by
  unfold ten
  repeat' split
  all_goals simp
def near (n t : Int) : Int := if n < 0 then -((2 * (-n) + t) / (2 * t)) else (2 * n + t) / (2 * t)
theorem near_bound (n t : Int) (ht : 1 ≤ t ∧ t ≤ 1000) (h0 : 0 ≤ n) : 0 ≤ (2 * n + t) / (2 * t) ∧ (2 * n + t) / (2 * t) ≤ 2 * n + t :=
  ⟨Int.ediv_nonneg (by omega) (by omega), Int.ediv_le_self _ (by omega)⟩
theorem spec_near_pos (n t : Int) (ht : 1 ≤ t ∧ t ≤ 1000) (h0 : 0 ≤ n) (h1 : n ≤ 10000000) (z : Nat) : spec_l1Near.f (z + 1) n t = some ((2 * n + t) / (2 * t)) := by
  have hb := near_bound n t ht h0
  simp only [spec_l1Near.f]
  rw [if_neg (by omega), wr (x := 2 * t) (by omega) (by omega), if_neg (by omega), wr (x := 2 * n) (by omega) (by omega), wr (x := 2 * n + t) (by omega) (by omega), Int.tdiv_eq_ediv_of_nonneg (by omega), wr (x := (2 * n + t) / (2 * t)) (by omega) (by omega)]
theorem spec_near (n t : Int) (ht : 1 ≤ t ∧ t ≤ 1000) (h0 : -10000000 ≤ n) (h1 : n ≤ 10000000) (k : Nat) : spec_l1Near.f (k + 2) n t = some (near n t) := by
  unfold near
  by_cases h : n < 0
  · have e := spec_near_pos (-n) t ht (by omega) (by omega) k
    have hb := near_bound (-n) t ht (by omega)
    rw [if_pos h, show k + 2 = (k + 1) + 1 from rfl]
    generalize k + 1 = z at *
    simp only [spec_l1Near.f]
    rw [if_pos h, wr (x := -n) (by omega) (by omega), e]
    simp only [Option.bind_some]
    rw [wr (by omega) (by omega)]
  · rw [if_neg h]
    exact spec_near_pos n t ht (by omega) h1 (k + 1)
theorem impl_near_pos (n t : Int) (ht : 1 ≤ t ∧ t ≤ 1000) (h0 : 0 ≤ n) (h1 : n ≤ 10000000) (z : Nat) : impl_nearest.f (z + 1) n t = some ((2 * n + t) / (2 * t)) := by
  have hb := near_bound n t ht h0
  simp only [impl_nearest.f]
  rw [if_neg (by omega), wr (x := 2 * t) (by omega) (by omega), if_neg (by omega), wr (x := 2 * n) (by omega) (by omega), wr (x := 2 * n + t) (by omega) (by omega), Int.tdiv_eq_ediv_of_nonneg (by omega), wr (x := (2 * n + t) / (2 * t)) (by omega) (by omega)]
theorem impl_near (n t : Int) (ht : 1 ≤ t ∧ t ≤ 1000) (h0 : -10000000 ≤ n) (h1 : n ≤ 10000000) (k : Nat) : impl_nearest.f (k + 2) n t = some (near n t) := by
  unfold near
  by_cases h : n < 0
  · have e := impl_near_pos (-n) t ht (by omega) (by omega) k
    have hb := near_bound (-n) t ht (by omega)
    rw [if_pos h, show k + 2 = (k + 1) + 1 from rfl]
    generalize k + 1 = z at *
    simp only [impl_nearest.f]
    rw [if_pos h, wr (x := -n) (by omega) (by omega), e]
    simp only [Option.bind_some]
    rw [wr (by omega) (by omega)]
  · rw [if_neg h]
    exact impl_near_pos n t ht (by omega) h1 (k + 1)
def at_ (n p q : Int) : Int × Int := if q ≥ p then (n * ten (q - p), q) else (near n (ten (p - q)), q)
def decat (n p q : Int) : Int × Int := if decok n p = true ∧ 0 ≤ q ∧ q ≤ 3 then at_ n p q else (0, 0)
theorem ok_facts {n p : Int} (h : decok n p = true) : 0 ≤ p ∧ p ≤ 3 ∧ -(9999 * ten p) ≤ n ∧ n ≤ 9999 * ten p ∧ ten p ≤ 1000 := by
  unfold decok at h
  rw [decide_eq_true_eq] at h
  have := ten_bound p
  omega
theorem scale_bound {n p : Int} (h : decok n p = true) (q : Int) : -9999000000 ≤ n * ten q ∧ n * ten q ≤ 9999000000 := by
  have := ok_facts h
  rcases ten_vals q with e | e | e | e <;> rw [e] <;> omega
theorem spec_at (k : Nat) {n p : Int} (h : decok n p = true) (q : Int) (h0 : 0 ≤ q) (h3 : q ≤ 3) : spec_l1At.f (k + 4) n p q = some (at_ n p q) := by
  have ho := ok_facts h
  unfold spec_l1At.f at_
  by_cases hq : q ≥ p
  · have hs := scale_bound h (q - p)
    rw [if_pos hq, if_pos hq, wr (x := q - p) (by omega) (by omega), spec_ten k (q - p) (by omega) (by omega)]
    simp only [Option.bind_some]
    rw [wr (by omega) (by omega)]
  · rw [if_neg hq, if_neg hq, wr (x := p - q) (by omega) (by omega), spec_ten k (p - q) (by omega) (by omega)]
    simp only [Option.bind_some]
    rw [show k + 4 = (k + 2) + 2 from rfl, spec_near n _ (ten_bound _) (by omega) (by omega)]
    rfl
theorem spec_decat (k : Nat) (n p q : Int) : spec_DecAt.f (k + 5) n p q = some (decat n p q) := by
  have no : spec_DecAt.j0 (k + 5) q true n p = some (0, 0) := by
    rw [show k + 5 = (k + 4) + 1 from rfl]
    generalize k + 4 = z
    simp only [spec_DecAt.j0]
    rw [if_pos trivial]
  unfold spec_DecAt.f decat
  rw [show k + 5 = (k + 1) + 4 from rfl, spec_decok]
  simp only [Option.bind_some]
  by_cases h : decok n p = true
  · rw [if_pos h, in_spec]
    simp only [Option.bind_some]
    by_cases hq : 0 ≤ q ∧ q ≤ 3
    · have e := spec_at k h q hq.1 hq.2
      rw [decide_eq_true hq, if_pos ⟨h, hq⟩, show k + 1 + 4 = (k + 4) + 1 from rfl]
      generalize k + 4 = z at *
      simp only [spec_DecAt.j0, e, Option.bind_some]
      rw [if_neg (by simp)]
    · rw [decide_eq_false hq, if_neg (fun g => hq g.2)]
      exact no
  · rw [if_neg h, if_neg (fun g => h g.1)]
    exact no
theorem impl_decat (k : Nat) (n p q : Int) : impl_DecAt.f (k + 5) n p q = some (decat n p q) := by
  have no : impl_DecAt.j0 (k + 5) q true n p = some (0, 0) := by
    rw [show k + 5 = (k + 4) + 1 from rfl]
    generalize k + 4 = z
    simp only [impl_DecAt.j0]
    rw [if_pos trivial]
  unfold impl_DecAt.f decat
  rw [show k + 5 = (k + 1) + 4 from rfl, impl_decok]
  simp only [Option.bind_some]
  by_cases h : decok n p = true
  · have ho := ok_facts h
    rw [if_pos h, in_impl]
    simp only [Option.bind_some]
    by_cases hq : 0 ≤ q ∧ q ≤ 3
    · rw [decide_eq_true hq, if_pos ⟨h, hq⟩, show k + 1 + 4 = (k + 4) + 1 from rfl]
      unfold at_
      by_cases hp : q ≥ p
      · have hs := scale_bound h (q - p)
        have e := impl_ten k (q - p) (by omega) (by omega)
        generalize k + 4 = z at *
        simp only [impl_DecAt.j0]
        rw [if_neg (by simp), if_pos hp, if_pos hp, wr (x := q - p) (by omega) (by omega), e]
        simp only [Option.bind_some]
        rw [wr (by omega) (by omega)]
      · have e := impl_ten k (p - q) (by omega) (by omega)
        have e2 := impl_near n (ten (p - q)) (ten_bound _) (by omega) (by omega) (k + 2)
        rw [show k + 2 + 2 = k + 4 from rfl] at e2
        generalize k + 4 = z at *
        simp only [impl_DecAt.j0]
        rw [if_neg (by simp), if_neg hp, if_neg hp, wr (x := p - q) (by omega) (by omega), e]
        simp only [Option.bind_some, e2]
    · rw [decide_eq_false hq, if_neg (fun g => hq g.2)]
      exact no
  · rw [if_neg h, if_neg (fun g => h g.1)]
    exact no
def cmp3 (n p m q : Int) : Int := if decok n p = true ∧ decok m q = true then (if n * ten (3 - p) < m * ten (3 - q) then -1 else if n * ten (3 - p) > m * ten (3 - q) then 1 else 0) else 0
theorem at3 {n p : Int} (h : decok n p = true) : at_ n p 3 = (n * ten (3 - p), 3) := by
  have := ok_facts h
  unfold at_
  rw [if_pos (by omega)]
theorem compare_int (a b : Int) : cmp_Compare_int.f a b = some (if a < b then -1 else if a > b then 1 else 0) := by
  unfold cmp_Compare_int.f cmp_isNaN_int.f
  simp only [Option.bind_some]
  by_cases h1 : a < b
  · simp [h1]
  · by_cases h2 : b < a
    · simp [h1, h2]
    · simp [h1, h2]
theorem impl_cmp (k : Nat) (n p m q : Int) : impl_DecCmp.f (k + 6) n p m q = some (cmp3 n p m q) := by
  have no : impl_DecCmp.j0 (k + 6) true n p m q = some 0 := by
    rw [show k + 6 = (k + 5) + 1 from rfl]
    generalize k + 5 = z
    simp only [impl_DecCmp.j0]
    rw [if_pos trivial]
  unfold impl_DecCmp.f cmp3
  rw [show k + 6 = (k + 2) + 4 from rfl, impl_decok]
  simp only [Option.bind_some]
  by_cases h : decok n p = true
  · rw [if_pos h, impl_decok]
    simp only [Option.bind_some]
    by_cases g : decok m q = true
    · have e1 := impl_decat k n p 3
      have e2 := impl_decat k m q 3
      unfold decat at e1 e2
      rw [if_pos ⟨h, by omega, by omega⟩, at3 h] at e1
      rw [if_pos ⟨g, by omega, by omega⟩, at3 g] at e2
      rw [g, if_pos ⟨h, rfl⟩, show k + 2 + 4 = (k + 5) + 1 from rfl]
      generalize k + 5 = z at *
      simp only [impl_DecCmp.j0, e1, e2, Option.bind_some, compare_int]
      rw [if_neg (by simp)]
    · rw [Bool.not_eq_true] at g
      rw [g, if_neg (by simp)]
      exact no
  · rw [if_neg h, if_neg (fun g => h g.1)]
    exact no
theorem dec_draw (b : List Int) (hb : Code b) (p n : Int) (h0 : 0 ≤ p) (hp : p ≤ 800000) (hn : 1 ≤ n) (hn2 : n ≤ 1000000) :
    ∃ x m q, (p ≤ q ∧ q ≤ p + 6) ∧ Ev (fun k => spec_l20Dec.f k b p n) (x, m, q) := by
  obtain ⟨v1, a1, c1, ⟨K1, e1⟩⟩ := pick_pos b hb p 4 h0 (by omega) (by omega) (by omega)
  obtain ⟨v2, a2, c2, ⟨K2, e2⟩⟩ := pick_pos b hb (p + 1) 256 (by omega) (by omega) (by omega) (by omega)
  obtain ⟨v3, a3, c3, ⟨K3, e3⟩⟩ := pick_pos b hb (p + 1 + 1) 9 (by omega) (by omega) (by omega) (by omega)
  obtain ⟨v4, a4, c4, ⟨K4, e4⟩⟩ := pick_pos b hb (p + 1 + 1 + 1) n (by omega) (by omega) hn hn2
  obtain ⟨v5, a5, c5, ⟨K5, e5⟩⟩ := pick_pos b hb (p + 1 + 1 + 1 + 1) 2 (by omega) (by omega) (by omega) (by omega)
  obtain ⟨v6, a6, c6, ⟨K6, e6⟩⟩ := pick_pos b hb (p + 1 + 1 + 1 + 1 + 1) 2 (by omega) (by omega) (by omega) (by omega)
  dsimp only at e1 e2 e3 e4 e5 e6
  have et : ∀ k, 4 ≤ k → spec_l1Ten.f k v1 = some (ten v1) := by
    intro k hk
    have := spec_ten (k - 4) v1 a1 (by omega)
    rwa [show k - 4 + 4 = k by omega] at this
  by_cases h1 : v4 = 0
  · by_cases h2 : v5 = 0
    · refine ⟨rd [0, 5, 15, 149, 995, -25, wrap64 (9999 * ten v1), wrap64 (-9999 * ten v1), wrap64 (v2 * 7)] v3, rd [-1, 4] v6, p + 1 + 1 + 1 + 1 + 1 + 1, by omega, max K1 (max K2 (max K3 (max K4 (max K5 K6)))) + 4, fun k hk => ?_⟩
      unfold spec_l20Dec.f
      simp only [Option.bind_some, e1 k (by omega), e2 k (by omega), e3 k (by omega), e4 k (by omega), et k (by omega)]
      rw [if_pos a3, if_pos (by simpa using c3), if_pos h1, e5 k (by omega)]
      simp only [Option.bind_some]
      rw [if_pos h2, e6 k (by omega)]
      simp only [Option.bind_some]
      rw [if_pos a6, if_pos (by simpa using c6)]
    · refine ⟨rd [wrap64 (wrap64 (9999 * ten v1) + 1), wrap64 (wrap64 (-9999 * ten v1) - 1)] v6, v1, p + 1 + 1 + 1 + 1 + 1 + 1, by omega, max K1 (max K2 (max K3 (max K4 (max K5 K6)))) + 4, fun k hk => ?_⟩
      unfold spec_l20Dec.f
      simp only [Option.bind_some, e1 k (by omega), e2 k (by omega), e3 k (by omega), e4 k (by omega), et k (by omega)]
      rw [if_pos a3, if_pos (by simpa using c3), if_pos h1, e5 k (by omega)]
      simp only [Option.bind_some]
      rw [if_neg h2, e6 k (by omega)]
      simp only [Option.bind_some]
      rw [if_pos a6, if_pos (by simpa using c6)]
  · refine ⟨rd [0, 5, 15, 149, 995, -25, wrap64 (9999 * ten v1), wrap64 (-9999 * ten v1), wrap64 (v2 * 7)] v3, v1, p + 1 + 1 + 1 + 1, by omega, max K1 (max K2 (max K3 K4)) + 4, fun k hk => ?_⟩
    unfold spec_l20Dec.f
    simp only [Option.bind_some, e1 k (by omega), e2 k (by omega), e3 k (by omega), e4 k (by omega), et k (by omega)]
    rw [if_pos a3, if_pos (by simpa using c3), if_neg h1]
theorem drawDecAt_ev (l : List Int) (h : ∀ x ∈ l, (Lit.int .u8 x).wf = true) : ∃ n m a, ∃ K, ∀ k, K ≤ k → spec_DrawDecAt.f k l = some (n, m, a) := by
  obtain ⟨b, hb, e0⟩ := open_some l h
  obtain ⟨n, m, q, hq, ⟨K1, e1⟩⟩ := dec_draw b hb 0 12 (by omega) (by omega) (by omega) (by omega)
  obtain ⟨v, _, _, ⟨K2, e2⟩⟩ := pick_pos b hb q 6 (by omega) (by omega) (by omega) (by omega)
  dsimp only at e1 e2
  refine ⟨n, m, wrap64 (v - 1), max K1 K2, fun k hk => ?_⟩
  unfold spec_DrawDecAt.f
  simp only [e0, Option.bind_some, e1 k (by omega), e2 k (by omega)]
theorem tens : ten 0 = 1 ∧ ten 1 = 10 ∧ ten 2 = 100 ∧ ten 3 = 1000 := ⟨rfl, rfl, rfl, rfl⟩
theorem at_up_ok {n p q : Int} (h : decok n p = true) (hp : p ≤ q) (hq : q ≤ 3) : decok (n * ten (q - p)) q = true := by
  have ho := ok_facts h
  obtain ⟨t0, t1, t2, t3⟩ := tens
  unfold decok at h ⊢
  rw [decide_eq_true_eq] at h ⊢
  rcases (by omega : p = 0 ∨ p = 1 ∨ p = 2 ∨ p = 3) with rfl | rfl | rfl | rfl <;> rcases (by omega : q = 0 ∨ q = 1 ∨ q = 2 ∨ q = 3) with rfl | rfl | rfl | rfl <;>
    first
    | (exfalso; omega)
    | (simp only [Int.reduceSub, t0, t1, t2, t3] at h ⊢; omega)
theorem at_down_ok {n p q : Int} (h : decok n p = true) (h0 : 0 ≤ q) (hq : q < p) : decok (near n (ten (p - q))) q = true := by
  have ho := ok_facts h
  obtain ⟨t0, t1, t2, t3⟩ := tens
  unfold decok at h ⊢
  unfold near
  rw [decide_eq_true_eq] at h ⊢
  rcases (by omega : p = 0 ∨ p = 1 ∨ p = 2 ∨ p = 3) with rfl | rfl | rfl | rfl <;> rcases (by omega : q = 0 ∨ q = 1 ∨ q = 2 ∨ q = 3) with rfl | rfl | rfl | rfl <;>
    first
    | (exfalso; omega)
    | (simp only [Int.reduceSub, Int.reduceMul, t0, t1, t2, t3] at h ⊢; split <;> omega)
theorem cmp_up {n p q : Int} (h : decok n p = true) (hp : p ≤ q) (hq : q ≤ 3) : cmp3 (n * ten (q - p)) q n p = 0 := by
  have ho := ok_facts h
  obtain ⟨t0, t1, t2, t3⟩ := tens
  unfold cmp3
  rw [if_pos ⟨at_up_ok h hp hq, h⟩]
  rcases (by omega : p = 0 ∨ p = 1 ∨ p = 2 ∨ p = 3) with rfl | rfl | rfl | rfl <;> rcases (by omega : q = 0 ∨ q = 1 ∨ q = 2 ∨ q = 3) with rfl | rfl | rfl | rfl <;>
    first
    | (exfalso; omega)
    | (simp only [Int.reduceSub, t0, t1, t2, t3]; rw [if_neg (by omega), if_neg (by omega)])
theorem near_facts (n t : Int) (ht : t = 10 ∨ t = 100 ∨ t = 1000) : (0 ≤ n → -t ≤ 2 * (n - near n t * t) ∧ 2 * (n - near n t * t) < t) ∧ (n < 0 → -t < 2 * (n - near n t * t) ∧ 2 * (n - near n t * t) ≤ t) := by
  unfold near
  rcases ht with rfl | rfl | rfl
  all_goals
    simp only [Int.reduceMul]
    refine ⟨fun h => ?_, fun h => ?_⟩
    · rw [if_neg (by omega)]; omega
    · rw [if_pos (by omega)]; omega
theorem ten_down (p q : Int) (hq : q < p) : ten (p - q) = 10 ∨ ten (p - q) = 100 ∨ ten (p - q) = 1000 := by
  unfold ten
  repeat' split
  all_goals first | omega | simp
theorem decat_step (z : Nat) (a x6 x7 n m r0 r1 : Int) (h : x7 < m) : laws_FnDecAt.l0 (z + 1) a x6 x7 n m r0 r1 = laws_FnDecAt.l0 z a (wrap64 (x6 * 10)) (wrap64 (x7 + 1)) n m r0 r1 := by
  simp only [laws_FnDecAt.l0]
  rw [if_pos h]
theorem half10n : wrap64 (Int.tdiv (wrap64 (-10)) 2) = -5 := by rw [wr (x := -10) (by omega) (by omega), show Int.tdiv (-10) 2 = -5 from rfl]; exact wr (by omega) (by omega)
theorem half100n : wrap64 (Int.tdiv (wrap64 (-100)) 2) = -50 := by rw [wr (x := -100) (by omega) (by omega), show Int.tdiv (-100) 2 = -50 from rfl]; exact wr (by omega) (by omega)
theorem half1000n : wrap64 (Int.tdiv (wrap64 (-1000)) 2) = -500 := by rw [wr (x := -1000) (by omega) (by omega), show Int.tdiv (-1000) 2 = -500 from rfl]; exact wr (by omega) (by omega)
theorem half10 : wrap64 (Int.tdiv 10 2) = 5 := by rw [show Int.tdiv 10 2 = 5 from rfl]; exact wr (by omega) (by omega)
theorem half100 : wrap64 (Int.tdiv 100 2) = 50 := by rw [show Int.tdiv 100 2 = 50 from rfl]; exact wr (by omega) (by omega)
theorem half1000 : wrap64 (Int.tdiv 1000 2) = 500 := by rw [show Int.tdiv 1000 2 = 500 from rfl]; exact wr (by omega) (by omega)
theorem decat_fin (z : Nat) (a t n m : Int) (x7 : Int) (hx : ¬ x7 < m) (ht : t = 10 ∨ t = 100 ∨ t = 1000) (h : decok n m = true) (ho : decok (near n t) a = true) : laws_FnDecAt.l0 (z + 4 + 1) a t x7 n m (near n t) a = some true := by
  have hf := near_facts n t ht
  have h1 := ok_facts h
  have h2 := ok_facts ho
  have e := impl_decok z (near n t) a
  rw [ho] at e
  generalize near n t = r at *
  generalize z + 4 = y at *
  simp only [laws_FnDecAt.l0, e, Option.bind_some, if_true]
  rw [if_neg hx]
  rcases ht with rfl | rfl | rfl
  all_goals
    simp only [Int.reduceNeg, half10, half100, half1000, half10n, half100n, half1000n]
    rw [wr (x := r * _) (by omega) (by omega), wr (x := n - r * _) (by omega) (by omega), wr (x := 2 * (n - r * _)) (by omega) (by omega), wr (x := -2 * (n - r * _)) (by omega) (by omega)]
    by_cases hn : n ≥ 0
    · have := hf.1 hn
      rw [if_pos hn]
      split
      · repeat' split
        all_goals rfl
      · rw [if_neg (by omega), if_pos (by omega), if_pos (by omega)]
    · have := hf.2 (by omega)
      rw [if_neg hn, if_pos (by omega)]
      split
      · rw [if_pos (by omega)]
      · congr 1
        rw [beq_iff_eq]
        omega
theorem FnDecAt : laws_FnDecAt.Pure := by
  intro l _ _ hl
  by_cases hbig : (l.length : Int) > 1048576
  · refine ⟨0, ?_⟩
    unfold laws_FnDecAt.f
    rw [if_pos hbig]
  obtain ⟨n, m, a, K, e⟩ := drawDecAt_ev l hl
  refine ⟨K + 20 + 1, ?_⟩
  have e1 := impl_decat (K + 16) n m a
  have e2 := spec_decat (K + 16) n m a
  have e3 := spec_decok (K + 17) n m
  rw [show K + 16 + 5 = K + 20 + 1 from rfl] at e1 e2
  rw [show K + 17 + 4 = K + 20 + 1 from rfl] at e3
  unfold laws_FnDecAt.f
  rw [if_neg hbig, e (K + 20 + 1) (by omega)]
  simp only [Option.bind_some, e1, e2, e3, beq_self_eq_true, Bool.not_true, Bool.or_self]
  rw [if_neg (by simp)]
  have no : ¬ (decok n m = true ∧ 0 ≤ a ∧ a ≤ 3) → laws_FnDecAt.j0 (K + 20 + 1) a true n m (decat n m a).1 (decat n m a).2 = some true := by
    intro g
    have ed : decat n m a = (0, 0) := by unfold decat; rw [if_neg g]
    rw [ed]
    generalize K + 20 = z
    simp only [laws_FnDecAt.j0, cu_ok, Option.bind_some]
    rw [if_pos trivial, if_pos (by rfl)]
  by_cases h : decok n m = true
  · rw [if_pos h]
    by_cases h0 : a < 0
    · rw [if_pos h0]
      exact no (by omega)
    · rw [if_neg h0]
      by_cases h3 : a > 3
      · rw [decide_eq_true h3]
        exact no (by omega)
      · rw [decide_eq_false h3]
        have ho := ok_facts h
        have ed : decat n m a = at_ n m a := by unfold decat; rw [if_pos ⟨h, by omega, by omega⟩]
        rw [ed]
        unfold at_
        by_cases hp : a ≥ m
        · rw [if_pos hp]
          have f1 := impl_cmp (K + 14) (n * ten (a - m)) a n m
          have f2 := impl_decok (K + 16) (n * ten (a - m)) a
          rw [cmp_up h hp (by omega), show K + 14 + 6 = K + 20 from rfl] at f1
          rw [at_up_ok h hp (by omega), show K + 16 + 4 = K + 20 from rfl] at f2
          generalize K + 20 = z at *
          simp only [laws_FnDecAt.j0, f1, f2, Option.bind_some, if_true]
          rw [if_neg (by simp), if_pos hp]
        · rw [if_neg hp]
          have fin : laws_FnDecAt.l0 (K + 20) a 1 a n m (near n (ten (m - a))) a = some true := by
            have hok := at_down_ok h (by omega) (show a < m by omega)
            have g : ∀ z, K + 5 ≤ z → ∀ t x7, ¬ x7 < m → t = ten (m - a) → laws_FnDecAt.l0 z a t x7 n m (near n (ten (m - a))) a = some true := by
              intro z hz t x7 hx ht
              have := decat_fin (z - 5) a (ten (m - a)) n m x7 hx (ten_down m a (by omega)) h hok
              rw [show z - 5 + 4 + 1 = z by omega] at this
              rw [ht]
              exact this
            obtain ⟨t0, t1, t2, t3⟩ := tens
            rcases (by omega : m - a = 1 ∨ m - a = 2 ∨ m - a = 3) with q | q | q
            · rw [show K + 20 = K + 19 + 1 from rfl, decat_step _ _ _ _ _ _ _ _ (by omega), wr (x := a + 1) (by omega) (by omega)]
              exact g _ (by omega) _ _ (by omega) (by rw [q]; simp only [t1, t2, t3]; unfold wrap64; omega)
            · rw [show K + 20 = K + 19 + 1 from rfl, decat_step _ _ _ _ _ _ _ _ (by omega), wr (x := a + 1) (by omega) (by omega), show K + 19 = K + 18 + 1 from rfl, decat_step _ _ _ _ _ _ _ _ (by omega), wr (x := a + 1 + 1) (by omega) (by omega)]
              exact g _ (by omega) _ _ (by omega) (by rw [q]; simp only [t1, t2, t3]; unfold wrap64; omega)
            · rw [show K + 20 = K + 19 + 1 from rfl, decat_step _ _ _ _ _ _ _ _ (by omega), wr (x := a + 1) (by omega) (by omega), show K + 19 = K + 18 + 1 from rfl, decat_step _ _ _ _ _ _ _ _ (by omega), wr (x := a + 1 + 1) (by omega) (by omega), show K + 18 = K + 17 + 1 from rfl, decat_step _ _ _ _ _ _ _ _ (by omega), wr (x := a + 1 + 1 + 1) (by omega) (by omega)]
              exact g _ (by omega) _ _ (by omega) (by rw [q]; simp only [t1, t2, t3]; unfold wrap64; omega)
          generalize K + 20 = z at *
          simp only [laws_FnDecAt.j0, fin]
          rw [if_neg (by simp), if_neg hp]
  · rw [if_neg h]
    exact no (fun g => h g.1)

end Go.Proofs.Ytdcdcokofcfkoaa.Pure
