/- The days of a plan are as many as its months, rise, and are those so many months behind its first one, at every code: the law's pure statement; no conditions. -/
import Derived.Test.YtpbmobgpipmldaaAllx0
import Derived.Test.YtpbmobgpipmldaaAllx10
import Derived.Test.YtpbmobgpipmldaaAllx11
import Derived.Test.YtpbmobgpipmldaaAllx2
import Derived.Test.YtpbmobgpipmldaaAllx3
import Derived.Test.YtpbmobgpipmldaaAllx4
import Derived.Test.YtpbmobgpipmldaaAllx5
import Derived.Test.YtpbmobgpipmldaaAllx6
import Derived.Test.YtpbmobgpipmldaaAllx7
import Derived.Test.YtpbmobgpipmldaaAllx8
import Derived.Test.YtpbmobgpipmldaaAllx9
set_option linter.unusedVariables false
set_option linter.unusedSimpArgs false
namespace Go.Proofs.Ytpbmobgpipmldaa.Pure
open Go.RowKit Go.Proofs.Ytpbmobgpipmldaa.All Go.Proofs.YtpbmobgpipmldaaW.PrintWords Go.Proofs.YtpbmobgpipmldaaW.PrintLast Go.Proofs.YtpbmobgpipmldaaW.PrintMore

theorem wr {x : Int} (h1 : -9223372036854775808 ≤ x) (h2 : x ≤ 9223372036854775807) : wrap64 x = x := by unfold wrap64; omega
theorem wf8 {x : Int} (h : (Lit.int .u8 x).wf = true) : 0 ≤ x ∧ x ≤ 255 := by
  simp only [Lit.wf, Bool.and_eq_true, decide_eq_true_eq] at h
  have h1 : IntKind.u8.min = 0 := by decide
  have h2 : IntKind.u8.max = 255 := by decide
  omega
theorem tmod0 (a n : Int) : (Int.tmod a n = 0) = (a % n = 0) := by
  rw [← Int.dvd_iff_tmod_eq_zero, Int.dvd_iff_emod_eq_zero]
theorem evs {α : Type} {g : Nat → Option α} {r : α} (K : Nat) (h : ∀ k, K ≤ k → g k = some r) : Ev g r := ⟨K, h⟩
theorem xor_pos (x y : Int) (hx : 0 ≤ x) (hx2 : x < 1099511627776) (hy : 0 ≤ y) (hy2 : y < 1099511627776) : 0 ≤ Go.bits .xor .i64 x y ∧ Go.bits .xor .i64 x y ≤ 1099511627776 := by
  obtain ⟨a, rfl⟩ := Int.eq_ofNat_of_zero_le hx
  obtain ⟨b, rfl⟩ := Int.eq_ofNat_of_zero_le hy
  have e : (BitVec.ofInt 64 (a : Int) ^^^ BitVec.ofInt 64 (b : Int)).toNat = a ^^^ b := by
    rw [BitVec.toNat_xor, BitVec.toNat_ofInt, BitVec.toNat_ofInt]
    congr 1 <;> omega
  have hlt : a ^^^ b < 2 ^ 40 := Nat.xor_lt_two_pow (by omega) (by omega)
  unfold Go.bits
  show 0 ≤ IntKind.i64.wrap ((BitVec.ofInt 64 (a : Int) ^^^ BitVec.ofInt 64 (b : Int)).toNat : Int) ∧ IntKind.i64.wrap ((BitVec.ofInt 64 (a : Int) ^^^ BitVec.ofInt 64 (b : Int)).toNat : Int) ≤ 1099511627776
  rw [e, IntKind.wrap_i64]
  omega
def Code (b : List Int) : Prop := b.length ≤ 2000 ∧ ∀ x ∈ b, 0 ≤ x ∧ x ≤ 255
theorem rd_code {b : List Int} (h : Code b) (i : Int) : 0 ≤ rd b i ∧ rd b i ≤ 255 := by
  unfold rd
  by_cases hi : i.toNat < b.length
  · rw [List.getD_eq_getElem?_getD, List.getElem?_eq_getElem hi]
    exact h.2 _ (List.getElem_mem hi)
  · rw [List.getD_eq_getElem?_getD, List.getElem?_eq_none (by omega)]
    exact ⟨by decide, by decide⟩
theorem open_some (l : List Int) (h : ∀ x ∈ l, (Lit.int .u8 x).wf = true) : ∃ b, Code b ∧ spec_l20Open.f l = some (b, 0) := by
  unfold spec_l20Open.f
  by_cases hl : (l.length : Int) > 2000
  · rw [if_pos hl, if_pos (by omega)]
    exact ⟨_, ⟨by rw [List.length_take]; omega, fun x hx => wf8 (h x (List.mem_of_mem_take hx))⟩, rfl⟩
  · rw [if_neg hl]
    exact ⟨_, ⟨by omega, fun x hx => wf8 (h x hx)⟩, rfl⟩
theorem pick_any (b : List Int) (hb : Code b) (p n : Int) (h0 : 0 ≤ p) (hp : p ≤ 1000000) (hn : n ≤ 1000000) :
    ∃ v, 0 ≤ v ∧ (1 ≤ n → v < n) ∧ (n < 1 → v = 0) ∧ Ev (fun k => spec_l20Rd_pick.f k b p n) (v, p + 1) := by
  have ep : wrap64 (p + 1) = p + 1 := wr (by omega) (by omega)
  have ep2 : wrap64 (p + 1 - 1) = p := by rw [show p + 1 - 1 = p by omega]; exact wr (by omega) (by omega)
  have eu : ∀ i, wrap64 (rd b i) = rd b i := fun i => by have := rd_code hb i; exact wr (by omega) (by omega)
  by_cases h1 : n < 1
  · refine ⟨0, by omega, by omega, fun _ => rfl, evs 1 fun k hk => ?_⟩
    obtain ⟨k, rfl⟩ : ∃ m, k = m + 1 := ⟨k - 1, by omega⟩
    simp only [spec_l20Rd_pick.f]
    rw [if_pos h1]; simp only [spec_l20Rd_pick.j0]
    rw [if_pos trivial, ep]
  · by_cases h2 : (b.length : Int) = 0
    · refine ⟨0, by omega, by omega, by omega, evs 1 fun k hk => ?_⟩
      obtain ⟨k, rfl⟩ : ∃ m, k = m + 1 := ⟨k - 1, by omega⟩
      simp only [spec_l20Rd_pick.f]
      rw [if_neg h1, h2]; simp only [spec_l20Rd_pick.j0]
      rw [if_pos (by first | trivial | rfl), ep]
    · have hlen := hb.1
      have e2 : ((b.length : Int) == 0) = false := by simpa using h2
      by_cases h3 : p < (b.length : Int)
      · refine ⟨Int.tmod (rd b p) n, Int.tmod_nonneg _ (rd_code hb p).1, fun h => Int.tmod_lt_of_pos _ (by omega), by omega, evs 1 fun k hk => ?_⟩
        obtain ⟨k, rfl⟩ : ∃ m, k = m + 1 := ⟨k - 1, by omega⟩
        simp only [spec_l20Rd_pick.f]
        rw [if_neg h1, e2]; simp only [spec_l20Rd_pick.j0]
        rw [if_neg (by simp), ep, ep2, if_pos h3, if_pos h0, if_neg (by omega), eu]
      · have q1 := Int.tmod_nonneg (b.length : Int) h0
        have q2 := Int.tmod_lt_of_pos p (b := (b.length : Int)) (by omega)
        have w7 : wrap64 (wrap64 (p * 7) + 3) = p * 7 + 3 := by rw [wr (x := p * 7) (by omega) (by omega)]; exact wr (by omega) (by omega)
        have q3 := Int.tmod_nonneg (b.length : Int) (show 0 ≤ p * 7 + 3 by omega)
        have q4 := Int.tmod_lt_of_pos (p * 7 + 3) (b := (b.length : Int)) (by omega)
        have r1 := rd_code hb (Int.tmod p b.length)
        have r2 := rd_code hb (Int.tmod (p * 7 + 3) b.length)
        have d1 : 0 ≤ Int.tdiv p b.length ∧ Int.tdiv p b.length ≤ p := by
          rw [Int.tdiv_eq_ediv_of_nonneg h0]
          exact ⟨Int.ediv_nonneg h0 (by omega), Int.ediv_le_self _ h0⟩
        generalize hX : Int.tdiv p b.length = X at d1
        generalize hA : rd b (Int.tmod p b.length) = A at r1
        generalize hB : rd b (Int.tmod (p * 7 + 3) b.length) = B at r2
        have wA0 : wrap64 A = A := wr (by omega) (by omega)
        have wB0 : wrap64 B = B := wr (by omega) (by omega)
        have wA : wrap64 (A * 131) = A * 131 := wr (by omega) (by omega)
        have wB : wrap64 (B * 1117) = B * 1117 := wr (by omega) (by omega)
        have wS : wrap64 (A * 131 + B * 1117) = A * 131 + B * 1117 := wr (by omega) (by omega)
        have wp : wrap64 (p * 29) = p * 29 := wr (by omega) (by omega)
        have wS2 : wrap64 (A * 131 + B * 1117 + p * 29) = A * 131 + B * 1117 + p * 29 := wr (by omega) (by omega)
        have wX : wrap64 X = X := wr (by omega) (by omega)
        have wX2 : wrap64 (X * 53) = X * 53 := wr (by omega) (by omega)
        have wS3 : wrap64 (A * 131 + B * 1117 + p * 29 + X * 53) = A * 131 + B * 1117 + p * 29 + X * 53 := wr (by omega) (by omega)
        have hS : 0 ≤ A * 131 + B * 1117 + p * 29 + X * 53 ∧ A * 131 + B * 1117 + p * 29 + X * 53 ≤ 100000000 := by omega
        generalize hT : A * 131 + B * 1117 + p * 29 + X * 53 = T at hS wS3
        have w64 : wrap64 (Int.tdiv T 64) = T / 64 := by rw [Int.tdiv_eq_ediv_of_nonneg hS.1]; exact wr (by omega) (by omega)
        have hx := xor_pos T (T / 64) hS.1 (by omega) (by omega) (by omega)
        refine ⟨Int.tmod (Go.bits .xor .i64 T (T / 64)) n, Int.tmod_nonneg _ hx.1, fun h => Int.tmod_lt_of_pos _ (by omega), by omega, evs 1 fun k hk => ?_⟩
        obtain ⟨k, rfl⟩ : ∃ m, k = m + 1 := ⟨k - 1, by omega⟩
        simp only [spec_l20Rd_pick.f]
        rw [if_neg h1, e2]; simp only [spec_l20Rd_pick.j0]
        rw [if_neg (by simp), ep, ep2, if_neg h3, if_neg h2, if_pos q1, if_pos q2, w7, if_pos q3, if_pos q4, if_neg (by omega)]
        simp only [eu, hX, hA, hB, wA0, wB0, wA, wB, wS, wp, wS2, wX, wX2, hT, wS3, w64]
theorem pick_pos (b : List Int) (hb : Code b) (p n : Int) (h0 : 0 ≤ p) (hp : p ≤ 1000000) (h1 : 1 ≤ n) (hn : n ≤ 1000000) :
    ∃ v, 0 ≤ v ∧ v < n ∧ Ev (fun k => spec_l20Rd_pick.f k b p n) (v, p + 1) := by
  obtain ⟨v, a, c, _, e⟩ := pick_any b hb p n h0 hp hn
  exact ⟨v, a, c h1, e⟩
theorem rd_mem (l : List Int) (i : Int) (h0 : 0 ≤ i) (h : i < l.length) : rd l i ∈ l := by
  unfold rd
  rw [List.getD_eq_getElem?_getD, List.getElem?_eq_getElem (by omega)]
  exact List.getElem_mem _
def leap (y : Int) : Bool := decide (y % 4 = 0 ∧ (y % 100 ≠ 0 ∨ y % 400 = 0))
theorem tb (a n : Int) : (Int.tmod a n == 0) = decide (a % n = 0) := by
  rw [← decide_eq_decide.mpr (iff_of_eq (tmod0 a n))]
  rfl
theorem spec_leap (y : Int) : spec_DayLeap.f y = some (leap y) := by
  unfold spec_DayLeap.f leap
  simp only [tmod0, tb]
  by_cases h4 : y % 4 = 0 <;> by_cases h1 : y % 100 = 0 <;> by_cases h2 : y % 400 = 0 <;> simp [h4, h1, h2]
  all_goals omega
theorem impl_leap (y : Int) : impl_DayLeap.f y = some (leap y) := by
  unfold impl_DayLeap.f leap
  simp only [tmod0, tb]
  by_cases h4 : y % 4 = 0 <;> by_cases h1 : y % 100 = 0 <;> by_cases h2 : y % 400 = 0 <;> simp [h4, h1, h2]
def dl (y m : Int) : Int := if 1 ≤ m ∧ m ≤ 12 then (if m = 2 then (if leap y = true then 29 else 28) else impl_DayLast.tab m) else 0
theorem impl_last (y m : Int) : impl_DayLast.f y m = some (dl y m) := by
  unfold impl_DayLast.f dl
  by_cases h1 : m ≥ 1
  · by_cases h2 : m ≤ 12
    · rw [if_pos h1, if_pos h2, if_pos (show 1 ≤ m ∧ m ≤ 12 from ⟨h1, h2⟩)]
      by_cases h3 : m = 2
      · simp only [if_pos h3, impl_leap]
        cases leap y <;> rfl
      · simp only [if_neg h3]
    · rw [if_pos h1, if_neg h2, if_neg (by omega)]
  · rw [if_neg h1, if_neg (by omega)]
theorem spec_last_two (y m : Int) (k : Nat) (hk : 2 ≤ k) : spec_DayLast.f k y m = some (dl y m) := by
  obtain ⟨k, rfl⟩ : ∃ j, k = j + 2 := ⟨k - 2, by omega⟩
  by_cases h : 1 ≤ m ∧ m ≤ 12
  · rcases (by omega : m = 1 ∨ m = 2 ∨ m = 3 ∨ m = 4 ∨ m = 5 ∨ m = 6 ∨ m = 7 ∨ m = 8 ∨ m = 9 ∨ m = 10 ∨ m = 11 ∨ m = 12) with rfl | rfl | rfl | rfl | rfl | rfl | rfl | rfl | rfl | rfl | rfl | rfl
    all_goals simp [spec_DayLast.f, spec_DayLast.j0, spec_DayLast.j1, spec_leap, dl, impl_DayLast.tab]
    cases leap y <;> simp
  · have hn : ∀ c : Int, 1 ≤ c → c ≤ 12 → m ≠ c := fun c h1 h2 e => h ⟨by omega, by omega⟩
    have e : ∀ c : Int, 1 ≤ c → c ≤ 12 → (m == c) = false := fun c h1 h2 => by simpa using hn c h1 h2
    have e1 := e 12 (by omega) (by omega)
    have e2 := e 11 (by omega) (by omega)
    simp only [spec_DayLast.f]
    rw [if_neg (hn 1 (by omega) (by omega)), if_neg (hn 3 (by omega) (by omega)), if_neg (hn 5 (by omega) (by omega)), if_neg (hn 7 (by omega) (by omega)), if_neg (hn 8 (by omega) (by omega)), if_neg (hn 10 (by omega) (by omega)), e1]
    simp only [spec_DayLast.j0]
    rw [if_neg (by simp), if_neg (hn 4 (by omega) (by omega)), if_neg (hn 6 (by omega) (by omega)), if_neg (hn 9 (by omega) (by omega)), e2]
    simp only [spec_DayLast.j1]
    rw [if_neg (by simp), if_neg (hn 2 (by omega) (by omega))]
    unfold dl
    rw [if_neg h]
theorem dl_bound (y m : Int) : 0 ≤ dl y m ∧ dl y m ≤ 31 := by
  unfold dl impl_DayLast.tab
  repeat' split
  all_goals omega
theorem in_impl (a b c : Int) : impl_in.f a b c = some (decide (b ≤ a ∧ a ≤ c)) := by
  unfold impl_in.f
  by_cases h : a ≥ b
  · rw [if_pos h]; simp [show b ≤ a from h]
  · rw [if_neg h]; simp [show ¬ b ≤ a from h]
theorem in_spec (a b c : Int) : spec_l1In.f a b c = some (decide (b ≤ a ∧ a ≤ c)) := by
  unfold spec_l1In.f
  by_cases h : a ≥ b
  · rw [if_pos h]; simp [show b ≤ a from h]
  · rw [if_neg h]; simp [show ¬ b ≤ a from h]
def dok (y m d : Int) : Bool := decide (1900 ≤ y ∧ y ≤ 2199 ∧ 1 ≤ m ∧ m ≤ 12 ∧ 1 ≤ d ∧ d ≤ dl y m)
theorem impl_ok (y m d : Int) : impl_DayOk.f y m d = some (dok y m d) := by
  unfold impl_DayOk.f dok
  rw [in_impl, impl_last]
  simp only [Option.bind_some, in_impl, decide_eq_true_eq]
  have hd : ¬ (1 ≤ m ∧ m ≤ 12) → dl y m = 0 := fun h => by unfold dl; rw [if_neg h]
  by_cases h1 : 1900 ≤ y ∧ y ≤ 2199
  · rw [if_pos h1]; congr 1; rw [decide_eq_decide]
    by_cases h : 1 ≤ m ∧ m ≤ 12
    · omega
    · have := hd h
      omega
  · rw [if_neg h1]; congr 1; symm; rw [decide_eq_false_iff_not]; omega
theorem cu_ok : laws_cuOk.f = some true := by
  unfold laws_cuOk.f
  rw [impl_ok]
  rfl
theorem spec_last2 (k : Nat) (y m : Int) : spec_DayLast.f (k + 2) y m = some (dl y m) := by
  exact spec_last_two y m _ (by omega)
theorem spec_ok2 (k : Nat) (y m d : Int) : spec_DayOk.f (k + 2) y m d = some (dok y m d) := by
  unfold spec_DayOk.f dok
  simp only [in_spec, Option.bind_some, decide_eq_true_eq, spec_last2]
  by_cases h1 : 1900 ≤ y ∧ y ≤ 2199
  · rw [if_pos h1]
    by_cases h2 : 1 ≤ m ∧ m ≤ 12
    · rw [if_pos h2]; congr 1; rw [decide_eq_decide]; omega
    · rw [if_neg h2]; congr 1; symm; rw [decide_eq_false_iff_not]; omega
  · rw [if_neg h1]; congr 1; symm; rw [decide_eq_false_iff_not]; omega
def leapN (y : Int) : Int := if leap y = true then 1 else 0
theorem leapN_bound (y : Int) : 0 ≤ leapN y ∧ leapN y ≤ 1 := by unfold leapN; split <;> omega
def before (y : Int) : Int := (y - 1) / 4 - (y - 1) / 100 + (y - 1) / 400
theorem before_succ (y : Int) : before (y + 1) = before y + leapN y := by
  unfold before leapN leap
  rw [show y + 1 - 1 = y by omega]
  by_cases h : y % 4 = 0 ∧ (y % 100 ≠ 0 ∨ y % 400 = 0)
  · rw [if_pos (by simpa using h)]; omega
  · rw [if_neg (by simpa using h)]; omega
def nyear (y : Int) : Int := 365 * (y - 1900) + before y - 460
theorem nyear_succ (y : Int) : nyear (y + 1) = nyear y + 365 + leapN y := by
  unfold nyear
  rw [before_succ]
  omega
theorem nyear_mono (y z : Int) (h : y ≤ z) : nyear y ≤ nyear z := by
  unfold nyear before
  omega
theorem nyear_bound (y : Int) (h1 : 1900 ≤ y) (h2 : y ≤ 2200) : 0 ≤ nyear y ∧ nyear y ≤ 109573 ∧ nyear y ≤ 366 * (y - 1900) := by
  unfold nyear before
  omega
theorem nyear_first : nyear 1900 = 0 := by decide
def cum (y m : Int) : Int :=
  (if m ≤ 1 then 0 else if m = 2 then 31 else if m = 3 then 59 else if m = 4 then 90 else if m = 5 then 120 else if m = 6 then 151 else if m = 7 then 181 else if m = 8 then 212 else if m = 9 then 243 else if m = 10 then 273 else if m = 11 then 304 else if m = 12 then 334 else 365) + (if 2 < m then leapN y else 0)
theorem cum_one (y : Int) : cum y 1 = 0 := by unfold cum; simp
theorem cum_end (y : Int) : cum y 13 = 365 + leapN y := by unfold cum; simp
theorem cum_succ (y m : Int) (h1 : 1 ≤ m) (h2 : m ≤ 12) : cum y (m + 1) = cum y m + dl y m := by
  rcases (by omega : m = 1 ∨ m = 2 ∨ m = 3 ∨ m = 4 ∨ m = 5 ∨ m = 6 ∨ m = 7 ∨ m = 8 ∨ m = 9 ∨ m = 10 ∨ m = 11 ∨ m = 12) with rfl | rfl | rfl | rfl | rfl | rfl | rfl | rfl | rfl | rfl | rfl | rfl
  all_goals
    unfold cum dl leapN impl_DayLast.tab
    cases leap y <;> simp
theorem cum_mono (y m : Int) (h1 : 1 ≤ m) (j : Nat) : m + j ≤ 13 → cum y m ≤ cum y (m + j) := by
  induction j with
  | zero => intro _; simp
  | succ j ih =>
    intro h
    have := ih (by omega)
    have h3 := cum_succ y (m + j) (by omega) (by omega)
    have h4 := dl_bound y (m + j)
    rw [show m + ((j + 1 : Nat) : Int) = m + j + 1 by omega]
    omega
theorem cum_le (y m n : Int) (h1 : 1 ≤ m) (h2 : m ≤ n) (h3 : n ≤ 13) : cum y m ≤ cum y n := by
  have := cum_mono y m h1 (n - m).toNat (by omega)
  rwa [show m + ((n - m).toNat : Int) = n by omega] at this
theorem cum_bound (y m : Int) (h1 : 1 ≤ m) (h2 : m ≤ 13) : 0 ≤ cum y m ∧ cum y m ≤ 366 := by
  have a := cum_le y 1 m (by omega) h1 h2
  have b := cum_le y m 13 h1 h2 (by omega)
  rw [cum_one] at a
  rw [cum_end] at b
  have := leapN_bound y
  omega
def num0 (y m d : Int) : Int := nyear y + cum y m + d - 1
def num (y m d : Int) : Int := if dok y m d = true then num0 y m d else -1
theorem dok_iff (y m d : Int) : dok y m d = true ↔ 1900 ≤ y ∧ y ≤ 2199 ∧ 1 ≤ m ∧ m ≤ 12 ∧ 1 ≤ d ∧ d ≤ dl y m := by unfold dok; rw [decide_eq_true_eq]
theorem num0_in (y m d : Int) (h : dok y m d = true) : nyear y ≤ num0 y m d ∧ num0 y m d < nyear (y + 1) ∧ 0 ≤ num0 y m d ∧ num0 y m d ≤ 109572 := by
  rw [dok_iff] at h
  have a := cum_bound y m (by omega) (by omega)
  have b := cum_succ y m (by omega) (by omega)
  have c := cum_le y (m + 1) 13 (by omega) (by omega) (by omega)
  have e := nyear_succ y
  have f := nyear_bound (y + 1) (by omega) (by omega)
  have g := nyear_bound y (by omega) (by omega)
  rw [cum_end] at c
  unfold num0
  omega
theorem num0_lt (y m d z n e : Int) (h : dok y m d = true) (h' : dok z n e = true) (hl : y < z ∨ y = z ∧ (m < n ∨ m = n ∧ d < e)) : num0 y m d < num0 z n e := by
  have a := num0_in y m d h
  have b := num0_in z n e h'
  rw [dok_iff] at h h'
  rcases hl with hl | ⟨rfl, hl | ⟨rfl, hl⟩⟩
  · have := nyear_mono (y + 1) z (by omega)
    omega
  · have c := cum_succ y m (by omega) (by omega)
    have c2 := cum_le y (m + 1) n (by omega) (by omega) (by omega)
    unfold num0
    omega
  · unfold num0
    omega
theorem impl_year (y : Int) : impl_yearDays.f y = some (365 + leapN y) := by
  unfold impl_yearDays.f leapN
  rw [impl_leap]
  cases leap y <;> rfl
theorem impl_num_months (y m d : Int) (hm : m ≤ 12) (dd : Nat) : ∀ (k : Nat) (s i : Int), 1 ≤ i → m - i = dd → 0 ≤ s → s + 31 * dd ≤ 200000 →
    impl_DayNum.l1 (k + 1 + dd) s i y m d = some (s + (cum y m - cum y i)) := by
  induction dd with
  | zero =>
    intro k s i hi hd2 hs hs2
    obtain rfl : i = m := by omega
    simp only [Nat.add_zero, impl_DayNum.l1]
    rw [if_neg (by omega), Int.sub_self, Int.add_zero]
  | succ dd ih =>
    intro k s i hi hd2 hs hs2
    have hb := dl_bound y i
    have hc := cum_succ y i (by omega) (by omega)
    rw [show k + 1 + (dd + 1) = (k + 1 + dd) + 1 by omega]
    simp only [impl_DayNum.l1]
    rw [if_pos (by omega), impl_last]
    simp only [Option.bind_some]
    rw [wr (x := s + dl y i) (by omega) (by omega), wr (x := i + 1) (by omega) (by omega), ih k _ _ (by omega) (by omega) (by omega) (by omega)]
    congr 1; omega
theorem impl_num_years (y m d : Int) (hy : y ≤ 2199) (hm1 : 1 ≤ m) (hm : m ≤ 12) (dd : Nat) : ∀ (k : Nat) (s i : Int), 1900 ≤ i → y - i = dd → 0 ≤ s → s + (nyear y - nyear i) ≤ 150000 →
    impl_DayNum.l0 (k + 14 + dd) s i y m d = some (s + (nyear y - nyear i) + cum y m) := by
  induction dd with
  | zero =>
    intro k s i hi hd2 hs hs2
    obtain rfl : i = y := by omega
    rw [show k + 14 + 0 = (k + 13) + 1 by omega]
    simp only [impl_DayNum.l0]
    rw [if_neg (by omega), show k + 13 = (k + 12 - (m - 1).toNat) + 1 + (m - 1).toNat by omega, impl_num_months i m d hm (m - 1).toNat _ _ _ (by omega) (by omega) (by omega) (by omega), cum_one]
    congr 1; omega
  | succ dd ih =>
    intro k s i hi hd2 hs hs2
    have hb := leapN_bound i
    have hc := nyear_succ i
    have hq := nyear_mono (i + 1) y (by omega)
    rw [show k + 14 + (dd + 1) = (k + 14 + dd) + 1 by omega]
    simp only [impl_DayNum.l0]
    rw [if_pos (by omega), impl_year]
    simp only [Option.bind_some]
    rw [wr (x := s + (365 + leapN i)) (by omega) (by omega), wr (x := i + 1) (by omega) (by omega), ih k _ _ (by omega) (by omega) (by omega) (by omega)]
    congr 1; omega
theorem impl_num (k : Nat) (y m d : Int) : impl_DayNum.f (k + 400) y m d = some (num y m d) := by
  unfold impl_DayNum.f num
  rw [impl_ok]
  simp only [Option.bind_some]
  by_cases h : dok y m d = true
  · rw [if_pos h, if_pos h]
    rw [dok_iff] at h
    have hb := dl_bound y m
    have g := nyear_bound y (by omega) (by omega)
    rw [wr (x := d - 1) (by omega) (by omega), show k + 400 = (k + 386 - (y - 1900).toNat) + 14 + (y - 1900).toNat by omega,
      impl_num_years y m d (by omega) (by omega) (by omega) (y - 1900).toNat _ _ _ (by omega) (by omega) (by omega) (by rw [nyear_first]; omega), nyear_first]
    unfold num0
    congr 1; omega
  · rw [if_neg h, if_neg h]
theorem num_dok (y m d : Int) (h : dok y m d = true) : num y m d = num0 y m d := by unfold num; rw [if_pos h]
def plusY (y m k : Int) : Int := y + (m - 1 + k) / 12
def plusM (m k : Int) : Int := (m - 1 + k) % 12 + 1
def plusD (y m d k : Int) : Int := if dl (plusY y m k) (plusM m k) < d then dl (plusY y m k) (plusM m k) else d
def plus (y m d k : Int) : Int × Int × Int :=
  if dok y m d = true ∧ 0 ≤ k ∧ k ≤ 600 ∧ plusY y m k ≤ 2199 then (plusY y m k, plusM m k, plusD y m d k) else (0, 0, 0)
theorem dl_low (y m : Int) (m1 : 1 ≤ m) (m2 : m ≤ 12) : 28 ≤ dl y m := by
  unfold dl impl_DayLast.tab
  rw [if_pos ⟨m1, m2⟩]
  repeat' split
  all_goals omega
theorem plus_dok (y m d k : Int) (h : dok y m d = true) (h0 : 0 ≤ k) (hy : plusY y m k ≤ 2199) : dok (plusY y m k) (plusM m k) (plusD y m d k) = true := by
  rw [dok_iff] at h
  rw [dok_iff]
  have a : 1 ≤ plusM m k ∧ plusM m k ≤ 12 := by unfold plusM; omega
  have b : y ≤ plusY y m k := by unfold plusY; omega
  have c := dl_low (plusY y m k) (plusM m k) a.1 a.2
  unfold plusD
  split <;> omega
theorem plus_out (y m d k : Int) (hy : ¬ plusY y m k ≤ 2199) : dok (plusY y m k) (plusM m k) (plusD y m d k) = false := by
  unfold dok
  rw [decide_eq_false_iff_not]
  omega
theorem impl_plus (j : Nat) (y m d k : Int) (hk : -9223372036854775808 ≤ k ∧ k ≤ 9223372036854775807) : impl_DayPlus.f (j + 1) y m d k = some (plus y m d k) := by
  unfold impl_DayPlus.f plus
  rw [impl_ok]
  simp only [Option.bind_some]
  by_cases h : dok y m d = true
  · rw [if_pos h, in_impl]
    simp only [Option.bind_some]
    by_cases h2 : 0 ≤ k ∧ k ≤ 600
    · have hd := (dok_iff y m d).mp h
      have t1 : Int.tdiv (m - 1 + k) 12 = (m - 1 + k) / 12 := Int.tdiv_eq_ediv_of_nonneg (by omega)
      have t2 : Int.tmod (m - 1 + k) 12 = (m - 1 + k) % 12 := Int.tmod_eq_emod_of_nonneg (by omega)
      rw [decide_eq_true h2]
      simp only [impl_DayPlus.j0, Bool.not_true]
      rw [if_neg (by simp), wr (x := m - 1) (by omega) (by omega), wr (x := m - 1 + k) (by omega) (by omega), t1, t2, wr (x := (m - 1 + k) / 12) (by omega) (by omega), wr (x := y + (m - 1 + k) / 12) (by omega) (by omega), wr (x := (m - 1 + k) % 12 + 1) (by omega) (by omega), impl_last]
      simp only [Option.bind_some, impl_ok]
      show (if dok (plusY y m k) (plusM m k) (plusD y m d k) = true then some (plusY y m k, plusM m k, plusD y m d k) else some (0, 0, 0)) = _
      by_cases h3 : plusY y m k ≤ 2199
      · rw [if_pos (plus_dok y m d k h h2.1 h3), if_pos ⟨h, h2.1, h2.2, h3⟩]
      · rw [plus_out y m d k h3, if_neg (by simp), if_neg (by omega)]
    · rw [decide_eq_false h2]
      simp only [impl_DayPlus.j0, Bool.not_false]
      rw [if_pos trivial, if_neg (by omega)]
  · rw [if_neg h]
    simp only [impl_DayPlus.j0]
    rw [if_pos trivial, if_neg (by simp [h])]
theorem spec_plus (j : Nat) (y m d k : Int) (hk : -9223372036854775808 ≤ k ∧ k ≤ 9223372036854775807) : spec_DayPlus.f (j + 5) y m d k = some (plus y m d k) := by
  unfold spec_DayPlus.f plus
  rw [show j + 5 = (j + 3) + 2 by omega, spec_ok2]
  simp only [Option.bind_some]
  by_cases h : dok y m d = true
  · rw [if_pos h, in_spec]
    simp only [Option.bind_some]
    by_cases h2 : 0 ≤ k ∧ k ≤ 600
    · have hd := (dok_iff y m d).mp h
      have t1 : Int.tdiv (y * 12 + m - 1 + k) 12 = plusY y m k := by rw [Int.tdiv_eq_ediv_of_nonneg (by omega)]; unfold plusY; omega
      have t2 : Int.tmod (y * 12 + m - 1 + k) 12 + 1 = plusM m k := by rw [Int.tmod_eq_emod_of_nonneg (by omega)]; unfold plusM; omega
      have b1 : -9223372036854775808 ≤ plusY y m k ∧ plusY y m k ≤ 9223372036854775807 := by unfold plusY; omega
      have b2 : -9223372036854775808 ≤ plusM m k ∧ plusM m k ≤ 9223372036854775807 := by unfold plusM; omega
      rw [decide_eq_true h2, show j + 3 + 2 = (j + 2 + 2) + 1 by omega]
      simp only [spec_DayPlus.j0, Bool.not_true]
      rw [if_neg (by simp), wr (x := y * 12) (by omega) (by omega), wr (x := y * 12 + m) (by omega) (by omega), wr (x := y * 12 + m - 1) (by omega) (by omega), wr (x := y * 12 + m - 1 + k) (by omega) (by omega), t1, t2, wr b1.1 b1.2, wr b2.1 b2.2, spec_last2]
      simp only [Option.bind_some]
      have fin : ∀ e : Int, e = plusD y m d k → spec_DayPlus.j1 (j + 2 + 2) (plusY y m k) (plusM m k) e = some (if dok y m d = true ∧ 0 ≤ k ∧ k ≤ 600 ∧ plusY y m k ≤ 2199 then (plusY y m k, plusM m k, plusD y m d k) else (0, 0, 0)) := by
        rintro e rfl
        rw [show j + 2 + 2 = (j + 1 + 2) + 1 by omega]
        simp only [spec_DayPlus.j1, spec_ok2, Option.bind_some]
        by_cases h3 : plusY y m k ≤ 2199
        · rw [if_pos (plus_dok y m d k h h2.1 h3), if_pos ⟨h, h2.1, h2.2, h3⟩]
        · rw [plus_out y m d k h3, if_neg (by simp), if_neg (by omega)]
      by_cases h4 : d > dl (plusY y m k) (plusM m k)
      · rw [if_pos h4]
        exact fin _ (by unfold plusD; rw [if_pos h4])
      · rw [if_neg h4]
        exact fin _ (by unfold plusD; rw [if_neg (by omega)])
    · rw [decide_eq_false h2, show j + 3 + 2 = (j + 4) + 1 by omega]
      simp only [spec_DayPlus.j0, Bool.not_false]
      rw [if_pos trivial, if_neg (by omega)]
  · rw [if_neg h, show j + 3 + 2 = (j + 4) + 1 by omega]
    simp only [spec_DayPlus.j0]
    rw [if_pos trivial, if_neg (by simp [h])]
theorem tail_draw (b : List Int) (hb : Code b) (p n y m d : Int) (h0 : 0 ≤ p) (hp : p ≤ 900000) (hn : 1 ≤ n) (hn2 : n ≤ 1000000) (hy : 1899 ≤ y ∧ y ≤ 2200) (hm : 0 ≤ m ∧ m ≤ 13) (hd : 0 ≤ d ∧ d ≤ 32) :
    ∃ y' m' d' q, (1899 ≤ y' ∧ y' ≤ 2200) ∧ (0 ≤ m' ∧ m' ≤ 13) ∧ (0 ≤ d' ∧ d' ≤ 32) ∧ (p ≤ q ∧ q ≤ p + 3) ∧ Ev (fun k => spec_l20Day.j0 k n b p y m d) (y', m', d', q) := by
  obtain ⟨v1, a1, c1, ⟨K1, e1⟩⟩ := pick_pos b hb p n h0 (by omega) hn hn2
  obtain ⟨v2, a2, c2, ⟨K2, e2⟩⟩ := pick_pos b hb (p + 1) 3 (by omega) (by omega) (by omega) (by omega)
  obtain ⟨v3, a3, c3, ⟨K3, e3⟩⟩ := pick_pos b hb (p + 1 + 1) 3 (by omega) (by omega) (by omega) (by omega)
  obtain ⟨v4, a4, c4, ⟨K4, e4⟩⟩ := pick_pos b hb (p + 1 + 1) 4 (by omega) (by omega) (by omega) (by omega)
  dsimp only at e1 e2 e3 e4
  by_cases h1 : v1 = 0
  · by_cases h2 : v2 = 0
    · have hr := rd_mem [1899, 2200, 2023] v3 a3 (by simpa using c3)
      simp only [List.mem_cons, List.not_mem_nil, or_false] at hr
      refine ⟨rd [1899, 2200, 2023] v3, m, d, p + 1 + 1 + 1, by omega, hm, hd, by omega, max K1 (max K2 K3) + 1, fun k hk => ?_⟩
      obtain ⟨k, rfl⟩ : ∃ j, k = j + 1 := ⟨k - 1, by omega⟩
      simp only [spec_l20Day.j0, e1 k (by omega), Option.bind_some]
      rw [if_pos h1, e2 k (by omega)]
      simp only [Option.bind_some]
      rw [if_pos h2, e3 k (by omega)]
      simp only [Option.bind_some]
      rw [if_pos a3, if_pos (by simpa using c3)]
    · by_cases h3 : v2 = 1
      · have hr := rd_mem [0, 13, 2] v3 a3 (by simpa using c3)
        simp only [List.mem_cons, List.not_mem_nil, or_false] at hr
        refine ⟨y, rd [0, 13, 2] v3, d, p + 1 + 1 + 1, hy, by omega, hd, by omega, max K1 (max K2 K3) + 1, fun k hk => ?_⟩
        obtain ⟨k, rfl⟩ : ∃ j, k = j + 1 := ⟨k - 1, by omega⟩
        simp only [spec_l20Day.j0, e1 k (by omega), Option.bind_some]
        rw [if_pos h1, e2 k (by omega)]
        simp only [Option.bind_some]
        rw [if_neg h2, if_pos h3, e3 k (by omega)]
        simp only [Option.bind_some]
        rw [if_pos a3, if_pos (by simpa using c3)]
      · have hr := rd_mem [0, 31, 30, 32] v4 a4 (by simpa using c4)
        simp only [List.mem_cons, List.not_mem_nil, or_false] at hr
        refine ⟨y, m, rd [0, 31, 30, 32] v4, p + 1 + 1 + 1, hy, hm, by omega, by omega, max K1 (max K2 K4) + 1, fun k hk => ?_⟩
        obtain ⟨k, rfl⟩ : ∃ j, k = j + 1 := ⟨k - 1, by omega⟩
        simp only [spec_l20Day.j0, e1 k (by omega), Option.bind_some]
        rw [if_pos h1, e2 k (by omega)]
        simp only [Option.bind_some]
        rw [if_neg h2, if_neg h3, e4 k (by omega)]
        simp only [Option.bind_some]
        rw [if_pos a4, if_pos (by simpa using c4)]
  · refine ⟨y, m, d, p + 1, hy, hm, hd, by omega, K1 + 1, fun k hk => ?_⟩
    obtain ⟨k, rfl⟩ : ∃ j, k = j + 1 := ⟨k - 1, by omega⟩
    simp only [spec_l20Day.j0, e1 k (by omega), Option.bind_some]
    rw [if_neg h1]
theorem day_draw (b : List Int) (hb : Code b) (p n : Int) (h0 : 0 ≤ p) (hp : p ≤ 800000) (hn : 1 ≤ n) (hn2 : n ≤ 1000000) :
    ∃ y m d q, (1899 ≤ y ∧ y ≤ 2200) ∧ (0 ≤ m ∧ m ≤ 13) ∧ (0 ≤ d ∧ d ≤ 32) ∧ (p ≤ q ∧ q ≤ p + 6) ∧ Ev (fun k => spec_l20Day.f k b p n) (y, m, d, q) := by
  obtain ⟨v1, a1, c1, ⟨K1, e1⟩⟩ := pick_pos b hb p 7 h0 (by omega) (by omega) (by omega)
  obtain ⟨v2, a2, c2, ⟨K2, e2⟩⟩ := pick_pos b hb (p + 1) 12 (by omega) (by omega) (by omega) (by omega)
  obtain ⟨v3, a3, c3, ⟨K3, e3⟩⟩ := pick_pos b hb (p + 1 + 1) 6 (by omega) (by omega) (by omega) (by omega)
  dsimp only at e1 e2 e3
  have r1 := rd_mem [1900, 2000, 2024, 2026, 2100, 2199, 1996] v1 a1 (by simpa using c1)
  have r3 := rd_mem [1, 28, 15, 31, 30, 29] v3 a3 (by simpa using c3)
  simp only [List.mem_cons, List.not_mem_nil, or_false] at r1 r3
  generalize hy : rd [1900, 2000, 2024, 2026, 2100, 2199, 1996] v1 = y at r1
  generalize hd : rd [1, 28, 15, 31, 30, 29] v3 = d at r3
  have w2 : wrap64 (1 + v2) = 1 + v2 := wr (by omega) (by omega)
  have hl := dl_bound y (1 + v2)
  have hd2 : 0 ≤ (if d > dl y (1 + v2) then dl y (1 + v2) else d) ∧ (if d > dl y (1 + v2) then dl y (1 + v2) else d) ≤ 32 := by split <;> omega
  obtain ⟨y', m', d', q, g1, g2, g3, g4, ⟨K5, e5⟩⟩ := tail_draw b hb (p + 1 + 1 + 1) n y (1 + v2) (if d > dl y (1 + v2) then dl y (1 + v2) else d) (by omega) (by omega) hn hn2 (by omega) (by omega) hd2
  dsimp only at e5
  refine ⟨y', m', d', q, g1, g2, g3, by omega, max K1 (max K2 (max K3 K5)) + 2, fun k hk => ?_⟩
  unfold spec_l20Day.f
  simp only [Option.bind_some, e1 k (by omega), e2 k (by omega), e3 k (by omega)]
  rw [if_pos a1, if_pos (by simpa using c1), if_pos a3, if_pos (by simpa using c3), hy, hd, w2, spec_last_two y (1 + v2) k (by omega)]
  simp only [Option.bind_some]
  by_cases h : d > dl y (1 + v2)
  · rw [if_pos h] at e5 ⊢
    exact e5 k (by omega)
  · rw [if_neg h] at e5 ⊢
    exact e5 k (by omega)
def riseB (l : List Int) (i : Int) : Nat → Bool
  | 0 => true
  | d + 1 => decide (1 ≤ rd l i ∧ rd l i ≤ 600 ∧ (0 < i → rd l (i - 1) < rd l i)) && riseB l (i + 1) d
theorem riseB_at (l : List Int) (d : Nat) : ∀ i : Int, riseB l i d = true → ∀ j : Int, i ≤ j → j < i + d → 1 ≤ rd l j ∧ rd l j ≤ 600 ∧ (0 < j → rd l (j - 1) < rd l j) := by
  induction d with
  | zero => intro i _ j h1 h2; omega
  | succ d ih =>
    intro i h j h1 h2
    unfold riseB at h
    rw [Bool.and_eq_true, decide_eq_true_eq] at h
    by_cases e : j = i
    · subst e; exact h.1
    · exact ih (i + 1) h.2 j (by omega) (by omega)
def baseOk (y m d : Int) (n : Nat) (w : Int) : Bool := decide (dok y m d = true ∧ y ≤ 2139 ∧ 1 ≤ n ∧ n ≤ 8 ∧ 0 ≤ w ∧ w ≤ 14)
def staOk (y m d : Int) (l : List Int) (w : Int) : Bool := riseB l 0 l.length && baseOk y m d l.length w
theorem spec_rise_loop (y m dd w : Int) (l : List Int) (hl : l.length ≤ 8) (d : Nat) : ∀ (k : Nat) (i : Int), 0 ≤ i → (l.length : Int) - i = d → spec_StaOk.l0 (k + 1 + 2 * d) i y m dd l w = some (riseB l i d) := by
  induction d with
  | zero =>
    intro k i h0 hd
    simp only [Nat.mul_zero, Nat.add_zero, spec_StaOk.l0, riseB]
    rw [if_neg (by omega)]
  | succ d ih =>
    intro k i h0 hd
    have fin : ∀ b : Bool, (b = true ↔ ¬ (1 ≤ rd l i ∧ rd l i ≤ 600 ∧ (0 < i → rd l (i - 1) < rd l i))) → spec_StaOk.j2 (k + 1 + 2 * d + 1) i b y m dd l w = some (riseB l i (d + 1)) := by
      intro b hb
      simp only [spec_StaOk.j2, riseB]
      cases b with
      | true => rw [if_pos rfl, decide_eq_false (hb.mp rfl)]; rfl
      | false =>
        rw [if_neg (by simp), wr (x := i + 1) (by omega) (by omega), ih k (i + 1) (by omega) (by omega)]
        by_cases q : 1 ≤ rd l i ∧ rd l i ≤ 600 ∧ (0 < i → rd l (i - 1) < rd l i)
        · rw [decide_eq_true q]; rfl
        · exact absurd (hb.mpr q) (by simp)
    rw [show k + 1 + 2 * (d + 1) = (k + 1 + 2 * d + 1) + 1 by omega]
    simp only [spec_StaOk.l0, in_spec, Option.bind_some, decide_eq_true_eq]
    rw [if_pos (by omega), if_pos h0]
    by_cases q1 : 1 ≤ rd l i ∧ rd l i ≤ 600
    · rw [if_pos q1]
      by_cases q2 : i > 0
      · rw [if_pos q2, wr (x := i - 1) (by omega) (by omega), if_pos (by omega), if_pos (by omega)]
        exact fin _ (by rw [decide_eq_true_eq]; omega)
      · rw [if_neg q2]
        exact fin _ (by simp; omega)
    · rw [if_neg q1]
      exact fin _ (by simp; omega)
theorem spec_sta (k : Nat) (y m d : Int) (l : List Int) (w : Int) : spec_StaOk.f (k + 20) y m d l w = some (staOk y m d l w) := by
  have no : ∀ j, spec_StaOk.j0 (j + 1) true y m d l w = some false := fun j => by simp only [spec_StaOk.j0]; rw [if_pos trivial]
  have bad : ¬ (dok y m d = true ∧ y ≤ 2139 ∧ 1 ≤ l.length ∧ l.length ≤ 8 ∧ 0 ≤ w ∧ w ≤ 14) → staOk y m d l w = false := by
    intro h
    unfold staOk baseOk
    rw [decide_eq_false h, Bool.and_false]
  unfold spec_StaOk.f
  rw [show k + 20 = (k + 18) + 2 by omega, spec_ok2]
  simp only [Option.bind_some, in_spec]
  by_cases h1 : dok y m d = true
  · rw [if_pos h1]
    by_cases h2 : y > 2139
    · rw [if_pos h2, no, bad (by omega)]
    · rw [if_neg h2]
      by_cases h3 : 1 ≤ (l.length : Int) ∧ (l.length : Int) ≤ 8
      · rw [decide_eq_true h3, if_pos rfl]
        by_cases h4 : 0 ≤ w ∧ w ≤ 14
        · rw [decide_eq_true h4]
          simp only [spec_StaOk.j0, Bool.not_true]
          rw [if_neg (by simp), show k + 18 + 1 = (k + 18 - 2 * l.length) + 1 + 2 * l.length by omega, spec_rise_loop y m d w l (by omega) l.length _ 0 (by omega) (by omega)]
          unfold staOk baseOk
          rw [decide_eq_true (show dok y m d = true ∧ y ≤ 2139 ∧ 1 ≤ l.length ∧ l.length ≤ 8 ∧ 0 ≤ w ∧ w ≤ 14 from ⟨h1, by omega, by omega, by omega, h4.1, h4.2⟩), Bool.and_true]
        · rw [decide_eq_false h4, Bool.not_false, no, bad (by omega)]
      · rw [decide_eq_false h3, if_neg (by simp), no, bad (by omega)]
  · rw [if_neg h1, no, bad (by simp [h1])]
theorem impl_rise_loop (y m dd w : Int) (l : List Int) (hl : l.length ≤ 1048576) (d : Nat) : ∀ (k : Nat) (i : Int), 0 ≤ i → (l.length : Int) - i = d → impl_StaOk.l0 (k + 1 + 2 * d) l (l.length : Int) i y m dd l w = some (riseB l i d && baseOk y m dd l.length w) := by
  induction d with
  | zero =>
    intro k i h0 hd
    simp only [Nat.mul_zero, Nat.add_zero, impl_StaOk.l0, riseB, impl_ok, in_impl, Option.bind_some, Bool.true_and]
    rw [if_neg (by omega)]
    unfold baseOk
    by_cases h1 : dok y m dd = true
    · rw [if_pos h1]
      by_cases h2 : y ≤ 2139
      · rw [if_pos h2]
        by_cases h3 : 1 ≤ (l.length : Int) ∧ (l.length : Int) ≤ 8
        · rw [decide_eq_true h3, if_pos rfl]
          congr 1; rw [decide_eq_decide]; exact ⟨fun g => ⟨h1, h2, by omega, by omega, g.1, g.2⟩, fun g => ⟨g.2.2.2.2.1, g.2.2.2.2.2⟩⟩
        · rw [decide_eq_false h3, if_neg (by simp)]
          congr 1; symm; rw [decide_eq_false_iff_not]; omega
      · rw [if_neg h2]
        congr 1; symm; rw [decide_eq_false_iff_not]; omega
    · rw [if_neg h1]
      congr 1; symm; rw [decide_eq_false_iff_not]; simp [h1]
  | succ d ih =>
    intro k i h0 hd
    have fin : ∀ b : Bool, (b = true ↔ ¬ (1 ≤ rd l i ∧ rd l i ≤ 600 ∧ (0 < i → rd l (i - 1) < rd l i))) → impl_StaOk.j1 (k + 1 + 2 * d + 1) l (l.length : Int) i b y m dd l w = some (riseB l i (d + 1) && baseOk y m dd l.length w) := by
      intro b hb
      simp only [impl_StaOk.j1, riseB]
      cases b with
      | true => rw [if_pos rfl, decide_eq_false (hb.mp rfl)]; rfl
      | false =>
        rw [if_neg (by simp), wr (x := i + 1) (by omega) (by omega), ih k (i + 1) (by omega) (by omega)]
        by_cases q : 1 ≤ rd l i ∧ rd l i ≤ 600 ∧ (0 < i → rd l (i - 1) < rd l i)
        · rw [decide_eq_true q]; rfl
        · exact absurd (hb.mpr q) (by simp)
    rw [show k + 1 + 2 * (d + 1) = (k + 1 + 2 * d + 1) + 1 by omega]
    simp only [impl_StaOk.l0, in_impl, Option.bind_some, decide_eq_true_eq]
    rw [if_pos (by omega), if_pos h0, if_pos (by omega)]
    by_cases q1 : 1 ≤ rd l i ∧ rd l i ≤ 600
    · rw [if_pos q1]
      by_cases q2 : i > 0
      · rw [if_pos q2, wr (x := i - 1) (by omega) (by omega), if_pos (by omega), if_pos (by omega)]
        exact fin _ (by rw [decide_eq_true_eq]; omega)
      · rw [if_neg q2]
        exact fin _ (by simp; omega)
    · rw [if_neg q1]
      exact fin _ (by simp; omega)
theorem impl_sta (k : Nat) (y m d : Int) (l : List Int) (w : Int) (hl : l.length ≤ 1048576) : impl_StaOk.f (k + 1 + 2 * l.length) y m d l w = some (staOk y m d l w) := by
  unfold impl_StaOk.f staOk
  exact impl_rise_loop y m d w l hl l.length k 0 (by omega) (by omega)
theorem sta_facts {y m d : Int} {l : List Int} {w : Int} (h : staOk y m d l w = true) : dok y m d = true ∧ y ≤ 2139 ∧ 1 ≤ l.length ∧ l.length ≤ 8 ∧ 0 ≤ w ∧ w ≤ 14 ∧ ∀ j : Int, 0 ≤ j → j < l.length → 1 ≤ rd l j ∧ rd l j ≤ 600 ∧ (0 < j → rd l (j - 1) < rd l j) := by
  unfold staOk baseOk at h
  rw [Bool.and_eq_true, decide_eq_true_eq] at h
  obtain ⟨h1, a, b, c, e, f, g⟩ := h
  exact ⟨a, b, c, e, f, g, fun j h0 hj => riseB_at l l.length 0 h1 j h0 (by omega)⟩
theorem pull_day {y m d : Int} {l : List Int} {w : Int} (h : staOk y m d l w = true) (j : Int) (h0 : 0 ≤ j) (hj : j < l.length) :
    plus y m d (rd l j) = (plusY y m (rd l j), plusM m (rd l j), plusD y m d (rd l j)) ∧ dok (plusY y m (rd l j)) (plusM m (rd l j)) (plusD y m d (rd l j)) = true := by
  obtain ⟨a, b, _, _, _, _, g⟩ := sta_facts h
  have hg := g j h0 hj
  have hd := (dok_iff y m d).mp a
  have hy : plusY y m (rd l j) ≤ 2199 := by unfold plusY; omega
  refine ⟨by unfold plus; rw [if_pos ⟨a, by omega, by omega, hy⟩], plus_dok y m d _ a (by omega) hy⟩
def pulls (y m d : Int) (l : List Int) : List S24 := l.map fun q => ⟨(plus y m d q).1, (plus y m d q).2.1, (plus y m d q).2.2⟩
theorem take_rd (l : List Int) (i : Nat) (h : i < l.length) : l.take (i + 1) = l.take i ++ [rd l i] := by
  rw [List.take_succ_eq_append_getElem h]
  unfold rd
  rw [List.getD_eq_getElem?_getD, Int.toNat_natCast, List.getElem?_eq_getElem h]
  rfl
theorem pulls_take (y m d : Int) (l : List Int) (i : Nat) (h : i < l.length) : pulls y m d (l.take (i + 1)) = pulls y m d (l.take i) ++ [⟨(plus y m d (rd l i)).1, (plus y m d (rd l i)).2.1, (plus y m d (rd l i)).2.2⟩] := by
  unfold pulls
  rw [take_rd l i h, List.map_append]
  rfl
theorem pulls_length (y m d : Int) (l : List Int) : (pulls y m d l).length = l.length := by unfold pulls; simp
theorem pulls_rd (y m d : Int) (l : List Int) (j : Int) (h0 : 0 ≤ j) (hj : j < l.length) : rd_T24 (pulls y m d l) j = ⟨(plus y m d (rd l j)).1, (plus y m d (rd l j)).2.1, (plus y m d (rd l j)).2.2⟩ := by
  unfold rd_T24 pulls rd
  rw [List.getD_eq_getElem?_getD, List.getElem?_map, List.getElem?_eq_getElem (by omega), List.getD_eq_getElem?_getD, List.getElem?_eq_getElem (by omega)]
  rfl
theorem spec_pulls_loop (y m d w : Int) (l : List Int) (h : staOk y m d l w = true) (dd : Nat) : ∀ (k i : Nat), l.length - i = dd → i ≤ l.length → spec_StaPulls.l0 ((k + 6 + dd) + 1) (pulls y m d (l.take i)) i y m d l w = some (pulls y m d l) := by
  obtain ⟨_, _, _, hl8, _, _, hg⟩ := sta_facts h
  induction dd with
  | zero =>
    intro k i hd hi
    simp only [spec_StaPulls.l0]
    rw [if_neg (by omega), List.take_of_length_le (by omega)]
  | succ dd ih =>
    intro k i hd hi
    have hq := hg i (by omega) (by omega)
    have e := spec_plus (k + 2 + dd) y m d (rd l i) (by omega)
    rw [show k + 2 + dd + 5 = k + 6 + (dd + 1) by omega] at e
    obtain ⟨z, hz⟩ : ∃ z, z = k + 6 + (dd + 1) := ⟨_, rfl⟩
    rw [← hz] at e ⊢
    simp only [spec_StaPulls.l0]
    rw [if_pos (by omega), if_pos (by omega), e]
    simp only [Option.bind_some]
    rw [if_pos (by rw [pulls_length, List.length_take]; omega), wr (x := (i : Int) + 1) (by omega) (by omega), ← pulls_take y m d l i (by omega)]
    have := ih k (i + 1) (by omega) (by omega)
    rw [hz, show k + 6 + (dd + 1) = k + 6 + dd + 1 by omega]
    exact this
theorem spec_pulls (k : Nat) (y m d : Int) (l : List Int) (w : Int) : spec_StaPulls.f (k + 20) y m d l w = some (if staOk y m d l w = true then pulls y m d l else []) := by
  unfold spec_StaPulls.f
  simp only [Option.bind_some, spec_sta]
  by_cases h : staOk y m d l w = true
  · obtain ⟨_, _, _, hl8, _, _, _⟩ := sta_facts h
    rw [if_pos h, if_pos h]
    have := spec_pulls_loop y m d w l h l.length (k + 13 - l.length) 0 (by omega) (by omega)
    rw [show k + 13 - l.length + 6 + l.length + 1 = k + 20 by omega] at this
    exact this
  · rw [if_neg h, if_neg h]
theorem impl_pulls_loop (y m d w : Int) (l : List Int) (h : staOk y m d l w = true) (dd : Nat) : ∀ (k i : Nat), l.length - i = dd → i ≤ l.length → impl_StaPulls.l0 ((k + 6 + dd) + 1) (pulls y m d (l.take i)) l (l.length : Int) i y m d l w = some (pulls y m d l) := by
  obtain ⟨_, _, _, hl8, _, _, hg⟩ := sta_facts h
  induction dd with
  | zero =>
    intro k i hd hi
    simp only [impl_StaPulls.l0]
    rw [if_neg (by omega), List.take_of_length_le (by omega)]
  | succ dd ih =>
    intro k i hd hi
    have hq := hg i (by omega) (by omega)
    have e := impl_plus (k + 6 + dd) y m d (rd l i) (by omega)
    rw [show k + 6 + dd + 1 = k + 6 + (dd + 1) by omega] at e
    obtain ⟨z, hz⟩ : ∃ z, z = k + 6 + (dd + 1) := ⟨_, rfl⟩
    rw [← hz] at e ⊢
    simp only [impl_StaPulls.l0]
    rw [if_pos (by omega), if_pos (by omega), if_pos (by omega), e]
    simp only [Option.bind_some]
    rw [if_pos (by rw [pulls_length, List.length_take]; omega), wr (x := (i : Int) + 1) (by omega) (by omega), ← pulls_take y m d l i (by omega)]
    have := ih k (i + 1) (by omega) (by omega)
    rw [hz, show k + 6 + (dd + 1) = k + 6 + dd + 1 by omega]
    exact this
theorem impl_pulls (k : Nat) (y m d : Int) (l : List Int) (w : Int) (hl : l.length ≤ 1048576) : impl_StaPulls.f (k + 20 + 2 * l.length) y m d l w = some (if staOk y m d l w = true then pulls y m d l else []) := by
  unfold impl_StaPulls.f
  rw [show k + 20 + 2 * l.length = (k + 19) + 1 + 2 * l.length by omega, impl_sta _ y m d l w hl]
  simp only [Option.bind_some]
  by_cases h : staOk y m d l w = true
  · rw [if_pos h, if_pos h]
    have := impl_pulls_loop y m d w l h l.length (k + 13 + l.length) 0 (by omega) (by omega)
    rw [show k + 13 + l.length + 6 + l.length + 1 = k + 19 + 1 + 2 * l.length by omega] at this
    exact this
  · rw [if_neg h, if_neg h]
theorem plan_loop (b : List Int) (hb : Code b) (n y m d w : Int) (hn : 1 ≤ n) (hn2 : n ≤ 1000000) (c : Nat) : ∀ (acc : List Int) (x6 p : Int), acc.length + c ≤ 6 → 0 ≤ p → p + c ≤ 1000 →
    ∃ y' m' d' l' w' q, l'.length ≤ 8 ∧ (p ≤ q ∧ q ≤ 2000) ∧ ∃ K, ∀ k, K ≤ k → spec_l20Plan.l0 k n x6 c b p y m d acc w = some (y', m', d', l', w', q) := by
  induction c with
  | zero =>
    intro acc x6 p hl h0 hp
    obtain ⟨v1, a1, c1, ⟨K1, e1⟩⟩ := pick_pos b hb p n h0 (by omega) hn hn2
    obtain ⟨v2, a2, c2, ⟨K2, e2⟩⟩ := pick_pos b hb (p + 1) 3 (by omega) (by omega) (by omega) (by omega)
    obtain ⟨y', m', d', q, _, _, _, hq, ⟨K3, e3⟩⟩ := day_draw b hb (p + 1 + 1) 1 (by omega) (by omega) (by omega) (by omega)
    obtain ⟨v4, a4, c4, ⟨K4, e4⟩⟩ := pick_pos b hb (p + 1 + 1) 4 (by omega) (by omega) (by omega) (by omega)
    obtain ⟨v5, a5, c5, ⟨K5, e5⟩⟩ := pick_pos b hb (p + 1 + 1) 2 (by omega) (by omega) (by omega) (by omega)
    dsimp only at e1 e2 e3 e4 e5
    by_cases h1 : v1 = 0
    · by_cases h2 : v2 = 0
      · refine ⟨y', m', d', acc, w, q, by omega, by omega, max K1 (max K2 K3) + 1, fun k hk => ?_⟩
        obtain ⟨k, rfl⟩ : ∃ j, k = j + 1 := ⟨k - 1, by omega⟩
        simp only [spec_l20Plan.l0, e1 k (by omega), e2 k (by omega), e3 k (by omega), Option.bind_some]
        rw [if_neg (by omega), if_pos h1, if_pos h2]
      · by_cases h3 : v2 = 1
        · refine ⟨y, m, d, acc ++ [rd [x6, 0, 601, 600] v4], w, p + 1 + 1 + 1, by simp; omega, by omega, max K1 (max K2 K4) + 1, fun k hk => ?_⟩
          obtain ⟨k, rfl⟩ : ∃ j, k = j + 1 := ⟨k - 1, by omega⟩
          simp only [spec_l20Plan.l0, e1 k (by omega), e2 k (by omega), e4 k (by omega), Option.bind_some]
          rw [if_neg (by omega), if_pos h1, if_neg h2, if_pos h3, if_pos a4, if_pos (by simpa using c4), if_pos (by omega)]
        · refine ⟨y, m, d, acc, rd [-1, 15] v5, p + 1 + 1 + 1, by omega, by omega, max K1 (max K2 K5) + 1, fun k hk => ?_⟩
          obtain ⟨k, rfl⟩ : ∃ j, k = j + 1 := ⟨k - 1, by omega⟩
          simp only [spec_l20Plan.l0, e1 k (by omega), e2 k (by omega), e5 k (by omega), Option.bind_some]
          rw [if_neg (by omega), if_pos h1, if_neg h2, if_neg h3, if_pos a5, if_pos (by simpa using c5)]
    · refine ⟨y, m, d, acc, w, p + 1, by omega, by omega, K1 + 1, fun k hk => ?_⟩
      obtain ⟨k, rfl⟩ : ∃ j, k = j + 1 := ⟨k - 1, by omega⟩
      simp only [spec_l20Plan.l0, e1 k (by omega), Option.bind_some]
      rw [if_neg (by omega), if_neg h1]
  | succ c ih =>
    intro acc x6 p hl h0 hp
    obtain ⟨v1, a1, c1, ⟨K1, e1⟩⟩ := pick_pos b hb p 4 h0 (by omega) (by omega) (by omega)
    dsimp only at e1
    obtain ⟨y', m', d', l', w', q, hl', hq, K2, e2⟩ := ih (acc ++ [wrap64 (x6 + rd [1, 3, 6, 12] v1)]) (wrap64 (x6 + rd [1, 3, 6, 12] v1)) (p + 1) (by simp; omega) (by omega) (by omega)
    refine ⟨y', m', d', l', w', q, hl', by omega, max K1 K2 + 1, fun k hk => ?_⟩
    obtain ⟨k, rfl⟩ : ∃ j, k = j + 1 := ⟨k - 1, by omega⟩
    simp only [spec_l20Plan.l0, e1 k (by omega), Option.bind_some]
    rw [if_pos (by omega), if_pos a1, if_pos (by simpa using c1), if_pos (by omega), wr (x := ((c + 1 : Nat) : Int) - 1) (by omega) (by omega), show ((c + 1 : Nat) : Int) - 1 = c by omega]
    exact e2 k (by omega)
theorem plan_draw (b : List Int) (hb : Code b) (n : Int) (hn : 1 ≤ n) (hn2 : n ≤ 1000000) :
    ∃ y m d l w q, List.length l ≤ 8 ∧ (0 ≤ q ∧ q ≤ 2000) ∧ ∃ K, ∀ k, K ≤ k → spec_l20Plan.f k b 0 n = some (y, m, d, l, w, q) := by
  obtain ⟨y, m, d, q, hy, hm, hd, hq, ⟨K1, e1⟩⟩ := day_draw b hb 0 9999 (by omega) (by omega) (by omega) (by omega)
  obtain ⟨v, a, c, ⟨K2, e2⟩⟩ := pick_pos b hb q 4 (by omega) (by omega) (by omega) (by omega)
  obtain ⟨v3, a3, c3, ⟨K3, e3⟩⟩ := pick_pos b hb (q + 1) 5 (by omega) (by omega) (by omega) (by omega)
  dsimp only at e1 e2 e3
  have go : ∀ y m d w, ∃ y' m' d' l' w' q', List.length l' ≤ 8 ∧ (0 ≤ q' ∧ q' ≤ 2000) ∧ ∃ K, ∀ k, K ≤ k → spec_l20Plan.j0 k n b (q + 1) y m d w = some (y', m', d', l', w', q') := by
    intro y m d w
    obtain ⟨y', m', d', l', w', q', hl', hq', K4, e4⟩ := plan_loop b hb n y m d w hn hn2 (1 + v3).toNat [] 0 (q + 1 + 1) (by simp; omega) (by omega) (by omega)
    refine ⟨y', m', d', l', w', q', hl', by omega, max K3 K4 + 1, fun k hk => ?_⟩
    obtain ⟨k, rfl⟩ : ∃ j, k = j + 1 := ⟨k - 1, by omega⟩
    simp only [spec_l20Plan.j0, e3 k (by omega), Option.bind_some]
    rw [wr (x := 1 + v3) (by omega) (by omega)]
    have := e4 k (by omega)
    rwa [show ((1 + v3).toNat : Int) = 1 + v3 by omega] at this
  by_cases h : y > 2139
  · obtain ⟨y', m', d', l', w', q', hl', hq', K4, e4⟩ := go 2020 m 1 (rd [0, 3, 14, 7] v)
    refine ⟨y', m', d', l', w', q', hl', hq', max K1 (max K2 K4), fun k hk => ?_⟩
    unfold spec_l20Plan.f
    simp only [e1 k (by omega), e2 k (by omega), Option.bind_some]
    rw [if_pos a, if_pos (by simpa using c), if_pos h]
    exact e4 k (by omega)
  · obtain ⟨y', m', d', l', w', q', hl', hq', K4, e4⟩ := go y m d (rd [0, 3, 14, 7] v)
    refine ⟨y', m', d', l', w', q', hl', hq', max K1 (max K2 K4), fun k hk => ?_⟩
    unfold spec_l20Plan.f
    simp only [e1 k (by omega), e2 k (by omega), Option.bind_some]
    rw [if_pos a, if_pos (by simpa using c), if_neg h]
    exact e4 k (by omega)
theorem drawPulls_ev (l : List Int) (h : ∀ x ∈ l, (Lit.int .u8 x).wf = true) : ∃ y m d p w, List.length p ≤ 8 ∧ ∃ K, ∀ k, K ≤ k → spec_DrawStaPulls.f k l = some (y, m, d, p, w) := by
  obtain ⟨b, hb, e0⟩ := open_some l h
  obtain ⟨y, m, d, p, w, q, hp, _, K, e⟩ := plan_draw b hb 8 (by omega) (by omega)
  refine ⟨y, m, d, p, w, hp, K, fun k hk => ?_⟩
  unfold spec_DrawStaPulls.f
  simp only [e0, Option.bind_some, e k hk]
theorem pulls_rise {y m d : Int} {l : List Int} {w : Int} (h : staOk y m d l w = true) (i : Int) (h0 : 0 < i) (hi : i < l.length) :
    num (plusY y m (rd l (i - 1))) (plusM m (rd l (i - 1))) (plusD y m d (rd l (i - 1))) < num (plusY y m (rd l i)) (plusM m (rd l i)) (plusD y m d (rd l i)) := by
  have a := (pull_day h (i - 1) (by omega) (by omega)).2
  have b := (pull_day h i (by omega) hi).2
  have g := (sta_facts h).2.2.2.2.2.2 i (by omega) hi
  have g1 := (sta_facts h).2.2.2.2.2.2 (i - 1) (by omega) (by omega)
  have hr := g.2.2 h0
  rw [num_dok _ _ _ a, num_dok _ _ _ b]
  refine num0_lt _ _ _ _ _ _ a b ?_
  unfold plusY plusM
  by_cases c : (m - 1 + rd l (i - 1)) / 12 < (m - 1 + rd l i) / 12
  · exact Or.inl (by omega)
  · exact Or.inr ⟨by omega, Or.inl (by omega)⟩
theorem pulls_law (y m d w : Int) (l : List Int) (h : staOk y m d l w = true) (n : Nat) : ∀ (k : Nat) (i : Int), 0 ≤ i → (l.length : Int) - i = n → laws_FnStaPulls.l0 (k + 400 + 1 + 2 * n) (pulls y m d l) (pulls y m d l) i y m d l w = some true := by
  have hf := sta_facts h
  have hL := pulls_length y m d l
  induction n with
  | zero =>
    intro k i h0 hd
    rw [show k + 400 + 1 + 2 * 0 = (k + 400) + 1 from rfl, laws_FnStaPulls.l0, if_neg (by omega), hL, beq_self_eq_true]
  | succ n ih =>
    intro k i h0 hd
    have hi : i < (l.length : Int) := by omega
    have q := ih k (i + 1) (by omega) (by omega)
    have g := hf.2.2.2.2.2.2 i h0 hi
    obtain ⟨e, ho⟩ := pull_day h i h0 hi
    have er := pulls_rd y m d l i h0 hi
    rw [e] at er
    have hp := impl_plus (k + 400 + 1 + 2 * n) y m d (rd l i) (by omega)
    rw [e] at hp
    rw [show k + 400 + 1 + 2 * (n + 1) = k + 400 + 1 + 2 * n + 1 + 1 by omega]
    have j2f : laws_FnStaPulls.j2 (k + 400 + 1 + 2 * n + 1) (pulls y m d l) (pulls y m d l) i false y m d l w = some true := by
      rw [laws_FnStaPulls.j2, if_neg (by simp), wr (x := i + 1) (by omega) (by omega)]
      exact q
    have n1 := impl_num (k + 2 + 2 * n) (plusY y m (rd l i)) (plusM m (rd l i)) (plusD y m d (rd l i))
    rw [show k + 2 + 2 * n + 400 = k + 400 + 1 + 2 * n + 1 by omega] at n1
    rw [laws_FnStaPulls.l0, if_pos (by omega), if_pos h0, if_pos (by omega), if_neg (by simp), if_pos hi, hp, Option.bind_some, er, if_neg (by simp), impl_ok, ho, Option.bind_some, if_pos rfl]
    by_cases c : i > 0
    · have e2 := (pull_day h (i - 1) (by omega) (by omega)).1
      have er2 := pulls_rd y m d l (i - 1) (by omega) (by omega)
      rw [e2] at er2
      have n2 := impl_num (k + 2 + 2 * n) (plusY y m (rd l (i - 1))) (plusM m (rd l (i - 1))) (plusD y m d (rd l (i - 1)))
      rw [show k + 2 + 2 * n + 400 = k + 400 + 1 + 2 * n + 1 by omega] at n2
      have hlt := pulls_rise h i c hi
      rw [if_pos c, wr (x := i - 1) (by omega) (by omega), if_pos (by omega), if_pos (by omega), er2, n2, Option.bind_some, n1, Option.bind_some, decide_eq_false (by omega)]
      exact j2f
    · rw [if_neg c]
      exact j2f
theorem FnStaPulls : laws_FnStaPulls.Pure := by
  intro l0 _ _ hx
  by_cases hl : (l0.length : Int) > 1048576
  · exact ⟨0, by unfold laws_FnStaPulls.f; rw [if_pos hl]⟩
  obtain ⟨y, m, d, l, w, hp, K, e⟩ := drawPulls_ev l0 hx
  obtain ⟨z, hz⟩ : ∃ z, K ≤ z := ⟨_, Nat.le_refl _⟩
  have e := e (z + 500 + 1) (by omega)
  have i := impl_pulls (z + 481 - 2 * l.length) y m d l w (by omega)
  have s := spec_pulls (z + 481) y m d l w
  have io := impl_sta (z + 500 - 2 * l.length) y m d l w (by omega)
  have so := spec_sta (z + 481) y m d l w
  have so' := spec_sta (z + 480) y m d l w
  rw [show z + 481 - 2 * l.length + 20 + 2 * l.length = z + 500 + 1 by omega] at i
  rw [show z + 481 + 20 = z + 500 + 1 by omega] at s so
  rw [show z + 480 + 20 = z + 500 by omega] at so'
  rw [show z + 500 - 2 * l.length + 1 + 2 * l.length = z + 500 + 1 by omega] at io
  refine ⟨z + 500 + 1, ?_⟩
  unfold laws_FnStaPulls.f
  rw [if_neg hl, e, Option.bind_some, i, Option.bind_some, s, Option.bind_some, if_pos rfl, io, Option.bind_some, so, Option.bind_some, bne_self_eq_false]
  by_cases h : staOk y m d l w = true
  · have q := pulls_law y m d w l h l.length (z + 99 - 2 * l.length) 0 (by omega) (by omega)
    rw [show z + 99 - 2 * l.length + 400 + 1 + 2 * l.length = z + 500 by omega] at q
    rw [if_pos h, laws_FnStaPulls.j0, if_neg (by simp), so', Option.bind_some, if_pos h]
    exact q
  · rw [if_neg h, laws_FnStaPulls.j0, if_neg (by simp), so', Option.bind_some, if_neg h, if_pos (show (([] : List S24).length : Int) = 0 from rfl), cu_ok]
    rfl

end Go.Proofs.Ytpbmobgpipmldaa.Pure
