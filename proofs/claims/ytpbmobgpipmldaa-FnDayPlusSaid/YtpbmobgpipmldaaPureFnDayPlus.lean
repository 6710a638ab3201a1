/- So many months behind a day is its day, or the last one of its month, at every code: the law's pure statement; no conditions. -/
import Derived.Test.YtpbmobgpipmldaaAllx0
import Derived.Test.YtpbmobgpipmldaaAllx12
import Derived.Test.YtpbmobgpipmldaaAllx13
import Derived.Test.YtpbmobgpipmldaaAllx2
import Derived.Test.YtpbmobgpipmldaaAllx3
import Derived.Test.YtpbmobgpipmldaaAllx4
import Derived.Test.YtpbmobgpipmldaaAllx5
import Derived.Test.YtpbmobgpipmldaaAllx6
set_option linter.unusedVariables false
set_option linter.unusedSimpArgs false
namespace Go.Proofs.Ytpbmobgpipmldaa.Pure
open Go.RowKit Go.Proofs.Ytpbmobgpipmldaa.All Go.Proofs.YtpbmobgpipmldaaW.PrintWords Go.Proofs.YtpbmobgpipmldaaW.PrintLast Go.Proofs.YtpbmobgpipmldaaW.PrintMore

theorem wr {x : Int} (h1 : -9223372036854775808 ≤ x) (h2 : x ≤ 9223372036854775807) : wrap64 x = x := by unfold wrap64; omega
theorem wf8 {x : Int} (h : (Lit.int .u8 x).wf = true) : 0 ≤ x ∧ x ≤ 255 := by
  simp only [Lit.wf, Bool.and_eq_true, decide_eq_true_eq] at h
  have h1 : IntKind.u8.min = 0 := by decide
  have h2 : IntKind.u8.max = 255 := by decide
  omega
theorem tmod0 (a n : Int) : (Int.tmod a n = 0) = (a % n = 0) := by
  rw [← Int.dvd_iff_tmod_eq_zero, Int.dvd_iff_emod_eq_zero]
theorem evs {α : Type} {g : Nat → Option α} {r : α} (K : Nat) (h : ∀ k, K ≤ k → g k = some r) : Ev g r := ⟨K, h⟩
theorem xor_pos (x y : Int) (hx : 0 ≤ x) (hx2 : x < 1099511627776) (hy : 0 ≤ y) (hy2 : y < 1099511627776) : 0 ≤ Go.bits .xor .i64 x y ∧ Go.bits .xor .i64 x y ≤ 1099511627776 := by
  obtain ⟨a, rfl⟩ := Int.eq_ofNat_of_zero_le hx
  obtain ⟨b, rfl⟩ := Int.eq_ofNat_of_zero_le hy
  have e : (BitVec.ofInt 64 (a : Int) ^^^ BitVec.ofInt 64 (b : Int)).toNat = a ^^^ b := by
    rw [BitVec.toNat_xor, BitVec.toNat_ofInt, BitVec.toNat_ofInt]
    congr 1 <;> omega
  have hlt : a ^^^ b < 2 ^ 40 := Nat.xor_lt_two_pow (by omega) (by omega)
  unfold Go.bits
  show 0 ≤ IntKind.i64.wrap ((BitVec.ofInt 64 (a : Int) ^^^ BitVec.ofInt 64 (b : Int)).toNat : Int) ∧ IntKind.i64.wrap ((BitVec.ofInt 64 (a : Int) ^^^ BitVec.ofInt 64 (b : Int)).toNat : Int) ≤ 1099511627776
  rw [e, IntKind.wrap_i64]
  omega
def Code (b : List Int) : Prop := b.length ≤ 2000 ∧ ∀ x ∈ b, 0 ≤ x ∧ x ≤ 255
theorem rd_code {b : List Int} (h : Code b) (i : Int) : 0 ≤ rd b i ∧ rd b i ≤ 255 := by
  unfold rd
  by_cases hi : i.toNat < b.length
  · rw [List.getD_eq_getElem?_getD, List.getElem?_eq_getElem hi]
    exact h.2 _ (List.getElem_mem hi)
  · rw [List.getD_eq_getElem?_getD, List.getElem?_eq_none (by omega)]
    exact ⟨by decide, by decide⟩
theorem open_some (l : List Int) (h : ∀ x ∈ l, (Lit.int .u8 x).wf = true) : ∃ b, Code b ∧ spec_l20Open.f l = some (b, 0) := by
  unfold spec_l20Open.f
  by_cases hl : (l.length : Int) > 2000
  · rw [if_pos hl, if_pos (by omega)]
    exact ⟨_, ⟨by rw [List.length_take]; omega, fun x hx => wf8 (h x (List.mem_of_mem_take hx))⟩, rfl⟩
  · rw [if_neg hl]
    exact ⟨_, ⟨by omega, fun x hx => wf8 (h x hx)⟩, rfl⟩
theorem pick_any (b : List Int) (hb : Code b) (p n : Int) (h0 : 0 ≤ p) (hp : p ≤ 1000000) (hn : n ≤ 1000000) :
    ∃ v, 0 ≤ v ∧ (1 ≤ n → v < n) ∧ (n < 1 → v = 0) ∧ Ev (fun k => spec_l20Rd_pick.f k b p n) (v, p + 1) := by
  have ep : wrap64 (p + 1) = p + 1 := wr (by omega) (by omega)
  have ep2 : wrap64 (p + 1 - 1) = p := by rw [show p + 1 - 1 = p by omega]; exact wr (by omega) (by omega)
  have eu : ∀ i, wrap64 (rd b i) = rd b i := fun i => by have := rd_code hb i; exact wr (by omega) (by omega)
  by_cases h1 : n < 1
  · refine ⟨0, by omega, by omega, fun _ => rfl, evs 1 fun k hk => ?_⟩
    obtain ⟨k, rfl⟩ : ∃ m, k = m + 1 := ⟨k - 1, by omega⟩
    simp only [spec_l20Rd_pick.f]
    rw [if_pos h1]; simp only [spec_l20Rd_pick.j0]
    rw [if_pos trivial, ep]
  · by_cases h2 : (b.length : Int) = 0
    · refine ⟨0, by omega, by omega, by omega, evs 1 fun k hk => ?_⟩
      obtain ⟨k, rfl⟩ : ∃ m, k = m + 1 := ⟨k - 1, by omega⟩
      simp only [spec_l20Rd_pick.f]
      rw [if_neg h1, h2]; simp only [spec_l20Rd_pick.j0]
      rw [if_pos (by first | trivial | rfl), ep]
    · have hlen := hb.1
      have e2 : ((b.length : Int) == 0) = false := by simpa using h2
      by_cases h3 : p < (b.length : Int)
      · refine ⟨Int.tmod (rd b p) n, Int.tmod_nonneg _ (rd_code hb p).1, fun h => Int.tmod_lt_of_pos _ (by omega), by omega, evs 1 fun k hk => ?_⟩
        obtain ⟨k, rfl⟩ : ∃ m, k = m + 1 := ⟨k - 1, by omega⟩
        simp only [spec_l20Rd_pick.f]
        rw [if_neg h1, e2]; simp only [spec_l20Rd_pick.j0]
        rw [if_neg (by simp), ep, ep2, if_pos h3, if_pos h0, if_neg (by omega), eu]
      · have q1 := Int.tmod_nonneg (b.length : Int) h0
        have q2 := Int.tmod_lt_of_pos p (b := (b.length : Int)) (by omega)
        have w7 : wrap64 (wrap64 (p * 7) + 3) = p * 7 + 3 := by rw [wr (x := p * 7) (by omega) (by omega)]; exact wr (by omega) (by omega)
        have q3 := Int.tmod_nonneg (b.length : Int) (show 0 ≤ p * 7 + 3 by omega)
        have q4 := Int.tmod_lt_of_pos (p * 7 + 3) (b := (b.length : Int)) (by omega)
        have r1 := rd_code hb (Int.tmod p b.length)
        have r2 := rd_code hb (Int.tmod (p * 7 + 3) b.length)
        have d1 : 0 ≤ Int.tdiv p b.length ∧ Int.tdiv p b.length ≤ p := by
          rw [Int.tdiv_eq_ediv_of_nonneg h0]
          exact ⟨Int.ediv_nonneg h0 (by omega), Int.ediv_le_self _ h0⟩
        generalize hX : Int.tdiv p b.length = X at d1
        generalize hA : rd b (Int.tmod p b.length) = A at r1
        generalize hB : rd b (Int.tmod (p * 7 + 3) b.length) = B at r2
        have wA0 : wrap64 A = A := wr (by omega) (by omega)
        have wB0 : wrap64 B = B := wr (by omega) (by omega)
        have wA : wrap64 (A * 131) = A * 131 := wr (by omega) (by omega)
        have wB : wrap64 (B * 1117) = B * 1117 := wr (by omega) (by omega)
        have wS : wrap64 (A * 131 + B * 1117) = A * 131 + B * 1117 := wr (by omega) (by omega)
        have wp : wrap64 (p * 29) = p * 29 := wr (by omega) (by omega)
        have wS2 : wrap64 (A * 131 + B * 1117 + p * 29) = A * 131 + B * 1117 + p * 29 := wr (by omega) (by omega)
        have wX : wrap64 X = X := wr (by omega) (by omega)
        have wX2 : wrap64 (X * 53) = X * 53 := wr (by omega) (by omega)
        have wS3 : wrap64 (A * 131 + B * 1117 + p * 29 + X * 53) = A * 131 + B * 1117 + p * 29 + X * 53 := wr (by omega) (by omega)
        have hS : 0 ≤ A * 131 + B * 1117 + p * 29 + X * 53 ∧ A * 131 + B * 1117 + p * 29 + X * 53 ≤ 100000000 := by omega
        generalize hT : A * 131 + B * 1117 + p * 29 + X * 53 = T at hS wS3
        have w64 : wrap64 (Int.tdiv T 64) = T / 64 := by rw [Int.tdiv_eq_ediv_of_nonneg hS.1]; exact wr (by omega) (by omega)
        have hx := xor_pos T (T / 64) hS.1 (by omega) (by omega) (by omega)
        refine ⟨Int.tmod (Go.bits .xor .i64 T (T / 64)) n, Int.tmod_nonneg _ hx.1, fun h => Int.tmod_lt_of_pos _ (by omega), by omega, evs 1 fun k hk => ?_⟩
        obtain ⟨k, rfl⟩ : ∃ m, k = m + 1 := ⟨k - 1, by omega⟩
        simp only [spec_l20Rd_pick.f]
        rw [if_neg h1, e2]; simp only [spec_l20Rd_pick.j0]
        rw [if_neg (by simp), ep, ep2, if_neg h3, if_neg h2, if_pos q1, if_pos q2, w7, if_pos q3, if_pos q4, if_neg (by omega)]
        simp only [eu, hX, hA, hB, wA0, wB0, wA, wB, wS, wp, wS2, wX, wX2, hT, wS3, w64]
theorem pick_pos (b : List Int) (hb : Code b) (p n : Int) (h0 : 0 ≤ p) (hp : p ≤ 1000000) (h1 : 1 ≤ n) (hn : n ≤ 1000000) :
    ∃ v, 0 ≤ v ∧ v < n ∧ Ev (fun k => spec_l20Rd_pick.f k b p n) (v, p + 1) := by
  obtain ⟨v, a, c, _, e⟩ := pick_any b hb p n h0 hp hn
  exact ⟨v, a, c h1, e⟩
theorem rd_mem (l : List Int) (i : Int) (h0 : 0 ≤ i) (h : i < l.length) : rd l i ∈ l := by
  unfold rd
  rw [List.getD_eq_getElem?_getD, List.getElem?_eq_getElem (by omega)]
  exact List.getElem_mem _
def leap (y : Int) : Bool := decide (y % 4 = 0 ∧ (y % 100 ≠ 0 ∨ y % 400 = 0))
theorem tb (a n : Int) : (Int.tmod a n == 0) = decide (a % n = 0) := by
  rw [← decide_eq_decide.mpr (iff_of_eq (tmod0 a n))]
  rfl
theorem spec_leap (y : Int) : spec_DayLeap.f y = some (leap y) := by
  unfold spec_DayLeap.f leap
  simp only [tmod0, tb]
  by_cases h4 : y % 4 = 0 <;> by_cases h1 : y % 100 = 0 <;> by_cases h2 : y % 400 = 0 <;> simp [h4, h1, h2]
  all_goals omega
theorem impl_leap (y : Int) : impl_DayLeap.f y = some (leap y) := by
  unfold impl_DayLeap.f leap
  simp only [tmod0, tb]
  by_cases h4 : y % 4 = 0 <;> by_cases h1 : y % 100 = 0 <;> by_cases h2 : y % 400 = 0 <;> simp [h4, h1, h2]
def dl (y m : Int) : Int := if 1 ≤ m ∧ m ≤ 12 then (if m = 2 then (if leap y = true then 29 else 28) else impl_DayLast.tab m) else 0
theorem impl_last (y m : Int) : impl_DayLast.f y m = some (dl y m) := by
  unfold impl_DayLast.f dl
  by_cases h1 : m ≥ 1
  · by_cases h2 : m ≤ 12
    · rw [if_pos h1, if_pos h2, if_pos (show 1 ≤ m ∧ m ≤ 12 from ⟨h1, h2⟩)]
      by_cases h3 : m = 2
      · simp only [if_pos h3, impl_leap]
        cases leap y <;> rfl
      · simp only [if_neg h3]
    · rw [if_pos h1, if_neg h2, if_neg (by omega)]
  · rw [if_neg h1, if_neg (by omega)]
theorem spec_last_two (y m : Int) (k : Nat) (hk : 2 ≤ k) : spec_DayLast.f k y m = some (dl y m) := by
  obtain ⟨k, rfl⟩ : ∃ j, k = j + 2 := ⟨k - 2, by omega⟩
  by_cases h : 1 ≤ m ∧ m ≤ 12
  · rcases (by omega : m = 1 ∨ m = 2 ∨ m = 3 ∨ m = 4 ∨ m = 5 ∨ m = 6 ∨ m = 7 ∨ m = 8 ∨ m = 9 ∨ m = 10 ∨ m = 11 ∨ m = 12) with rfl | rfl | rfl | rfl | rfl | rfl | rfl | rfl | rfl | rfl | rfl | rfl
    all_goals simp [spec_DayLast.f, spec_DayLast.j0, spec_DayLast.j1, spec_leap, dl, impl_DayLast.tab]
    cases leap y <;> simp
  · have hn : ∀ c : Int, 1 ≤ c → c ≤ 12 → m ≠ c := fun c h1 h2 e => h ⟨by omega, by omega⟩
    have e : ∀ c : Int, 1 ≤ c → c ≤ 12 → (m == c) = false := fun c h1 h2 => by simpa using hn c h1 h2
    have e1 := e 12 (by omega) (by omega)
    have e2 := e 11 (by omega) (by omega)
    simp only [spec_DayLast.f]
    rw [if_neg (hn 1 (by omega) (by omega)), if_neg (hn 3 (by omega) (by omega)), if_neg (hn 5 (by omega) (by omega)), if_neg (hn 7 (by omega) (by omega)), if_neg (hn 8 (by omega) (by omega)), if_neg (hn 10 (by omega) (by omega)), e1]
    simp only [spec_DayLast.j0]
    rw [if_neg (by simp), if_neg (hn 4 (by omega) (by omega)), if_neg (hn 6 (by omega) (by omega)), if_neg (hn 9 (by omega) (by omega)), e2]
    simp only [spec_DayLast.j1]
    rw [if_neg (by simp), if_neg (hn 2 (by omega) (by omega))]
    unfold dl
    rw [if_neg h]
theorem dl_bound (y m : Int) : 0 ≤ dl y m ∧ dl y m ≤ 31 := by
  unfold dl impl_DayLast.tab
  repeat' split
  all_goals omega
theorem in_impl (a b c : Int) : impl_in.f a b c = some (decide (b ≤ a ∧ a ≤ c)) := by
  unfold impl_in.f
  by_cases h : a ≥ b
  · rw [if_pos h]; simp [show b ≤ a from h]
  · rw [if_neg h]; simp [show ¬ b ≤ a from h]
theorem in_spec (a b c : Int) : spec_l1In.f a b c = some (decide (b ≤ a ∧ a ≤ c)) := by
  unfold spec_l1In.f
  by_cases h : a ≥ b
  · rw [if_pos h]; simp [show b ≤ a from h]
  · rw [if_neg h]; simp [show ¬ b ≤ a from h]
def dok (y m d : Int) : Bool := decide (1900 ≤ y ∧ y ≤ 2199 ∧ 1 ≤ m ∧ m ≤ 12 ∧ 1 ≤ d ∧ d ≤ dl y m)
theorem impl_ok (y m d : Int) : impl_DayOk.f y m d = some (dok y m d) := by
  unfold impl_DayOk.f dok
  rw [in_impl, impl_last]
  simp only [Option.bind_some, in_impl, decide_eq_true_eq]
  have hd : ¬ (1 ≤ m ∧ m ≤ 12) → dl y m = 0 := fun h => by unfold dl; rw [if_neg h]
  by_cases h1 : 1900 ≤ y ∧ y ≤ 2199
  · rw [if_pos h1]; congr 1; rw [decide_eq_decide]
    by_cases h : 1 ≤ m ∧ m ≤ 12
    · omega
    · have := hd h
      omega
  · rw [if_neg h1]; congr 1; symm; rw [decide_eq_false_iff_not]; omega
theorem cu_ok : laws_cuOk.f = some true := by
  unfold laws_cuOk.f
  rw [impl_ok]
  rfl
theorem spec_last2 (k : Nat) (y m : Int) : spec_DayLast.f (k + 2) y m = some (dl y m) := by
  exact spec_last_two y m _ (by omega)
theorem spec_ok2 (k : Nat) (y m d : Int) : spec_DayOk.f (k + 2) y m d = some (dok y m d) := by
  unfold spec_DayOk.f dok
  simp only [in_spec, Option.bind_some, decide_eq_true_eq, spec_last2]
  by_cases h1 : 1900 ≤ y ∧ y ≤ 2199
  · rw [if_pos h1]
    by_cases h2 : 1 ≤ m ∧ m ≤ 12
    · rw [if_pos h2]; congr 1; rw [decide_eq_decide]; omega
    · rw [if_neg h2]; congr 1; symm; rw [decide_eq_false_iff_not]; omega
  · rw [if_neg h1]; congr 1; symm; rw [decide_eq_false_iff_not]; omega
def leapN (y : Int) : Int := if leap y = true then 1 else 0
theorem leapN_bound (y : Int) : 0 ≤ leapN y ∧ leapN y ≤ 1 := by unfold leapN; split <;> omega
def before (y : Int) : Int := (y - 1) / 4 - (y - 1) / 100 + (y - 1) / 400
theorem before_succ (y : Int) : before (y + 1) = before y + leapN y := by
  unfold before leapN leap
  rw [show y + 1 - 1 = y by omega]
  by_cases h : y % 4 = 0 ∧ (y % 100 ≠ 0 ∨ y % 400 = 0)
  · rw [if_pos (by simpa using h)]; omega
  · rw [if_neg (by simpa using h)]; omega
def nyear (y : Int) : Int := 365 * (y - 1900) + before y - 460
theorem nyear_succ (y : Int) : nyear (y + 1) = nyear y + 365 + leapN y := by
  unfold nyear
  rw [before_succ]
  omega
theorem nyear_mono (y z : Int) (h : y ≤ z) : nyear y ≤ nyear z := by
  unfold nyear before
  omega
theorem nyear_bound (y : Int) (h1 : 1900 ≤ y) (h2 : y ≤ 2200) : 0 ≤ nyear y ∧ nyear y ≤ 109573 ∧ nyear y ≤ 366 * (y - 1900) := by
  unfold nyear before
  omega
theorem nyear_first : nyear 1900 = 0 := by decide
def cum (y m : Int) : Int :=
  (if m ≤ 1 then 0 else if m = 2 then 31 else if m = 3 then 59 else if m = 4 then 90 else if m = 5 then 120 else if m = 6 then 151 else if m = 7 then 181 else if m = 8 then 212 else if m = 9 then 243 else if m = 10 then 273 else if m = 11 then 304 else if m = 12 then 334 else 365) + (if 2 < m then leapN y else 0)
theorem cum_one (y : Int) : cum y 1 = 0 := by unfold cum; simp
theorem cum_end (y : Int) : cum y 13 = 365 + leapN y := by unfold cum; simp
theorem cum_succ (y m : Int) (h1 : 1 ≤ m) (h2 : m ≤ 12) : cum y (m + 1) = cum y m + dl y m := by
  rcases (by omega : m = 1 ∨ m = 2 ∨ m = 3 ∨ m = 4 ∨ m = 5 ∨ m = 6 ∨ m = 7 ∨ m = 8 ∨ m = 9 ∨ m = 10 ∨ m = 11 ∨ m = 12) with rfl | rfl | rfl | rfl | rfl | rfl | rfl | rfl | rfl | rfl | rfl | rfl
  all_goals
    unfold cum dl leapN impl_DayLast.tab
    cases leap y <;> simp
theorem cum_mono (y m : Int) (h1 : 1 ≤ m) (j : Nat) : m + j ≤ 13 → cum y m ≤ cum y (m + j) := by
  induction j with
  | zero => intro _; simp
  | succ j ih =>
    intro h
    have := ih (by omega)
    have h3 := cum_succ y (m + j) (by omega) (by omega)
    have h4 := dl_bound y (m + j)
    rw [show m + ((j + 1 : Nat) : Int) = m + j + 1 by omega]
    omega
theorem cum_le (y m n : Int) (h1 : 1 ≤ m) (h2 : m ≤ n) (h3 : n ≤ 13) : cum y m ≤ cum y n := by
  have := cum_mono y m h1 (n - m).toNat (by omega)
  rwa [show m + ((n - m).toNat : Int) = n by omega] at this
theorem cum_bound (y m : Int) (h1 : 1 ≤ m) (h2 : m ≤ 13) : 0 ≤ cum y m ∧ cum y m ≤ 366 := by
  have a := cum_le y 1 m (by omega) h1 h2
  have b := cum_le y m 13 h1 h2 (by omega)
  rw [cum_one] at a
  rw [cum_end] at b
  have := leapN_bound y
  omega
def num0 (y m d : Int) : Int := nyear y + cum y m + d - 1
def num (y m d : Int) : Int := if dok y m d = true then num0 y m d else -1
theorem dok_iff (y m d : Int) : dok y m d = true ↔ 1900 ≤ y ∧ y ≤ 2199 ∧ 1 ≤ m ∧ m ≤ 12 ∧ 1 ≤ d ∧ d ≤ dl y m := by unfold dok; rw [decide_eq_true_eq]
theorem num0_in (y m d : Int) (h : dok y m d = true) : nyear y ≤ num0 y m d ∧ num0 y m d < nyear (y + 1) ∧ 0 ≤ num0 y m d ∧ num0 y m d ≤ 109572 := by
  rw [dok_iff] at h
  have a := cum_bound y m (by omega) (by omega)
  have b := cum_succ y m (by omega) (by omega)
  have c := cum_le y (m + 1) 13 (by omega) (by omega) (by omega)
  have e := nyear_succ y
  have f := nyear_bound (y + 1) (by omega) (by omega)
  have g := nyear_bound y (by omega) (by omega)
  rw [cum_end] at c
  unfold num0
  omega
theorem num0_lt (y m d z n e : Int) (h : dok y m d = true) (h' : dok z n e = true) (hl : y < z ∨ y = z ∧ (m < n ∨ m = n ∧ d < e)) : num0 y m d < num0 z n e := by
  have a := num0_in y m d h
  have b := num0_in z n e h'
  rw [dok_iff] at h h'
  rcases hl with hl | ⟨rfl, hl | ⟨rfl, hl⟩⟩
  · have := nyear_mono (y + 1) z (by omega)
    omega
  · have c := cum_succ y m (by omega) (by omega)
    have c2 := cum_le y (m + 1) n (by omega) (by omega) (by omega)
    unfold num0
    omega
  · unfold num0
    omega
theorem impl_year (y : Int) : impl_yearDays.f y = some (365 + leapN y) := by
  unfold impl_yearDays.f leapN
  rw [impl_leap]
  cases leap y <;> rfl
theorem impl_num_months (y m d : Int) (hm : m ≤ 12) (dd : Nat) : ∀ (k : Nat) (s i : Int), 1 ≤ i → m - i = dd → 0 ≤ s → s + 31 * dd ≤ 200000 →
    impl_DayNum.l1 (k + 1 + dd) s i y m d = some (s + (cum y m - cum y i)) := by
  induction dd with
  | zero =>
    intro k s i hi hd2 hs hs2
    obtain rfl : i = m := by omega
    simp only [Nat.add_zero, impl_DayNum.l1]
    rw [if_neg (by omega), Int.sub_self, Int.add_zero]
  | succ dd ih =>
    intro k s i hi hd2 hs hs2
    have hb := dl_bound y i
    have hc := cum_succ y i (by omega) (by omega)
    rw [show k + 1 + (dd + 1) = (k + 1 + dd) + 1 by omega]
    simp only [impl_DayNum.l1]
    rw [if_pos (by omega), impl_last]
    simp only [Option.bind_some]
    rw [wr (x := s + dl y i) (by omega) (by omega), wr (x := i + 1) (by omega) (by omega), ih k _ _ (by omega) (by omega) (by omega) (by omega)]
    congr 1; omega
theorem impl_num_years (y m d : Int) (hy : y ≤ 2199) (hm1 : 1 ≤ m) (hm : m ≤ 12) (dd : Nat) : ∀ (k : Nat) (s i : Int), 1900 ≤ i → y - i = dd → 0 ≤ s → s + (nyear y - nyear i) ≤ 150000 →
    impl_DayNum.l0 (k + 14 + dd) s i y m d = some (s + (nyear y - nyear i) + cum y m) := by
  induction dd with
  | zero =>
    intro k s i hi hd2 hs hs2
    obtain rfl : i = y := by omega
    rw [show k + 14 + 0 = (k + 13) + 1 by omega]
    simp only [impl_DayNum.l0]
    rw [if_neg (by omega), show k + 13 = (k + 12 - (m - 1).toNat) + 1 + (m - 1).toNat by omega, impl_num_months i m d hm (m - 1).toNat _ _ _ (by omega) (by omega) (by omega) (by omega), cum_one]
    congr 1; omega
  | succ dd ih =>
    intro k s i hi hd2 hs hs2
    have hb := leapN_bound i
    have hc := nyear_succ i
    have hq := nyear_mono (i + 1) y (by omega)
    rw [show k + 14 + (dd + 1) = (k + 14 + dd) + 1 by omega]
    simp only [impl_DayNum.l0]
    rw [if_pos (by omega), impl_year]
    simp only [Option.bind_some]
    rw [wr (x := s + (365 + leapN i)) (by omega) (by omega), wr (x := i + 1) (by omega) (by omega), ih k _ _ (by omega) (by omega) (by omega) (by omega)]
    congr 1; omega
theorem impl_num (k : Nat) (y m d : Int) : impl_DayNum.f (k + 400) y m d = some (num y m d) := by
  unfold impl_DayNum.f num
  rw [impl_ok]
  simp only [Option.bind_some]
  by_cases h : dok y m d = true
  · rw [if_pos h, if_pos h]
    rw [dok_iff] at h
    have hb := dl_bound y m
    have g := nyear_bound y (by omega) (by omega)
    rw [wr (x := d - 1) (by omega) (by omega), show k + 400 = (k + 386 - (y - 1900).toNat) + 14 + (y - 1900).toNat by omega,
      impl_num_years y m d (by omega) (by omega) (by omega) (y - 1900).toNat _ _ _ (by omega) (by omega) (by omega) (by rw [nyear_first]; omega), nyear_first]
    unfold num0
    congr 1; omega
  · rw [if_neg h, if_neg h]
theorem num_dok (y m d : Int) (h : dok y m d = true) : num y m d = num0 y m d := by unfold num; rw [if_pos h]
def plusY (y m k : Int) : Int := y + (m - 1 + k) / 12
def plusM (m k : Int) : Int := (m - 1 + k) % 12 + 1
def plusD (y m d k : Int) : Int := if dl (plusY y m k) (plusM m k) < d then dl (plusY y m k) (plusM m k) else d
def plus (y m d k : Int) : Int × Int × Int :=
  if dok y m d = true ∧ 0 ≤ k ∧ k ≤ 600 ∧ plusY y m k ≤ 2199 then (plusY y m k, plusM m k, plusD y m d k) else (0, 0, 0)
theorem dl_low (y m : Int) (m1 : 1 ≤ m) (m2 : m ≤ 12) : 28 ≤ dl y m := by
  unfold dl impl_DayLast.tab
  rw [if_pos ⟨m1, m2⟩]
  repeat' split
  all_goals omega
theorem plus_dok (y m d k : Int) (h : dok y m d = true) (h0 : 0 ≤ k) (hy : plusY y m k ≤ 2199) : dok (plusY y m k) (plusM m k) (plusD y m d k) = true := by
  rw [dok_iff] at h
  rw [dok_iff]
  have a : 1 ≤ plusM m k ∧ plusM m k ≤ 12 := by unfold plusM; omega
  have b : y ≤ plusY y m k := by unfold plusY; omega
  have c := dl_low (plusY y m k) (plusM m k) a.1 a.2
  unfold plusD
  split <;> omega
theorem plus_out (y m d k : Int) (hy : ¬ plusY y m k ≤ 2199) : dok (plusY y m k) (plusM m k) (plusD y m d k) = false := by
  unfold dok
  rw [decide_eq_false_iff_not]
  omega
theorem impl_plus (j : Nat) (y m d k : Int) (hk : -9223372036854775808 ≤ k ∧ k ≤ 9223372036854775807) : impl_DayPlus.f (j + 1) y m d k = some (plus y m d k) := by
  unfold impl_DayPlus.f plus
  rw [impl_ok]
  simp only [Option.bind_some]
  by_cases h : dok y m d = true
  · rw [if_pos h, in_impl]
    simp only [Option.bind_some]
    by_cases h2 : 0 ≤ k ∧ k ≤ 600
    · have hd := (dok_iff y m d).mp h
      have t1 : Int.tdiv (m - 1 + k) 12 = (m - 1 + k) / 12 := Int.tdiv_eq_ediv_of_nonneg (by omega)
      have t2 : Int.tmod (m - 1 + k) 12 = (m - 1 + k) % 12 := Int.tmod_eq_emod_of_nonneg (by omega)
      rw [decide_eq_true h2]
      simp only [impl_DayPlus.j0, Bool.not_true]
      rw [if_neg (by simp), wr (x := m - 1) (by omega) (by omega), wr (x := m - 1 + k) (by omega) (by omega), t1, t2, wr (x := (m - 1 + k) / 12) (by omega) (by omega), wr (x := y + (m - 1 + k) / 12) (by omega) (by omega), wr (x := (m - 1 + k) % 12 + 1) (by omega) (by omega), impl_last]
      simp only [Option.bind_some, impl_ok]
      show (if dok (plusY y m k) (plusM m k) (plusD y m d k) = true then some (plusY y m k, plusM m k, plusD y m d k) else some (0, 0, 0)) = _
      by_cases h3 : plusY y m k ≤ 2199
      · rw [if_pos (plus_dok y m d k h h2.1 h3), if_pos ⟨h, h2.1, h2.2, h3⟩]
      · rw [plus_out y m d k h3, if_neg (by simp), if_neg (by omega)]
    · rw [decide_eq_false h2]
      simp only [impl_DayPlus.j0, Bool.not_false]
      rw [if_pos trivial, if_neg (by omega)]
  · rw [if_neg h]
    simp only [impl_DayPlus.j0]
    rw [if_pos trivial, if_neg (by simp [h])]
theorem spec_plus (j : Nat) (y m d k : Int) (hk : -9223372036854775808 ≤ k ∧ k ≤ 9223372036854775807) : spec_DayPlus.f (j + 5) y m d k = some (plus y m d k) := by
  unfold spec_DayPlus.f plus
  rw [show j + 5 = (j + 3) + 2 by omega, spec_ok2]
  simp only [Option.bind_some]
  by_cases h : dok y m d = true
  · rw [if_pos h, in_spec]
    simp only [Option.bind_some]
    by_cases h2 : 0 ≤ k ∧ k ≤ 600
    · have hd := (dok_iff y m d).mp h
      have t1 : Int.tdiv (y * 12 + m - 1 + k) 12 = plusY y m k := by rw [Int.tdiv_eq_ediv_of_nonneg (by omega)]; unfold plusY; omega
      have t2 : Int.tmod (y * 12 + m - 1 + k) 12 + 1 = plusM m k := by rw [Int.tmod_eq_emod_of_nonneg (by omega)]; unfold plusM; omega
      have b1 : -9223372036854775808 ≤ plusY y m k ∧ plusY y m k ≤ 9223372036854775807 := by unfold plusY; omega
      have b2 : -9223372036854775808 ≤ plusM m k ∧ plusM m k ≤ 9223372036854775807 := by unfold plusM; omega
      rw [decide_eq_true h2, show j + 3 + 2 = (j + 2 + 2) + 1 by omega]
      simp only [spec_DayPlus.j0, Bool.not_true]
      rw [if_neg (by simp), wr (x := y * 12) (by omega) (by omega), wr (x := y * 12 + m) (by omega) (by omega), wr (x := y * 12 + m - 1) (by omega) (by omega), wr (x := y * 12 + m - 1 + k) (by omega) (by omega), t1, t2, wr b1.1 b1.2, wr b2.1 b2.2, spec_last2]
      simp only [Option.bind_some]
      have fin : ∀ e : Int, e = plusD y m d k → spec_DayPlus.j1 (j + 2 + 2) (plusY y m k) (plusM m k) e = some (if dok y m d = true ∧ 0 ≤ k ∧ k ≤ 600 ∧ plusY y m k ≤ 2199 then (plusY y m k, plusM m k, plusD y m d k) else (0, 0, 0)) := by
        rintro e rfl
        rw [show j + 2 + 2 = (j + 1 + 2) + 1 by omega]
        simp only [spec_DayPlus.j1, spec_ok2, Option.bind_some]
        by_cases h3 : plusY y m k ≤ 2199
        · rw [if_pos (plus_dok y m d k h h2.1 h3), if_pos ⟨h, h2.1, h2.2, h3⟩]
        · rw [plus_out y m d k h3, if_neg (by simp), if_neg (by omega)]
      by_cases h4 : d > dl (plusY y m k) (plusM m k)
      · rw [if_pos h4]
        exact fin _ (by unfold plusD; rw [if_pos h4])
      · rw [if_neg h4]
        exact fin _ (by unfold plusD; rw [if_neg (by omega)])
    · rw [decide_eq_false h2, show j + 3 + 2 = (j + 4) + 1 by omega]
      simp only [spec_DayPlus.j0, Bool.not_false]
      rw [if_pos trivial, if_neg (by omega)]
  · rw [if_neg h, show j + 3 + 2 = (j + 4) + 1 by omega]
    simp only [spec_DayPlus.j0]
    rw [if_pos trivial, if_neg (by simp [h])]
theorem tail_draw (b : List Int) (hb : Code b) (p n y m d : Int) (h0 : 0 ≤ p) (hp : p ≤ 900000) (hn : 1 ≤ n) (hn2 : n ≤ 1000000) (hy : 1899 ≤ y ∧ y ≤ 2200) (hm : 0 ≤ m ∧ m ≤ 13) (hd : 0 ≤ d ∧ d ≤ 32) :
    ∃ y' m' d' q, (1899 ≤ y' ∧ y' ≤ 2200) ∧ (0 ≤ m' ∧ m' ≤ 13) ∧ (0 ≤ d' ∧ d' ≤ 32) ∧ (p ≤ q ∧ q ≤ p + 3) ∧ Ev (fun k => spec_l20Day.j0 k n b p y m d) (y', m', d', q) := by
  obtain ⟨v1, a1, c1, ⟨K1, e1⟩⟩ := pick_pos b hb p n h0 (by omega) hn hn2
  obtain ⟨v2, a2, c2, ⟨K2, e2⟩⟩ := pick_pos b hb (p + 1) 3 (by omega) (by omega) (by omega) (by omega)
  obtain ⟨v3, a3, c3, ⟨K3, e3⟩⟩ := pick_pos b hb (p + 1 + 1) 3 (by omega) (by omega) (by omega) (by omega)
  obtain ⟨v4, a4, c4, ⟨K4, e4⟩⟩ := pick_pos b hb (p + 1 + 1) 4 (by omega) (by omega) (by omega) (by omega)
  dsimp only at e1 e2 e3 e4
  by_cases h1 : v1 = 0
  · by_cases h2 : v2 = 0
    · have hr := rd_mem [1899, 2200, 2023] v3 a3 (by simpa using c3)
      simp only [List.mem_cons, List.not_mem_nil, or_false] at hr
      refine ⟨rd [1899, 2200, 2023] v3, m, d, p + 1 + 1 + 1, by omega, hm, hd, by omega, max K1 (max K2 K3) + 1, fun k hk => ?_⟩
      obtain ⟨k, rfl⟩ : ∃ j, k = j + 1 := ⟨k - 1, by omega⟩
      simp only [spec_l20Day.j0, e1 k (by omega), Option.bind_some]
      rw [if_pos h1, e2 k (by omega)]
      simp only [Option.bind_some]
      rw [if_pos h2, e3 k (by omega)]
      simp only [Option.bind_some]
      rw [if_pos a3, if_pos (by simpa using c3)]
    · by_cases h3 : v2 = 1
      · have hr := rd_mem [0, 13, 2] v3 a3 (by simpa using c3)
        simp only [List.mem_cons, List.not_mem_nil, or_false] at hr
        refine ⟨y, rd [0, 13, 2] v3, d, p + 1 + 1 + 1, hy, by omega, hd, by omega, max K1 (max K2 K3) + 1, fun k hk => ?_⟩
        obtain ⟨k, rfl⟩ : ∃ j, k = j + 1 := ⟨k - 1, by omega⟩
        simp only [spec_l20Day.j0, e1 k (by omega), Option.bind_some]
        rw [if_pos h1, e2 k (by omega)]
        simp only [Option.bind_some]
        rw [if_neg h2, if_pos h3, e3 k (by omega)]
        simp only [Option.bind_some]
        rw [if_pos a3, if_pos (by simpa using c3)]
      · have hr := rd_mem [0, 31, 30, 32] v4 a4 (by simpa using c4)
        simp only [List.mem_cons, List.not_mem_nil, or_false] at hr
        refine ⟨y, m, rd [0, 31, 30, 32] v4, p + 1 + 1 + 1, hy, hm, by omega, by omega, max K1 (max K2 K4) + 1, fun k hk => ?_⟩
        obtain ⟨k, rfl⟩ : ∃ j, k = j + 1 := ⟨k - 1, by omega⟩
        simp only [spec_l20Day.j0, e1 k (by omega), Option.bind_some]
        rw [if_pos h1, e2 k (by omega)]
        simp only [Option.bind_some]
        rw [if_neg h2, if_neg h3, e4 k (by omega)]
        simp only [Option.bind_some]
        rw [if_pos a4, if_pos (by simpa using c4)]
  · refine ⟨y, m, d, p + 1, hy, hm, hd, by omega, K1 + 1, fun k hk => ?_⟩
    obtain ⟨k, rfl⟩ : ∃ j, k = j + 1 := ⟨k - 1, by omega⟩
    simp only [spec_l20Day.j0, e1 k (by omega), Option.bind_some]
    rw [if_neg h1]
theorem day_draw (b : List Int) (hb : Code b) (p n : Int) (h0 : 0 ≤ p) (hp : p ≤ 800000) (hn : 1 ≤ n) (hn2 : n ≤ 1000000) :
    ∃ y m d q, (1899 ≤ y ∧ y ≤ 2200) ∧ (0 ≤ m ∧ m ≤ 13) ∧ (0 ≤ d ∧ d ≤ 32) ∧ (p ≤ q ∧ q ≤ p + 6) ∧ Ev (fun k => spec_l20Day.f k b p n) (y, m, d, q) := by
  obtain ⟨v1, a1, c1, ⟨K1, e1⟩⟩ := pick_pos b hb p 7 h0 (by omega) (by omega) (by omega)
  obtain ⟨v2, a2, c2, ⟨K2, e2⟩⟩ := pick_pos b hb (p + 1) 12 (by omega) (by omega) (by omega) (by omega)
  obtain ⟨v3, a3, c3, ⟨K3, e3⟩⟩ := pick_pos b hb (p + 1 + 1) 6 (by omega) (by omega) (by omega) (by omega)
  dsimp only at e1 e2 e3
  have r1 := rd_mem [1900, 2000, 2024, 2026, 2100, 2199, 1996] v1 a1 (by simpa using c1)
  have r3 := rd_mem [1, 28, 15, 31, 30, 29] v3 a3 (by simpa using c3)
  simp only [List.mem_cons, List.not_mem_nil, or_false] at r1 r3
  generalize hy : rd [1900, 2000, 2024, 2026, 2100, 2199, 1996] v1 = y at r1
  generalize hd : rd [1, 28, 15, 31, 30, 29] v3 = d at r3
  have w2 : wrap64 (1 + v2) = 1 + v2 := wr (by omega) (by omega)
  have hl := dl_bound y (1 + v2)
  have hd2 : 0 ≤ (if d > dl y (1 + v2) then dl y (1 + v2) else d) ∧ (if d > dl y (1 + v2) then dl y (1 + v2) else d) ≤ 32 := by split <;> omega
  obtain ⟨y', m', d', q, g1, g2, g3, g4, ⟨K5, e5⟩⟩ := tail_draw b hb (p + 1 + 1 + 1) n y (1 + v2) (if d > dl y (1 + v2) then dl y (1 + v2) else d) (by omega) (by omega) hn hn2 (by omega) (by omega) hd2
  dsimp only at e5
  refine ⟨y', m', d', q, g1, g2, g3, by omega, max K1 (max K2 (max K3 K5)) + 2, fun k hk => ?_⟩
  unfold spec_l20Day.f
  simp only [Option.bind_some, e1 k (by omega), e2 k (by omega), e3 k (by omega)]
  rw [if_pos a1, if_pos (by simpa using c1), if_pos a3, if_pos (by simpa using c3), hy, hd, w2, spec_last_two y (1 + v2) k (by omega)]
  simp only [Option.bind_some]
  by_cases h : d > dl y (1 + v2)
  · rw [if_pos h] at e5 ⊢
    exact e5 k (by omega)
  · rw [if_neg h] at e5 ⊢
    exact e5 k (by omega)
theorem draw_plus (l : List Int) (h : ∀ x ∈ l, (Lit.int .u8 x).wf = true) : ∃ y m d k, (1899 ≤ y ∧ y ≤ 2200) ∧ (0 ≤ m ∧ m ≤ 13) ∧ (0 ≤ d ∧ d ≤ 32) ∧ (-1 ≤ k ∧ k ≤ 601) ∧ Ev (fun j => spec_DrawDayPlus.f j l) (y, m, d, k) := by
  obtain ⟨b, hb, e0⟩ := open_some l h
  obtain ⟨y, m, d, q, g1, g2, g3, g4, ⟨K1, e1⟩⟩ := day_draw b hb 0 12 (by omega) (by omega) (by omega) (by omega)
  obtain ⟨v2, a2, c2, ⟨K2, e2⟩⟩ := pick_pos b hb q 100 (by omega) (by omega) (by omega) (by omega)
  obtain ⟨v3, a3, c3, ⟨K3, e3⟩⟩ := pick_pos b hb (q + 1) 11 (by omega) (by omega) (by omega) (by omega)
  dsimp only at e1 e2 e3
  have r3 := rd_mem [0, 1, 2, 3, 6, 12, 24, 600, 601, -1, v2] v3 a3 (by simpa using c3)
  simp only [List.mem_cons, List.not_mem_nil, or_false] at r3
  refine ⟨y, m, d, rd [0, 1, 2, 3, 6, 12, 24, 600, 601, -1, v2] v3, g1, g2, g3, by omega, max K1 (max K2 K3), fun k hk => ?_⟩
  unfold spec_DrawDayPlus.f
  simp only [e0, Option.bind_some, e1 k (by omega), e2 k (by omega), e3 k (by omega)]
  rw [if_pos a3, if_pos (by simpa using c3)]
theorem plus_cond {y m d k : Int} (h : dok y m d = true ∧ 0 ≤ k ∧ k ≤ 600 ∧ plusY y m k ≤ 2199) : plus y m d k = (plusY y m k, plusM m k, plusD y m d k) := by
  unfold plus; rw [if_pos h]
theorem plus_num {y m d k : Int} (h : dok y m d = true ∧ 0 ≤ k ∧ k ≤ 600 ∧ plusY y m k ≤ 2199) : num (plusY y m k) (plusM m k) (plusD y m d k) ≥ num y m d := by
  have hp := plus_dok y m d k h.1 h.2.1 h.2.2.2
  rw [num_dok _ _ _ hp, num_dok _ _ _ h.1]
  have hh := (dok_iff y m d).mp h.1
  by_cases k0 : k = 0
  · subst k0
    have e1 : plusY y m 0 = y := by unfold plusY; omega
    have e2 : plusM m 0 = m := by unfold plusM; omega
    have e3 : plusD y m d 0 = d := by unfold plusD; rw [e1, e2]; split <;> omega
    rw [e1, e2, e3]
    omega
  · have := num0_lt y m d (plusY y m k) (plusM m k) (plusD y m d k) h.1 hp (by
      unfold plusY plusM
      by_cases c : 12 ≤ m - 1 + k
      · exact Or.inl (by omega)
      · exact Or.inr ⟨by omega, Or.inl (by omega)⟩)
    omega
theorem plus_j2 (z : Nat) (y m d k : Int) (h : dok y m d = true ∧ 0 ≤ k ∧ k ≤ 600 ∧ plusY y m k ≤ 2199) : laws_FnDayPlus.j2 (z + 400 + 1) k y m d (plusY y m k) (plusM m k) (plusD y m d k) = some true := by
  have hh := (dok_iff y m d).mp h.1
  have hp := plus_dok y m d k h.1 h.2.1 h.2.2.2
  have hn := plus_num h
  have i1 := impl_num z (plusY y m k) (plusM m k) (plusD y m d k)
  have i2 := impl_num z y m d
  have hY : y ≤ plusY y m k ∧ plusY y m k ≤ 2199 := ⟨by unfold plusY; omega, h.2.2.2⟩
  have hM : 1 ≤ plusM m k ∧ plusM m k ≤ 12 := by unfold plusM; omega
  have hs : plusY y m k * 12 + plusM m k = y * 12 + m + k := by unfold plusY plusM; omega
  have h12 : k = 12 → plusY y m k = y + 1 ∧ plusM m k = m := by rintro rfl; unfold plusY plusM; omega
  have hD : plusD y m d k = if dl (plusY y m k) (plusM m k) < d then dl (plusY y m k) (plusM m k) else d := rfl
  have hd := dl_bound (plusY y m k) (plusM m k)
  generalize plusD y m d k = D at *
  generalize plusY y m k = Y at *
  generalize plusM m k = M at *
  have tail : (if num Y M D ≥ num y m d then (if k = 12 then (if Y = wrap64 (y + 1) then some (M == m) else some false) else some true) else some false) = some true := by
    rw [if_pos hn]
    by_cases c : k = 12
    · obtain ⟨e1, e2⟩ := h12 c
      rw [if_pos c, wr (x := y + 1) (by omega) (by omega), if_pos e1, e2, beq_self_eq_true]
    · rw [if_neg c]
  generalize z + 400 = f at *
  rw [laws_FnDayPlus.j2, impl_last, Option.bind_some, wr (x := Y * 12) (by omega) (by omega), wr (x := y * 12) (by omega) (by omega), wr (x := Y * 12 + M) (by omega) (by omega), wr (x := y * 12 + m) (by omega) (by omega), wr (x := y * 12 + m + k) (by omega) (by omega), if_pos hs]
  by_cases c : dl Y M < d
  · rw [if_pos c] at hD
    rw [if_neg (by omega), if_pos hD, if_pos c, impl_ok, hp, Option.bind_some, if_pos rfl, i1, Option.bind_some, i2, Option.bind_some]
    exact tail
  · rw [if_neg c] at hD
    rw [if_pos hD, impl_ok, hp, Option.bind_some, if_pos rfl, i1, Option.bind_some, i2, Option.bind_some]
    exact tail
theorem FnDayPlus : laws_FnDayPlus.Pure := by
  intro l _ _ hx
  by_cases hl : (l.length : Int) > 1048576
  · exact ⟨0, by unfold laws_FnDayPlus.f; rw [if_pos hl]⟩
  obtain ⟨y, m, d, k, g1, g2, g3, g4, ⟨K, e⟩⟩ := draw_plus l hx
  dsimp only at e
  obtain ⟨z, hz⟩ : ∃ z, K ≤ z := ⟨_, Nat.le_refl _⟩
  have e := e (z + 400 + 1 + 1) (by omega)
  have i := impl_plus (z + 400 + 1) y m d k (by omega)
  have s := spec_plus (z + 397) y m d k (by omega)
  have o := spec_ok2 (z + 399) y m d
  have q := plus_j2 z y m d k
  rw [show z + 397 + 5 = z + 400 + 1 + 1 by omega] at s
  rw [show z + 399 + 2 = z + 400 + 1 by omega] at o
  refine ⟨z + 400 + 1 + 1 + 1, ?_⟩
  generalize z + 400 + 1 = f at *
  unfold laws_FnDayPlus.f
  rw [if_neg hl, laws_FnDayPlus.j0, e, Option.bind_some, i, Option.bind_some, s, Option.bind_some, if_neg (by simp), laws_FnDayPlus.j1]
  by_cases h : dok y m d = true ∧ 0 ≤ k ∧ k ≤ 600 ∧ plusY y m k ≤ 2199
  · have hh := (dok_iff y m d).mp h.1
    rw [plus_cond h]
    dsimp only
    rw [if_neg (by unfold plusY; omega)]
    exact q h
  · have e0 : plus y m d k = (0, 0, 0) := by unfold plus; rw [if_neg h]
    rw [e0, if_pos rfl, o, Option.bind_some, cu_ok]
    by_cases c : dok y m d = true
    · have hh := (dok_iff y m d).mp c
      rw [if_pos c]
      by_cases c1 : k < 0
      · rw [if_pos c1]; rfl
      · rw [if_neg c1]
        by_cases c2 : k > 600
        · rw [if_pos c2]; rfl
        · have c3 : ¬ plusY y m k ≤ 2199 := fun g => h ⟨c, by omega, by omega, g⟩
          unfold plusY at c3
          rw [if_neg c2, wr (x := y * 12) (by omega) (by omega), wr (x := y * 12 + m) (by omega) (by omega), wr (x := y * 12 + m - 1) (by omega) (by omega), wr (x := y * 12 + m - 1 + k) (by omega) (by omega), if_pos (by omega)]
          rfl
    · rw [if_neg c]; rfl

end Go.Proofs.Ytpbmobgpipmldaa.Pure
