/- What SpcFind finds at a code's draw has the number that is looked for, and is the reference's; if it finds none, none has it: the law's pure statement; no conditions. -/
import Derived.Test.YtpinmagodpplaaaAllx0
import Derived.Test.YtpinmagodpplaaaAllx10
import Derived.Test.YtpinmagodpplaaaAllx11
import Derived.Test.YtpinmagodpplaaaAllx19
import Derived.Test.YtpinmagodpplaaaAllx20
import Derived.Test.YtpinmagodpplaaaAllx3
import Derived.Test.YtpinmagodpplaaaAllx5
import Derived.Test.YtpinmagodpplaaaAllx7
import Derived.Test.YtpinmagodpplaaaAllx9
set_option linter.unusedVariables false
set_option linter.unusedSimpArgs false
namespace Go.Proofs.Ytpinmagodpplaaa.Pure
open Go.RowKit Go.Proofs.Ytpinmagodpplaaa.All Go.Proofs.YtpinmagodpplaaaW.PrintWords Go.Proofs.YtpinmagodpplaaaW.PrintLast Go.Proofs.YtpinmagodpplaaaW.PrintMore

theorem wr {x : Int} (h1 : -9223372036854775808 ≤ x) (h2 : x ≤ 9223372036854775807) : wrap64 x = x := by unfold wrap64; omega
theorem wf8 {x : Int} (h : (Lit.int .u8 x).wf = true) : 0 ≤ x ∧ x ≤ 255 := by
  simp only [Lit.wf, Bool.and_eq_true, decide_eq_true_eq] at h
  have h1 : IntKind.u8.min = 0 := by decide
  have h2 : IntKind.u8.max = 255 := by decide
  omega
theorem tmod0 (a n : Int) : (Int.tmod a n = 0) = (a % n = 0) := by
  rw [← Int.dvd_iff_tmod_eq_zero, Int.dvd_iff_emod_eq_zero]
theorem evs {α : Type} {g : Nat → Option α} {r : α} (K : Nat) (h : ∀ k, K ≤ k → g k = some r) : Ev g r := ⟨K, h⟩
theorem xor_pos (x y : Int) (hx : 0 ≤ x) (hx2 : x < 1099511627776) (hy : 0 ≤ y) (hy2 : y < 1099511627776) : 0 ≤ Go.bits .xor .i64 x y ∧ Go.bits .xor .i64 x y ≤ 1099511627776 := by
  obtain ⟨a, rfl⟩ := Int.eq_ofNat_of_zero_le hx
  obtain ⟨b, rfl⟩ := Int.eq_ofNat_of_zero_le hy
  have e : (BitVec.ofInt 64 (a : Int) ^^^ BitVec.ofInt 64 (b : Int)).toNat = a ^^^ b := by
    rw [BitVec.toNat_xor, BitVec.toNat_ofInt, BitVec.toNat_ofInt]
    congr 1 <;> omega
  have hlt : a ^^^ b < 2 ^ 40 := Nat.xor_lt_two_pow (by omega) (by omega)
  unfold Go.bits
  show 0 ≤ IntKind.i64.wrap ((BitVec.ofInt 64 (a : Int) ^^^ BitVec.ofInt 64 (b : Int)).toNat : Int) ∧ IntKind.i64.wrap ((BitVec.ofInt 64 (a : Int) ^^^ BitVec.ofInt 64 (b : Int)).toNat : Int) ≤ 1099511627776
  rw [e, IntKind.wrap_i64]
  omega
def Code (b : List Int) : Prop := b.length ≤ 2000 ∧ ∀ x ∈ b, 0 ≤ x ∧ x ≤ 255
theorem rd_code {b : List Int} (h : Code b) (i : Int) : 0 ≤ rd b i ∧ rd b i ≤ 255 := by
  unfold rd
  by_cases hi : i.toNat < b.length
  · rw [List.getD_eq_getElem?_getD, List.getElem?_eq_getElem hi]
    exact h.2 _ (List.getElem_mem hi)
  · rw [List.getD_eq_getElem?_getD, List.getElem?_eq_none (by omega)]
    exact ⟨by decide, by decide⟩
theorem open_some (l : List Int) (h : ∀ x ∈ l, (Lit.int .u8 x).wf = true) : ∃ b, Code b ∧ spec_l20Open.f l = some (b, 0) := by
  unfold spec_l20Open.f
  by_cases hl : (l.length : Int) > 2000
  · rw [if_pos hl, if_pos (by omega)]
    exact ⟨_, ⟨by rw [List.length_take]; omega, fun x hx => wf8 (h x (List.mem_of_mem_take hx))⟩, rfl⟩
  · rw [if_neg hl]
    exact ⟨_, ⟨by omega, fun x hx => wf8 (h x hx)⟩, rfl⟩
theorem pick_any (b : List Int) (hb : Code b) (p n : Int) (h0 : 0 ≤ p) (hp : p ≤ 1000000) (hn : n ≤ 1000000) :
    ∃ v, 0 ≤ v ∧ (1 ≤ n → v < n) ∧ (n < 1 → v = 0) ∧ Ev (fun k => spec_l20Rd_pick.f k b p n) (v, p + 1) := by
  have ep : wrap64 (p + 1) = p + 1 := wr (by omega) (by omega)
  have ep2 : wrap64 (p + 1 - 1) = p := by rw [show p + 1 - 1 = p by omega]; exact wr (by omega) (by omega)
  have eu : ∀ i, wrap64 (rd b i) = rd b i := fun i => by have := rd_code hb i; exact wr (by omega) (by omega)
  by_cases h1 : n < 1
  · refine ⟨0, by omega, by omega, fun _ => rfl, evs 1 fun k hk => ?_⟩
    obtain ⟨k, rfl⟩ : ∃ m, k = m + 1 := ⟨k - 1, by omega⟩
    simp only [spec_l20Rd_pick.f]
    rw [if_pos h1]; simp only [spec_l20Rd_pick.j0]
    rw [if_pos trivial, ep]
  · by_cases h2 : (b.length : Int) = 0
    · refine ⟨0, by omega, by omega, by omega, evs 1 fun k hk => ?_⟩
      obtain ⟨k, rfl⟩ : ∃ m, k = m + 1 := ⟨k - 1, by omega⟩
      simp only [spec_l20Rd_pick.f]
      rw [if_neg h1, h2]; simp only [spec_l20Rd_pick.j0]
      rw [if_pos (by first | trivial | rfl), ep]
    · have hlen := hb.1
      have e2 : ((b.length : Int) == 0) = false := by simpa using h2
      by_cases h3 : p < (b.length : Int)
      · refine ⟨Int.tmod (rd b p) n, Int.tmod_nonneg _ (rd_code hb p).1, fun h => Int.tmod_lt_of_pos _ (by omega), by omega, evs 1 fun k hk => ?_⟩
        obtain ⟨k, rfl⟩ : ∃ m, k = m + 1 := ⟨k - 1, by omega⟩
        simp only [spec_l20Rd_pick.f]
        rw [if_neg h1, e2]; simp only [spec_l20Rd_pick.j0]
        rw [if_neg (by simp), ep, ep2, if_pos h3, if_pos h0, if_neg (by omega), eu]
      · have q1 := Int.tmod_nonneg (b.length : Int) h0
        have q2 := Int.tmod_lt_of_pos p (b := (b.length : Int)) (by omega)
        have w7 : wrap64 (wrap64 (p * 7) + 3) = p * 7 + 3 := by rw [wr (x := p * 7) (by omega) (by omega)]; exact wr (by omega) (by omega)
        have q3 := Int.tmod_nonneg (b.length : Int) (show 0 ≤ p * 7 + 3 by omega)
        have q4 := Int.tmod_lt_of_pos (p * 7 + 3) (b := (b.length : Int)) (by omega)
        have r1 := rd_code hb (Int.tmod p b.length)
        have r2 := rd_code hb (Int.tmod (p * 7 + 3) b.length)
        have d1 : 0 ≤ Int.tdiv p b.length ∧ Int.tdiv p b.length ≤ p := by
          rw [Int.tdiv_eq_ediv_of_nonneg h0]
          exact ⟨Int.ediv_nonneg h0 (by omega), Int.ediv_le_self _ h0⟩
        generalize hX : Int.tdiv p b.length = X at d1
        generalize hA : rd b (Int.tmod p b.length) = A at r1
        generalize hB : rd b (Int.tmod (p * 7 + 3) b.length) = B at r2
        have wA0 : wrap64 A = A := wr (by omega) (by omega)
        have wB0 : wrap64 B = B := wr (by omega) (by omega)
        have wA : wrap64 (A * 131) = A * 131 := wr (by omega) (by omega)
        have wB : wrap64 (B * 1117) = B * 1117 := wr (by omega) (by omega)
        have wS : wrap64 (A * 131 + B * 1117) = A * 131 + B * 1117 := wr (by omega) (by omega)
        have wp : wrap64 (p * 29) = p * 29 := wr (by omega) (by omega)
        have wS2 : wrap64 (A * 131 + B * 1117 + p * 29) = A * 131 + B * 1117 + p * 29 := wr (by omega) (by omega)
        have wX : wrap64 X = X := wr (by omega) (by omega)
        have wX2 : wrap64 (X * 53) = X * 53 := wr (by omega) (by omega)
        have wS3 : wrap64 (A * 131 + B * 1117 + p * 29 + X * 53) = A * 131 + B * 1117 + p * 29 + X * 53 := wr (by omega) (by omega)
        have hS : 0 ≤ A * 131 + B * 1117 + p * 29 + X * 53 ∧ A * 131 + B * 1117 + p * 29 + X * 53 ≤ 100000000 := by omega
        generalize hT : A * 131 + B * 1117 + p * 29 + X * 53 = T at hS wS3
        have w64 : wrap64 (Int.tdiv T 64) = T / 64 := by rw [Int.tdiv_eq_ediv_of_nonneg hS.1]; exact wr (by omega) (by omega)
        have hx := xor_pos T (T / 64) hS.1 (by omega) (by omega) (by omega)
        refine ⟨Int.tmod (Go.bits .xor .i64 T (T / 64)) n, Int.tmod_nonneg _ hx.1, fun h => Int.tmod_lt_of_pos _ (by omega), by omega, evs 1 fun k hk => ?_⟩
        obtain ⟨k, rfl⟩ : ∃ m, k = m + 1 := ⟨k - 1, by omega⟩
        simp only [spec_l20Rd_pick.f]
        rw [if_neg h1, e2]; simp only [spec_l20Rd_pick.j0]
        rw [if_neg (by simp), ep, ep2, if_neg h3, if_neg h2, if_pos q1, if_pos q2, w7, if_pos q3, if_pos q4, if_neg (by omega)]
        simp only [eu, hX, hA, hB, wA0, wB0, wA, wB, wS, wp, wS2, wX, wX2, hT, wS3, w64]
theorem pick_pos (b : List Int) (hb : Code b) (p n : Int) (h0 : 0 ≤ p) (hp : p ≤ 1000000) (h1 : 1 ≤ n) (hn : n ≤ 1000000) :
    ∃ v, 0 ≤ v ∧ v < n ∧ Ev (fun k => spec_l20Rd_pick.f k b p n) (v, p + 1) := by
  obtain ⟨v, a, c, _, e⟩ := pick_any b hb p n h0 hp hn
  exact ⟨v, a, c h1, e⟩
def leap (y : Int) : Bool := decide (y % 4 = 0 ∧ (y % 100 ≠ 0 ∨ y % 400 = 0))
theorem tb (a n : Int) : (Int.tmod a n == 0) = decide (a % n = 0) := by
  rw [← decide_eq_decide.mpr (iff_of_eq (tmod0 a n))]
  rfl
theorem impl_leap (y : Int) : impl_DayLeap.f y = some (leap y) := by
  unfold impl_DayLeap.f leap
  simp only [tmod0, tb]
  by_cases h4 : y % 4 = 0 <;> by_cases h1 : y % 100 = 0 <;> by_cases h2 : y % 400 = 0 <;> simp [h4, h1, h2]
def dl (y m : Int) : Int := if 1 ≤ m ∧ m ≤ 12 then (if m = 2 then (if leap y = true then 29 else 28) else impl_DayLast.tab m) else 0
theorem impl_last (y m : Int) : impl_DayLast.f y m = some (dl y m) := by
  unfold impl_DayLast.f dl
  by_cases h1 : m ≥ 1
  · by_cases h2 : m ≤ 12
    · rw [if_pos h1, if_pos h2, if_pos (show 1 ≤ m ∧ m ≤ 12 from ⟨h1, h2⟩)]
      by_cases h3 : m = 2
      · simp only [if_pos h3, impl_leap]
        cases leap y <;> rfl
      · simp only [if_neg h3]
    · rw [if_pos h1, if_neg h2, if_neg (by omega)]
  · rw [if_neg h1, if_neg (by omega)]
theorem in_impl (a b c : Int) : impl_in.f a b c = some (decide (b ≤ a ∧ a ≤ c)) := by
  unfold impl_in.f
  by_cases h : a ≥ b
  · rw [if_pos h]; simp [show b ≤ a from h]
  · rw [if_neg h]; simp [show ¬ b ≤ a from h]
def dok (y m d : Int) : Bool := decide (1900 ≤ y ∧ y ≤ 2199 ∧ 1 ≤ m ∧ m ≤ 12 ∧ 1 ≤ d ∧ d ≤ dl y m)
theorem impl_ok (y m d : Int) : impl_DayOk.f y m d = some (dok y m d) := by
  unfold impl_DayOk.f dok
  rw [in_impl, impl_last]
  simp only [Option.bind_some, in_impl, decide_eq_true_eq]
  have hd : ¬ (1 ≤ m ∧ m ≤ 12) → dl y m = 0 := fun h => by unfold dl; rw [if_neg h]
  by_cases h1 : 1900 ≤ y ∧ y ≤ 2199
  · rw [if_pos h1]; congr 1; rw [decide_eq_decide]
    by_cases h : 1 ≤ m ∧ m ≤ 12
    · omega
    · have := hd h
      omega
  · rw [if_neg h1]; congr 1; symm; rw [decide_eq_false_iff_not]; omega
theorem cu_ok : laws_cuOk.f = some true := by
  unfold laws_cuOk.f
  rw [impl_ok]
  rfl
def ten (p : Int) : Int := if p ≤ 0 then 1 else if p = 1 then 10 else if p = 2 then 100 else 1000
theorem spec_ten (k : Nat) (p : Int) (h0 : 0 ≤ p) (h3 : p ≤ 3) : spec_l1Ten.f (k + 4) p = some (ten p) := by
  rcases (by omega : p = 0 ∨ p = 1 ∨ p = 2 ∨ p = 3) with rfl | rfl | rfl | rfl
  all_goals
    simp only [spec_l1Ten.f, spec_l1Ten.l0]
    simp [wrap64, ten]
theorem dec_draw (b : List Int) (hb : Code b) (p n : Int) (h0 : 0 ≤ p) (hp : p ≤ 800000) (hn : 1 ≤ n) (hn2 : n ≤ 1000000) :
    ∃ x m q, (p ≤ q ∧ q ≤ p + 6) ∧ Ev (fun k => spec_l20Dec.f k b p n) (x, m, q) := by
  obtain ⟨v1, a1, c1, ⟨K1, e1⟩⟩ := pick_pos b hb p 4 h0 (by omega) (by omega) (by omega)
  obtain ⟨v2, a2, c2, ⟨K2, e2⟩⟩ := pick_pos b hb (p + 1) 256 (by omega) (by omega) (by omega) (by omega)
  obtain ⟨v3, a3, c3, ⟨K3, e3⟩⟩ := pick_pos b hb (p + 1 + 1) 9 (by omega) (by omega) (by omega) (by omega)
  obtain ⟨v4, a4, c4, ⟨K4, e4⟩⟩ := pick_pos b hb (p + 1 + 1 + 1) n (by omega) (by omega) hn hn2
  obtain ⟨v5, a5, c5, ⟨K5, e5⟩⟩ := pick_pos b hb (p + 1 + 1 + 1 + 1) 2 (by omega) (by omega) (by omega) (by omega)
  obtain ⟨v6, a6, c6, ⟨K6, e6⟩⟩ := pick_pos b hb (p + 1 + 1 + 1 + 1 + 1) 2 (by omega) (by omega) (by omega) (by omega)
  dsimp only at e1 e2 e3 e4 e5 e6
  have et : ∀ k, 4 ≤ k → spec_l1Ten.f k v1 = some (ten v1) := by
    intro k hk
    have := spec_ten (k - 4) v1 a1 (by omega)
    rwa [show k - 4 + 4 = k by omega] at this
  by_cases h1 : v4 = 0
  · by_cases h2 : v5 = 0
    · refine ⟨rd [0, 5, 15, 149, 995, -25, wrap64 (9999 * ten v1), wrap64 (-9999 * ten v1), wrap64 (v2 * 7)] v3, rd [-1, 4] v6, p + 1 + 1 + 1 + 1 + 1 + 1, by omega, max K1 (max K2 (max K3 (max K4 (max K5 K6)))) + 4, fun k hk => ?_⟩
      unfold spec_l20Dec.f
      simp only [Option.bind_some, e1 k (by omega), e2 k (by omega), e3 k (by omega), e4 k (by omega), et k (by omega)]
      rw [if_pos a3, if_pos (by simpa using c3), if_pos h1, e5 k (by omega)]
      simp only [Option.bind_some]
      rw [if_pos h2, e6 k (by omega)]
      simp only [Option.bind_some]
      rw [if_pos a6, if_pos (by simpa using c6)]
    · refine ⟨rd [wrap64 (wrap64 (9999 * ten v1) + 1), wrap64 (wrap64 (-9999 * ten v1) - 1)] v6, v1, p + 1 + 1 + 1 + 1 + 1 + 1, by omega, max K1 (max K2 (max K3 (max K4 (max K5 K6)))) + 4, fun k hk => ?_⟩
      unfold spec_l20Dec.f
      simp only [Option.bind_some, e1 k (by omega), e2 k (by omega), e3 k (by omega), e4 k (by omega), et k (by omega)]
      rw [if_pos a3, if_pos (by simpa using c3), if_pos h1, e5 k (by omega)]
      simp only [Option.bind_some]
      rw [if_neg h2, e6 k (by omega)]
      simp only [Option.bind_some]
      rw [if_pos a6, if_pos (by simpa using c6)]
  · refine ⟨rd [0, 5, 15, 149, 995, -25, wrap64 (9999 * ten v1), wrap64 (-9999 * ten v1), wrap64 (v2 * 7)] v3, v1, p + 1 + 1 + 1 + 1, by omega, max K1 (max K2 (max K3 K4)) + 4, fun k hk => ?_⟩
    unfold spec_l20Dec.f
    simp only [Option.bind_some, e1 k (by omega), e2 k (by omega), e3 k (by omega), e4 k (by omega), et k (by omega)]
    rw [if_pos a3, if_pos (by simpa using c3), if_neg h1]
def fd (l : List S27) (t : Int) : Nat → Int → Int
  | 0, _ => -1
  | n + 1, i => if (rd_T27 l i).f0 = t then i else fd l t n (i + 1)
def fr (l : List S27) (j : Int) : Int × Int × Int × Int × Int × Int × Bool := if j < 0 then (0, 0, 0, 0, 0, 0, false) else ((rd_T27 l j).f0, (rd_T27 l j).f1.f0, (rd_T27 l j).f1.f1, (rd_T27 l j).f2.f0, (rd_T27 l j).f2.f1, (rd_T27 l j).f3, true)
theorem fd_range (l : List S27) (t : Int) (d : Nat) : ∀ i : Int, 0 ≤ i → fd l t d i = -1 ∨ (i ≤ fd l t d i ∧ fd l t d i < i + d ∧ (rd_T27 l (fd l t d i)).f0 = t) := by
  induction d with
  | zero => intro i h0; exact Or.inl rfl
  | succ d ih =>
    intro i h0
    simp only [fd]
    by_cases h : (rd_T27 l i).f0 = t
    · rw [if_pos h]; exact Or.inr ⟨by omega, by omega, h⟩
    · rw [if_neg h]
      rcases ih (i + 1) (by omega) with e | ⟨a, b, c⟩
      · exact Or.inl e
      · exact Or.inr ⟨by omega, by omega, c⟩
theorem sfind_loop (l : List S27) (hl : l.length ≤ 4611686018427387904) (t : Int) (d : Nat) : ∀ (k : Nat) (i : Int), 0 ≤ i → (l.length : Int) - i = d → spec_SpcFind.l0 (k + 1 + d) l t i = some (fr l (fd l t d i)) := by
  induction d with
  | zero =>
    intro k i h0 hd
    simp only [Nat.add_zero, spec_SpcFind.l0, fd]
    rw [if_neg (by omega)]
    rfl
  | succ d ih =>
    intro k i h0 hd
    rw [show k + 1 + (d + 1) = (k + 1 + d) + 1 by omega]
    simp only [spec_SpcFind.l0, fd]
    rw [if_pos (by omega), if_pos h0, wr (x := i + 1) (by omega) (by omega)]
    by_cases h : (rd_T27 l i).f0 = t
    · rw [if_pos h, if_pos h, fr, if_neg (by omega)]
    · rw [if_neg h, if_neg h]
      exact ih k (i + 1) (by omega) (by omega)
theorem ifind_loop (l : List S27) (hl : l.length ≤ 4611686018427387904) (t : Int) (d : Nat) : ∀ (k : Nat) (i : Int), 0 ≤ i → (l.length : Int) - i = d → impl_SpcFind.l0 (k + 1 + d) l t i = some (fd l t d i) := by
  induction d with
  | zero =>
    intro k i h0 hd
    simp only [Nat.add_zero, impl_SpcFind.l0, fd]
    rw [if_neg (by omega)]
  | succ d ih =>
    intro k i h0 hd
    rw [show k + 1 + (d + 1) = (k + 1 + d) + 1 by omega]
    simp only [impl_SpcFind.l0, fd]
    rw [if_pos (by omega), if_pos h0, wr (x := i + 1) (by omega) (by omega)]
    by_cases h : (rd_T27 l i).f0 = t
    · rw [if_pos h, if_pos h]
    · rw [if_neg h, if_neg h]
      exact ih k (i + 1) (by omega) (by omega)
theorem sfind (l : List S27) (hl : l.length ≤ 4611686018427387904) (t : Int) (k : Nat) (hk : l.length + 1 ≤ k) : spec_SpcFind.f k l t = some (fr l (fd l t l.length 0)) := by
  have := sfind_loop l hl t l.length (k - 1 - l.length) 0 (by omega) (by omega)
  rwa [show k - 1 - l.length + 1 + l.length = k by omega] at this
theorem ifind (l : List S27) (hl : l.length ≤ 4611686018427387904) (t : Int) (k : Nat) (hk : l.length + 1 ≤ k) : impl_SpcFind.f k l t = some (fr l (fd l t l.length 0)) := by
  have := ifind_loop l hl t l.length (k - 1 - l.length) 0 (by omega) (by omega)
  rw [show k - 1 - l.length + 1 + l.length = k by omega] at this
  unfold impl_SpcFind.f fr
  rw [this]
  simp only [Option.bind_some]
  rcases fd_range l t l.length 0 (by omega) with e | ⟨a, b, c⟩
  · rw [e, if_pos (by omega), if_pos (by omega)]
  · generalize fd l t l.length 0 = j at *
    rw [if_neg (show ¬ j < 0 by omega), if_pos (show j < (l.length : Int) by omega), if_neg (show ¬ j < 0 by omega)]
theorem ask_draw (b : List Int) (hb : Code b) (p i n : Int) (h0 : 0 ≤ p) (hp : p ≤ 700000) (hn : 1 ≤ n) (hn2 : n ≤ 1000000) :
    ∃ t0 t1 t2 t3 t4 t5 q, (p ≤ q ∧ q ≤ p + 20) ∧ Ev (fun k => spec_l20Ask.f k b p i n) (t0, t1, t2, t3, t4, t5, q) := by
  obtain ⟨v1, a1, c1, ⟨K1, e1⟩⟩ := pick_pos b hb p 3 h0 (by omega) (by omega) (by omega)
  obtain ⟨v2, a2, c2, ⟨K2, e2⟩⟩ := pick_pos b hb (p + 1) 3 (by omega) (by omega) (by omega) (by omega)
  obtain ⟨v3, a3, c3, ⟨K3, e3⟩⟩ := pick_pos b hb (p + 1 + 1) 3 (by omega) (by omega) (by omega) (by omega)
  obtain ⟨v4, a4, c4, ⟨K4, e4⟩⟩ := pick_pos b hb (p + 1 + 1 + 1) n (by omega) (by omega) hn hn2
  obtain ⟨v5, a5, c5, ⟨K5, e5⟩⟩ := pick_pos b hb (p + 1 + 1 + 1 + 1) 4 (by omega) (by omega) (by omega) (by omega)
  obtain ⟨v6, a6, c6, ⟨K6, e6⟩⟩ := pick_pos b hb (p + 1 + 1 + 1 + 1 + 1) 3 (by omega) (by omega) (by omega) (by omega)
  obtain ⟨x, m, q, hq, ⟨K7, e7⟩⟩ := dec_draw b hb (p + 1 + 1 + 1 + 1 + 1) 2 (by omega) (by omega) (by omega) (by omega)
  dsimp only at e1 e2 e3 e4 e5 e6 e7
  have head : ∀ k, max K1 (max K2 (max K3 K4)) ≤ k → spec_l20Ask.f k b p i n = spec_l20Ask.j0 k (v4 == 0) b (p + 1 + 1 + 1 + 1) i (rd [0, 10, (-5)] v1) 1 (rd [20, 100, 15] v2) 1 v3 := by
    intro k hk
    unfold spec_l20Ask.f
    simp only [Option.bind_some, e1 k (by omega), e2 k (by omega), e3 k (by omega), e4 k (by omega)]
    rw [if_pos a1, if_pos (by simpa using c1), if_pos a2, if_pos (by simpa using c2)]
  generalize rd [0, 10, (-5)] v1 = x1 at *
  generalize rd [20, 100, 15] v2 = x2 at *
  by_cases h4 : v4 = 0
  · subst h4
    by_cases g0 : v5 = 0
    · refine ⟨rd [0, 5, 1] v6, x1, 1, x2, 1, v3, p + 1 + 1 + 1 + 1 + 1 + 1, by omega, max K1 (max K2 (max K3 (max K4 (max K5 (max K6 K7))))) + 3, fun k hk => ?_⟩
      dsimp only
      rw [head k (by omega)]
      obtain ⟨z, rfl⟩ : ∃ z, k = z + 1 + 1 := ⟨k - 2, by omega⟩
      rw [spec_l20Ask.j0, if_pos (show ((0 : Int) == 0) = true from rfl), e5 (z + 1) (by omega), Option.bind_some, spec_l20Ask.j1, if_pos g0, Option.bind_some, e6 z (by omega), Option.bind_some, if_pos a6, if_pos (by simpa using c6)]
    · by_cases g1 : v5 = 1
      · refine ⟨i, x, m, x2, 1, v3, q, by omega, max K1 (max K2 (max K3 (max K4 (max K5 (max K6 K7))))) + 3, fun k hk => ?_⟩
        dsimp only
        rw [head k (by omega)]
        obtain ⟨z, rfl⟩ : ∃ z, k = z + 1 + 1 := ⟨k - 2, by omega⟩
        rw [spec_l20Ask.j0, if_pos (show ((0 : Int) == 0) = true from rfl), e5 (z + 1) (by omega), Option.bind_some, spec_l20Ask.j1, if_neg g0, if_pos g1, e7 z (by omega), Option.bind_some]
      · by_cases g2 : v5 = 2
        · refine ⟨i, x1, 1, x, m, v3, q, by omega, max K1 (max K2 (max K3 (max K4 (max K5 (max K6 K7))))) + 3, fun k hk => ?_⟩
          dsimp only
          rw [head k (by omega)]
          obtain ⟨z, rfl⟩ : ∃ z, k = z + 1 + 1 := ⟨k - 2, by omega⟩
          rw [spec_l20Ask.j0, if_pos (show ((0 : Int) == 0) = true from rfl), e5 (z + 1) (by omega), Option.bind_some, spec_l20Ask.j1, if_neg g0, if_neg g1, if_pos g2, e7 z (by omega), Option.bind_some]
        · refine ⟨i, x1, 1, x2, 1, rd [(-1), 4, 3] v6, p + 1 + 1 + 1 + 1 + 1 + 1, by omega, max K1 (max K2 (max K3 (max K4 (max K5 (max K6 K7))))) + 3, fun k hk => ?_⟩
          dsimp only
          rw [head k (by omega)]
          obtain ⟨z, rfl⟩ : ∃ z, k = z + 1 + 1 := ⟨k - 2, by omega⟩
          rw [spec_l20Ask.j0, if_pos (show ((0 : Int) == 0) = true from rfl), e5 (z + 1) (by omega), Option.bind_some, spec_l20Ask.j1, if_neg g0, if_neg g1, if_neg g2, Option.bind_some, e6 z (by omega), Option.bind_some, if_pos a6, if_pos (by simpa using c6)]
  · refine ⟨i, x1, 1, x2, 1, v3, p + 1 + 1 + 1 + 1, by omega, max K1 (max K2 (max K3 (max K4 (max K5 (max K6 K7))))) + 3, fun k hk => ?_⟩
    dsimp only
    rw [head k (by omega)]
    obtain ⟨z, rfl⟩ : ∃ z, k = z + 1 := ⟨k - 1, by omega⟩
    rw [spec_l20Ask.j0, if_neg (by simp [h4])]
theorem tests_draw_end (b : List Int) (hb : Code b) (n : Int) (hn : 1 ≤ n) (hn2 : n ≤ 1000000) (L : List S27) (h1 : 1 ≤ L.length) (hL : L.length ≤ 6) (p : Int) (h0 : 0 ≤ p) (hp : p ≤ 600000) :
    ∃ R q, (1 ≤ R.length ∧ R.length ≤ 7 ∧ p ≤ q ∧ q ≤ p + 1) ∧ Ev (fun k => spec_l20Tests.j1 k n L b p) (R, q) := by
  obtain ⟨v, a, c, ⟨K, e⟩⟩ := pick_pos b hb p n h0 (by omega) hn hn2
  dsimp only at e
  by_cases h2 : v = 0
  · refine ⟨L ++ [⟨(rd_T27 L 0).f0, ⟨(rd_T27 L 0).f1.f0, (rd_T27 L 0).f1.f1⟩, ⟨(rd_T27 L 0).f2.f0, (rd_T27 L 0).f2.f1⟩, (rd_T27 L 0).f3⟩], p + 1, ⟨by simp, by simp; omega, by omega, by omega⟩, K + 1, fun k hk => ?_⟩
    dsimp only
    obtain ⟨z, rfl⟩ : ∃ z, k = z + 1 := ⟨k - 1, by omega⟩
    rw [spec_l20Tests.j1, e z (by omega), Option.bind_some, if_pos h2, if_pos (by omega), if_pos (by omega)]
  · refine ⟨L, p + 1, ⟨by omega, by omega, by omega, by omega⟩, K + 1, fun k hk => ?_⟩
    dsimp only
    obtain ⟨z, rfl⟩ : ∃ z, k = z + 1 := ⟨k - 1, by omega⟩
    rw [spec_l20Tests.j1, e z (by omega), Option.bind_some, if_neg h2]
theorem tests_draw_loop (b : List Int) (hb : Code b) (n : Int) (hn : 1 ≤ n) (hn2 : n ≤ 1000000) (d : Nat) : ∀ (i p : Int) (L : List S27), 5 - i = d → i ≤ 5 → 1 ≤ i → L.length + d ≤ 4 → 0 ≤ p → p + 30 * d ≤ 590000 →
    ∃ R q, (1 ≤ R.length ∧ R.length ≤ 7 ∧ p ≤ q ∧ q ≤ p + 30 * d + 30) ∧ Ev (fun k => spec_l20Tests.l0 k n L i b p) (R, q) := by
  induction d with
  | zero =>
    intro i p L hd hi5 hi1 hL h0 hp
    by_cases hz : (L.length : Int) = 0
    · obtain ⟨t0, t1, t2, t3, t4, t5, q1, hq1, ⟨K1, e1⟩⟩ := ask_draw b hb p 2 9999 h0 (by omega) (by omega) (by omega)
      obtain ⟨R, q, hq, ⟨K2, e2⟩⟩ := tests_draw_end b hb n hn hn2 (L ++ [⟨t0, ⟨t1, t2⟩, ⟨t3, t4⟩, t5⟩]) (by simp) (by simp; omega) q1 (by omega) (by omega)
      dsimp only at e1 e2
      refine ⟨R, q, ⟨by omega, by omega, by omega, by omega⟩, max K1 K2 + 1, fun k hk => ?_⟩
      dsimp only
      obtain ⟨z, rfl⟩ : ∃ z, k = z + 1 := ⟨k - 1, by omega⟩
      rw [spec_l20Tests.l0, if_neg (by omega), if_pos hz, e1 z (by omega), Option.bind_some, if_pos (by omega)]
      exact e2 z (by omega)
    · obtain ⟨R, q, hq, ⟨K2, e2⟩⟩ := tests_draw_end b hb n hn hn2 L (by omega) (by omega) p (by omega) (by omega)
      dsimp only at e2
      refine ⟨R, q, ⟨by omega, by omega, by omega, by omega⟩, K2 + 1, fun k hk => ?_⟩
      dsimp only
      obtain ⟨z, rfl⟩ : ∃ z, k = z + 1 := ⟨k - 1, by omega⟩
      rw [spec_l20Tests.l0, if_neg (by omega), if_neg hz]
      exact e2 z (by omega)
  | succ d ih =>
    intro i p L hd hi5 hi1 hL h0 hp
    obtain ⟨v, a, c, ⟨K, e⟩⟩ := pick_pos b hb p 2 h0 (by omega) (by omega) (by omega)
    dsimp only at e
    by_cases hv : v = 0
    · obtain ⟨t0, t1, t2, t3, t4, t5, q1, hq1, ⟨K1, e1⟩⟩ := ask_draw b hb (p + 1) i n (by omega) (by omega) hn hn2
      obtain ⟨R, q, hq, ⟨K2, e2⟩⟩ := ih (i + 1) q1 (L ++ [⟨t0, ⟨t1, t2⟩, ⟨t3, t4⟩, t5⟩]) (by omega) (by omega) (by omega) (by simp; omega) (by omega) (by omega)
      dsimp only at e1 e2
      refine ⟨R, q, ⟨by omega, by omega, by omega, by omega⟩, max K (max K1 K2) + 1, fun k hk => ?_⟩
      dsimp only
      obtain ⟨z, rfl⟩ : ∃ z, k = z + 1 := ⟨k - 1, by omega⟩
      rw [spec_l20Tests.l0, if_pos (by omega), e z (by omega), Option.bind_some, if_pos hv, e1 z (by omega), Option.bind_some, if_pos (by omega), wr (x := i + 1) (by omega) (by omega)]
      exact e2 z (by omega)
    · obtain ⟨R, q, hq, ⟨K2, e2⟩⟩ := ih (i + 1) (p + 1) L (by omega) (by omega) (by omega) (by omega) (by omega) (by omega)
      dsimp only at e2
      refine ⟨R, q, ⟨by omega, by omega, by omega, by omega⟩, max K K2 + 1, fun k hk => ?_⟩
      dsimp only
      obtain ⟨z, rfl⟩ : ∃ z, k = z + 1 := ⟨k - 1, by omega⟩
      rw [spec_l20Tests.l0, if_pos (by omega), e z (by omega), Option.bind_some, if_neg hv, wr (x := i + 1) (by omega) (by omega)]
      exact e2 z (by omega)
theorem tests_draw (b : List Int) (hb : Code b) (n p : Int) (hn : 1 ≤ n) (hn2 : n ≤ 1000000) (h0 : 0 ≤ p) (hp : p ≤ 500000) :
    ∃ R q, (1 ≤ R.length ∧ R.length ≤ 7 ∧ p ≤ q ∧ q ≤ p + 150) ∧ Ev (fun k => spec_l20Tests.f k b p n) (R, q) := by
  obtain ⟨R, q, hq, e⟩ := tests_draw_loop b hb n hn hn2 4 1 p [] (by omega) (by omega) (by omega) (by simp) h0 (by omega)
  exact ⟨R, q, ⟨by omega, by omega, by omega, by omega⟩, e⟩
theorem drawFind_ev (l : List Int) (h : ∀ x ∈ l, (Lit.int .u8 x).wf = true) : ∃ R t, R.length ≤ 7 ∧ ∃ K, ∀ k, K ≤ k → spec_DrawSpcFind.f k l = some (R, t) := by
  obtain ⟨b, hb, e0⟩ := open_some l h
  obtain ⟨R, q, hq, ⟨K1, e1⟩⟩ := tests_draw b hb 9 0 (by omega) (by omega) (by omega) (by omega)
  obtain ⟨v, _, _, ⟨K2, e2⟩⟩ := pick_pos b hb q 6 (by omega) (by omega) (by omega) (by omega)
  dsimp only at e1 e2
  refine ⟨R, v, hq.2.1, max K1 K2, fun k hk => ?_⟩
  unfold spec_DrawSpcFind.f
  simp only [e0, Option.bind_some, e1 k (by omega), e2 k (by omega)]
theorem find_law_loop (L : List S27) (hL : L.length ≤ 4611686018427387904) (t : Int) (ok : Bool) (a b c e f g : Int) (hg : ok = true → a = t) (d : Nat) : ∀ (k : Nat) (has : Bool) (i : Int), 0 ≤ i → (L.length : Int) - i = d → (has || decide (fd L t d i ≥ 0)) = ok →
    laws_FnSpcFind.l0 (k + 1 + d) L t ok has i a b c e f g = some true := by
  induction d with
  | zero =>
    intro k has i h0 hd hh
    have hh : has = ok := by
      rw [← hh, decide_eq_false (show ¬ fd L t 0 i ≥ 0 by simp [fd]), Bool.or_false]
    subst hh
    rw [Nat.add_zero, laws_FnSpcFind.l0, if_neg (by omega), if_pos (by simp), cu_ok]
    by_cases ho : has = true
    · rw [if_pos ho, if_pos (hg ho)]; rfl
    · rw [if_neg ho]; rfl
  | succ d ih =>
    intro k has i h0 hd hh
    rw [show k + 1 + (d + 1) = (k + 1 + d) + 1 by omega, laws_FnSpcFind.l0, if_pos (by omega), wr (x := i + 1) (by omega) (by omega)]
    have ef : fd L t (d + 1) i = if (rd_T27 L i).f0 = t then i else fd L t d (i + 1) := rfl
    rw [ef] at hh
    clear ef
    by_cases hs : has = true
    · subst hs
      rw [if_pos rfl]
      rw [Bool.true_or] at hh
      exact ih k true (i + 1) (by omega) (by omega) (by rw [Bool.true_or]; exact hh)
    · have hs' := Bool.eq_false_iff.mpr hs
      subst hs'
      rw [if_neg hs, if_pos h0]
      refine ih k _ (i + 1) (by omega) (by omega) ?_
      by_cases hq : (rd_T27 L i).f0 = t
      · rw [if_pos hq] at hh
        rw [beq_iff_eq.mpr hq, ← hh]
        simp [h0]
      · rw [if_neg hq] at hh
        rw [beq_eq_false_iff_ne.mpr hq]
        exact hh
theorem FnSpcFind : laws_FnSpcFind.Pure := by
  intro l _ _ hl
  by_cases hbig : (l.length : Int) > 1048576
  · refine ⟨0, ?_⟩
    unfold laws_FnSpcFind.f
    rw [if_pos hbig]
  obtain ⟨L, t, hL, K, e⟩ := drawFind_ev l hl
  refine ⟨K + 20 + 1, ?_⟩
  have s := sfind L (by omega) t (K + 20 + 1) (by omega)
  have i := ifind L (by omega) t (K + 20 + 1) (by omega)
  have w : ∀ (ok : Bool) (a b c e f g : Int), (ok = true → a = t) → decide (fd L t L.length 0 ≥ 0) = ok → laws_FnSpcFind.j0 (K + 20 + 1) L t ok false a b c e f g = some true := by
    intro ok a b c e f g hg ho
    have := find_law_loop L (by omega) t ok a b c e f g hg L.length (K + 19 - L.length) false 0 (by omega) (by omega) (by simpa using ho)
    rw [show K + 19 - L.length + 1 + L.length = K + 20 by omega] at this
    rw [laws_FnSpcFind.j0, if_neg (by simp)]
    exact this
  unfold laws_FnSpcFind.f
  rw [if_neg hbig, e (K + 20 + 1) (by omega)]
  simp only [Option.bind_some, s, i, beq_self_eq_true, bne_self_eq_false, Bool.not_true, Bool.or_self]
  rw [if_neg (by simp)]
  unfold fr
  rcases fd_range L t L.length 0 (by omega) with r | ⟨r1, r2, r3⟩
  · rw [r, if_pos (by omega)]
    exact w false 0 0 0 0 0 0 (by simp) (by rw [r]; rfl)
  · generalize hj : fd L t L.length 0 = j at *
    rw [if_neg (by omega)]
    exact w true _ _ _ _ _ _ (fun _ => r3) (by rw [decide_eq_true_eq]; omega)

end Go.Proofs.Ytpinmagodpplaaa.Pure
