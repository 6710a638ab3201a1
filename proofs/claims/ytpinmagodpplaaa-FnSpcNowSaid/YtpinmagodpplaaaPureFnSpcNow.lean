/- SpcNow tells the first specification that is in force, at every code: the law's pure statement; no conditions. -/
import Derived.Test.YtpinmagodpplaaaAllx0
import Derived.Test.YtpinmagodpplaaaAllx10
import Derived.Test.YtpinmagodpplaaaAllx11
import Derived.Test.YtpinmagodpplaaaAllx12
import Derived.Test.YtpinmagodpplaaaAllx13
import Derived.Test.YtpinmagodpplaaaAllx14
import Derived.Test.YtpinmagodpplaaaAllx15
import Derived.Test.YtpinmagodpplaaaAllx16
import Derived.Test.YtpinmagodpplaaaAllx17
import Derived.Test.YtpinmagodpplaaaAllx2
import Derived.Test.YtpinmagodpplaaaAllx3
import Derived.Test.YtpinmagodpplaaaAllx9
set_option linter.unusedVariables false
set_option linter.unusedSimpArgs false
namespace Go.Proofs.Ytpinmagodpplaaa.Pure
open Go.RowKit Go.Proofs.Ytpinmagodpplaaa.All Go.Proofs.YtpinmagodpplaaaW.PrintWords Go.Proofs.YtpinmagodpplaaaW.PrintLast Go.Proofs.YtpinmagodpplaaaW.PrintMore

theorem wr {x : Int} (h1 : -9223372036854775808 ≤ x) (h2 : x ≤ 9223372036854775807) : wrap64 x = x := by unfold wrap64; omega
theorem wf8 {x : Int} (h : (Lit.int .u8 x).wf = true) : 0 ≤ x ∧ x ≤ 255 := by
  simp only [Lit.wf, Bool.and_eq_true, decide_eq_true_eq] at h
  have h1 : IntKind.u8.min = 0 := by decide
  have h2 : IntKind.u8.max = 255 := by decide
  omega
theorem evs {α : Type} {g : Nat → Option α} {r : α} (K : Nat) (h : ∀ k, K ≤ k → g k = some r) : Ev g r := ⟨K, h⟩
theorem xor_pos (x y : Int) (hx : 0 ≤ x) (hx2 : x < 1099511627776) (hy : 0 ≤ y) (hy2 : y < 1099511627776) : 0 ≤ Go.bits .xor .i64 x y ∧ Go.bits .xor .i64 x y ≤ 1099511627776 := by
  obtain ⟨a, rfl⟩ := Int.eq_ofNat_of_zero_le hx
  obtain ⟨b, rfl⟩ := Int.eq_ofNat_of_zero_le hy
  have e : (BitVec.ofInt 64 (a : Int) ^^^ BitVec.ofInt 64 (b : Int)).toNat = a ^^^ b := by
    rw [BitVec.toNat_xor, BitVec.toNat_ofInt, BitVec.toNat_ofInt]
    congr 1 <;> omega
  have hlt : a ^^^ b < 2 ^ 40 := Nat.xor_lt_two_pow (by omega) (by omega)
  unfold Go.bits
  show 0 ≤ IntKind.i64.wrap ((BitVec.ofInt 64 (a : Int) ^^^ BitVec.ofInt 64 (b : Int)).toNat : Int) ∧ IntKind.i64.wrap ((BitVec.ofInt 64 (a : Int) ^^^ BitVec.ofInt 64 (b : Int)).toNat : Int) ≤ 1099511627776
  rw [e, IntKind.wrap_i64]
  omega
def Code (b : List Int) : Prop := b.length ≤ 2000 ∧ ∀ x ∈ b, 0 ≤ x ∧ x ≤ 255
theorem rd_code {b : List Int} (h : Code b) (i : Int) : 0 ≤ rd b i ∧ rd b i ≤ 255 := by
  unfold rd
  by_cases hi : i.toNat < b.length
  · rw [List.getD_eq_getElem?_getD, List.getElem?_eq_getElem hi]
    exact h.2 _ (List.getElem_mem hi)
  · rw [List.getD_eq_getElem?_getD, List.getElem?_eq_none (by omega)]
    exact ⟨by decide, by decide⟩
theorem open_some (l : List Int) (h : ∀ x ∈ l, (Lit.int .u8 x).wf = true) : ∃ b, Code b ∧ spec_l20Open.f l = some (b, 0) := by
  unfold spec_l20Open.f
  by_cases hl : (l.length : Int) > 2000
  · rw [if_pos hl, if_pos (by omega)]
    exact ⟨_, ⟨by rw [List.length_take]; omega, fun x hx => wf8 (h x (List.mem_of_mem_take hx))⟩, rfl⟩
  · rw [if_neg hl]
    exact ⟨_, ⟨by omega, fun x hx => wf8 (h x hx)⟩, rfl⟩
theorem pick_any (b : List Int) (hb : Code b) (p n : Int) (h0 : 0 ≤ p) (hp : p ≤ 1000000) (hn : n ≤ 1000000) :
    ∃ v, 0 ≤ v ∧ (1 ≤ n → v < n) ∧ (n < 1 → v = 0) ∧ Ev (fun k => spec_l20Rd_pick.f k b p n) (v, p + 1) := by
  have ep : wrap64 (p + 1) = p + 1 := wr (by omega) (by omega)
  have ep2 : wrap64 (p + 1 - 1) = p := by rw [show p + 1 - 1 = p by omega]; exact wr (by omega) (by omega)
  have eu : ∀ i, wrap64 (rd b i) = rd b i := fun i => by have := rd_code hb i; exact wr (by omega) (by omega)
  by_cases h1 : n < 1
  · refine ⟨0, by omega, by omega, fun _ => rfl, evs 1 fun k hk => ?_⟩
    obtain ⟨k, rfl⟩ : ∃ m, k = m + 1 := ⟨k - 1, by omega⟩
    simp only [spec_l20Rd_pick.f]
    rw [if_pos h1]; simp only [spec_l20Rd_pick.j0]
    rw [if_pos trivial, ep]
  · by_cases h2 : (b.length : Int) = 0
    · refine ⟨0, by omega, by omega, by omega, evs 1 fun k hk => ?_⟩
      obtain ⟨k, rfl⟩ : ∃ m, k = m + 1 := ⟨k - 1, by omega⟩
      simp only [spec_l20Rd_pick.f]
      rw [if_neg h1, h2]; simp only [spec_l20Rd_pick.j0]
      rw [if_pos (by first | trivial | rfl), ep]
    · have hlen := hb.1
      have e2 : ((b.length : Int) == 0) = false := by simpa using h2
      by_cases h3 : p < (b.length : Int)
      · refine ⟨Int.tmod (rd b p) n, Int.tmod_nonneg _ (rd_code hb p).1, fun h => Int.tmod_lt_of_pos _ (by omega), by omega, evs 1 fun k hk => ?_⟩
        obtain ⟨k, rfl⟩ : ∃ m, k = m + 1 := ⟨k - 1, by omega⟩
        simp only [spec_l20Rd_pick.f]
        rw [if_neg h1, e2]; simp only [spec_l20Rd_pick.j0]
        rw [if_neg (by simp), ep, ep2, if_pos h3, if_pos h0, if_neg (by omega), eu]
      · have q1 := Int.tmod_nonneg (b.length : Int) h0
        have q2 := Int.tmod_lt_of_pos p (b := (b.length : Int)) (by omega)
        have w7 : wrap64 (wrap64 (p * 7) + 3) = p * 7 + 3 := by rw [wr (x := p * 7) (by omega) (by omega)]; exact wr (by omega) (by omega)
        have q3 := Int.tmod_nonneg (b.length : Int) (show 0 ≤ p * 7 + 3 by omega)
        have q4 := Int.tmod_lt_of_pos (p * 7 + 3) (b := (b.length : Int)) (by omega)
        have r1 := rd_code hb (Int.tmod p b.length)
        have r2 := rd_code hb (Int.tmod (p * 7 + 3) b.length)
        have d1 : 0 ≤ Int.tdiv p b.length ∧ Int.tdiv p b.length ≤ p := by
          rw [Int.tdiv_eq_ediv_of_nonneg h0]
          exact ⟨Int.ediv_nonneg h0 (by omega), Int.ediv_le_self _ h0⟩
        generalize hX : Int.tdiv p b.length = X at d1
        generalize hA : rd b (Int.tmod p b.length) = A at r1
        generalize hB : rd b (Int.tmod (p * 7 + 3) b.length) = B at r2
        have wA0 : wrap64 A = A := wr (by omega) (by omega)
        have wB0 : wrap64 B = B := wr (by omega) (by omega)
        have wA : wrap64 (A * 131) = A * 131 := wr (by omega) (by omega)
        have wB : wrap64 (B * 1117) = B * 1117 := wr (by omega) (by omega)
        have wS : wrap64 (A * 131 + B * 1117) = A * 131 + B * 1117 := wr (by omega) (by omega)
        have wp : wrap64 (p * 29) = p * 29 := wr (by omega) (by omega)
        have wS2 : wrap64 (A * 131 + B * 1117 + p * 29) = A * 131 + B * 1117 + p * 29 := wr (by omega) (by omega)
        have wX : wrap64 X = X := wr (by omega) (by omega)
        have wX2 : wrap64 (X * 53) = X * 53 := wr (by omega) (by omega)
        have wS3 : wrap64 (A * 131 + B * 1117 + p * 29 + X * 53) = A * 131 + B * 1117 + p * 29 + X * 53 := wr (by omega) (by omega)
        have hS : 0 ≤ A * 131 + B * 1117 + p * 29 + X * 53 ∧ A * 131 + B * 1117 + p * 29 + X * 53 ≤ 100000000 := by omega
        generalize hT : A * 131 + B * 1117 + p * 29 + X * 53 = T at hS wS3
        have w64 : wrap64 (Int.tdiv T 64) = T / 64 := by rw [Int.tdiv_eq_ediv_of_nonneg hS.1]; exact wr (by omega) (by omega)
        have hx := xor_pos T (T / 64) hS.1 (by omega) (by omega) (by omega)
        refine ⟨Int.tmod (Go.bits .xor .i64 T (T / 64)) n, Int.tmod_nonneg _ hx.1, fun h => Int.tmod_lt_of_pos _ (by omega), by omega, evs 1 fun k hk => ?_⟩
        obtain ⟨k, rfl⟩ : ∃ m, k = m + 1 := ⟨k - 1, by omega⟩
        simp only [spec_l20Rd_pick.f]
        rw [if_neg h1, e2]; simp only [spec_l20Rd_pick.j0]
        rw [if_neg (by simp), ep, ep2, if_neg h3, if_neg h2, if_pos q1, if_pos q2, w7, if_pos q3, if_pos q4, if_neg (by omega)]
        simp only [eu, hX, hA, hB, wA0, wB0, wA, wB, wS, wp, wS2, wX, wX2, hT, wS3, w64]
theorem pick_pos (b : List Int) (hb : Code b) (p n : Int) (h0 : 0 ≤ p) (hp : p ≤ 1000000) (h1 : 1 ≤ n) (hn : n ≤ 1000000) :
    ∃ v, 0 ≤ v ∧ v < n ∧ Ev (fun k => spec_l20Rd_pick.f k b p n) (v, p + 1) := by
  obtain ⟨v, a, c, _, e⟩ := pick_any b hb p n h0 hp hn
  exact ⟨v, a, c h1, e⟩
theorem in_spec (a b c : Int) : spec_l1In.f a b c = some (decide (b ≤ a ∧ a ≤ c)) := by
  unfold spec_l1In.f
  by_cases h : a ≥ b
  · rw [if_pos h]; simp [show b ≤ a from h]
  · rw [if_neg h]; simp [show ¬ b ≤ a from h]
def ten (p : Int) : Int := if p ≤ 0 then 1 else if p = 1 then 10 else if p = 2 then 100 else 1000
theorem spec_ten (k : Nat) (p : Int) (h0 : 0 ≤ p) (h3 : p ≤ 3) : spec_l1Ten.f (k + 4) p = some (ten p) := by
  rcases (by omega : p = 0 ∨ p = 1 ∨ p = 2 ∨ p = 3) with rfl | rfl | rfl | rfl
  all_goals
    simp only [spec_l1Ten.f, spec_l1Ten.l0]
    simp [wrap64, ten]
theorem ten_bound (p : Int) : 1 ≤ ten p ∧ ten p ≤ 1000 := by
  unfold ten
  repeat' split
  all_goals omega
def decok (n p : Int) : Bool := decide (0 ≤ p ∧ p ≤ 3 ∧ -(9999 * ten p) ≤ n ∧ n ≤ 9999 * ten p)
theorem spec_decok (k : Nat) (n p : Int) : spec_DecOk.f (k + 4) n p = some (decok n p) := by
  unfold spec_DecOk.f decok
  rw [in_spec]
  by_cases h : 0 ≤ p ∧ p ≤ 3
  · have hb := ten_bound p
    rw [decide_eq_true h]
    simp only [Option.bind_some, if_true, spec_ten k p h.1 h.2, in_spec]
    rw [wr (x := -9999 * ten p) (by omega) (by omega), wr (x := 9999 * ten p) (by omega) (by omega)]
    congr 1; rw [decide_eq_decide]; omega
  · rw [decide_eq_false h]
    simp only [Option.bind_some]
    rw [if_neg (by simp)]; congr 1; symm; rw [decide_eq_false_iff_not]; omega
theorem ten_vals (p : Int) : ten p = 1 ∨ ten p = 10 ∨ ten p = 100 ∨ ten p = 1000 := by
  unfold ten
  repeat' split
  all_goals simp
def near (n t : Int) : Int := if n < 0 then -((2 * (-n) + t) / (2 * t)) else (2 * n + t) / (2 * t)
theorem near_bound (n t : Int) (ht : 1 ≤ t ∧ t ≤ 1000) (h0 : 0 ≤ n) : 0 ≤ (2 * n + t) / (2 * t) ∧ (2 * n + t) / (2 * t) ≤ 2 * n + t :=
  ⟨Int.ediv_nonneg (by omega) (by omega), Int.ediv_le_self _ (by omega)⟩
theorem spec_near_pos (n t : Int) (ht : 1 ≤ t ∧ t ≤ 1000) (h0 : 0 ≤ n) (h1 : n ≤ 10000000) (z : Nat) : spec_l1Near.f (z + 1) n t = some ((2 * n + t) / (2 * t)) := by
  have hb := near_bound n t ht h0
  simp only [spec_l1Near.f]
  rw [if_neg (by omega), wr (x := 2 * t) (by omega) (by omega), if_neg (by omega), wr (x := 2 * n) (by omega) (by omega), wr (x := 2 * n + t) (by omega) (by omega), Int.tdiv_eq_ediv_of_nonneg (by omega), wr (x := (2 * n + t) / (2 * t)) (by omega) (by omega)]
theorem spec_near (n t : Int) (ht : 1 ≤ t ∧ t ≤ 1000) (h0 : -10000000 ≤ n) (h1 : n ≤ 10000000) (k : Nat) : spec_l1Near.f (k + 2) n t = some (near n t) := by
  unfold near
  by_cases h : n < 0
  · have e := spec_near_pos (-n) t ht (by omega) (by omega) k
    have hb := near_bound (-n) t ht (by omega)
    rw [if_pos h, show k + 2 = (k + 1) + 1 from rfl]
    generalize k + 1 = z at *
    simp only [spec_l1Near.f]
    rw [if_pos h, wr (x := -n) (by omega) (by omega), e]
    simp only [Option.bind_some]
    rw [wr (by omega) (by omega)]
  · rw [if_neg h]
    exact spec_near_pos n t ht (by omega) h1 (k + 1)
def at_ (n p q : Int) : Int × Int := if q ≥ p then (n * ten (q - p), q) else (near n (ten (p - q)), q)
theorem ok_facts {n p : Int} (h : decok n p = true) : 0 ≤ p ∧ p ≤ 3 ∧ -(9999 * ten p) ≤ n ∧ n ≤ 9999 * ten p ∧ ten p ≤ 1000 := by
  unfold decok at h
  rw [decide_eq_true_eq] at h
  have := ten_bound p
  omega
theorem scale_bound {n p : Int} (h : decok n p = true) (q : Int) : -9999000000 ≤ n * ten q ∧ n * ten q ≤ 9999000000 := by
  have := ok_facts h
  rcases ten_vals q with e | e | e | e <;> rw [e] <;> omega
theorem spec_at (k : Nat) {n p : Int} (h : decok n p = true) (q : Int) (h0 : 0 ≤ q) (h3 : q ≤ 3) : spec_l1At.f (k + 4) n p q = some (at_ n p q) := by
  have ho := ok_facts h
  unfold spec_l1At.f at_
  by_cases hq : q ≥ p
  · have hs := scale_bound h (q - p)
    rw [if_pos hq, if_pos hq, wr (x := q - p) (by omega) (by omega), spec_ten k (q - p) (by omega) (by omega)]
    simp only [Option.bind_some]
    rw [wr (by omega) (by omega)]
  · rw [if_neg hq, if_neg hq, wr (x := p - q) (by omega) (by omega), spec_ten k (p - q) (by omega) (by omega)]
    simp only [Option.bind_some]
    rw [show k + 4 = (k + 2) + 2 from rfl, spec_near n _ (ten_bound _) (by omega) (by omega)]
    rfl
def cmp3 (n p m q : Int) : Int := if decok n p = true ∧ decok m q = true then (if n * ten (3 - p) < m * ten (3 - q) then -1 else if n * ten (3 - p) > m * ten (3 - q) then 1 else 0) else 0
theorem at3 {n p : Int} (h : decok n p = true) : at_ n p 3 = (n * ten (3 - p), 3) := by
  have := ok_facts h
  unfold at_
  rw [if_pos (by omega)]
theorem spec_cmp (k : Nat) (n p m q : Int) : spec_DecCmp.f (k + 5) n p m q = some (cmp3 n p m q) := by
  have no : spec_DecCmp.j0 (k + 5) true n p m q = some 0 := by
    rw [show k + 5 = (k + 4) + 1 from rfl]
    generalize k + 4 = z
    simp only [spec_DecCmp.j0]
    rw [if_pos trivial]
  unfold spec_DecCmp.f cmp3
  rw [show k + 5 = (k + 1) + 4 from rfl, spec_decok]
  simp only [Option.bind_some]
  by_cases h : decok n p = true
  · rw [if_pos h, spec_decok]
    simp only [Option.bind_some]
    by_cases g : decok m q = true
    · have e1 := spec_at k h 3 (by omega) (by omega)
      have e2 := spec_at k g 3 (by omega) (by omega)
      rw [g, if_pos ⟨h, rfl⟩, show k + 1 + 4 = (k + 4) + 1 from rfl]
      generalize k + 4 = z at *
      simp only [spec_DecCmp.j0, e1, e2, Option.bind_some, at3 h, at3 g]
      rw [if_neg (by simp)]
      split <;> (first | rfl | (split <;> rfl))
    · rw [Bool.not_eq_true] at g
      rw [g, if_neg (by simp)]
      exact no
  · rw [if_neg h, if_neg (fun g => h g.1)]
    exact no
theorem dec_draw (b : List Int) (hb : Code b) (p n : Int) (h0 : 0 ≤ p) (hp : p ≤ 800000) (hn : 1 ≤ n) (hn2 : n ≤ 1000000) :
    ∃ x m q, (p ≤ q ∧ q ≤ p + 6) ∧ Ev (fun k => spec_l20Dec.f k b p n) (x, m, q) := by
  obtain ⟨v1, a1, c1, ⟨K1, e1⟩⟩ := pick_pos b hb p 4 h0 (by omega) (by omega) (by omega)
  obtain ⟨v2, a2, c2, ⟨K2, e2⟩⟩ := pick_pos b hb (p + 1) 256 (by omega) (by omega) (by omega) (by omega)
  obtain ⟨v3, a3, c3, ⟨K3, e3⟩⟩ := pick_pos b hb (p + 1 + 1) 9 (by omega) (by omega) (by omega) (by omega)
  obtain ⟨v4, a4, c4, ⟨K4, e4⟩⟩ := pick_pos b hb (p + 1 + 1 + 1) n (by omega) (by omega) hn hn2
  obtain ⟨v5, a5, c5, ⟨K5, e5⟩⟩ := pick_pos b hb (p + 1 + 1 + 1 + 1) 2 (by omega) (by omega) (by omega) (by omega)
  obtain ⟨v6, a6, c6, ⟨K6, e6⟩⟩ := pick_pos b hb (p + 1 + 1 + 1 + 1 + 1) 2 (by omega) (by omega) (by omega) (by omega)
  dsimp only at e1 e2 e3 e4 e5 e6
  have et : ∀ k, 4 ≤ k → spec_l1Ten.f k v1 = some (ten v1) := by
    intro k hk
    have := spec_ten (k - 4) v1 a1 (by omega)
    rwa [show k - 4 + 4 = k by omega] at this
  by_cases h1 : v4 = 0
  · by_cases h2 : v5 = 0
    · refine ⟨rd [0, 5, 15, 149, 995, -25, wrap64 (9999 * ten v1), wrap64 (-9999 * ten v1), wrap64 (v2 * 7)] v3, rd [-1, 4] v6, p + 1 + 1 + 1 + 1 + 1 + 1, by omega, max K1 (max K2 (max K3 (max K4 (max K5 K6)))) + 4, fun k hk => ?_⟩
      unfold spec_l20Dec.f
      simp only [Option.bind_some, e1 k (by omega), e2 k (by omega), e3 k (by omega), e4 k (by omega), et k (by omega)]
      rw [if_pos a3, if_pos (by simpa using c3), if_pos h1, e5 k (by omega)]
      simp only [Option.bind_some]
      rw [if_pos h2, e6 k (by omega)]
      simp only [Option.bind_some]
      rw [if_pos a6, if_pos (by simpa using c6)]
    · refine ⟨rd [wrap64 (wrap64 (9999 * ten v1) + 1), wrap64 (wrap64 (-9999 * ten v1) - 1)] v6, v1, p + 1 + 1 + 1 + 1 + 1 + 1, by omega, max K1 (max K2 (max K3 (max K4 (max K5 K6)))) + 4, fun k hk => ?_⟩
      unfold spec_l20Dec.f
      simp only [Option.bind_some, e1 k (by omega), e2 k (by omega), e3 k (by omega), e4 k (by omega), et k (by omega)]
      rw [if_pos a3, if_pos (by simpa using c3), if_pos h1, e5 k (by omega)]
      simp only [Option.bind_some]
      rw [if_neg h2, e6 k (by omega)]
      simp only [Option.bind_some]
      rw [if_pos a6, if_pos (by simpa using c6)]
  · refine ⟨rd [0, 5, 15, 149, 995, -25, wrap64 (9999 * ten v1), wrap64 (-9999 * ten v1), wrap64 (v2 * 7)] v3, v1, p + 1 + 1 + 1 + 1, by omega, max K1 (max K2 (max K3 K4)) + 4, fun k hk => ?_⟩
    unfold spec_l20Dec.f
    simp only [Option.bind_some, e1 k (by omega), e2 k (by omega), e3 k (by omega), e4 k (by omega), et k (by omega)]
    rw [if_pos a3, if_pos (by simpa using c3), if_neg h1]
theorem ask_draw (b : List Int) (hb : Code b) (p i n : Int) (h0 : 0 ≤ p) (hp : p ≤ 700000) (hn : 1 ≤ n) (hn2 : n ≤ 1000000) :
    ∃ t0 t1 t2 t3 t4 t5 q, (p ≤ q ∧ q ≤ p + 20) ∧ Ev (fun k => spec_l20Ask.f k b p i n) (t0, t1, t2, t3, t4, t5, q) := by
  obtain ⟨v1, a1, c1, ⟨K1, e1⟩⟩ := pick_pos b hb p 3 h0 (by omega) (by omega) (by omega)
  obtain ⟨v2, a2, c2, ⟨K2, e2⟩⟩ := pick_pos b hb (p + 1) 3 (by omega) (by omega) (by omega) (by omega)
  obtain ⟨v3, a3, c3, ⟨K3, e3⟩⟩ := pick_pos b hb (p + 1 + 1) 3 (by omega) (by omega) (by omega) (by omega)
  obtain ⟨v4, a4, c4, ⟨K4, e4⟩⟩ := pick_pos b hb (p + 1 + 1 + 1) n (by omega) (by omega) hn hn2
  obtain ⟨v5, a5, c5, ⟨K5, e5⟩⟩ := pick_pos b hb (p + 1 + 1 + 1 + 1) 4 (by omega) (by omega) (by omega) (by omega)
  obtain ⟨v6, a6, c6, ⟨K6, e6⟩⟩ := pick_pos b hb (p + 1 + 1 + 1 + 1 + 1) 3 (by omega) (by omega) (by omega) (by omega)
  obtain ⟨x, m, q, hq, ⟨K7, e7⟩⟩ := dec_draw b hb (p + 1 + 1 + 1 + 1 + 1) 2 (by omega) (by omega) (by omega) (by omega)
  dsimp only at e1 e2 e3 e4 e5 e6 e7
  have head : ∀ k, max K1 (max K2 (max K3 K4)) ≤ k → spec_l20Ask.f k b p i n = spec_l20Ask.j0 k (v4 == 0) b (p + 1 + 1 + 1 + 1) i (rd [0, 10, (-5)] v1) 1 (rd [20, 100, 15] v2) 1 v3 := by
    intro k hk
    unfold spec_l20Ask.f
    simp only [Option.bind_some, e1 k (by omega), e2 k (by omega), e3 k (by omega), e4 k (by omega)]
    rw [if_pos a1, if_pos (by simpa using c1), if_pos a2, if_pos (by simpa using c2)]
  generalize rd [0, 10, (-5)] v1 = x1 at *
  generalize rd [20, 100, 15] v2 = x2 at *
  by_cases h4 : v4 = 0
  · subst h4
    by_cases g0 : v5 = 0
    · refine ⟨rd [0, 5, 1] v6, x1, 1, x2, 1, v3, p + 1 + 1 + 1 + 1 + 1 + 1, by omega, max K1 (max K2 (max K3 (max K4 (max K5 (max K6 K7))))) + 3, fun k hk => ?_⟩
      dsimp only
      rw [head k (by omega)]
      obtain ⟨z, rfl⟩ : ∃ z, k = z + 1 + 1 := ⟨k - 2, by omega⟩
      rw [spec_l20Ask.j0, if_pos (show ((0 : Int) == 0) = true from rfl), e5 (z + 1) (by omega), Option.bind_some, spec_l20Ask.j1, if_pos g0, Option.bind_some, e6 z (by omega), Option.bind_some, if_pos a6, if_pos (by simpa using c6)]
    · by_cases g1 : v5 = 1
      · refine ⟨i, x, m, x2, 1, v3, q, by omega, max K1 (max K2 (max K3 (max K4 (max K5 (max K6 K7))))) + 3, fun k hk => ?_⟩
        dsimp only
        rw [head k (by omega)]
        obtain ⟨z, rfl⟩ : ∃ z, k = z + 1 + 1 := ⟨k - 2, by omega⟩
        rw [spec_l20Ask.j0, if_pos (show ((0 : Int) == 0) = true from rfl), e5 (z + 1) (by omega), Option.bind_some, spec_l20Ask.j1, if_neg g0, if_pos g1, e7 z (by omega), Option.bind_some]
      · by_cases g2 : v5 = 2
        · refine ⟨i, x1, 1, x, m, v3, q, by omega, max K1 (max K2 (max K3 (max K4 (max K5 (max K6 K7))))) + 3, fun k hk => ?_⟩
          dsimp only
          rw [head k (by omega)]
          obtain ⟨z, rfl⟩ : ∃ z, k = z + 1 + 1 := ⟨k - 2, by omega⟩
          rw [spec_l20Ask.j0, if_pos (show ((0 : Int) == 0) = true from rfl), e5 (z + 1) (by omega), Option.bind_some, spec_l20Ask.j1, if_neg g0, if_neg g1, if_pos g2, e7 z (by omega), Option.bind_some]
        · refine ⟨i, x1, 1, x2, 1, rd [(-1), 4, 3] v6, p + 1 + 1 + 1 + 1 + 1 + 1, by omega, max K1 (max K2 (max K3 (max K4 (max K5 (max K6 K7))))) + 3, fun k hk => ?_⟩
          dsimp only
          rw [head k (by omega)]
          obtain ⟨z, rfl⟩ : ∃ z, k = z + 1 + 1 := ⟨k - 2, by omega⟩
          rw [spec_l20Ask.j0, if_pos (show ((0 : Int) == 0) = true from rfl), e5 (z + 1) (by omega), Option.bind_some, spec_l20Ask.j1, if_neg g0, if_neg g1, if_neg g2, Option.bind_some, e6 z (by omega), Option.bind_some, if_pos a6, if_pos (by simpa using c6)]
  · refine ⟨i, x1, 1, x2, 1, v3, p + 1 + 1 + 1 + 1, by omega, max K1 (max K2 (max K3 (max K4 (max K5 (max K6 K7))))) + 3, fun k hk => ?_⟩
    dsimp only
    rw [head k (by omega)]
    obtain ⟨z, rfl⟩ : ∃ z, k = z + 1 := ⟨k - 1, by omega⟩
    rw [spec_l20Ask.j0, if_neg (by simp [h4])]
theorem tests_draw_end (b : List Int) (hb : Code b) (n : Int) (hn : 1 ≤ n) (hn2 : n ≤ 1000000) (L : List S27) (h1 : 1 ≤ L.length) (hL : L.length ≤ 6) (p : Int) (h0 : 0 ≤ p) (hp : p ≤ 600000) :
    ∃ R q, (1 ≤ R.length ∧ R.length ≤ 7 ∧ p ≤ q ∧ q ≤ p + 1) ∧ Ev (fun k => spec_l20Tests.j1 k n L b p) (R, q) := by
  obtain ⟨v, a, c, ⟨K, e⟩⟩ := pick_pos b hb p n h0 (by omega) hn hn2
  dsimp only at e
  by_cases h2 : v = 0
  · refine ⟨L ++ [⟨(rd_T27 L 0).f0, ⟨(rd_T27 L 0).f1.f0, (rd_T27 L 0).f1.f1⟩, ⟨(rd_T27 L 0).f2.f0, (rd_T27 L 0).f2.f1⟩, (rd_T27 L 0).f3⟩], p + 1, ⟨by simp, by simp; omega, by omega, by omega⟩, K + 1, fun k hk => ?_⟩
    dsimp only
    obtain ⟨z, rfl⟩ : ∃ z, k = z + 1 := ⟨k - 1, by omega⟩
    rw [spec_l20Tests.j1, e z (by omega), Option.bind_some, if_pos h2, if_pos (by omega), if_pos (by omega)]
  · refine ⟨L, p + 1, ⟨by omega, by omega, by omega, by omega⟩, K + 1, fun k hk => ?_⟩
    dsimp only
    obtain ⟨z, rfl⟩ : ∃ z, k = z + 1 := ⟨k - 1, by omega⟩
    rw [spec_l20Tests.j1, e z (by omega), Option.bind_some, if_neg h2]
theorem tests_draw_loop (b : List Int) (hb : Code b) (n : Int) (hn : 1 ≤ n) (hn2 : n ≤ 1000000) (d : Nat) : ∀ (i p : Int) (L : List S27), 5 - i = d → i ≤ 5 → 1 ≤ i → L.length + d ≤ 4 → 0 ≤ p → p + 30 * d ≤ 590000 →
    ∃ R q, (1 ≤ R.length ∧ R.length ≤ 7 ∧ p ≤ q ∧ q ≤ p + 30 * d + 30) ∧ Ev (fun k => spec_l20Tests.l0 k n L i b p) (R, q) := by
  induction d with
  | zero =>
    intro i p L hd hi5 hi1 hL h0 hp
    by_cases hz : (L.length : Int) = 0
    · obtain ⟨t0, t1, t2, t3, t4, t5, q1, hq1, ⟨K1, e1⟩⟩ := ask_draw b hb p 2 9999 h0 (by omega) (by omega) (by omega)
      obtain ⟨R, q, hq, ⟨K2, e2⟩⟩ := tests_draw_end b hb n hn hn2 (L ++ [⟨t0, ⟨t1, t2⟩, ⟨t3, t4⟩, t5⟩]) (by simp) (by simp; omega) q1 (by omega) (by omega)
      dsimp only at e1 e2
      refine ⟨R, q, ⟨by omega, by omega, by omega, by omega⟩, max K1 K2 + 1, fun k hk => ?_⟩
      dsimp only
      obtain ⟨z, rfl⟩ : ∃ z, k = z + 1 := ⟨k - 1, by omega⟩
      rw [spec_l20Tests.l0, if_neg (by omega), if_pos hz, e1 z (by omega), Option.bind_some, if_pos (by omega)]
      exact e2 z (by omega)
    · obtain ⟨R, q, hq, ⟨K2, e2⟩⟩ := tests_draw_end b hb n hn hn2 L (by omega) (by omega) p (by omega) (by omega)
      dsimp only at e2
      refine ⟨R, q, ⟨by omega, by omega, by omega, by omega⟩, K2 + 1, fun k hk => ?_⟩
      dsimp only
      obtain ⟨z, rfl⟩ : ∃ z, k = z + 1 := ⟨k - 1, by omega⟩
      rw [spec_l20Tests.l0, if_neg (by omega), if_neg hz]
      exact e2 z (by omega)
  | succ d ih =>
    intro i p L hd hi5 hi1 hL h0 hp
    obtain ⟨v, a, c, ⟨K, e⟩⟩ := pick_pos b hb p 2 h0 (by omega) (by omega) (by omega)
    dsimp only at e
    by_cases hv : v = 0
    · obtain ⟨t0, t1, t2, t3, t4, t5, q1, hq1, ⟨K1, e1⟩⟩ := ask_draw b hb (p + 1) i n (by omega) (by omega) hn hn2
      obtain ⟨R, q, hq, ⟨K2, e2⟩⟩ := ih (i + 1) q1 (L ++ [⟨t0, ⟨t1, t2⟩, ⟨t3, t4⟩, t5⟩]) (by omega) (by omega) (by omega) (by simp; omega) (by omega) (by omega)
      dsimp only at e1 e2
      refine ⟨R, q, ⟨by omega, by omega, by omega, by omega⟩, max K (max K1 K2) + 1, fun k hk => ?_⟩
      dsimp only
      obtain ⟨z, rfl⟩ : ∃ z, k = z + 1 := ⟨k - 1, by omega⟩
      rw [spec_l20Tests.l0, if_pos (by omega), e z (by omega), Option.bind_some, if_pos hv, e1 z (by omega), Option.bind_some, if_pos (by omega), wr (x := i + 1) (by omega) (by omega)]
      exact e2 z (by omega)
    · obtain ⟨R, q, hq, ⟨K2, e2⟩⟩ := ih (i + 1) (p + 1) L (by omega) (by omega) (by omega) (by omega) (by omega) (by omega)
      dsimp only at e2
      refine ⟨R, q, ⟨by omega, by omega, by omega, by omega⟩, max K K2 + 1, fun k hk => ?_⟩
      dsimp only
      obtain ⟨z, rfl⟩ : ∃ z, k = z + 1 := ⟨k - 1, by omega⟩
      rw [spec_l20Tests.l0, if_pos (by omega), e z (by omega), Option.bind_some, if_neg hv, wr (x := i + 1) (by omega) (by omega)]
      exact e2 z (by omega)
theorem tests_draw (b : List Int) (hb : Code b) (n p : Int) (hn : 1 ≤ n) (hn2 : n ≤ 1000000) (h0 : 0 ≤ p) (hp : p ≤ 500000) :
    ∃ R q, (1 ≤ R.length ∧ R.length ≤ 7 ∧ p ≤ q ∧ q ≤ p + 150) ∧ Ev (fun k => spec_l20Tests.f k b p n) (R, q) := by
  obtain ⟨R, q, hq, e⟩ := tests_draw_loop b hb n hn hn2 4 1 p [] (by omega) (by omega) (by omega) (by simp) h0 (by omega)
  exact ⟨R, q, ⟨by omega, by omega, by omega, by omega⟩, e⟩
def fs (l : List S62) : Nat → Int → Int
  | 0, _ => -1
  | n + 1, i => if (rd_T62 l i).f1 = 2 then i else fs l n (i + 1)
theorem snow_loop (l : List S62) (hl : l.length ≤ 4611686018427387904) (d : Nat) : ∀ (k : Nat) (i : Int), 0 ≤ i → (l.length : Int) - i = d → spec_SpcNow.l0 (k + 1 + d) l i = some (fs l d i) := by
  induction d with
  | zero =>
    intro k i h0 hd
    simp only [Nat.add_zero, spec_SpcNow.l0, fs]
    rw [if_neg (by omega)]
  | succ d ih =>
    intro k i h0 hd
    rw [show k + 1 + (d + 1) = (k + 1 + d) + 1 by omega]
    simp only [spec_SpcNow.l0, fs]
    rw [if_pos (by omega), if_pos h0, wr (x := i + 1) (by omega) (by omega), ih k (i + 1) (by omega) (by omega)]
    split <;> rfl
theorem inow_loop (l : List S62) (hl : l.length ≤ 4611686018427387904) (d : Nat) : ∀ (k : Nat) (i : Int), 0 ≤ i → (l.length : Int) - i = d → impl_SpcNow.l0 (k + 1 + d) l i = some (fs l d i) := by
  induction d with
  | zero =>
    intro k i h0 hd
    simp only [Nat.add_zero, impl_SpcNow.l0, fs]
    rw [if_neg (by omega)]
  | succ d ih =>
    intro k i h0 hd
    rw [show k + 1 + (d + 1) = (k + 1 + d) + 1 by omega]
    simp only [impl_SpcNow.l0, fs]
    rw [if_pos (by omega), if_pos h0, wr (x := i + 1) (by omega) (by omega), ih k (i + 1) (by omega) (by omega)]
    split <;> rfl
def l3v (a b c d e f : Int) : Bool := decide (1 ≤ a ∧ a ≤ 4) && (decok b c && (decok d e && (decide (cmp3 b c d e ≤ 0) && decide (0 ≤ f ∧ f ≤ 3))))
theorem l3_ok (k : Nat) (hk : 10 ≤ k) (a b c d e f : Int) : spec_l3Test.f k a b c d e f = some (l3v a b c d e f) := by
  have o1 := spec_decok (k - 4) b c
  have o2 := spec_decok (k - 4) d e
  have o3 := spec_cmp (k - 5) b c d e
  rw [show k - 4 + 4 = k by omega] at o1 o2
  rw [show k - 5 + 5 = k by omega] at o3
  unfold spec_l3Test.f l3v
  rw [in_spec, Option.bind_some]
  by_cases h1 : 1 ≤ a ∧ a ≤ 4
  · rw [decide_eq_true h1, if_pos rfl, o1, Option.bind_some, Bool.true_and]
    by_cases h2 : decok b c = true
    · rw [if_pos h2, h2, o2, Option.bind_some, Bool.true_and]
      by_cases h3 : decok d e = true
      · rw [if_pos h3, h3, o3, Option.bind_some, Bool.true_and]
        by_cases h4 : cmp3 b c d e ≤ 0
        · rw [if_pos h4, decide_eq_true h4, in_spec, Option.bind_some, Bool.true_and]
        · rw [if_neg h4, decide_eq_false h4, Bool.false_and]
      · rw [if_neg h3, Bool.eq_false_iff.mpr h3, Bool.false_and]
    · rw [if_neg h2, Bool.eq_false_iff.mpr h2, Bool.false_and]
  · rw [decide_eq_false h1, if_neg (by simp), Bool.false_and]
theorem tests_ok_loop (l : List S27) (hl : l.length ≤ 7) (d : Nat) : ∀ i : Int, 0 ≤ i → (l.length : Int) - i = d → ∃ b : Bool, ∀ k, 12 + 2 * d ≤ k → spec_SpcTestsOk.l0 k l i = some b := by
  induction d with
  | zero =>
    intro i h0 hd
    refine ⟨true, fun k hk => ?_⟩
    obtain ⟨z, rfl⟩ : ∃ z, k = z + 1 := ⟨k - 1, by omega⟩
    rw [spec_SpcTestsOk.l0, if_neg (by omega)]
  | succ d ih =>
    intro i h0 hd
    obtain ⟨b, hb⟩ := ih (i + 1) (by omega) (by omega)
    have j : ∀ g : Bool, ∃ b' : Bool, ∀ k, 12 + 2 * d + 1 ≤ k → spec_SpcTestsOk.j1 k l i g = some b' := by
      intro g
      cases g with
      | true =>
        refine ⟨false, fun k hk => ?_⟩
        obtain ⟨z, rfl⟩ : ∃ z, k = z + 1 := ⟨k - 1, by omega⟩
        rw [spec_SpcTestsOk.j1, if_pos rfl]
      | false =>
        refine ⟨b, fun k hk => ?_⟩
        obtain ⟨z, rfl⟩ : ∃ z, k = z + 1 := ⟨k - 1, by omega⟩
        rw [spec_SpcTestsOk.j1, if_neg (by simp), wr (x := i + 1) (by omega) (by omega)]
        exact hb z (by omega)
    by_cases t : l3v (rd_T27 l i).f0 (rd_T27 l i).f1.f0 (rd_T27 l i).f1.f1 (rd_T27 l i).f2.f0 (rd_T27 l i).f2.f1 (rd_T27 l i).f3 = true
    · by_cases c : i > 0
      · obtain ⟨b', hb'⟩ := j (decide ((rd_T27 l (i - 1)).f0 ≥ (rd_T27 l i).f0))
        refine ⟨b', fun k hk => ?_⟩
        obtain ⟨z, rfl⟩ : ∃ z, k = z + 1 := ⟨k - 1, by omega⟩
        rw [spec_SpcTestsOk.l0, if_pos (by omega), if_pos h0, l3_ok z (by omega), Option.bind_some, if_pos t, if_pos c, wr (x := i - 1) (by omega) (by omega), if_pos (by omega), if_pos (by omega)]
        exact hb' z (by omega)
      · obtain ⟨b', hb'⟩ := j false
        refine ⟨b', fun k hk => ?_⟩
        obtain ⟨z, rfl⟩ : ∃ z, k = z + 1 := ⟨k - 1, by omega⟩
        rw [spec_SpcTestsOk.l0, if_pos (by omega), if_pos h0, l3_ok z (by omega), Option.bind_some, if_pos t, if_neg c]
        exact hb' z (by omega)
    · obtain ⟨b', hb'⟩ := j true
      refine ⟨b', fun k hk => ?_⟩
      obtain ⟨z, rfl⟩ : ∃ z, k = z + 1 := ⟨k - 1, by omega⟩
      rw [spec_SpcTestsOk.l0, if_pos (by omega), if_pos h0, l3_ok z (by omega), Option.bind_some, if_neg t]
      exact hb' z (by omega)
theorem tests_ok (l : List S27) (hl : l.length ≤ 7) : ∃ b : Bool, ∀ k, 40 ≤ k → spec_SpcTestsOk.f k l = some b := by
  obtain ⟨b, hb⟩ := tests_ok_loop l hl l.length 0 (by omega) (by omega)
  by_cases h : 1 ≤ (l.length : Int) ∧ (l.length : Int) ≤ 4
  · refine ⟨b, fun k hk => ?_⟩
    unfold spec_SpcTestsOk.f
    rw [in_spec, decide_eq_true h, Option.bind_some, if_pos rfl]
    exact hb k (by omega)
  · refine ⟨false, fun k hk => ?_⟩
    unfold spec_SpcTestsOk.f
    rw [in_spec, decide_eq_false h, Option.bind_some, if_neg (by simp)]
def Sm (L : List S62) (c : Nat) : Prop := L.length ≤ c ∧ ∀ z ∈ L, z.f0.length ≤ 7
theorem rd_spec_mem (l : List S62) (i : Int) (h0 : 0 ≤ i) (h : i < l.length) : rd_T62 l i ∈ l := by
  unfold rd_T62
  rw [List.getD_eq_getElem?_getD, List.getElem?_eq_getElem (by omega)]
  exact List.getElem_mem _
theorem specs_ok_loop (L : List S62) (hL : Sm L 5) (d : Nat) : ∀ i c : Int, 0 ≤ i → (L.length : Int) - i = d → ∃ b : Bool, ∀ k, 42 + 2 * d ≤ k → spec_SpcOk.l0 k L c i = some b := by
  have h5 := hL.1
  induction d with
  | zero =>
    intro i c h0 hd
    refine ⟨decide (c ≤ 1), fun k hk => ?_⟩
    obtain ⟨z, rfl⟩ : ∃ z, k = z + 1 := ⟨k - 1, by omega⟩
    rw [spec_SpcOk.l0, if_neg (by omega)]
  | succ d ih =>
    intro i c h0 hd
    obtain ⟨t, ht⟩ := tests_ok (rd_T62 L i).f0 (hL.2 _ (rd_spec_mem L i h0 (by omega)))
    have j : ∀ g : Bool, ∃ b' : Bool, ∀ k, 42 + 2 * d + 1 ≤ k → spec_SpcOk.j1 k L c i g = some b' := by
      intro g
      cases g with
      | true =>
        refine ⟨false, fun k hk => ?_⟩
        obtain ⟨z, rfl⟩ : ∃ z, k = z + 1 := ⟨k - 1, by omega⟩
        rw [spec_SpcOk.j1, if_pos rfl]
      | false =>
        by_cases h2 : (rd_T62 L i).f1 = 2
        · obtain ⟨b, hb⟩ := ih (i + 1) (wrap64 (c + 1)) (by omega) (by omega)
          refine ⟨b, fun k hk => ?_⟩
          obtain ⟨z, rfl⟩ : ∃ z, k = z + 1 := ⟨k - 1, by omega⟩
          rw [spec_SpcOk.j1, if_neg (by simp), if_pos h0, if_pos (by omega), if_pos h2, wr (x := i + 1) (by omega) (by omega)]
          exact hb z (by omega)
        · obtain ⟨b, hb⟩ := ih (i + 1) c (by omega) (by omega)
          refine ⟨b, fun k hk => ?_⟩
          obtain ⟨z, rfl⟩ : ∃ z, k = z + 1 := ⟨k - 1, by omega⟩
          rw [spec_SpcOk.j1, if_neg (by simp), if_pos h0, if_pos (by omega), if_neg h2, wr (x := i + 1) (by omega) (by omega)]
          exact hb z (by omega)
    by_cases g : t = true
    · obtain ⟨b', hb'⟩ := j (!decide (1 ≤ (rd_T62 L i).f1 ∧ (rd_T62 L i).f1 ≤ 3))
      refine ⟨b', fun k hk => ?_⟩
      obtain ⟨z, rfl⟩ : ∃ z, k = z + 1 := ⟨k - 1, by omega⟩
      rw [spec_SpcOk.l0, if_pos (by omega), if_pos h0, ht z (by omega), Option.bind_some, if_pos g, in_spec, Option.bind_some]
      exact hb' z (by omega)
    · obtain ⟨b', hb'⟩ := j true
      refine ⟨b', fun k hk => ?_⟩
      obtain ⟨z, rfl⟩ : ∃ z, k = z + 1 := ⟨k - 1, by omega⟩
      rw [spec_SpcOk.l0, if_pos (by omega), if_pos h0, ht z (by omega), Option.bind_some, if_neg g]
      exact hb' z (by omega)
theorem specs_ok (L : List S62) (hL : Sm L 5) : ∃ b : Bool, ∀ k, 60 ≤ k → spec_SpcOk.f k L = some b := by
  obtain ⟨b, hb⟩ := specs_ok_loop L hL L.length 0 0 (by omega) (by omega)
  have h5 := hL.1
  refine ⟨b, fun k hk => ?_⟩
  unfold spec_SpcOk.f
  rw [if_neg (by omega)]
  exact hb k (by omega)
theorem copy_loop (L : List S62) (hL : Sm L 5) (d : Nat) : ∀ (i k : Nat), L.length - i = d → i ≤ L.length → 1 + d ≤ k → spec_l3Copy.l0 k L (L.take i) i = some L := by
  have h5 := hL.1
  induction d with
  | zero =>
    intro i k hd hi hk
    obtain ⟨z, rfl⟩ : ∃ z, k = z + 1 := ⟨k - 1, by omega⟩
    rw [spec_l3Copy.l0, if_neg (by omega), List.take_of_length_le (by omega)]
  | succ d ih =>
    intro i k hd hi hk
    obtain ⟨z, rfl⟩ : ∃ z, k = z + 1 := ⟨k - 1, by omega⟩
    have hm := hL.2 _ (rd_spec_mem L i (by omega) (by omega))
    have ht : (L.take i).length < 4398046511104 := by rw [List.length_take]; omega
    have e : L.take (i + 1) = L.take i ++ [⟨(([] : List S27) ++ (rd_T62 L i).f0), (rd_T62 L i).f1⟩] := by
      rw [List.take_succ_eq_append_getElem (by omega)]
      unfold rd_T62
      rw [List.getD_eq_getElem?_getD, Int.toNat_natCast, List.getElem?_eq_getElem (by omega)]
      rfl
    have := ih (i + 1) z (by omega) (by omega) (by omega)
    rw [e] at this
    rw [spec_l3Copy.l0, if_pos (by omega), Option.bind_some, if_pos (by omega), if_pos (by simp; omega), if_pos ht, wr (x := (i : Int) + 1) (by omega) (by omega)]
    exact this
theorem copy_specs (L : List S62) (hL : Sm L 5) (k : Nat) (hk : 10 ≤ k) : spec_l3Copy.f k L = some L := by
  have h5 := hL.1
  exact copy_loop L hL L.length 0 k (by omega) (by omega) (by omega)
theorem add_spec (L : List S62) (c : Nat) (hc : c ≤ 4) (hL : Sm L c) (T : List S27) (hT : T.length ≤ 7) : ∃ R ok, Sm R (c + 1) ∧ ∀ k, 100 ≤ k → spec_SpcAdd.f k L T = some (R, ok) := by
  have hL5 : Sm L 5 := ⟨by have := hL.1; omega, hL.2⟩
  have hl := hL.1
  have hL' : Sm L (c + 1) := ⟨by omega, hL.2⟩
  obtain ⟨b, hb⟩ := specs_ok L hL5
  obtain ⟨t, ht⟩ := tests_ok T hT
  have j : ∀ g : Bool, ∃ R ok, Sm R (c + 1) ∧ ∀ k, 10 ≤ k → spec_SpcAdd.j0 k T L g = some (R, ok) := by
    intro g
    cases g with
    | true =>
      refine ⟨L, false, hL', fun k hk => ?_⟩
      obtain ⟨z, rfl⟩ : ∃ z, k = z + 1 := ⟨k - 1, by omega⟩
      rw [spec_SpcAdd.j0, if_pos rfl]
    | false =>
      refine ⟨L ++ [⟨(([] : List S27) ++ T), 1⟩], true, ⟨by simp; omega, fun z hz => ?_⟩, fun k hk => ?_⟩
      · rcases List.mem_append.mp hz with h | h
        · exact hL.2 z h
        · rw [List.mem_singleton.mp h]; simpa using hT
      · obtain ⟨z, rfl⟩ : ∃ z, k = z + 1 := ⟨k - 1, by omega⟩
        rw [spec_SpcAdd.j0, if_neg (by simp), Option.bind_some, if_pos (by simp; omega), if_pos (by omega)]
  by_cases hb1 : b = true
  · by_cases ht1 : t = true
    · obtain ⟨R, ok, hR, e⟩ := j ((L.length : Int) == 6)
      refine ⟨R, ok, hR, fun k hk => ?_⟩
      unfold spec_SpcAdd.f
      rw [copy_specs L hL5 k (by omega), Option.bind_some, hb k (by omega), Option.bind_some, if_pos hb1, ht k (by omega), Option.bind_some, if_pos ht1]
      exact e k (by omega)
    · obtain ⟨R, ok, hR, e⟩ := j true
      refine ⟨R, ok, hR, fun k hk => ?_⟩
      unfold spec_SpcAdd.f
      rw [copy_specs L hL5 k (by omega), Option.bind_some, hb k (by omega), Option.bind_some, if_pos hb1, ht k (by omega), Option.bind_some, if_neg ht1]
      exact e k (by omega)
  · obtain ⟨R, ok, hR, e⟩ := j true
    refine ⟨R, ok, hR, fun k hk => ?_⟩
    unfold spec_SpcAdd.f
    rw [copy_specs L hL5 k (by omega), Option.bind_some, hb k (by omega), Option.bind_some, if_neg hb1]
    exact e k (by omega)
theorem sm_set {L : List S62} {c : Nat} (hL : Sm L c) (i : Nat) (s : S62) (hs : s.f0.length ≤ 7) : Sm (L.set i s) c := by
  refine ⟨by rw [List.length_set]; exact hL.1, fun z hz => ?_⟩
  rcases List.mem_or_eq_of_mem_set hz with h | h
  · exact hL.2 z h
  · rw [h]; exact hs
theorem raise_loop (c : Nat) (hc : c ≤ 5) (n : Nat) (a : Int) (a0 : 0 ≤ a) (an : a < n) (d : Nat) : ∀ (i : Int) (X : List S62), X.length = n → Sm X c → 0 ≤ i → (n : Int) - i = d → ∃ R, Sm R c ∧ ∀ k, 1 + d ≤ k → spec_SpcRaise.l0 k a X i = some (R, true) := by
  induction d with
  | zero =>
    intro i X hX hS h0 hd
    refine ⟨X.set a.toNat ⟨(rd_T62 X a).f0, 2⟩, sm_set hS _ _ (show (rd_T62 X a).f0.length ≤ 7 from hS.2 (rd_T62 X a) (rd_spec_mem X a a0 (by omega))), fun k hk => ?_⟩
    obtain ⟨z, rfl⟩ : ∃ z, k = z + 1 := ⟨k - 1, by omega⟩
    rw [spec_SpcRaise.l0, if_neg (by omega), if_pos a0, if_pos (by omega)]
  | succ d ih =>
    intro i X hX hS h0 hd
    have hn := hS.1
    by_cases h2 : (rd_T62 X i).f1 = 2
    · obtain ⟨R, hR, e⟩ := ih (i + 1) (X.set i.toNat ⟨(rd_T62 X i).f0, 3⟩) (by rw [List.length_set]; exact hX) (sm_set hS _ _ (show (rd_T62 X i).f0.length ≤ 7 from hS.2 (rd_T62 X i) (rd_spec_mem X i h0 (by omega)))) (by omega) (by omega)
      refine ⟨R, hR, fun k hk => ?_⟩
      obtain ⟨z, rfl⟩ : ∃ z, k = z + 1 := ⟨k - 1, by omega⟩
      rw [spec_SpcRaise.l0, if_pos (by omega), if_pos h0, if_pos h2, wr (x := i + 1) (by omega) (by omega)]
      exact e z (by omega)
    · obtain ⟨R, hR, e⟩ := ih (i + 1) X hX hS (by omega) (by omega)
      refine ⟨R, hR, fun k hk => ?_⟩
      obtain ⟨z, rfl⟩ : ∃ z, k = z + 1 := ⟨k - 1, by omega⟩
      rw [spec_SpcRaise.l0, if_pos (by omega), if_pos h0, if_neg h2, wr (x := i + 1) (by omega) (by omega)]
      exact e z (by omega)
theorem raise_spec (L : List S62) (c : Nat) (hc : c ≤ 5) (hL : Sm L c) (a : Int) : ∃ R ok, Sm R c ∧ ∀ k, 100 ≤ k → spec_SpcRaise.f k L a = some (R, ok) := by
  have hl := hL.1
  have hL5 : Sm L 5 := ⟨by omega, hL.2⟩
  obtain ⟨b, hb⟩ := specs_ok L hL5
  have jt : ∀ k, 10 ≤ k → spec_SpcRaise.j0 k a L true = some (L, false) := by
    intro k hk
    obtain ⟨z, rfl⟩ : ∃ z, k = z + 1 := ⟨k - 1, by omega⟩
    rw [spec_SpcRaise.j0, if_pos rfl]
  by_cases hb1 : b = true
  · by_cases h : 0 ≤ a ∧ a ≤ (L.length : Int) - 1
    · have j : ∀ g : Bool, ∃ R ok, Sm R c ∧ ∀ k, 10 ≤ k → spec_SpcRaise.j0 k a L g = some (R, ok) := by
        intro g
        cases g with
        | true => exact ⟨L, false, hL, jt⟩
        | false =>
          obtain ⟨R, hR, e⟩ := raise_loop c hc L.length a h.1 (by omega) L.length 0 L rfl hL (by omega) (by omega)
          refine ⟨R, true, hR, fun k hk => ?_⟩
          obtain ⟨z, rfl⟩ : ∃ z, k = z + 1 := ⟨k - 1, by omega⟩
          rw [spec_SpcRaise.j0, if_neg (by simp)]
          exact e z (by omega)
      obtain ⟨R, ok, hR, e⟩ := j ((rd_T62 L a).f1 != 1)
      refine ⟨R, ok, hR, fun k hk => ?_⟩
      unfold spec_SpcRaise.f
      rw [copy_specs L hL5 k (by omega), Option.bind_some, hb k (by omega), Option.bind_some, if_pos hb1, wr (x := (L.length : Int) - 1) (by omega) (by omega), in_spec, decide_eq_true h, Option.bind_some, if_pos rfl, if_pos h.1, if_pos (by omega)]
      exact e k (by omega)
    · refine ⟨L, false, hL, fun k hk => ?_⟩
      unfold spec_SpcRaise.f
      rw [copy_specs L hL5 k (by omega), Option.bind_some, hb k (by omega), Option.bind_some, if_pos hb1, wr (x := (L.length : Int) - 1) (by omega) (by omega), in_spec, decide_eq_false h, Option.bind_some, if_neg (by simp)]
      exact jt k (by omega)
  · refine ⟨L, false, hL, fun k hk => ?_⟩
    unfold spec_SpcRaise.f
    rw [copy_specs L hL5 k (by omega), Option.bind_some, hb k (by omega), Option.bind_some, if_neg hb1]
    exact jt k (by omega)
theorem specs_end (b : List Int) (hb : Code b) (L : List S62) (hL : Sm L 4) (p : Int) (h0 : 0 ≤ p) (hp : p ≤ 400000) (g : Bool) (hg : g = true → 0 < L.length) :
    ∃ R q, List.length R ≤ 4 ∧ ∃ K, ∀ k, K ≤ k → spec_l20Specs.j2 k L g b p = some (R, q) := by
  have h4 := hL.1
  cases g with
  | false =>
    refine ⟨L, p, h4, 1, fun k hk => ?_⟩
    obtain ⟨z, rfl⟩ : ∃ z, k = z + 1 := ⟨k - 1, by omega⟩
    rw [spec_l20Specs.j2, if_neg (by simp)]
  | true =>
    have hl := hg rfl
    obtain ⟨v1, a1, c1, ⟨K1, e1⟩⟩ := pick_pos b hb p (L.length : Int) h0 (by omega) (by omega) (by omega)
    obtain ⟨v2, a2, c2, ⟨K2, e2⟩⟩ := pick_pos b hb (p + 1) 2 (by omega) (by omega) (by omega) (by omega)
    obtain ⟨v3, a3, c3, ⟨K3, e3⟩⟩ := pick_pos b hb (p + 1 + 1) 3 (by omega) (by omega) (by omega) (by omega)
    obtain ⟨T, q, hq, ⟨K4, e4⟩⟩ := tests_draw b hb 1 (p + 1 + 1) (by omega) (by omega) (by omega) (by omega)
    dsimp only at e1 e2 e3 e4
    by_cases hv : v2 = 0
    · refine ⟨L.set v1.toNat ⟨(rd_T62 L v1).f0, rd [0, 4, 2] v3⟩, p + 1 + 1 + 1, by rw [List.length_set]; exact h4, max K1 (max K2 K3) + 1, fun k hk => ?_⟩
      obtain ⟨z, rfl⟩ : ∃ z, k = z + 1 := ⟨k - 1, by omega⟩
      rw [spec_l20Specs.j2, if_pos rfl, e1 z (by omega), Option.bind_some, e2 z (by omega), Option.bind_some, if_pos hv, Option.bind_some, e3 z (by omega), Option.bind_some, if_pos a3, if_pos (by simpa using c3), if_pos a1, if_pos c1]
    · refine ⟨L.set v1.toNat ⟨T, (rd_T62 L v1).f1⟩, q, by rw [List.length_set]; exact h4, max K1 (max K2 K4) + 1, fun k hk => ?_⟩
      obtain ⟨z, rfl⟩ : ∃ z, k = z + 1 := ⟨k - 1, by omega⟩
      rw [spec_l20Specs.j2, if_pos rfl, e1 z (by omega), Option.bind_some, e2 z (by omega), Option.bind_some, if_neg hv, e4 z (by omega), Option.bind_some, if_pos a1, if_pos c1]
theorem specs_loop (b : List Int) (hb : Code b) (n : Int) (hn : 1 ≤ n) (hn2 : n ≤ 1000000) (c : Nat) : ∀ (L : List S62) (m : Nat) (p : Int), Sm L m → m + c ≤ 4 → 0 ≤ p → p + 200 * c ≤ 300000 →
    ∃ R q, List.length R ≤ 4 ∧ ∃ K, ∀ k, K ≤ k → spec_l20Specs.l0 k n L c b p = some (R, q) := by
  induction c with
  | zero =>
    intro L m p hL hm h0 hp
    have hl := hL.1
    have hL4 : Sm L 4 := ⟨by omega, hL.2⟩
    by_cases hz : (L.length : Int) > 0
    · obtain ⟨v, a, c, ⟨K, e⟩⟩ := pick_pos b hb p n h0 (by omega) hn hn2
      obtain ⟨R, q, hR, K2, e2⟩ := specs_end b hb L hL4 (p + 1) (by omega) (by omega) (v == 0) (fun _ => by omega)
      dsimp only at e
      refine ⟨R, q, hR, max K K2 + 1, fun k hk => ?_⟩
      obtain ⟨z, rfl⟩ : ∃ z, k = z + 1 := ⟨k - 1, by omega⟩
      rw [spec_l20Specs.l0, if_neg (by omega), if_pos hz, e z (by omega), Option.bind_some]
      exact e2 z (by omega)
    · obtain ⟨R, q, hR, K2, e2⟩ := specs_end b hb L hL4 p (by omega) (by omega) false (fun h => by simp at h)
      refine ⟨R, q, hR, K2 + 1, fun k hk => ?_⟩
      obtain ⟨z, rfl⟩ : ∃ z, k = z + 1 := ⟨k - 1, by omega⟩
      rw [spec_l20Specs.l0, if_neg (by omega), if_neg hz]
      exact e2 z (by omega)
  | succ c ih =>
    intro L m p hL hm h0 hp
    obtain ⟨T, q, hq, ⟨K1, e1⟩⟩ := tests_draw b hb 9999 p (by omega) (by omega) h0 (by omega)
    obtain ⟨A, ok, hA, ea⟩ := add_spec L m (by omega) hL T hq.2.1
    dsimp only at e1
    have wc : wrap64 (((c + 1 : Nat) : Int) - 1) = c := by rw [wr (by omega) (by omega)]; omega
    have j : ∀ X, Sm X (m + 1) → ∃ R q', List.length R ≤ 4 ∧ ∃ K, ∀ k, K ≤ k → spec_l20Specs.j1 k n X ((c + 1 : Nat) : Int) b q = some (R, q') := by
      intro X hX
      have hx := hX.1
      obtain ⟨v, a, c2, ⟨K2, e2⟩⟩ := pick_pos b hb q 2 (by omega) (by omega) (by omega) (by omega)
      obtain ⟨u, a3, c3, ⟨K3, e3⟩⟩ := pick_pos b hb (q + 1) ((X.length : Int) + 1) (by omega) (by omega) (by omega) (by omega)
      obtain ⟨Y, ok2, hY, ey⟩ := raise_spec X (m + 1) (by omega) hX u
      dsimp only at e2 e3
      by_cases hv : v = 0
      · obtain ⟨R, q', hR, K4, e4⟩ := ih Y (m + 1) (q + 1 + 1) hY (by omega) (by omega) (by omega)
        refine ⟨R, q', hR, max K2 (max K3 (max K4 100)) + 1, fun k hk => ?_⟩
        obtain ⟨z, rfl⟩ : ∃ z, k = z + 1 := ⟨k - 1, by omega⟩
        rw [spec_l20Specs.j1, e2 z (by omega), Option.bind_some, if_pos hv, wr (x := (X.length : Int) + 1) (by omega) (by omega), e3 z (by omega), Option.bind_some, ey z (by omega), Option.bind_some, wc]
        exact e4 z (by omega)
      · obtain ⟨R, q', hR, K4, e4⟩ := ih X (m + 1) (q + 1) hX (by omega) (by omega) (by omega)
        refine ⟨R, q', hR, max K2 K4 + 1, fun k hk => ?_⟩
        obtain ⟨z, rfl⟩ : ∃ z, k = z + 1 := ⟨k - 1, by omega⟩
        rw [spec_l20Specs.j1, e2 z (by omega), Option.bind_some, if_neg hv, wc]
        exact e4 z (by omega)
    by_cases hok : ok = true
    · obtain ⟨R, q', hR, K2, e2⟩ := j A hA
      refine ⟨R, q', hR, max K1 (max K2 100) + 1, fun k hk => ?_⟩
      obtain ⟨z, rfl⟩ : ∃ z, k = z + 1 := ⟨k - 1, by omega⟩
      rw [spec_l20Specs.l0, if_pos (by omega), e1 z (by omega), Option.bind_some, ea z (by omega), Option.bind_some, if_pos hok]
      exact e2 z (by omega)
    · obtain ⟨R, q', hR, K2, e2⟩ := j L ⟨by have := hL.1; omega, hL.2⟩
      refine ⟨R, q', hR, max K1 (max K2 100) + 1, fun k hk => ?_⟩
      obtain ⟨z, rfl⟩ : ∃ z, k = z + 1 := ⟨k - 1, by omega⟩
      rw [spec_l20Specs.l0, if_pos (by omega), e1 z (by omega), Option.bind_some, ea z (by omega), Option.bind_some, if_neg hok]
      exact e2 z (by omega)
theorem drawNow_ev (l : List Int) (h : ∀ x ∈ l, (Lit.int .u8 x).wf = true) : ∃ R : List S62, R.length ≤ 4 ∧ ∃ K, ∀ k, K ≤ k → spec_DrawSpcNow.f k l = some R := by
  obtain ⟨b, hb, e0⟩ := open_some l h
  obtain ⟨v, a, c, ⟨K1, e1⟩⟩ := pick_pos b hb 0 5 (by omega) (by omega) (by omega) (by omega)
  obtain ⟨R, q, hR, K2, e2⟩ := specs_loop b hb 6 (by omega) (by omega) v.toNat [] 0 (0 + 1) ⟨by simp, by simp⟩ (by omega) (by omega) (by omega)
  dsimp only at e1
  refine ⟨R, hR, max K1 K2, fun k hk => ?_⟩
  unfold spec_DrawSpcNow.f spec_l20Specs.f
  rw [e0, Option.bind_some, e1 k (by omega), Option.bind_some]
  have := e2 k (by omega)
  rw [show ((v.toNat : Nat) : Int) = v by omega] at this
  rw [this]
  rfl
theorem fs_facts (l : List S62) (d : Nat) : ∀ i : Int, 0 ≤ i → (fs l d i = -1 ∨ (i ≤ fs l d i ∧ fs l d i < i + d ∧ (rd_T62 l (fs l d i)).f1 = 2)) ∧ ∀ j, i ≤ j → j < i + d → (rd_T62 l j).f1 = 2 → 0 ≤ fs l d i ∧ fs l d i ≤ j := by
  induction d with
  | zero => intro i h0; exact ⟨Or.inl rfl, fun j a b _ => by omega⟩
  | succ d ih =>
    intro i h0
    obtain ⟨a, b⟩ := ih (i + 1) (by omega)
    simp only [fs]
    by_cases h : (rd_T62 l i).f1 = 2
    · rw [if_pos h]
      exact ⟨Or.inr ⟨by omega, by omega, h⟩, fun j x y _ => ⟨h0, x⟩⟩
    · rw [if_neg h]
      refine ⟨?_, fun j x y z => ?_⟩
      · rcases a with a | ⟨a1, a2, a3⟩
        · exact Or.inl a
        · exact Or.inr ⟨by omega, by omega, a3⟩
      · by_cases c : j = i
        · subst c; exact absurd z h
        · exact b j (by omega) (by omega) z
theorem now_law_loop (L : List S62) (hL : L.length ≤ 4) (x : Int) (h1 : x = -1 ∨ (0 ≤ x ∧ x < L.length ∧ (rd_T62 L x).f1 = 2)) (h2 : ∀ j : Int, 0 ≤ j → j < L.length → (rd_T62 L j).f1 = 2 → 0 ≤ x ∧ x ≤ j) (d : Nat) : ∀ (k : Nat) (i : Int), 0 ≤ i → (L.length : Int) - i = d →
    laws_FnSpcNow.l0 (k + 10 + 1 + 2 * d) L x i = some true := by
  induction d with
  | zero =>
    intro k i h0 hd
    have e := inow_loop [(⟨([] : List S27), 2⟩ : S62)] (by simp) 1 (k + 8) 0 (by omega) (by simp)
    have e' : impl_SpcNow.f (k + 10) [(⟨([] : List S27), 2⟩ : S62)] = some 0 := e
    rw [show k + 10 + 1 + 2 * 0 = (k + 10) + 1 from rfl]
    generalize k + 10 = z at *
    rw [laws_FnSpcNow.l0, if_neg (by omega)]
    rcases h1 with rfl | ⟨a, b, c⟩
    · rw [if_pos (by omega), e']; rfl
    · rw [if_neg (by omega), if_pos a, if_pos b, if_pos c, e']; rfl
  | succ d ih =>
    intro k i h0 hd
    have q : ∀ g : Bool, g = false → laws_FnSpcNow.j1 (k + 10 + 1 + 2 * d + 1) L x i g = some true := by
      intro g hg
      rw [hg, laws_FnSpcNow.j1, if_neg (by simp), wr (x := i + 1) (by omega) (by omega)]
      exact ih k (i + 1) (by omega) (by omega)
    rw [show k + 10 + 1 + 2 * (d + 1) = k + 10 + 1 + 2 * d + 1 + 1 by omega, laws_FnSpcNow.l0, if_pos (by omega), if_pos h0]
    by_cases c : (rd_T62 L i).f1 = 2
    · have := h2 i h0 (by omega) c
      rw [if_pos c, if_neg (by omega)]
      exact q _ (by rw [decide_eq_false_iff_not]; omega)
    · rw [if_neg c]
      exact q false rfl
theorem FnSpcNow : laws_FnSpcNow.Pure := by
  intro l0 _ _ hx
  by_cases hl : (l0.length : Int) > 1048576
  · exact ⟨0, by unfold laws_FnSpcNow.f; rw [if_pos hl]⟩
  obtain ⟨L, hL, K, e⟩ := drawNow_ev l0 hx
  obtain ⟨z, hz⟩ : ∃ z, K ≤ z := ⟨_, Nat.le_refl _⟩
  have f := fs_facts L L.length 0 (by omega)
  have s := snow_loop L (by omega) L.length (z + 99 - L.length) 0 (by omega) (by omega)
  have i := inow_loop L (by omega) L.length (z + 99 - L.length) 0 (by omega) (by omega)
  rw [show z + 99 - L.length + 1 + L.length = z + 100 by omega] at s i
  refine ⟨z + 100, ?_⟩
  have q := now_law_loop L hL (fs L L.length 0) (by
    rcases f.1 with a | ⟨a, b, c⟩
    · exact Or.inl a
    · exact Or.inr ⟨a, by omega, c⟩) (fun j a b c => f.2 j a (by omega) c) L.length (z + 89 - 2 * L.length) 0 (by omega) (by omega)
  rw [show z + 89 - 2 * L.length + 10 + 1 + 2 * L.length = z + 100 by omega] at q
  unfold laws_FnSpcNow.f spec_SpcNow.f impl_SpcNow.f
  rw [if_neg hl, e (z + 100) (by omega), Option.bind_some, i, Option.bind_some, s, Option.bind_some, if_pos rfl]
  exact q

end Go.Proofs.Ytpinmagodpplaaa.Pure
