/- The contracts of the reader of a code (opened, and its picks) and of a number's digits; no conditions but that the code is readable. -/
import Derived.Test.YtipfdcmjcelbiaaFA
import Derived.Test.YtipfdcmjcelbiaaAllx3
import Derived.Test.YtipfdcmjcelbiaaFC
import Derived.Test.YtipfdcmjcelbiaaAllx6
section
/-! ## P1: The reader's contract: pick gives a number below its bound, and its place goes on by one; no conditions. -/
set_option linter.unusedVariables false
set_option linter.unusedSimpArgs false
namespace Go.Proofs.Ytipfdcmjcelbiaa.Pick
open Go Go.RowKit Go.Proofs.Ytipfdcmjcelbiaa.All Go.Proofs.YtipfdcmjcelbiaaW.PrintWords Go.Proofs.YtipfdcmjcelbiaaW.PrintLast Go.Proofs.YtipfdcmjcelbiaaW.PrintMore
theorem wr {x : Int} (h1 : -9223372036854775808 ≤ x) (h2 : x ≤ 9223372036854775807) : wrap64 x = x := by unfold wrap64; omega
theorem wf8 {x : Int} (h : (Lit.int .u8 x).wf = true) : 0 ≤ x ∧ x ≤ 255 := by
  simp only [Lit.wf, Bool.and_eq_true, decide_eq_true_eq] at h
  have h1 : IntKind.u8.min = 0 := by decide
  have h2 : IntKind.u8.max = 255 := by decide
  omega
theorem evs {α : Type} {g : Nat → Option α} {r : α} (K : Nat) (h : ∀ k, K ≤ k → g k = some r) : Ev g r := ⟨K, h⟩
theorem evk {α : Type} {g : Nat → Option α} {r : α} (h : Ev g r) : ∃ k, g k = some r := h.rounds
/-! ### the reader of a code -/
theorem xor_pos (x y : Int) (hx : 0 ≤ x) (hx2 : x < 1125899906842624) (hy : 0 ≤ y) (hy2 : y < 1125899906842624) : 0 ≤ Go.bits .xor .i64 x y ∧ Go.bits .xor .i64 x y ≤ 1125899906842624 := by
  obtain ⟨a, rfl⟩ := Int.eq_ofNat_of_zero_le hx
  obtain ⟨b, rfl⟩ := Int.eq_ofNat_of_zero_le hy
  have e : (BitVec.ofInt 64 (a : Int) ^^^ BitVec.ofInt 64 (b : Int)).toNat = a ^^^ b := by
    rw [BitVec.toNat_xor, BitVec.toNat_ofInt, BitVec.toNat_ofInt]
    congr 1 <;> omega
  have hlt : a ^^^ b < 2 ^ 50 := Nat.xor_lt_two_pow (by omega) (by omega)
  unfold Go.bits
  show 0 ≤ IntKind.i64.wrap ((BitVec.ofInt 64 (a : Int) ^^^ BitVec.ofInt 64 (b : Int)).toNat : Int) ∧ IntKind.i64.wrap ((BitVec.ofInt 64 (a : Int) ^^^ BitVec.ofInt 64 (b : Int)).toNat : Int) ≤ 1125899906842624
  rw [e, IntKind.wrap_i64]
  omega
/-- What may stand in a code that is open. -/
def Code (b : List Int) : Prop := b.length ≤ 2000 ∧ ∀ x ∈ b, 0 ≤ x ∧ x ≤ 255
theorem rd_code {b : List Int} (h : Code b) (i : Int) : 0 ≤ rd b i ∧ rd b i ≤ 255 := by
  unfold rd
  by_cases hi : i.toNat < b.length
  · rw [List.getD_eq_getElem?_getD, List.getElem?_eq_getElem hi]
    exact h.2 _ (List.getElem_mem hi)
  · rw [List.getD_eq_getElem?_getD, List.getElem?_eq_none (by omega)]
    exact ⟨by decide, by decide⟩
theorem pick_any (b : List Int) (hb : Code b) (p n : Int) (h0 : 0 ≤ p) (hp : p ≤ 1099511627776) :
    ∃ v, 0 ≤ v ∧ (1 ≤ n → v < n) ∧ (n < 1 → v = 0) ∧ Ev (fun k => spec_l20Rd_pick.f k b p n) (v, p + 1) := by
  have ep : wrap64 (p + 1) = p + 1 := wr (by omega) (by omega)
  have ep2 : wrap64 (p + 1 - 1) = p := by rw [show p + 1 - 1 = p by omega]; exact wr (by omega) (by omega)
  have eu : ∀ i, wrap64 (rd b i) = rd b i := fun i => by have := rd_code hb i; exact wr (by omega) (by omega)
  by_cases h1 : n < 1
  · refine ⟨0, by omega, by omega, fun _ => rfl, evs 1 fun k hk => ?_⟩
    obtain ⟨k, rfl⟩ : ∃ m, k = m + 1 := ⟨k - 1, by omega⟩
    simp only [spec_l20Rd_pick.f]
    rw [if_pos h1]; simp only [spec_l20Rd_pick.j0]
    rw [if_pos trivial, ep]
  · by_cases h2 : (b.length : Int) = 0
    · refine ⟨0, by omega, by omega, by omega, evs 1 fun k hk => ?_⟩
      obtain ⟨k, rfl⟩ : ∃ m, k = m + 1 := ⟨k - 1, by omega⟩
      simp only [spec_l20Rd_pick.f]
      rw [if_neg h1, h2]; simp only [spec_l20Rd_pick.j0]
      rw [if_pos (by first | trivial | rfl), ep]
    · have hlen := hb.1
      have e2 : ((b.length : Int) == 0) = false := by simpa using h2
      by_cases h3 : p < (b.length : Int)
      · refine ⟨Int.tmod (rd b p) n, Int.tmod_nonneg _ (rd_code hb p).1, fun h => Int.tmod_lt_of_pos _ (by omega), by omega, evs 1 fun k hk => ?_⟩
        obtain ⟨k, rfl⟩ : ∃ m, k = m + 1 := ⟨k - 1, by omega⟩
        simp only [spec_l20Rd_pick.f]
        rw [if_neg h1, e2]; simp only [spec_l20Rd_pick.j0]
        rw [if_neg (by simp), ep, ep2, if_pos h3, if_pos h0, if_neg (by omega), eu]
      · have q1 := Int.tmod_nonneg (b.length : Int) h0
        have q2 := Int.tmod_lt_of_pos p (b := (b.length : Int)) (by omega)
        have w7 : wrap64 (wrap64 (p * 7) + 3) = p * 7 + 3 := by rw [wr (x := p * 7) (by omega) (by omega)]; exact wr (by omega) (by omega)
        have q3 := Int.tmod_nonneg (b.length : Int) (show 0 ≤ p * 7 + 3 by omega)
        have q4 := Int.tmod_lt_of_pos (p * 7 + 3) (b := (b.length : Int)) (by omega)
        have r1 := rd_code hb (Int.tmod p b.length)
        have r2 := rd_code hb (Int.tmod (p * 7 + 3) b.length)
        have d1 : 0 ≤ Int.tdiv p b.length ∧ Int.tdiv p b.length ≤ p := by
          rw [Int.tdiv_eq_ediv_of_nonneg h0]
          exact ⟨Int.ediv_nonneg h0 (by omega), Int.ediv_le_self _ h0⟩
        generalize hX : Int.tdiv p b.length = X at d1
        generalize hA : rd b (Int.tmod p b.length) = A at r1
        generalize hB : rd b (Int.tmod (p * 7 + 3) b.length) = B at r2
        have wA0 : wrap64 A = A := wr (by omega) (by omega)
        have wB0 : wrap64 B = B := wr (by omega) (by omega)
        have wA : wrap64 (A * 131) = A * 131 := wr (by omega) (by omega)
        have wB : wrap64 (B * 1117) = B * 1117 := wr (by omega) (by omega)
        have wS : wrap64 (A * 131 + B * 1117) = A * 131 + B * 1117 := wr (by omega) (by omega)
        have wp : wrap64 (p * 29) = p * 29 := wr (by omega) (by omega)
        have wS2 : wrap64 (A * 131 + B * 1117 + p * 29) = A * 131 + B * 1117 + p * 29 := wr (by omega) (by omega)
        have wX : wrap64 X = X := wr (by omega) (by omega)
        have wX2 : wrap64 (X * 53) = X * 53 := wr (by omega) (by omega)
        have wS3 : wrap64 (A * 131 + B * 1117 + p * 29 + X * 53) = A * 131 + B * 1117 + p * 29 + X * 53 := wr (by omega) (by omega)
        have hS : 0 ≤ A * 131 + B * 1117 + p * 29 + X * 53 ∧ A * 131 + B * 1117 + p * 29 + X * 53 ≤ 100000000000000 := by omega
        generalize hT : A * 131 + B * 1117 + p * 29 + X * 53 = T at hS wS3
        have w64 : wrap64 (Int.tdiv T 64) = T / 64 := by rw [Int.tdiv_eq_ediv_of_nonneg hS.1]; exact wr (by omega) (by omega)
        have hx := xor_pos T (T / 64) hS.1 (by omega) (by omega) (by omega)
        refine ⟨Int.tmod (Go.bits .xor .i64 T (T / 64)) n, Int.tmod_nonneg _ hx.1, fun h => Int.tmod_lt_of_pos _ (by omega), by omega, evs 1 fun k hk => ?_⟩
        obtain ⟨k, rfl⟩ : ∃ m, k = m + 1 := ⟨k - 1, by omega⟩
        simp only [spec_l20Rd_pick.f]
        rw [if_neg h1, e2]; simp only [spec_l20Rd_pick.j0]
        rw [if_neg (by simp), ep, ep2, if_neg h3, if_neg h2, if_pos q1, if_pos q2, w7, if_pos q3, if_pos q4, if_neg (by omega)]
        simp only [eu, hX, hA, hB, wA0, wB0, wA, wB, wS, wp, wS2, wX, wX2, hT, wS3, w64]
open Go.Proofs.Ytipfdcmjcelbiaa.Safe
/-- A world cut at B. -/
def cut (w : World) (B : Nat) : World := { w with heap := w.heap.extract 0 B }
theorem cut_size {w : World} {B : Nat} (h : B ≤ w.heap.size) : (cut w B).heap.size = B := by simp [cut]; omega
theorem cut_at {w : World} {B k : Nat} (h : B ≤ w.heap.size) (hk : k < B) : (cut w B).heap[k]? = w.heap[k]? := by
  simp only [cut]
  rw [Array.getElem?_extract]
  simp [hk]
  omega
theorem cut_below {w : World} {B : Nat} (h : B ≤ w.heap.size) : Below (cut w B).heap.size (cut w B) w :=
  ⟨rfl, rfl, rfl, by rw [cut_size h]; exact h, fun k hk => by rw [cut_size h] at hk; exact (cut_at h hk).symm⟩
/-- All that lies there at the start stays. -/
abbrev at0 (N : Nat) (w : World) : Base := ⟨fun _ => False, N, w⟩
theorem code_of {w : World} {B : Nat} {D : Nat → Prop} (hD : ∀ k, D k → k < B) {A : Option Addr} {n : Nat} (hB : B ≤ w.heap.size) (h : Cod w D A n) : ∃ l : List Int, l.length = n ∧ Code l ∧ Kd.C (Kd.int .u8) (cut w B) A n l := by
  obtain ⟨h1, h2⟩ := h
  rcases h2 with rfl | ⟨ad, rfl, hg0, _, hc⟩
  · exact ⟨[], rfl, ⟨by simp, by simp⟩, rfl, by omega, fun h => absurd h (by omega)⟩
  · have hg := hD _ hg0
    classical
    let f : Nat → Int := fun i => if h : i < n then Classical.choose (hc i h) else 0
    have hf : ∀ i, i < n → w.cell? (ad.add i) = some (.int .u8 (f i)) ∧ 0 ≤ f i ∧ f i < 256 := fun i hi => by
      have := Classical.choose_spec (hc i hi)
      simp only [f, dif_pos hi]
      exact this
    refine ⟨(List.range n).map f, by simp, ⟨by simpa using h1, fun x hx => ?_⟩, by simp, by omega, fun _ => ⟨_, rfl, fun j p hj => ?_⟩⟩
    · obtain ⟨i, hi, rfl⟩ := List.mem_map.1 hx
      have := hf i (List.mem_range.1 hi)
      omega
    · have hjn : j < n := by
        rcases Nat.lt_or_ge j n with h | h
        · exact h
        · rw [List.getElem?_eq_none (by simpa using h)] at hj; cases hj
      have hp : f j = p := by simpa [hjn] using hj
      subst hp
      refine ⟨[.int .u8 (f j)], rfl, rfl, fun i u hi => ?_⟩
      match i, hi with
      | 0, hi =>
        simp at hi
        subst hi
        show (cut w B).cell? (ad.add (j * 1 + 0)) = _
        rw [Nat.mul_one, Nat.add_zero]
        exact (cellSame (w := w) (w' := cut w B) (by rw [Go.Proofs.Ytipfdcmjcelbiaa.Safe.add_block]; exact cut_at hB hg)).trans (hf j hjn).1
theorem s23 {N0 : Nat} {w0 : World} : Sound (at0 N0 w0) 23 sp23 := by
  refine ⟨fun args w => by kernel_rfl, fun l N S w vs hpre hN hP hvs hW => ?_⟩
  have hB : w0.heap.size ≤ w.heap.size := hP.out.size
  generalize hBe : w0.heap.size = B at hB
  have hD : ∀ k, (at0 N0 w0).D k → k < B := fun k h => hBe ▸ h.1
  have hS0 : ∀ k, S k → B ≤ k := fun k hk => by
    rcases Nat.lt_or_ge k B with h | h
    · exact absurd (show (at0 N0 w0).D k from ⟨hBe ▸ h, fun x => x⟩) (hW k hk).1
    · exact h
  dsimp only [sp23, mkS] at hpre ⊢
  split at hpre
  case h_2 => exact hpre.elim
  rename_i n
  obtain ⟨vl⟩ := vs
  match vl, hvs with
  | [v0, v1], hvs =>
    obtain ⟨h0, h1, _⟩ := hvs
    obtain ⟨g, rfl, hS, hb⟩ := (show SV S N w .rd v0 from h0)
    obtain rfl := (show v1 = .int .i64 n from h1)
    rcases (hW g hS).2 with ⟨e, cells, hc, hf⟩ | ⟨A, m, c, p, hc, p0, pN, hcod⟩
    · obtain ⟨c0, hc0, _⟩ := hb
      rw [hc0] at hc
      injection hc with hc
      injection hc with _ he
      subst he
      exact absurd hf.1 (by decide)
    · obtain ⟨f0, hl, hcode, hC⟩ := code_of hD hB hcod
      subst hl
      obtain ⟨v, q1, q2, q3, q4⟩ := pick_any f0 hcode p n p0 (by omega)
      obtain ⟨k, hk⟩ := evk q4
      have hI : IsS81 (cut w B) w g f0 p := ⟨A, c, hc, by rw [cut_size hB]; exact hS0 g hS, hC⟩
      refine Calls.mono (spec_l20Rd_pick.calls k g f0 p n v (p + 1) (cut w B) w hI (cut_below hB) hk) ?_
      rintro e w' ⟨rfl, ⟨A', c', hI', _, hC'⟩, hBl, hK⟩
      have hsz : ∀ k, k < B → w'.heap[k]? = w.heap[k]? := fun k hk => (hBl.block k (by rw [cut_size hB]; exact hk)).trans (cut_at hB hk)
      have hO : Out S w S w' := {
        s := fun _ h => h
        new := fun _ h => .inl h
        size := hK.1
        keep := fun k hk hn => hK.2 k hk (fun e => hn (e ▸ hS)) (by simp)
        b := fun k e m hk hbk => by
          by_cases hkg : k = g
          · subst hkg
            obtain ⟨c1, hc1, hm1⟩ := hbk
            rw [hc] at hc1
            injection hc1 with hc1
            injection hc1 with x1 x2
            subst x1; subst x2
            exact ⟨_, hI', hm1⟩
          · obtain ⟨c1, hc1, hm1⟩ := hbk
            exact ⟨c1, (hK.2 k (hW.lt hk) hkg (by simp)).trans hc1, hm1⟩
        os := hBl.os
        tape := hBl.tape
        output := hBl.output }
      have hG : Gro S N w S (N + 1) w' := hO.gro (Nat.le_succ N)
      refine ⟨_, .int v, N + 1, S, rfl, ⟨v, ⟨q1, q2, q3⟩, rfl, rfl⟩, Nat.le_succ N, rfl, fun k hk => ⟨(hW k hk).1, ?_⟩, hO⟩
      by_cases hkg : k = g
      · subst hkg
        refine .inr ⟨A', _, c', p + 1, hI', by omega, by omega, hcode.1, ?_⟩
        rcases Nat.eq_zero_or_pos f0.length with h0 | h0
        · exact .inl h0
        · obtain ⟨ad, rfl, had⟩ := hC'.2.2 h0
          have hcell : ∀ i, i < f0.length → ∃ b : Int, (cut w B).cell? (ad.add i) = some (.int .u8 b) ∧ b ∈ f0 := fun i hi => by
            obtain ⟨cc, _, hcc, hcl⟩ := had i _ (List.getElem?_eq_getElem hi)
            have hcc : cc = [.int .u8 (f0[i])] := hcc
            subst hcc
            have := hcl 0 _ rfl
            refine ⟨f0[i], ?_, List.getElem_mem _⟩
            have e : ad.add (i * 1 + 0) = ad.add i := by rw [Nat.mul_one, Nat.add_zero]
            rw [← e]
            exact this
          have hlt : ad.block < B := by
            obtain ⟨b, hb, _⟩ := hcell 0 h0
            rcases Nat.lt_or_ge ad.block B with h | h
            · exact h
            · exfalso
              unfold World.cell? at hb
              rw [Go.Proofs.Ytipfdcmjcelbiaa.Safe.add_block, Array.getElem?_eq_none (by rw [cut_size hB]; exact h)] at hb
              cases hb
          refine .inr ⟨ad, rfl, ⟨hBe ▸ hlt, fun x => x⟩, by have := hK.1; omega, fun i hi => ?_⟩
          obtain ⟨b, hb, hm⟩ := hcell i hi
          have hr := hcode.2 b hm
          refine ⟨b, ?_, by omega, by omega⟩
          exact (cellSame (by rw [Go.Proofs.Ytipfdcmjcelbiaa.Safe.add_block]; exact (hsz _ hlt).trans (cut_at hB hlt).symm)).trans hb
      · have hsame := hK.2 k (hW.lt hk) hkg (by simp)
        rcases (hW k hk).2 with ⟨e, cells, hc2, hf2⟩ | ⟨A2, n2, c2, p2, hc2, h1, h2, h3⟩
        · exact .inl ⟨e, cells, hsame.trans hc2, hf2.gro hG⟩
        · exact .inr ⟨A2, n2, c2, p2, hsame.trans hc2, h1, by omega, h3.gro hK.1 (fun i hi _ => hsz i (hD i hi))⟩
end Go.Proofs.Ytipfdcmjcelbiaa.Pick
end

section
/-! ## P2: The contract of a number's digits: at most thirty letters; no conditions. -/
set_option linter.unusedVariables false
set_option linter.unusedSimpArgs false
namespace Go.Proofs.Ytipfdcmjcelbiaa.Digits
open Go Go.RowKit Go.Proofs.Ytipfdcmjcelbiaa.All Go.Proofs.YtipfdcmjcelbiaaW.PrintWords Go.Proofs.YtipfdcmjcelbiaaW.PrintLast Go.Proofs.YtipfdcmjcelbiaaW.PrintMore
theorem wrD {x : Int} (h1 : -9223372036854775808 ≤ x) (h2 : x ≤ 9223372036854775807) : wrap64 x = x := by unfold wrap64; omega
theorem wrB (x : Int) : -9223372036854775808 ≤ wrap64 x ∧ wrap64 x ≤ 9223372036854775807 := by unfold wrap64; omega
/-- One letter more. -/
def more (x : Int) (s : ByteArray) : ByteArray := strOfNums [(wrap64 (48 + (Int.tmod x 10))) % 256] ++ s
theorem more_size (x : Int) (s : ByteArray) : (more x s).size = s.size + 1 := by
  unfold more
  rw [ByteArray.size_append, strOfNums_size]
  simp only [List.length_cons, List.length_nil]
  omega
theorem step_yes {k : Nat} {x w : Int} {s r : ByteArray} (hs : s.size ≤ 1000) (hc : 0 < x ∨ (s.size : Int) < w) (h : spec_l1Digits.l0 k (wrap64 (Int.tdiv x 10)) w (more x s) = some r) : spec_l1Digits.l0 (k + 2) x w s = some r := by
  have e : spec_l1Digits.j1 (k + 1) x w s true = some r := by
    unfold spec_l1Digits.j1
    rw [if_pos rfl]
    simp only [Option.bind_some]
    rw [if_pos (by rw [strOfNums_size]; simp only [List.length_cons, List.length_nil]; omega)]
    exact h
  show spec_l1Digits.l0 ((k + 1) + 1) x w s = some r
  unfold spec_l1Digits.l0
  by_cases h0 : x > 0
  · rw [if_pos h0]; exact e
  · rw [if_neg h0, decide_eq_true (hc.resolve_left h0)]; exact e
theorem step_no (k : Nat) {x w : Int} {s : ByteArray} (h0 : ¬ x > 0) (h1 : ¬ (s.size : Int) < w) : spec_l1Digits.l0 (k + 2) x w s = some s := by
  show spec_l1Digits.l0 ((k + 1) + 1) x w s = some s
  unfold spec_l1Digits.l0
  rw [if_neg h0, decide_eq_false h1]
  unfold spec_l1Digits.j1
  simp
theorem low (w : Int) (hw : w ≤ 3) : ∀ (n : Nat) (x : Int) (s : ByteArray), x ≤ 0 → -9223372036854775808 ≤ x → s.size ≤ 100 → 3 ≤ s.size + n → ∃ k r, spec_l1Digits.l0 k x w s = some r ∧ (r.size ≤ s.size ∨ r.size ≤ 3)
  | 0, x, s, h0, h1, hs, hn => ⟨2, s, step_no 0 (by omega) (by omega), .inl (Nat.le_refl _)⟩
  | n + 1, x, s, h0, h1, hs, hn => by
    by_cases h : (s.size : Int) < w
    · have e : 0 ≤ (-x).tdiv 10 ∧ (-x).tdiv 10 ≤ -x := by
        rw [Int.tdiv_eq_ediv_of_nonneg (by omega)]
        omega
      have e2 : x.tdiv 10 = -((-x).tdiv 10) := by rw [Int.neg_tdiv]; omega
      have ew : wrap64 (x.tdiv 10) = x.tdiv 10 := wrD (by omega) (by omega)
      obtain ⟨k, r, h2, h3⟩ := low w hw n (wrap64 (x.tdiv 10)) (more x s) (by rw [ew]; omega) (by rw [ew]; omega) (by rw [more_size]; omega) (by rw [more_size]; omega)
      rw [more_size] at h3
      exact ⟨k + 2, r, step_yes (by omega) (.inr h) h2, by omega⟩
    · exact ⟨2, s, step_no 0 (by omega) h, .inl (Nat.le_refl _)⟩
theorem high (w : Int) (hw : w ≤ 3) : ∀ (d : Nat) (x : Int) (s : ByteArray), x < 10 ^ d → -9223372036854775808 ≤ x → x ≤ 9223372036854775807 → s.size + d ≤ 30 → ∃ k r, spec_l1Digits.l0 k x w s = some r ∧ r.size ≤ 30
  | 0, x, s, h0, h1, h2, hs => by
    obtain ⟨k, r, e, h⟩ := low w hw 3 x s (by simp at h0; omega) h1 (by omega) (by omega)
    exact ⟨k, r, e, by omega⟩
  | d + 1, x, s, h0, h1, h2, hs => by
    by_cases h : 0 < x
    · have e : x.tdiv 10 = x / 10 := Int.tdiv_eq_ediv_of_nonneg (by omega)
      have ew : wrap64 (x.tdiv 10) = x / 10 := by rw [e]; exact wrD (by omega) (by omega)
      have hp : (10 : Int) ^ (d + 1) = 10 ^ d * 10 := Int.pow_succ 10 d
      generalize (10 : Int) ^ (d + 1) = P at h0 hp
      have hd : x / 10 < 10 ^ d := by omega
      obtain ⟨k, r, h3, h4⟩ := high w hw d (wrap64 (x.tdiv 10)) (more x s) (by rw [ew]; exact hd) (by rw [ew]; omega) (by rw [ew]; omega) (by rw [more_size]; omega)
      exact ⟨k + 2, r, step_yes (by omega) (.inl h) h3, h4⟩
    · obtain ⟨k, r, e, h⟩ := low w hw 3 x s (by omega) h1 (by omega) (by omega)
      exact ⟨k, r, e, by omega⟩
theorem digits_any (x w : Int) (hx : x ≤ 16777216) (hw : w ≤ 3) : ∃ k r, spec_l1Digits.f k x w = some r ∧ r.size ≤ 30 := by
  unfold spec_l1Digits.f
  have hz : (⟨#[]⟩ : ByteArray).size = 0 := rfl
  by_cases h : 0 < x
  · exact high w hw 8 x ⟨#[]⟩ (by omega) (by omega) (by omega) (by rw [hz]; omega)
  · by_cases h1 : 0 < w
    · have hb := wrB (x.tdiv 10)
      obtain ⟨k, r, e, h2⟩ := high w hw 19 (wrap64 (x.tdiv 10)) (more x ⟨#[]⟩) (by omega) hb.1 hb.2 (by rw [more_size, hz]; omega)
      exact ⟨k + 2, r, step_yes (by rw [hz]; omega) (.inr (by rw [hz]; omega)) e, h2⟩
    · exact ⟨2, _, step_no 0 h (by rw [hz]; omega), by rw [hz]; omega⟩
open Go.Proofs.Ytipfdcmjcelbiaa.Safe
theorem s58 {B : Base} : Sound B 58 sp58 := by
  refine ⟨fun args w => by kernel_rfl, fun l N S w vs hpre hN hB hvs hW => ?_⟩
  dsimp only [sp58, mkS] at hpre ⊢
  split at hpre
  case h_2 => exact hpre.elim
  rename_i n d
  obtain ⟨vl⟩ := vs
  match vl, hvs with
  | [v0, v1], hvs =>
    obtain ⟨h0, h1, _⟩ := hvs
    obtain rfl := (show v0 = .int .i64 n from h0)
    obtain rfl := (show v1 = .int .i64 d from h1)
    obtain ⟨k, r, e, hr⟩ := digits_any n d hpre.1 hpre.2
    refine Calls.mono (spec_l1Digits.calls k n d r w e) ?_
    rintro e w' ⟨rfl, hBl⟩
    have hsz : ∀ k, k < w.heap.size → w'.heap[k]? = w.heap[k]? := fun k hk => hBl.block k hk
    have hO : Out S w S w' := {
      s := fun _ h => h
      new := fun _ h => .inl h
      size := hBl.size
      keep := fun k hk _ => hsz k hk
      b := fun k e m hk hbk => by
        obtain ⟨c1, hc1, hm1⟩ := hbk
        exact ⟨c1, (hsz k (hW.lt hk)).trans hc1, hm1⟩
      os := hBl.os
      tape := hBl.tape
      output := hBl.output }
    have hG : Gro S N w S N w' := hO.gro (Nat.le_refl N)
    refine ⟨_, .str r.size, N, S, rfl, ⟨r.size, hr, rfl, rfl⟩, Nat.le_refl N, ⟨r, rfl, rfl⟩, fun k hk => ⟨(hW k hk).1, ?_⟩, hO⟩
    rcases (hW k hk).2 with ⟨e, cells, hc2, hf2⟩ | ⟨A2, n2, c2, p2, hc2, h1, h2, h3⟩
    · exact .inl ⟨e, cells, (hsz k (hW.lt hk)).trans hc2, hf2.gro hG⟩
    · exact .inr ⟨A2, n2, c2, p2, (hsz k (hW.lt hk)).trans hc2, h1, h2, h3.gro hBl.size (fun i hi hw => hsz i hw)⟩
end Go.Proofs.Ytipfdcmjcelbiaa.Digits
end

section
/-! ## P3: The reader is opened: a new block with the code, its place 0; no conditions but that the code is readable. -/
set_option linter.unusedVariables false
set_option linter.unusedSimpArgs false
namespace Go.Proofs.Ytipfdcmjcelbiaa.Open
open Go Go.RowKit Go.Proofs.Ytipfdcmjcelbiaa.All Go.Proofs.YtipfdcmjcelbiaaW.PrintWords Go.Proofs.YtipfdcmjcelbiaaW.PrintLast Go.Proofs.YtipfdcmjcelbiaaW.PrintMore
attribute [local go_sem] max2_int min2_int max_two min_two max_three min_three max_four min_four
set_option maxHeartbeats 8000000 in
set_option maxRecDepth 100000 in
theorem open_fresh (A0 : Option Addr) (c0 : Nat) (l0 : List Int) (r1 : List Int) (r2 : Int) (w0 w : World) (hB : Below w0.heap.size w0 w) (hr0 : Kd.C (Kd.int .u8) w0 A0 l0.length l0) (hc0 : l0.length ≤ c0) (h : spec_l20Open.f l0 = some (r1, r2)) :
    Calls Try.prog 18 #[.slice A0 l0.length c0] w fun e w' => ∃ g_ : Nat, e = .returned (.pointer (some ⟨g_, 0, none⟩)) ∧ IsS81 w0 w' g_ r1 r2 ∧ Below w0.heap.size w0 w' ∧ Below w.heap.size w w' ∧ w.heap.size ≤ g_ := by
  have hu81 := Try.underlying81
  have HR0 := Aside0.mk hr0
  have HC0 := Aside0.mk hc0
  clear hr0 hc0
  have HBW := Aside0.mk (Below.refl w.heap.size w)
  have HW0 := Aside0.mk hB.size
  have HB := Aside0.mk hB
  clear hB
  have H : (if (l0.length : Int) > 2000 then (if 2000 ≤ (l0.length : Int) then (some (l0.take 2000, 0)) else (none)) else (some (l0, 0))) = some (r1, r2) := h
  clear h
  by_cases c2 : (l0.length : Int) > 2000
  · rw [if_pos c2] at H
    have c2b0 : decide (2000 < (l0.length : Int)) = true := decide_eq_true c2
    have c2b1 : decide (2000 < l0.length) = true := decide_eq_true (by omega)
    clear c2
    by_cases c3 : 2000 ≤ (l0.length : Int)
    · rw [if_pos c3] at H
      have c3b0 := eq_true c3
      have c3b1 : decide (2000 ≤ (l0.length : Int)) = true := decide_eq_true c3
      clear c3
      simp only [Option.some.injEq, Prod.mk.injEq] at H
      obtain ⟨rfl, rfl⟩ := H
      obtain ⟨i04, hi04, _, hsz4, _⟩ := info_parts info5
      obtain ⟨hcut4, hA4, hC4⟩ := print_take_of (P := Try.prog) (Value.int .u8) 0 22 5 .i64 Try.underlying22 hi04 hsz4 A0 c0 l0 2000 (by omega) (of_decide_eq_true (by first | (with_reducible assumption) | assumption)) HC0.out
      have HR1250 := Aside0.mk (Kd.C_of_reads (h1 := fun _ => rfl) (hA4 _ (Kd.reads_of_C HR0.out)))
      have HC1250 := Aside0.mk hC4
      clear hA4 hC4 hi04 hsz4
      go_enter Try.func18, Try.ntmps18
      go_wp2_with (first | ((with_reducible refine gate_dst (N := 10) rfl ?_); refine box_event ?hg (N := 10) ?hd (cs := #[.slice A0 (l0.take 2000).length c0, .int .i64 0]) (t := 81) ?hr ?_; (case hd => rfl); (case hg => rfl); (case hr => first | (go_simp; done) | (go_simp; rfl)); intro gb1251 hg w5 hbox hb; have n0_ := Aside0.mk (below_step HBW.out hb); have n1_ := Aside0.mk (below_step (by repeat (first | (with_reducible first | exact HB.out | apply below_alloc | apply pw_below_drewN | apply below_drew1) | exact HB.out)) hb); have n2_ := Aside0.mk (hbox); have n3_ := Aside0.mk ((by rw [hg]; exact (below_size (by repeat (first | (with_reducible first | exact HBW.out | apply below_alloc | apply pw_below_drewN | apply below_drew1) | exact HBW.out))) : w.heap.size ≤ gb1251)); have n4_ := Aside0.mk ((Nat.le_trans HW0.out (by rw [hg]; exact (below_size (by repeat (first | (with_reducible first | exact HBW.out | apply below_alloc | apply pw_below_drewN | apply below_drew1) | exact HBW.out))) : w.heap.size ≤ gb1251) : w0.heap.size ≤ gb1251)); clear HBW; clear HB; have HBW := n0_; have HB := n1_; have BK1251 := n2_; have GW1251 := n3_; have GE1251 := n4_; clear n0_ n1_ n2_ n3_ n4_; clear hb hbox hg))
      go_ret
      exact ⟨_, rfl, (show IsS81 w0 _ gb1251 (l0.take 2000) 0 from ⟨_, _, by (with_reducible repeat (first | refine blk_drewN ?_ _ | refine blk_drew ?_ | refine blk_alloc ?_ _)); exact BK1251.out, GE1251.out, HR1250.out⟩), by repeat (first | (with_reducible first | exact HB.out | apply below_alloc | apply pw_below_drewN | apply below_drew1 | refine below_set ?_ GE1251.out) | exact HB.out), by repeat (first | (with_reducible first | exact HBW.out | apply below_alloc | apply pw_below_drewN | apply below_drew1 | refine below_set ?_ GW1251.out) | exact HBW.out), GW1251.out⟩
    · rw [if_neg c3] at H
      exact absurd H (by simp)
  · rw [if_neg c2] at H
    have c2b0 : decide (2000 < (l0.length : Int)) = false := decide_eq_false c2
    have c2b1 : decide (2000 < l0.length) = false := decide_eq_false (by omega)
    clear c2
    simp only [Option.some.injEq, Prod.mk.injEq] at H
    obtain ⟨rfl, rfl⟩ := H
    go_enter Try.func18, Try.ntmps18
    go_wp2_with (first | ((with_reducible refine gate_dst (N := 10) rfl ?_); refine box_event ?hg (N := 10) ?hd (cs := #[.slice A0 l0.length c0, .int .i64 0]) (t := 81) ?hr ?_; (case hd => rfl); (case hg => rfl); (case hr => first | (go_simp; done) | (go_simp; rfl)); intro gb1252 hg w6 hbox hb; have n0_ := Aside0.mk (below_step HBW.out hb); have n1_ := Aside0.mk (below_step (by repeat (first | (with_reducible first | exact HB.out | apply below_alloc | apply pw_below_drewN | apply below_drew1) | exact HB.out)) hb); have n2_ := Aside0.mk (hbox); have n3_ := Aside0.mk ((by rw [hg]; exact (below_size (by repeat (first | (with_reducible first | exact HBW.out | apply below_alloc | apply pw_below_drewN | apply below_drew1) | exact HBW.out))) : w.heap.size ≤ gb1252)); have n4_ := Aside0.mk ((Nat.le_trans HW0.out (by rw [hg]; exact (below_size (by repeat (first | (with_reducible first | exact HBW.out | apply below_alloc | apply pw_below_drewN | apply below_drew1) | exact HBW.out))) : w.heap.size ≤ gb1252) : w0.heap.size ≤ gb1252)); clear HBW; clear HB; have HBW := n0_; have HB := n1_; have BK1252 := n2_; have GW1252 := n3_; have GE1252 := n4_; clear n0_ n1_ n2_ n3_ n4_; clear hb hbox hg))
    go_ret
    exact ⟨_, rfl, (show IsS81 w0 _ gb1252 l0 0 from ⟨_, _, by (with_reducible repeat (first | refine blk_drewN ?_ _ | refine blk_drew ?_ | refine blk_alloc ?_ _)); exact BK1252.out, GE1252.out, HR0.out⟩), by repeat (first | (with_reducible first | exact HB.out | apply below_alloc | apply pw_below_drewN | apply below_drew1 | refine below_set ?_ GE1252.out) | exact HB.out), by repeat (first | (with_reducible first | exact HBW.out | apply below_alloc | apply pw_below_drewN | apply below_drew1 | refine below_set ?_ GW1252.out) | exact HBW.out), GW1252.out⟩
open Go.Proofs.Ytipfdcmjcelbiaa.Safe Go.Proofs.Ytipfdcmjcelbiaa.Pick
theorem open_f (l : List Int) : ∃ r, spec_l20Open.f l = some (r, 0) ∧ r.length ≤ 2000 ∧ ∀ x ∈ r, x ∈ l := by
  unfold spec_l20Open.f
  by_cases h : (l.length : Int) > 2000
  · rw [if_pos h, if_pos (by omega)]
    exact ⟨l.take 2000, rfl, by simp; omega, fun x hx => List.mem_of_mem_take hx⟩
  · rw [if_neg h]
    exact ⟨l, rfl, by omega, fun x hx => hx⟩
theorem cod_of {N0 : Nat} {w0 w : World} {A : Option Addr} {l : List Int} (hC : Kd.C (Kd.int .u8) w0 A l.length l) (hcode : Pick.Code l) (hz : w0.heap.size ≤ w.heap.size) (hk : ∀ k, k < w0.heap.size → w.heap[k]? = w0.heap[k]?) : Cod w (at0 N0 w0).D A l.length := by
  refine ⟨hcode.1, ?_⟩
  rcases Nat.eq_zero_or_pos l.length with h0 | h0
  · exact .inl h0
  · obtain ⟨ad, rfl, had⟩ := hC.2.2 h0
    have hcell : ∀ i, i < l.length → ∃ b : Int, w0.cell? (ad.add i) = some (.int .u8 b) ∧ b ∈ l := fun i hi => by
      obtain ⟨cc, _, hcc, hcl⟩ := had i _ (List.getElem?_eq_getElem hi)
      have hcc : cc = [.int .u8 (l[i])] := hcc
      subst hcc
      have := hcl 0 _ rfl
      refine ⟨l[i], ?_, List.getElem_mem _⟩
      have e : ad.add (i * 1 + 0) = ad.add i := by rw [Nat.mul_one, Nat.add_zero]
      rw [← e]
      exact this
    have hlt : ad.block < w0.heap.size := by
      obtain ⟨b, hb, _⟩ := hcell 0 h0
      rcases Nat.lt_or_ge ad.block w0.heap.size with h | h
      · exact h
      · exfalso
        unfold World.cell? at hb
        rw [Go.Proofs.Ytipfdcmjcelbiaa.Safe.add_block, Array.getElem?_eq_none h] at hb
        cases hb
    refine .inr ⟨ad, rfl, ⟨hlt, fun x => x⟩, by omega, fun i hi => ?_⟩
    obtain ⟨b, hb, hm⟩ := hcell i hi
    have hr := hcode.2 b hm
    refine ⟨b, ?_, by omega, by omega⟩
    exact (cellSame (by rw [Go.Proofs.Ytipfdcmjcelbiaa.Safe.add_block]; exact hk _ hlt)).trans hb
abbrev sp18 (A : Option Addr) (n c : Nat) : Safe.Spec := mkS (α := Unit) (fun l N => match l with | [.lit v] => v = .slice A n c | _ => False) (fun l N x => True) (fun _ => .rd) (fun l N x => N) (fun l N h => ⟨(), trivial, Nat.le_refl _⟩)
theorem at0_below {N0 : Nat} {w0 : World} {S : Nat → Prop} {N : Nat} {w : World} (h : (at0 N0 w0).P S N w) : Below w0.heap.size w0 w :=
  ⟨h.out.os, h.out.tape, h.out.output, h.out.size, fun k hk => h.out.keep k hk (fun x => x)⟩
theorem s18 {N0 : Nat} {w0 : World} {A : Option Addr} {c : Nat} {l0 : List Int} (hr0 : Kd.C (Kd.int .u8) w0 A l0.length l0) (hc0 : l0.length ≤ c) (hb0 : ∀ x ∈ l0, 0 ≤ x ∧ x ≤ 255) : Sound (at0 N0 w0) 18 (sp18 A l0.length c) := by
  refine ⟨fun args w => by kernel_rfl, fun l N S w vs hpre hN hP hvs hW => ?_⟩
  dsimp only [sp18, mkS] at hpre ⊢
  split at hpre
  case h_2 => exact hpre.elim
  rename_i v
  subst hpre
  obtain ⟨vl⟩ := vs
  match vl, hvs with
  | [v0], hvs =>
    obtain ⟨h0, _⟩ := hvs
    obtain ⟨rfl, _⟩ := (show SV S N w (.lit (.slice A l0.length c)) v0 from h0)
    obtain ⟨r, hf, hr1, hr2⟩ := open_f l0
    have hB := at0_below hP
    refine Calls.mono (open_fresh A c l0 r 0 w0 w hB hr0 hc0 hf) ?_
    rintro e w' ⟨g, rfl, ⟨A', c', hI, hge, hC⟩, hB2, hBl, hfr⟩
    have hsz : ∀ k, k < w.heap.size → w'.heap[k]? = w.heap[k]? := fun k hk => hBl.block k hk
    have hlt : g < w'.heap.size := Bk.lt ⟨_, hI, rfl⟩
    have hO : Out S w (fun k => S k ∨ k = g) w' := {
      s := fun _ h => .inl h
      new := fun k h => h.imp id (fun e => by omega)
      size := hBl.size
      keep := fun k hk _ => hsz k hk
      b := fun k e m hk hbk => by
        obtain ⟨c1, hc1, hm1⟩ := hbk
        exact ⟨c1, (hsz k (hW.lt hk)).trans hc1, hm1⟩
      os := hBl.os
      tape := hBl.tape
      output := hBl.output }
    have hG : Gro S N w (fun k => S k ∨ k = g) N w' := hO.gro (Nat.le_refl N)
    refine ⟨_, .rd, N, _, rfl, ⟨(), trivial, rfl, rfl⟩, Nat.le_refl N, ⟨g, rfl, .inr rfl, ⟨_, hI, rfl⟩⟩, fun k hk => ?_, hO⟩
    rcases hk with hk | rfl
    · refine ⟨(hW k hk).1, ?_⟩
      rcases (hW k hk).2 with ⟨e, cells, hc2, hf2⟩ | ⟨A2, n2, c2, p2, hc2, h1, h2, h3⟩
      · exact .inl ⟨e, cells, (hsz k (hW.lt hk)).trans hc2, hf2.gro hG⟩
      · exact .inr ⟨A2, n2, c2, p2, (hsz k (hW.lt hk)).trans hc2, h1, h2, h3.gro hBl.size (fun i hi hw => hsz i hw)⟩
    · exact ⟨hP.new hfr, .inr ⟨A', r.length, c', 0, hI, Int.le_refl 0, by omega, cod_of hC ⟨hr1, fun x hx => hb0 x (hr2 x hx)⟩ hB2.size (fun i hi => hB2.block i hi)⟩⟩
end Go.Proofs.Ytipfdcmjcelbiaa.Open
end
