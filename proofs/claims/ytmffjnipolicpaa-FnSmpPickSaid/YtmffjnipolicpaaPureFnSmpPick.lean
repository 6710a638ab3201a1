/- Boxes that are opened are spread, at every code: the law's pure statement; no conditions. -/
import Derived.Test.YtmffjnipolicpaaAllx0
import Derived.Test.YtmffjnipolicpaaAllx10
import Derived.Test.YtmffjnipolicpaaAllx11
import Derived.Test.YtmffjnipolicpaaAllx7
import Derived.Test.YtmffjnipolicpaaLemSmp
set_option linter.unusedVariables false
set_option linter.unusedSimpArgs false
namespace Go.Proofs.Ytmffjnipolicpaa.Pure
open Go.RowKit Go.Proofs.Ytmffjnipolicpaa.All Go.Proofs.YtmffjnipolicpaaW.PrintWords Go.Proofs.YtmffjnipolicpaaW.PrintLast Go.Proofs.YtmffjnipolicpaaW.PrintMore

theorem cuInts_loop (l : List Int) (hl : l.length ≤ 4611686018427387904) (d : Nat) : ∀ (k : Nat) (i : Int), 0 ≤ i → (l.length : Int) - i = d → laws_cuInts.l0 (k + 1 + d) l l i = some true := by
  induction d with
  | zero =>
    intro k i h0 hd
    simp only [Nat.add_zero, laws_cuInts.l0]
    rw [if_neg (by omega)]
  | succ d ih =>
    intro k i h0 hd
    rw [show k + 1 + (d + 1) = (k + 1 + d) + 1 by omega]
    simp only [laws_cuInts.l0]
    rw [if_pos (show i < (l.length : Int) by omega), if_pos h0, if_pos (show i < (l.length : Int) by omega), if_pos trivial, wr (x := i + 1) (by omega) (by omega)]
    exact ih k (i + 1) (by omega) (by omega)
theorem cuInts_self (l : List Int) (hl : l.length ≤ 4611686018427387904) (k : Nat) (hk : l.length + 1 ≤ k) : laws_cuInts.f k l l = some true := by
  unfold laws_cuInts.f
  rw [if_pos rfl]
  have := cuInts_loop l hl l.length (k - 1 - l.length) 0 (by omega) (by omega)
  rwa [show k - 1 - l.length + 1 + l.length = k by omega] at this
theorem gap (n c i : Int) (hc : 1 ≤ c) : n / c ≤ (i + 1) * n / c - i * n / c ∧ (i + 1) * n / c - i * n / c ≤ n / c + 1 := by
  rw [show (i + 1) * n = i * n + n by rw [Int.add_mul, Int.one_mul]]
  generalize i * n = x
  have hx := Int.emod_add_mul_ediv x c
  have hn := Int.emod_add_mul_ediv n c
  have hs := Int.emod_add_mul_ediv (x + n) c
  have a1 := Int.emod_nonneg x (show c ≠ 0 by omega)
  have a2 := Int.emod_lt_of_pos x (show 0 < c by omega)
  have b1 := Int.emod_nonneg n (show c ≠ 0 by omega)
  have b2 := Int.emod_lt_of_pos n (show 0 < c by omega)
  have s1 := Int.emod_nonneg (x + n) (show c ≠ 0 by omega)
  have s2 := Int.emod_lt_of_pos (x + n) (show 0 < c by omega)
  generalize x % c = xr at *
  generalize n % c = nr at *
  generalize (x + n) % c = sr at *
  generalize x / c = p at *
  generalize n / c = q at *
  generalize (x + n) / c = s at *
  have key : c * (s - p - q) = xr + nr - sr := by
    have e : c * (s - p - q) = c * s - c * p - c * q := by rw [Int.mul_sub, Int.mul_sub]
    omega
  have lo : -1 < s - p - q := by
    by_cases h : s - p - q ≤ -1
    · have : c * (s - p - q) ≤ c * (-1) := Int.mul_le_mul_of_nonneg_left h (by omega)
      omega
    · omega
  have hi : s - p - q < 2 := by
    by_cases h : 2 ≤ s - p - q
    · have : c * 2 ≤ c * (s - p - q) := Int.mul_le_mul_of_nonneg_left h (by omega)
      omega
    · omega
  omega
theorem pick_loop (n c : Int) (hn1 : 1 ≤ n) (hn : n ≤ 10000) (hc1 : 1 ≤ c) (hc : c ≤ 101) (K : Nat) (hK : ∀ k, K ≤ k → ∃ z, impl_SmpPick.f k 4 = some z ∧ z.length = 3) (d : Nat) : ∀ (k : Nat) (i : Int), 0 ≤ i → c - i = d →
    laws_FnSmpPick.l0 (K + k + 1 + 3 * d) n (picks n c c.toNat) i = some true := by
  have hlen := picks_length n c c.toNat
  induction d with
  | zero =>
    intro k i h0 hd
    obtain ⟨z, hz, h3⟩ := hK (K + k) (by omega)
    simp only [Nat.mul_zero, Nat.add_zero, laws_FnSmpPick.l0]
    rw [if_neg (by omega), hz]
    simp [h3]
  | succ d ih =>
    intro k i h0 hd
    have w1 : wrap64 (i + 1) = i + 1 := wr (by omega) (by omega)
    have hi := picks_rd n c c.toNat i h0 (by omega)
    have m0 := mul_small i n h0 (by omega) (by omega) hn
    have m1 := mul_small (i + 1) n (by omega) (by omega) (by omega) hn
    have p0 : 0 ≤ i * n / c := Int.ediv_nonneg m0.1 (by omega)
    have p1 : i * n / c ≤ i * n := Int.ediv_le_self _ m0.1
    have p2 : 0 ≤ (i + 1) * n / c := Int.ediv_nonneg m1.1 (by omega)
    have p3 : (i + 1) * n / c ≤ (i + 1) * n := Int.ediv_le_self _ m1.1
    have p4 : 0 ≤ n / c := Int.ediv_nonneg (by omega) (by omega)
    have p5 : n / c ≤ n := Int.ediv_le_self _ (by omega)
    have g := gap n c i hc1
    have tq : Int.tdiv n ((picks n c c.toNat).length : Int) = n / c := by rw [hlen, show ((c.toNat : Nat) : Int) = c by omega]; exact Int.tdiv_eq_ediv_of_nonneg (by omega)
    have nxt : laws_FnSmpPick.j2 (K + k + 1 + 3 * d + 2) n (picks n c c.toNat) i ((i + 1) * n / c) = some true := by
      rw [show K + k + 1 + 3 * d + 2 = (K + k + 1 + 3 * d + 1) + 1 by omega]
      have go : laws_FnSmpPick.j3 (K + k + 1 + 3 * d + 1) n (picks n c c.toNat) i false = some true := by
        simp only [laws_FnSmpPick.j3]
        rw [if_neg (by simp), w1]
        exact ih k (i + 1) (by omega) (by omega)
      simp only [laws_FnSmpPick.j2]
      rw [if_pos h0, if_pos (by omega), if_neg (by omega), tq, hi, wr (x := (i + 1) * n / c - i * n / c) (by omega) (by omega), wr (x := n / c) (by omega) (by omega), wr (x := n / c + 1) (by omega) (by omega), if_neg (by omega), if_neg (by omega)]
      by_cases hz : i = 0
      · rw [if_pos hz, if_pos (by omega)]
        have r0 := picks_rd n c c.toNat 0 (by omega) (by omega)
        rw [r0, show ((0 : Int) * n / c != 0) = false by simp]
        exact go
      · rw [if_neg hz]; exact go
    rw [show K + k + 1 + 3 * (d + 1) = (K + k + 1 + 3 * d + 2) + 1 by omega]
    simp only [laws_FnSmpPick.l0, w1]
    rw [if_pos (by omega)]
    by_cases hlast : i + 1 < c
    · rw [if_pos (by omega), if_pos (by omega), picks_rd n c c.toNat (i + 1) (by omega) (by omega)]
      exact nxt
    · rw [if_neg (by omega)]
      have e : (i + 1) * n / c = n := by
        rw [show i + 1 = c by omega]
        exact Int.mul_ediv_cancel_left n (by omega)
      rw [e] at nxt
      exact nxt
theorem FnSmpPick : laws_FnSmpPick.Pure := by
  intro l _ _ hx
  by_cases hl : (l.length : Int) > 1048576
  · exact ⟨0, by unfold laws_FnSmpPick.f; rw [if_pos hl]⟩
  · obtain ⟨n, n1, n2, ⟨K0, e0⟩⟩ := drawRoot_ev l hx
    obtain ⟨c, hc, ⟨K1, e1⟩, ⟨K2, e2⟩, ⟨K3, e3⟩, _⟩ := pick_any2 n
    obtain ⟨c4, hc4, _, ⟨K4, e4⟩, _, _⟩ := pick_any2 4
    dsimp only at e0 e1 e2 e3 e4
    have hb := count_bound n c hc
    have hlen := picks_length n c c.toNat
    have h43 : c4 = 3 := by
      unfold isCount at hc4
      rw [if_pos (by omega)] at hc4
      obtain ⟨s, hs, rfl⟩ := hc4
      unfold isRoot at hs
      rw [if_pos (by omega)] at hs
      obtain ⟨s0, s1, s2, s3⟩ := hs
      have : s = 2 := by
        by_cases a : s ≤ 1
        · have : (s + 1) * (s + 1) ≤ 2 * 2 := Int.mul_le_mul (by omega) (by omega) (by omega) (by omega)
          omega
        · by_cases b : 3 ≤ s
          · have : 3 * 3 ≤ s * s := Int.mul_le_mul (by omega) (by omega) (by omega) (by omega)
            omega
          · omega
      subst this
      rfl
    have hK : ∀ k, K4 ≤ k → ∃ z, impl_SmpPick.f k 4 = some z ∧ z.length = 3 := fun k hk => ⟨_, e4 k hk, by rw [picks_length, h43]; rfl⟩
    let M := max K0 (max K1 (max K2 (max K3 K4))) + 400
    have hM : M = max K0 (max K1 (max K2 (max K3 K4))) + 400 := rfl
    refine ⟨M + 1, ?_⟩
    unfold laws_FnSmpPick.f
    rw [if_neg hl, show spec_DrawSmpPick.f (M + 1) l = some n by unfold spec_DrawSmpPick.f; rw [e0 _ (by omega)]; rfl]
    simp only [Option.bind_some]
    rw [e2 _ (by omega)]
    simp only [Option.bind_some]
    rw [e1 _ (by omega)]
    simp only [Option.bind_some]
    rw [cuInts_self _ (by omega) _ (by omega)]
    simp only [Option.bind_some, if_true]
    rw [e3 _ (by omega)]
    simp only [Option.bind_some]
    rw [show (((picks n c c.toNat).length : Int) != c) = false by rw [hlen]; simp; omega]
    simp only [laws_FnSmpPick.j0]
    rw [if_neg (by simp)]
    by_cases h : 1 ≤ n ∧ n ≤ 10000
    · have hr := hb.2.2.1 h
      have := pick_loop n c h.1 h.2 hr.1 hb.2.1 K4 hK c.toNat (M - K4 - 1 - 3 * c.toNat) 0 (by omega) (by omega)
      rw [show K4 + (M - K4 - 1 - 3 * c.toNat) + 1 + 3 * c.toNat = M by omega] at this
      exact this
    · have h0 := hb.2.2.2 h
      subst h0
      obtain ⟨z, hz, h3⟩ := hK (M - 1) (by omega)
      rw [show M = (M - 1) + 1 by omega]
      simp only [laws_FnSmpPick.l0]
      rw [if_neg (by rw [hlen]; simp), hz]
      simp [h3]

end Go.Proofs.Ytmffjnipolicpaa.Pure
