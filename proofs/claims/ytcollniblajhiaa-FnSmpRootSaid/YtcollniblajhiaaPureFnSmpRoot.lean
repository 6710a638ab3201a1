/- A root is the greatest that fits, at every code: the law's pure statement; no conditions. -/
import Derived.Test.YtcollniblajhiaaAllx0
import Derived.Test.YtcollniblajhiaaAllx6
import Derived.Test.YtcollniblajhiaaAllx7
import Derived.Test.YtcollniblajhiaaLemA
set_option linter.unusedVariables false
set_option linter.unusedSimpArgs false
namespace Go.Proofs.Ytcollniblajhiaa.Pure
open Go.RowKit Go.Proofs.Ytcollniblajhiaa.All Go.Proofs.YtcollniblajhiaaW.PrintWords Go.Proofs.YtcollniblajhiaaW.PrintLast Go.Proofs.YtcollniblajhiaaW.PrintMore

theorem drawRoot_ev (l : List Int) (h : ∀ x ∈ l, (Lit.int .u8 x).wf = true) : ∃ n, -1 ≤ n ∧ n ≤ 10022 ∧ Ev (fun k => spec_DrawSmpRoot.f k l) n := by
  obtain ⟨b, hb, e0⟩ := open_some l h
  obtain ⟨v1, a1, c1, ⟨K1, e1⟩⟩ := pick_pos b hb 0 256 (by omega) (by omega) (by omega) (by omega)
  dsimp only at e1
  obtain ⟨v2, a2, c2, ⟨K2, e2⟩⟩ := pick_pos b hb 1 39 (by omega) (by omega) (by omega) (by omega)
  dsimp only at e2
  obtain ⟨v3, a3, c3, ⟨K3, e3⟩⟩ := pick_pos b hb 2 11 (by omega) (by omega) (by omega) (by omega)
  dsimp only at e3
  have w : wrap64 (wrap64 (v1 * 39) + v2) = v1 * 39 + v2 := by rw [wr (x := v1 * 39) (by omega) (by omega)]; exact wr (by omega) (by omega)
  refine ⟨rd [0, 1, 3, 4, 24, 25, 26, 10000, 10001, -1, v1 * 39 + v2] v3, ?_, ?_, max K1 (max K2 K3), fun k hk => ?_⟩
  · have := rd_mem [0, 1, 3, 4, 24, 25, 26, 10000, 10001, -1, v1 * 39 + v2] v3 a3 (by simpa using c3)
    simp only [List.mem_cons, List.not_mem_nil, or_false] at this
    omega
  · have := rd_mem [0, 1, 3, 4, 24, 25, 26, 10000, 10001, -1, v1 * 39 + v2] v3 a3 (by simpa using c3)
    simp only [List.mem_cons, List.not_mem_nil, or_false] at this
    omega
  · unfold spec_DrawSmpRoot.f
    simp only [e0, Option.bind_some, e1 k (by omega), show (0 : Int) + 1 = 1 from rfl, e2 k (by omega), show (1 : Int) + 1 = 2 from rfl, e3 k (by omega), w]
    rw [if_pos a3, if_pos (by simpa using c3)]
theorem FnSmpRoot : laws_FnSmpRoot.Pure := by
  intro l _ _ hx
  by_cases hl : (l.length : Int) > 1048576
  · exact ⟨0, by unfold laws_FnSmpRoot.f; rw [if_pos hl]⟩
  · obtain ⟨n, n1, n2, ⟨K0, e0⟩⟩ := drawRoot_ev l hx
    dsimp only at e0
    obtain ⟨s, hs, ⟨K1, h1⟩, ⟨K2, h2⟩⟩ := root_any n
    dsimp only at h1 h2
    obtain ⟨s9, hs9, _, ⟨K3, h3⟩⟩ := root_any 81
    dsimp only at h3
    refine ⟨max K0 (max K1 (max K2 K3)) + 1, ?_⟩
    unfold laws_FnSmpRoot.f
    rw [if_neg hl, e0 _ (by omega)]
    simp only [Option.bind_some]
    rw [h2 _ (by omega), h1 _ (by omega)]
    simp only [Option.bind_some, if_true, laws_FnSmpRoot.j0]
    unfold isRoot at hs
    by_cases hr : 0 ≤ n ∧ n ≤ 10000
    · rw [if_pos hr] at hs
      obtain ⟨q0, q1, q2, q3⟩ := hs
      have b1 : 0 ≤ s * s := Int.mul_nonneg q0 q0
      have b3 : 0 ≤ (s + 1) * (s + 1) := Int.mul_nonneg (by omega) (by omega)
      have b2 : (s + 1) * (s + 1) ≤ 101 * 101 := Int.mul_le_mul (by omega) (by omega) (by omega) (by omega)
      have w1 : wrap64 (s * s) = s * s := wr (by omega) (by omega)
      have w2 : wrap64 (s + 1) = s + 1 := wr (by omega) (by omega)
      have w3 : wrap64 ((s + 1) * (s + 1)) = (s + 1) * (s + 1) := wr (by omega) (by omega)
      rw [if_neg (by omega), if_neg (by simp; omega), w1, if_pos q2, w2, w3, if_pos q3, h3 _ (by omega)]
      have : s9 = 9 := by
        unfold isRoot at hs9
        rw [if_pos (by decide)] at hs9
        obtain ⟨p0, p1, p2, p3⟩ := hs9
        by_cases z : s9 ≤ 8
        · have : (s9 + 1) * (s9 + 1) ≤ 9 * 9 := Int.mul_le_mul (by omega) (by omega) (by omega) (by omega)
          omega
        · by_cases z2 : 10 ≤ s9
          · have : 10 * 10 ≤ s9 * s9 := Int.mul_le_mul (by omega) (by omega) (by omega) (by omega)
            omega
          · omega
      subst this
      rfl
    · rw [if_neg hr] at hs
      subst hs
      by_cases h0 : n < 0
      · rw [if_pos h0, cu_ok]; simp
      · rw [if_neg h0, cu_ok]; simp; omega

end Go.Proofs.Ytcollniblajhiaa.Pure
