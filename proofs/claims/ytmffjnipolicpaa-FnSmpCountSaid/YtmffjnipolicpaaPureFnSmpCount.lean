/- With more boxes no fewer are opened, at every code: the law's pure statement; no conditions. -/
import Derived.Test.YtmffjnipolicpaaAllx0
import Derived.Test.YtmffjnipolicpaaAllx6
import Derived.Test.YtmffjnipolicpaaAllx7
import Derived.Test.YtmffjnipolicpaaLemSmp
set_option linter.unusedVariables false
set_option linter.unusedSimpArgs false
namespace Go.Proofs.Ytmffjnipolicpaa.Pure
open Go.RowKit Go.Proofs.Ytmffjnipolicpaa.All Go.Proofs.YtmffjnipolicpaaW.PrintWords Go.Proofs.YtmffjnipolicpaaW.PrintLast Go.Proofs.YtmffjnipolicpaaW.PrintMore

theorem isRoot_one {n s t : Int} (h : isRoot n s) (h' : isRoot n t) : s = t := by
  unfold isRoot at h h'
  by_cases hn : 0 ≤ n ∧ n ≤ 10000
  · rw [if_pos hn] at h h'
    by_cases a : s < t
    · have : (s + 1) * (s + 1) ≤ t * t := Int.mul_le_mul (by omega) (by omega) (by omega) (by omega)
      omega
    · by_cases b : t < s
      · have : (t + 1) * (t + 1) ≤ s * s := Int.mul_le_mul (by omega) (by omega) (by omega) (by omega)
        omega
      · omega
  · rw [if_neg hn] at h h'
    omega
theorem root_next {n s t : Int} (h0 : 0 ≤ n) (h1 : n < 10000) (h : isRoot n s) (h' : isRoot (n + 1) t) : t = s ∨ t = s + 1 := by
  unfold isRoot at h h'
  rw [if_pos (by omega)] at h h'
  by_cases a : t < s
  · have : (t + 1) * (t + 1) ≤ s * s := Int.mul_le_mul (by omega) (by omega) (by omega) (by omega)
    omega
  · by_cases b : s + 1 < t
    · have : (s + 2) * (s + 2) ≤ t * t := Int.mul_le_mul (by omega) (by omega) (by omega) (by omega)
      have e : (s + 2) * (s + 2) = (s + 1) * (s + 1) + 2 * s + 3 := by
        rw [show s + 2 = (s + 1) + 1 by omega, Int.add_mul, Int.mul_add, Int.mul_add]
        omega
      omega
    · omega
theorem FnSmpCount : laws_FnSmpCount.Pure := by
  intro l _ _ hx
  by_cases hl : (l.length : Int) > 1048576
  · exact ⟨0, by unfold laws_FnSmpCount.f; rw [if_pos hl]⟩
  · obtain ⟨n, n1, n2, ⟨K0, e0⟩⟩ := drawRoot_ev l hx
    obtain ⟨c, hc, ⟨K1, e1⟩, ⟨K2, e2⟩⟩ := count_any n
    obtain ⟨m, hm, _, ⟨K3, e3⟩⟩ := count_any (n + 1)
    obtain ⟨q, hq, _, ⟨K4, e4⟩⟩ := count_any 100
    dsimp only at e0 e1 e2 e3 e4
    have hb := count_bound n c hc
    have q11 : q = 11 := by
      unfold isCount at hq
      rw [if_pos (by omega)] at hq
      obtain ⟨s, hs, rfl⟩ := hq
      have : s = 10 := isRoot_one hs (by unfold isRoot; rw [if_pos (by omega)]; omega)
      subst this
      rfl
    subst q11
    have w1 : wrap64 (n + 1) = n + 1 := wr (by omega) (by omega)
    have w2 : wrap64 (c + 1) = c + 1 := wr (by omega) (by omega)
    have step : (1 ≤ n ∧ n ≤ 10000) → n ≠ 10000 → m = c ∨ m = c + 1 := by
      intro h hne
      unfold isCount at hc hm
      rw [if_pos h] at hc
      rw [if_pos (by omega)] at hm
      obtain ⟨s, hs, rfl⟩ := hc
      obtain ⟨t, ht, rfl⟩ := hm
      have hst := root_next (by omega) (by omega) hs ht
      have hs2 := hs
      have ht2 := ht
      unfold isRoot at hs2 ht2
      rw [if_pos (by omega)] at hs2 ht2
      split <;> split <;> omega
    have h1 : laws_FnSmpCount.j0 (max K0 (max K1 (max K2 (max K3 K4))) + 1) n c true = if c = 0 then some true else some false := by
      simp only [laws_FnSmpCount.j0]
      rw [if_pos trivial, cu_ok]
      rfl
    refine ⟨max K0 (max K1 (max K2 (max K3 K4))) + 1, ?_⟩
    unfold laws_FnSmpCount.f spec_DrawSmpCount.f
    rw [if_neg hl, e0 _ (by omega)]
    simp only [Option.bind_some]
    rw [e2 _ (by omega)]
    simp only [Option.bind_some]
    rw [e1 _ (by omega)]
    simp only [Option.bind_some, if_true]
    by_cases g1 : n < 1
    · rw [if_pos g1, h1, if_pos (hb.2.2.2 (by omega))]
    · rw [if_neg g1]
      by_cases g2 : n > 10000
      · rw [decide_eq_true g2, h1, if_pos (hb.2.2.2 (by omega))]
      · rw [decide_eq_false g2]
        have hr := hb.2.2.1 (by omega)
        simp only [laws_FnSmpCount.j0, w1, w2]
        rw [if_neg (by simp), e3 _ (by omega)]
        simp only [Option.bind_some]
        rw [if_pos hr.1, if_pos hr.2, e4 _ (by omega)]
        simp only [Option.bind_some]
        by_cases g3 : n = 10000
        · rw [if_pos g3]; rfl
        · rw [if_neg g3]
          rcases step (by omega) g3 with g4 | g4
          · rw [if_pos g4]; rfl
          · rw [if_neg (by omega), if_pos g4]; rfl

end Go.Proofs.Ytmffjnipolicpaa.Pure
