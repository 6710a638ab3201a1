/- Months add up, but for last days, at every code: the law's pure statement; no conditions. -/
import Derived.Test.YtmffjnipolicpaaAllx0
import Derived.Test.YtmffjnipolicpaaAllx14
import Derived.Test.YtmffjnipolicpaaLemPlus
import Derived.Test.YtmffjnipolicpaaLemDraw
set_option linter.unusedVariables false
set_option linter.unusedSimpArgs false
namespace Go.Proofs.Ytmffjnipolicpaa.Pure
open Go.RowKit Go.Proofs.Ytmffjnipolicpaa.All Go.Proofs.YtmffjnipolicpaaW.PrintWords Go.Proofs.YtmffjnipolicpaaW.PrintLast Go.Proofs.YtmffjnipolicpaaW.PrintMore

theorem adds (y m d k j : Int) (hd : d ≤ 28) (hk : 0 ≤ k) (hj : 0 ≤ j) (hs : k + j ≤ 600) (hx : (plus (plus y m d k).1 (plus y m d k).2.1 (plus y m d k).2.2 j).1 ≠ 0) :
    plus (plus y m d k).1 (plus y m d k).2.1 (plus y m d k).2.2 j = plus y m d (k + j) := by
  by_cases h : dok y m d = true ∧ 0 ≤ k ∧ k ≤ 600 ∧ plusY y m k ≤ 2199
  · have hh := (dok_iff y m d).mp h.1
    have e : plus y m d k = (plusY y m k, plusM m k, d) := by
      unfold plus
      rw [if_pos h]
      have := dl_low (plusY y m k) (plusM m k) (by unfold plusM; omega) (by unfold plusM; omega)
      unfold plusD
      rw [if_neg (by omega)]
    rw [e] at hx ⊢
    dsimp only at hx ⊢
    have eY : plusY (plusY y m k) (plusM m k) j = plusY y m (k + j) := by unfold plusY plusM; omega
    have eM : plusM (plusM m k) j = plusM m (k + j) := by unfold plusM; omega
    have hc : dok (plusY y m k) (plusM m k) d = true ∧ 0 ≤ j ∧ j ≤ 600 ∧ plusY (plusY y m k) (plusM m k) j ≤ 2199 := by
      by_cases g : dok (plusY y m k) (plusM m k) d = true ∧ 0 ≤ j ∧ j ≤ 600 ∧ plusY (plusY y m k) (plusM m k) j ≤ 2199
      · exact g
      · exact absurd (by unfold plus; rw [if_neg g]) hx
    have hR : dok y m d = true ∧ 0 ≤ k + j ∧ k + j ≤ 600 ∧ plusY y m (k + j) ≤ 2199 := ⟨h.1, by omega, hs, by omega⟩
    unfold plus
    rw [if_pos hc, if_pos hR]
    unfold plusD
    rw [eY, eM]
  · have e : plus y m d k = (0, 0, 0) := by unfold plus; rw [if_neg h]
    rw [e] at hx
    exact absurd (by unfold plus; rw [if_neg (by intro g; have := (dok_iff _ _ _).mp g.1; omega)]) hx
theorem FnDayAdds : laws_FnDayAdds.Pure := by
  intro l _ _ hx
  by_cases hl : (l.length : Int) > 1048576
  · exact ⟨0, by unfold laws_FnDayAdds.f; rw [if_pos hl]⟩
  · obtain ⟨y, m, d, k, g1, g2, g3, g4, ⟨K, e⟩⟩ := draw_plus l hx
    dsimp only at e
    have hm : 0 ≤ (l.length : Int) % 25 ∧ (l.length : Int) % 25 ≤ 24 := by omega
    generalize hj : (l.length : Int) % 25 = j at hm
    have main : ∀ d' : Int, d' ≤ 28 → laws_FnDayAdds.j0 (K + 12) l k y m d' = some true := by
      intro d' hd'
      rw [show K + 12 = (K + 11) + 1 by omega]
      simp only [laws_FnDayAdds.j0]
      rw [show K + 11 = (K + 10) + 1 by omega, impl_plus _ y m d' k (by omega)]
      simp only [Option.bind_some]
      rw [hj, impl_plus _ _ _ _ j (by omega)]
      simp only [Option.bind_some]
      have flat : ∀ r : Int × Int × Int, laws_FnDayAdds.j1 (K + 10 + 1) k j true y m d' r.1 r.2.1 r.2.2 = some true := by
        intro r
        simp only [laws_FnDayAdds.j1]
        rw [if_pos trivial, impl_ok]
        simp only [Option.bind_some]
        rw [show K + 10 = (K + 8) + 2 by omega, spec_ok2]
        simp only [Option.bind_some]
        rw [if_pos (by simp), cu_ok]
        rfl
      by_cases h1 : (plus (plus y m d' k).1 (plus y m d' k).2.1 (plus y m d' k).2.2 j).1 = 0
      · rw [if_pos h1]; exact flat _
      · rw [if_neg h1]
        by_cases h2 : k < 0
        · rw [if_pos h2]; exact flat _
        · rw [if_neg h2, wr (x := k + j) (by omega) (by omega)]
          by_cases h3 : k + j > 600
          · rw [decide_eq_true h3]; exact flat _
          · rw [decide_eq_false h3]
            simp only [laws_FnDayAdds.j1]
            rw [if_neg (by simp), wr (x := k + j) (by omega) (by omega), show K + 10 = (K + 9) + 1 by omega, impl_plus _ y m d' (k + j) (by omega)]
            simp only [Option.bind_some]
            rw [adds y m d' k j hd' (by omega) hm.1 (by omega) h1]
            simp
    refine ⟨K + 12, ?_⟩
    unfold laws_FnDayAdds.f
    rw [if_neg hl, e _ (by omega)]
    simp only [Option.bind_some]
    rw [show K + 12 = (K + 11) + 1 by omega, impl_plus _ y m d k (by omega), show K + 11 + 1 = (K + 7) + 5 by omega, spec_plus _ y m d k (by omega)]
    simp only [Option.bind_some]
    rw [if_neg (by simp)]
    by_cases h : d > 28
    · rw [if_pos h]
      exact main 28 (by omega)
    · rw [if_neg h]
      exact main d (by omega)

end Go.Proofs.Ytmffjnipolicpaa.Pure
