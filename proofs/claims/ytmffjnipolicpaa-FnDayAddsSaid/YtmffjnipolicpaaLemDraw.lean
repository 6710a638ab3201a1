/- Plain lemmas about the printed functions of this seat: drawday, drawdayplus. -/
import Derived.Test.YtmffjnipolicpaaAllx0
import Derived.Test.YtmffjnipolicpaaAllx12
import Derived.Test.YtmffjnipolicpaaAllx13
import Derived.Test.YtmffjnipolicpaaLemA
set_option linter.unusedVariables false
set_option linter.unusedSimpArgs false
namespace Go.Proofs.Ytmffjnipolicpaa.Pure
open Go.RowKit Go.Proofs.Ytmffjnipolicpaa.All Go.Proofs.YtmffjnipolicpaaW.PrintWords Go.Proofs.YtmffjnipolicpaaW.PrintLast Go.Proofs.YtmffjnipolicpaaW.PrintMore

/-! ### a day that is drawn -/
theorem tail_draw (b : List Int) (hb : Code b) (p n y m d : Int) (h0 : 0 ≤ p) (hp : p ≤ 900000) (hn : 1 ≤ n) (hn2 : n ≤ 1000000) (hy : 1899 ≤ y ∧ y ≤ 2200) (hm : 0 ≤ m ∧ m ≤ 13) (hd : 0 ≤ d ∧ d ≤ 32) :
    ∃ y' m' d' q, (1899 ≤ y' ∧ y' ≤ 2200) ∧ (0 ≤ m' ∧ m' ≤ 13) ∧ (0 ≤ d' ∧ d' ≤ 32) ∧ (p ≤ q ∧ q ≤ p + 3) ∧ Ev (fun k => spec_l20Day.j0 k n b p y m d) (y', m', d', q) := by
  obtain ⟨v1, a1, c1, ⟨K1, e1⟩⟩ := pick_pos b hb p n h0 (by omega) hn hn2
  obtain ⟨v2, a2, c2, ⟨K2, e2⟩⟩ := pick_pos b hb (p + 1) 3 (by omega) (by omega) (by omega) (by omega)
  obtain ⟨v3, a3, c3, ⟨K3, e3⟩⟩ := pick_pos b hb (p + 1 + 1) 3 (by omega) (by omega) (by omega) (by omega)
  obtain ⟨v4, a4, c4, ⟨K4, e4⟩⟩ := pick_pos b hb (p + 1 + 1) 4 (by omega) (by omega) (by omega) (by omega)
  dsimp only at e1 e2 e3 e4
  by_cases h1 : v1 = 0
  · by_cases h2 : v2 = 0
    · have hr := rd_mem [1899, 2200, 2023] v3 a3 (by simpa using c3)
      simp only [List.mem_cons, List.not_mem_nil, or_false] at hr
      refine ⟨rd [1899, 2200, 2023] v3, m, d, p + 1 + 1 + 1, by omega, hm, hd, by omega, max K1 (max K2 K3) + 1, fun k hk => ?_⟩
      obtain ⟨k, rfl⟩ : ∃ j, k = j + 1 := ⟨k - 1, by omega⟩
      simp only [spec_l20Day.j0, e1 k (by omega), Option.bind_some]
      rw [if_pos h1, e2 k (by omega)]
      simp only [Option.bind_some]
      rw [if_pos h2, e3 k (by omega)]
      simp only [Option.bind_some]
      rw [if_pos a3, if_pos (by simpa using c3)]
    · by_cases h3 : v2 = 1
      · have hr := rd_mem [0, 13, 2] v3 a3 (by simpa using c3)
        simp only [List.mem_cons, List.not_mem_nil, or_false] at hr
        refine ⟨y, rd [0, 13, 2] v3, d, p + 1 + 1 + 1, hy, by omega, hd, by omega, max K1 (max K2 K3) + 1, fun k hk => ?_⟩
        obtain ⟨k, rfl⟩ : ∃ j, k = j + 1 := ⟨k - 1, by omega⟩
        simp only [spec_l20Day.j0, e1 k (by omega), Option.bind_some]
        rw [if_pos h1, e2 k (by omega)]
        simp only [Option.bind_some]
        rw [if_neg h2, if_pos h3, e3 k (by omega)]
        simp only [Option.bind_some]
        rw [if_pos a3, if_pos (by simpa using c3)]
      · have hr := rd_mem [0, 31, 30, 32] v4 a4 (by simpa using c4)
        simp only [List.mem_cons, List.not_mem_nil, or_false] at hr
        refine ⟨y, m, rd [0, 31, 30, 32] v4, p + 1 + 1 + 1, hy, hm, by omega, by omega, max K1 (max K2 K4) + 1, fun k hk => ?_⟩
        obtain ⟨k, rfl⟩ : ∃ j, k = j + 1 := ⟨k - 1, by omega⟩
        simp only [spec_l20Day.j0, e1 k (by omega), Option.bind_some]
        rw [if_pos h1, e2 k (by omega)]
        simp only [Option.bind_some]
        rw [if_neg h2, if_neg h3, e4 k (by omega)]
        simp only [Option.bind_some]
        rw [if_pos a4, if_pos (by simpa using c4)]
  · refine ⟨y, m, d, p + 1, hy, hm, hd, by omega, K1 + 1, fun k hk => ?_⟩
    obtain ⟨k, rfl⟩ : ∃ j, k = j + 1 := ⟨k - 1, by omega⟩
    simp only [spec_l20Day.j0, e1 k (by omega), Option.bind_some]
    rw [if_neg h1]
theorem day_draw (b : List Int) (hb : Code b) (p n : Int) (h0 : 0 ≤ p) (hp : p ≤ 800000) (hn : 1 ≤ n) (hn2 : n ≤ 1000000) :
    ∃ y m d q, (1899 ≤ y ∧ y ≤ 2200) ∧ (0 ≤ m ∧ m ≤ 13) ∧ (0 ≤ d ∧ d ≤ 32) ∧ (p ≤ q ∧ q ≤ p + 6) ∧ Ev (fun k => spec_l20Day.f k b p n) (y, m, d, q) := by
  obtain ⟨v1, a1, c1, ⟨K1, e1⟩⟩ := pick_pos b hb p 7 h0 (by omega) (by omega) (by omega)
  obtain ⟨v2, a2, c2, ⟨K2, e2⟩⟩ := pick_pos b hb (p + 1) 12 (by omega) (by omega) (by omega) (by omega)
  obtain ⟨v3, a3, c3, ⟨K3, e3⟩⟩ := pick_pos b hb (p + 1 + 1) 6 (by omega) (by omega) (by omega) (by omega)
  dsimp only at e1 e2 e3
  have r1 := rd_mem [1900, 2000, 2024, 2026, 2100, 2199, 1996] v1 a1 (by simpa using c1)
  have r3 := rd_mem [1, 28, 15, 31, 30, 29] v3 a3 (by simpa using c3)
  simp only [List.mem_cons, List.not_mem_nil, or_false] at r1 r3
  generalize hy : rd [1900, 2000, 2024, 2026, 2100, 2199, 1996] v1 = y at r1
  generalize hd : rd [1, 28, 15, 31, 30, 29] v3 = d at r3
  have w2 : wrap64 (1 + v2) = 1 + v2 := wr (by omega) (by omega)
  have hl := dl_bound y (1 + v2)
  have hd2 : 0 ≤ (if d > dl y (1 + v2) then dl y (1 + v2) else d) ∧ (if d > dl y (1 + v2) then dl y (1 + v2) else d) ≤ 32 := by split <;> omega
  obtain ⟨y', m', d', q, g1, g2, g3, g4, ⟨K5, e5⟩⟩ := tail_draw b hb (p + 1 + 1 + 1) n y (1 + v2) (if d > dl y (1 + v2) then dl y (1 + v2) else d) (by omega) (by omega) hn hn2 (by omega) (by omega) hd2
  dsimp only at e5
  refine ⟨y', m', d', q, g1, g2, g3, by omega, max K1 (max K2 (max K3 K5)) + 2, fun k hk => ?_⟩
  unfold spec_l20Day.f
  simp only [Option.bind_some, e1 k (by omega), e2 k (by omega), e3 k (by omega)]
  rw [if_pos a1, if_pos (by simpa using c1), if_pos a3, if_pos (by simpa using c3), hy, hd, w2, spec_last_two y (1 + v2) k (by omega)]
  simp only [Option.bind_some]
  by_cases h : d > dl y (1 + v2)
  · rw [if_pos h] at e5 ⊢
    exact e5 k (by omega)
  · rw [if_neg h] at e5 ⊢
    exact e5 k (by omega)

theorem draw_plus (l : List Int) (h : ∀ x ∈ l, (Lit.int .u8 x).wf = true) : ∃ y m d k, (1899 ≤ y ∧ y ≤ 2200) ∧ (0 ≤ m ∧ m ≤ 13) ∧ (0 ≤ d ∧ d ≤ 32) ∧ (-1 ≤ k ∧ k ≤ 601) ∧ Ev (fun j => spec_DrawDayPlus.f j l) (y, m, d, k) := by
  obtain ⟨b, hb, e0⟩ := open_some l h
  obtain ⟨y, m, d, q, g1, g2, g3, g4, ⟨K1, e1⟩⟩ := day_draw b hb 0 12 (by omega) (by omega) (by omega) (by omega)
  obtain ⟨v2, a2, c2, ⟨K2, e2⟩⟩ := pick_pos b hb q 100 (by omega) (by omega) (by omega) (by omega)
  obtain ⟨v3, a3, c3, ⟨K3, e3⟩⟩ := pick_pos b hb (q + 1) 11 (by omega) (by omega) (by omega) (by omega)
  dsimp only at e1 e2 e3
  have r3 := rd_mem [0, 1, 2, 3, 6, 12, 24, 600, 601, -1, v2] v3 a3 (by simpa using c3)
  simp only [List.mem_cons, List.not_mem_nil, or_false] at r3
  refine ⟨y, m, d, rd [0, 1, 2, 3, 6, 12, 24, 600, 601, -1, v2] v3, g1, g2, g3, by omega, max K1 (max K2 K3), fun k hk => ?_⟩
  unfold spec_DrawDayPlus.f
  simp only [e0, Option.bind_some, e1 k (by omega), e2 k (by omega), e3 k (by omega)]
  rw [if_pos a3, if_pos (by simpa using c3)]

end Go.Proofs.Ytmffjnipolicpaa.Pure
