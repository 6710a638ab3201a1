/- Behind each day comes the next one, at every code: the law's pure statement; no conditions. -/
import Derived.Test.YtmffjnipolicpaaAllx0
import Derived.Test.YtmffjnipolicpaaAllx15
import Derived.Test.YtmffjnipolicpaaAllx16
import Derived.Test.YtmffjnipolicpaaAllx3
import Derived.Test.YtmffjnipolicpaaLemOf
set_option linter.unusedVariables false
set_option linter.unusedSimpArgs false
namespace Go.Proofs.Ytmffjnipolicpaa.Pure
open Go.RowKit Go.Proofs.Ytmffjnipolicpaa.All Go.Proofs.YtmffjnipolicpaaW.PrintWords Go.Proofs.YtmffjnipolicpaaW.PrintLast Go.Proofs.YtmffjnipolicpaaW.PrintMore

theorem draw_of (l : List Int) (h : ∀ x ∈ l, (Lit.int .u8 x).wf = true) : ∃ n, -1 ≤ n ∧ n ≤ 109573 ∧ Ev (fun j => spec_DrawDayOf.f j l) n := by
  obtain ⟨b, hb, e0⟩ := open_some l h
  obtain ⟨v1, a1, c1, ⟨K1, e1⟩⟩ := pick_pos b hb 0 256 (by omega) (by omega) (by omega) (by omega)
  obtain ⟨v2, a2, c2, ⟨K2, e2⟩⟩ := pick_pos b hb (0 + 1) 256 (by omega) (by omega) (by omega) (by omega)
  obtain ⟨v3, a3, c3, ⟨K3, e3⟩⟩ := pick_pos b hb (0 + 1 + 1) 10 (by omega) (by omega) (by omega) (by omega)
  dsimp only at e1 e2 e3
  have w : wrap64 (wrap64 (v1 * 427) + v2) = v1 * 427 + v2 := by rw [wr (x := v1 * 427) (by omega) (by omega)]; exact wr (by omega) (by omega)
  have r3 := rd_mem [0, 58, 59, 60, 365, 366, 109572, 109573, -1, v1 * 427 + v2] v3 a3 (by simpa using c3)
  simp only [List.mem_cons, List.not_mem_nil, or_false] at r3
  refine ⟨rd [0, 58, 59, 60, 365, 366, 109572, 109573, -1, v1 * 427 + v2] v3, by omega, by omega, max K1 (max K2 K3), fun k hk => ?_⟩
  unfold spec_DrawDayOf.f
  simp only [e0, Option.bind_some, e1 k (by omega), e2 k (by omega), e3 k (by omega), w]
  rw [if_pos a3, if_pos (by simpa using c3)]
theorem next_day (n y m d y' m' d' : Int) (h0 : 0 ≤ n) (h1 : n < 109572) (h : isOf n y m d) (h' : isOf (n + 1) y' m' d') :
    (y' = y ∧ m' = m ∧ d' = d + 1) ∨ (y' = y ∧ m' = m + 1 ∧ d' = 1 ∧ d = dl y m) ∨ (y' = y + 1 ∧ m' = 1 ∧ d' = 1 ∧ m = 12 ∧ d = 31) := by
  unfold isOf at h h'
  rw [if_pos (by omega)] at h h'
  have hd := (dok_iff y m d).mp h.1
  by_cases e1 : d < dl y m
  · have k : dok y m (d + 1) = true := by rw [dok_iff]; omega
    have := num0_inj y' m' d' y m (d + 1) h'.1 k (by rw [h'.2, ← h.2]; unfold num0; omega)
    omega
  · have e2 : d = dl y m := by omega
    by_cases e3 : m < 12
    · have k := dok_first y (by omega) (by omega) (m + 1) (by omega) (by omega)
      have hc := cum_succ y m (by omega) (by omega)
      have := num0_inj y' m' d' y (m + 1) 1 h'.1 k (by rw [h'.2, ← h.2]; unfold num0; omega)
      omega
    · obtain rfl : m = 12 := by omega
      have h31 : dl y 12 = 31 := by unfold dl impl_DayLast.tab; simp
      have hy : y < 2199 := by
        by_cases z : y < 2199
        · exact z
        · obtain rfl : y = 2199 := by omega
          have hc := cum_succ 2199 12 (by omega) (by omega)
          have h13 : cum 2199 (12 + 1) = 365 + leapN 2199 := cum_end 2199
          have hn := nyear_succ 2199
          have hq : nyear (2199 + 1) = 109573 := nyear_end
          have := h.2
          unfold num0 at this
          omega
      have k := dok_first (y + 1) (by omega) (by omega) 1 (by omega) (by omega)
      have hc := cum_succ y 12 (by omega) (by omega)
      have h13 : cum y (12 + 1) = 365 + leapN y := cum_end y
      have hn := nyear_succ y
      have := num0_inj y' m' d' (y + 1) 1 1 h'.1 k (by rw [h'.2, ← h.2]; unfold num0; rw [cum_one]; omega)
      omega
theorem FnDayOf : laws_FnDayOf.Pure := by
  intro l _ _ hx
  by_cases hl : (l.length : Int) > 1048576
  · exact ⟨0, by unfold laws_FnDayOf.f; rw [if_pos hl]⟩
  · obtain ⟨n, n1, n2, ⟨K, e⟩⟩ := draw_of l hx
    dsimp only at e
    obtain ⟨y, m, d, h, e1⟩ := spec_of n
    obtain ⟨y2, m2, d2, h2, e2⟩ := impl_of n
    obtain ⟨rfl, rfl, rfl⟩ := isOf_one h h2
    obtain ⟨y', m', d', h', e3⟩ := impl_of (n + 1)
    have out : ∀ k, (n < 0 ∨ n ≥ 109573) → laws_FnDayOf.j0 (k + 1) n true y m d = some true := by
      intro k hn
      unfold isOf at h
      rw [if_neg (by omega)] at h
      obtain ⟨rfl, rfl, rfl⟩ := h
      simp only [laws_FnDayOf.j0]
      rw [if_pos trivial, if_pos (by simp), cu_ok]
      rfl
    have ins : 0 ≤ n → n ≤ 109572 → laws_FnDayOf.j0 (K + 1000 + 4) n false y m d = some true := by
      intro k0 k1
      have hh := h
      unfold isOf at hh
      rw [if_pos ⟨k0, k1⟩] at hh
      have hd := (dok_iff y m d).mp hh.1
      have hnum : num y m d = n := by unfold num; rw [if_pos hh.1, hh.2]
      have last : ∀ a b c : Bool, (a = true ∨ b = true ∨ c = true ∨ n = 109572) → laws_FnDayOf.j3 (K + 1000 + 1) n a b c y m d = some true := by
        intro a b c habc
        simp only [laws_FnDayOf.j3, impl_ok, Option.bind_some]
        rw [if_pos hh.1, show K + 1000 = K + 600 + 400 by omega, impl_num]
        simp only [Option.bind_some]
        rw [if_pos hnum]
        cases a <;> cases b <;> cases c <;> simp_all
      simp only [laws_FnDayOf.j0]
      rw [if_neg (by simp), wr (x := n + 1) (by omega) (by omega), show K + 1000 + 3 = K + 683 + 320 by omega, e3]
      simp only [Option.bind_some]
      rw [show K + 683 + 320 = (K + 1000 + 1 + 1) + 1 by omega]
      have w1 : wrap64 (d + 1) = d + 1 := by have := dl_bound y m; exact wr (by omega) (by omega)
      have w2 : wrap64 (m + 1) = m + 1 := wr (by omega) (by omega)
      have w3 : wrap64 (y + 1) = y + 1 := wr (by omega) (by omega)
      -- which of the three it is, as the law's three Bools
      have step : ∀ a : Bool, (a = true ↔ (y' = y ∧ m' = m ∧ d' = d + 1)) → laws_FnDayOf.j1 (K + 1000 + 1 + 1 + 1) n a y m d y' m' d' = some true := by
        intro a ha
        have two : ∀ bb : Bool, (bb = true ↔ (y' = y ∧ m' = m + 1 ∧ d' = 1 ∧ d = dl y m)) → laws_FnDayOf.j2 (K + 1000 + 1 + 1) n a bb y m d y' m' d' = some true := by
          intro bb hbb
          have fin : ∀ c : Bool, (c = true ↔ (y' = y + 1 ∧ m' = 1 ∧ d' = 1 ∧ m = 12 ∧ d = 31)) → laws_FnDayOf.j3 (K + 1000 + 1) n a bb c y m d = some true := by
            intro c hc
            refine last a bb c ?_
            by_cases hlast : n = 109572
            · exact .inr (.inr (.inr hlast))
            · rcases next_day n y m d y' m' d' k0 (by omega) h h' with q | q | q
              · exact .inl (ha.mpr q)
              · exact .inr (.inl (hbb.mpr q))
              · exact .inr (.inr (.inl (hc.mpr q)))
          simp only [laws_FnDayOf.j2, w3]
          by_cases q1 : y' = y + 1
          · rw [if_pos q1]
            by_cases q2 : m' = 1
            · rw [if_pos q2]
              by_cases q3 : d' = 1
              · rw [if_pos q3]
                by_cases q4 : m = 12
                · rw [if_pos q4]; exact fin _ (by simp [q1, q2, q3, q4])
                · rw [if_neg q4]; exact fin _ (by simp [q4])
              · rw [if_neg q3]; exact fin _ (by simp [q3])
            · rw [if_neg q2]; exact fin _ (by simp [q2])
          · rw [if_neg q1]; exact fin _ (by simp [q1])
        simp only [laws_FnDayOf.j1, w2, impl_last, Option.bind_some]
        by_cases q1 : y' = y
        · rw [if_pos q1]
          by_cases q2 : m' = m + 1
          · rw [if_pos q2]
            by_cases q3 : d' = 1
            · rw [if_pos q3]; exact two _ (by simp [q1, q2, q3])
            · rw [if_neg q3]; exact two _ (by simp [q3])
          · rw [if_neg q2]; exact two _ (by simp [q2])
        · rw [if_neg q1]; exact two _ (by simp [q1])
      by_cases q1 : y' = y
      · rw [if_pos q1]
        by_cases q2 : m' = m
        · rw [if_pos q2, w1]; exact step _ (by simp [q1, q2])
        · rw [if_neg q2]; exact step _ (by simp [q2])
      · rw [if_neg q1]; exact step _ (by simp [q1])
    refine ⟨K + 1000 + 4, ?_⟩
    unfold laws_FnDayOf.f
    rw [if_neg hl, e _ (by omega)]
    simp only [Option.bind_some]
    rw [show K + 1000 + 4 = K + 684 + 320 by omega, e2, show K + 684 + 320 = K + 304 + 700 by omega, e1]
    simp only [Option.bind_some]
    rw [if_neg (by simp)]
    by_cases q1 : n < 0
    · rw [if_pos q1]; exact out _ (.inl q1)
    · rw [if_neg q1]
      by_cases q2 : n ≥ 109573
      · rw [decide_eq_true q2]; exact out _ (.inr q2)
      · rw [decide_eq_false q2]; exact ins (by omega) (by omega)

end Go.Proofs.Ytmffjnipolicpaa.Pure
