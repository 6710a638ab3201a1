/- Plain lemmas about the printed functions of this seat: smppick, drawsmp. -/
import Derived.Test.YtmffjnipolicpaaAllx0
import Derived.Test.YtmffjnipolicpaaAllx6
import Derived.Test.YtmffjnipolicpaaAllx7
import Derived.Test.YtmffjnipolicpaaLemA
set_option linter.unusedVariables false
set_option linter.unusedSimpArgs false
namespace Go.Proofs.Ytmffjnipolicpaa.Pure
open Go.RowKit Go.Proofs.Ytmffjnipolicpaa.All Go.Proofs.YtmffjnipolicpaaW.PrintWords Go.Proofs.YtmffjnipolicpaaW.PrintLast Go.Proofs.YtmffjnipolicpaaW.PrintMore

/-! ### boxes that are opened -/
/-- The first j of what is whole of i * n / c. -/
def picks (n c : Int) (j : Nat) : List Int := (List.range j).map (fun i => ((i : Nat) : Int) * n / c)
theorem picks_succ (n c : Int) (j : Nat) : picks n c (j + 1) = picks n c j ++ [(j : Int) * n / c] := by unfold picks; rw [List.range_succ, List.map_append]; rfl
theorem picks_length (n c : Int) (j : Nat) : (picks n c j).length = j := by unfold picks; simp
theorem picks_rd (n c : Int) (j : Nat) (i : Int) (h0 : 0 ≤ i) (h : i < j) : rd (picks n c j) i = i * n / c := by
  unfold rd picks
  rw [List.getD_eq_getElem?_getD, List.getElem?_map, List.getElem?_range (by omega)]
  simp only [Option.map_some, Option.getD_some]
  rw [show ((i.toNat : Nat) : Int) = i by omega]
theorem mul_small (i n : Int) (h0 : 0 ≤ i) (h1 : i ≤ 101) (h2 : 0 ≤ n) (h3 : n ≤ 10000) : 0 ≤ i * n ∧ i * n ≤ 1010000 := by
  have a := Int.mul_nonneg h0 h2
  have b : i * n ≤ 101 * 10000 := Int.mul_le_mul h1 h3 h2 (by omega)
  omega
theorem spec_pick_loop (n c : Int) (hn0 : 0 ≤ n) (hn : n ≤ 10000) (hc0 : 1 ≤ c) (hc : c ≤ 101) (d : Nat) : ∀ (k j : Nat), c - (j : Int) = d → spec_SmpPick.l0 (k + 1 + d) n (picks n c j) c j = some (picks n c c.toNat) := by
  induction d with
  | zero =>
    intro k j hd
    simp only [Nat.add_zero, spec_SmpPick.l0]
    rw [if_neg (by omega), show c.toNat = j by omega]
  | succ d ih =>
    intro k j hd
    have hm := mul_small j n (by omega) (by omega) hn0 hn
    have hq : (j : Int) * n / c ≤ (j : Int) * n := Int.ediv_le_self _ hm.1
    have hq0 : 0 ≤ (j : Int) * n / c := Int.ediv_nonneg hm.1 (by omega)
    rw [show k + 1 + (d + 1) = (k + 1 + d) + 1 by omega]
    simp only [spec_SmpPick.l0]
    rw [if_pos (by omega), if_neg (by omega), if_pos (by rw [picks_length]; omega), wr (x := (j : Int) * n) (by omega) (by omega), Int.tdiv_eq_ediv_of_nonneg hm.1, wr (x := (j : Int) * n / c) (by omega) (by omega), wr (x := (j : Int) + 1) (by omega) (by omega), ← picks_succ]
    exact ih k (j + 1) (by omega)
theorem impl_pick_loop (n c : Int) (hn0 : 0 ≤ n) (hn : n ≤ 10000) (hc0 : 1 ≤ c) (hc : c ≤ 101) (d : Nat) : ∀ (k j : Nat), c - (j : Int) = d → impl_SmpPick.l0 (k + 1 + d) n (picks n c j) c c j = some (picks n c c.toNat) := by
  induction d with
  | zero =>
    intro k j hd
    simp only [Nat.add_zero, impl_SmpPick.l0]
    rw [if_neg (by omega), show c.toNat = j by omega]
  | succ d ih =>
    intro k j hd
    have hm := mul_small j n (by omega) (by omega) hn0 hn
    have hq : (j : Int) * n / c ≤ (j : Int) * n := Int.ediv_le_self _ hm.1
    have hq0 : 0 ≤ (j : Int) * n / c := Int.ediv_nonneg hm.1 (by omega)
    rw [show k + 1 + (d + 1) = (k + 1 + d) + 1 by omega]
    simp only [impl_SmpPick.l0]
    rw [if_pos (by omega), if_neg (by omega), if_pos (by rw [picks_length]; omega), wr (x := (j : Int) * n) (by omega) (by omega), Int.tdiv_eq_ediv_of_nonneg hm.1, wr (x := (j : Int) * n / c) (by omega) (by omega), wr (x := (j : Int) + 1) (by omega) (by omega), ← picks_succ]
    exact ih k (j + 1) (by omega)
theorem count_bound (n c : Int) (h : isCount n c) : 0 ≤ c ∧ c ≤ 101 ∧ ((1 ≤ n ∧ n ≤ 10000) → 1 ≤ c ∧ c ≤ n) ∧ (¬ (1 ≤ n ∧ n ≤ 10000) → c = 0) := by
  unfold isCount at h
  by_cases hn : 1 ≤ n ∧ n ≤ 10000
  · rw [if_pos hn] at h
    obtain ⟨s, hs, rfl⟩ := h
    unfold isRoot at hs
    rw [if_pos (by omega)] at hs
    refine ⟨?_, ?_, fun _ => ?_, fun g => absurd hn g⟩ <;> split <;> omega
  · rw [if_neg hn] at h
    exact ⟨by omega, by omega, fun g => absurd g hn, fun _ => h⟩
theorem pick_any2 (n : Int) : ∃ c, isCount n c ∧ Ev (fun k => spec_SmpPick.f k n) (picks n c c.toNat) ∧ Ev (fun k => impl_SmpPick.f k n) (picks n c c.toNat) ∧ Ev (fun k => impl_SmpCount.f k n) c ∧ Ev (fun k => spec_SmpCount.f k n) c := by
  obtain ⟨c, hc, ⟨K1, e1⟩, ⟨K2, e2⟩⟩ := count_any n
  dsimp only at e1 e2
  have hb := count_bound n c hc
  refine ⟨c, hc, ⟨K1 + 102, fun k hk => ?_⟩, ⟨K2 + 102, fun k hk => ?_⟩, ⟨K2, e2⟩, ⟨K1, e1⟩⟩
  · show spec_SmpPick.f k n = some _
    unfold spec_SmpPick.f
    rw [e1 k (by omega)]
    simp only [Option.bind_some]
    by_cases h : 1 ≤ n ∧ n ≤ 10000
    · have := spec_pick_loop n c (by omega) (by omega) (hb.2.2.1 h).1 hb.2.1 c.toNat (k - 1 - c.toNat) 0 (by omega)
      rw [show k - 1 - c.toNat + 1 + c.toNat = k by omega] at this
      exact this
    · have h0 := hb.2.2.2 h
      subst h0
      obtain ⟨k, rfl⟩ : ∃ j, k = j + 1 := ⟨k - 1, by omega⟩
      simp only [spec_SmpPick.l0]
      rfl
  · show impl_SmpPick.f k n = some _
    unfold impl_SmpPick.f
    rw [e2 k (by omega)]
    simp only [Option.bind_some]
    by_cases h : 1 ≤ n ∧ n ≤ 10000
    · have := impl_pick_loop n c (by omega) (by omega) (hb.2.2.1 h).1 hb.2.1 c.toNat (k - 1 - c.toNat) 0 (by omega)
      rw [show k - 1 - c.toNat + 1 + c.toNat = k by omega] at this
      exact this
    · have h0 := hb.2.2.2 h
      subst h0
      obtain ⟨k, rfl⟩ : ∃ j, k = j + 1 := ⟨k - 1, by omega⟩
      simp only [impl_SmpPick.l0]
      rfl

theorem drawRoot_ev (l : List Int) (h : ∀ x ∈ l, (Lit.int .u8 x).wf = true) : ∃ n, -1 ≤ n ∧ n ≤ 10022 ∧ Ev (fun k => spec_DrawSmpRoot.f k l) n := by
  obtain ⟨b, hb, e0⟩ := open_some l h
  obtain ⟨v1, a1, c1, ⟨K1, e1⟩⟩ := pick_pos b hb 0 256 (by omega) (by omega) (by omega) (by omega)
  obtain ⟨v2, a2, c2, ⟨K2, e2⟩⟩ := pick_pos b hb (0 + 1) 39 (by omega) (by omega) (by omega) (by omega)
  obtain ⟨v3, a3, c3, ⟨K3, e3⟩⟩ := pick_pos b hb (0 + 1 + 1) 11 (by omega) (by omega) (by omega) (by omega)
  dsimp only at e1 e2 e3
  have w : wrap64 (wrap64 (v1 * 39) + v2) = v1 * 39 + v2 := by rw [wr (x := v1 * 39) (by omega) (by omega)]; exact wr (by omega) (by omega)
  have r3 := rd_mem [0, 1, 3, 4, 24, 25, 26, 10000, 10001, -1, v1 * 39 + v2] v3 a3 (by simpa using c3)
  simp only [List.mem_cons, List.not_mem_nil, or_false] at r3
  refine ⟨rd [0, 1, 3, 4, 24, 25, 26, 10000, 10001, -1, v1 * 39 + v2] v3, by omega, by omega, max K1 (max K2 K3), fun k hk => ?_⟩
  unfold spec_DrawSmpRoot.f
  simp only [e0, Option.bind_some, e1 k (by omega), e2 k (by omega), e3 k (by omega), w]
  rw [if_pos a3, if_pos (by simpa using c3)]

end Go.Proofs.Ytmffjnipolicpaa.Pure
