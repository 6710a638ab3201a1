/- Plain lemmas about the printed functions of this seat: ints. -/
import Derived.Test.YtmffjnipolicpaaAllx0
import Derived.Test.YtmffjnipolicpaaAllx7
import Derived.Test.YtmffjnipolicpaaAllx8
import Derived.Test.YtmffjnipolicpaaLemA
set_option linter.unusedVariables false
set_option linter.unusedSimpArgs false
namespace Go.Proofs.Ytmffjnipolicpaa.Pure
open Go.RowKit Go.Proofs.Ytmffjnipolicpaa.All Go.Proofs.YtmffjnipolicpaaW.PrintWords Go.Proofs.YtmffjnipolicpaaW.PrintLast Go.Proofs.YtmffjnipolicpaaW.PrintMore

/-! ### lists of numbers: equal to itself, marked, held -/
theorem eqInts_loop (l : List Int) (hl : l.length ≤ 4611686018427387904) (d : Nat) : ∀ (k : Nat) (i : Int), 0 ≤ i → (l.length : Int) - i = d → laws_eqIntS.l0 (k + 1 + d) l l i = some true := by
  induction d with
  | zero =>
    intro k i h0 hd
    simp only [Nat.add_zero, laws_eqIntS.l0]
    rw [if_neg (by omega)]
  | succ d ih =>
    intro k i h0 hd
    rw [show k + 1 + (d + 1) = (k + 1 + d) + 1 by omega]
    simp only [laws_eqIntS.l0]
    rw [if_pos (show i < (l.length : Int) by omega), if_pos h0, if_pos (show i < (l.length : Int) by omega), if_pos trivial, wr (x := i + 1) (by omega) (by omega)]
    exact ih k (i + 1) (by omega) (by omega)
theorem eqInts_self (l : List Int) (hl : l.length ≤ 4611686018427387904) (k : Nat) (hk : l.length + 1 ≤ k) : laws_eqIntS.f k l l = some true := by
  unfold laws_eqIntS.f
  rw [if_pos rfl]
  have := eqInts_loop l hl l.length (k - 1 - l.length) 0 (by omega) (by omega)
  rwa [show k - 1 - l.length + 1 + l.length = k by omega] at this
/-- A list of which the first i are the numbers from m on. -/
def Marked (l : List Int) (m : Int) (i : Nat) : Prop := ∀ j : Nat, j < i → rd l j = m + j
theorem mark_loop (m : Int) (n : Nat) (hn : n ≤ 4611686018427387904) (hm : 0 ≤ m ∧ m ≤ 4611686018427387903) (d : Nat) : ∀ (k : Nat) (l : List Int) (i : Nat), l.length = n → n - i = d → i ≤ n → Marked l m i →
    ∃ l', laws_markIntS.l0 (k + 1 + d) l (m + i) i = some (m + n, l') ∧ l'.length = n ∧ Marked l' m n := by
  induction d with
  | zero =>
    intro k l i hl hd hi hM
    obtain rfl : i = n := by omega
    simp only [Nat.add_zero, laws_markIntS.l0]
    rw [if_neg (by omega)]
    exact ⟨l, rfl, hl, hM⟩
  | succ d ih =>
    intro k l i hl hd hi hM
    rw [show k + 1 + (d + 1) = (k + 1 + d) + 1 by omega]
    simp only [laws_markIntS.l0]
    rw [if_pos (by omega), if_pos (by omega), wr (x := m + i + 1) (by omega) (by omega), wr (x := (i : Int) + 1) (by omega) (by omega)]
    have := ih k (l.set (i : Int).toNat (m + i)) (i + 1) (by simp [hl]) (by omega) (by omega) (by
      intro j hj
      unfold rd
      rw [List.getD_eq_getElem?_getD, Int.toNat_natCast, Int.toNat_natCast, List.getElem?_set]
      by_cases e : i = j
      · subst e
        simp [show i < l.length by omega]
      · rw [if_neg e]
        have h2 := hM j (by omega)
        unfold rd at h2
        rw [List.getD_eq_getElem?_getD, Int.toNat_natCast] at h2
        exact h2)
    rw [show m + ((i + 1 : Nat) : Int) = m + i + 1 by omega, show ((i + 1 : Nat) : Int) = (i : Int) + 1 by omega] at this
    exact this
theorem held_loop (m : Int) (l : List Int) (hn : l.length ≤ 4611686018427387904) (hm : 0 ≤ m ∧ m ≤ 4611686018427387903) (hM : Marked l m l.length) (d : Nat) : ∀ (k i : Nat), l.length - i = d → i ≤ l.length →
    laws_heldIntS.l0 (k + 1 + d) l (m + i) i = some (m + l.length) := by
  induction d with
  | zero =>
    intro k i hd hi
    simp only [Nat.add_zero, laws_heldIntS.l0]
    rw [if_neg (by omega), show i = l.length by omega]
  | succ d ih =>
    intro k i hd hi
    rw [show k + 1 + (d + 1) = (k + 1 + d) + 1 by omega]
    simp only [laws_heldIntS.l0]
    rw [if_pos (by omega), if_pos (by omega), if_pos (hM i (by omega)), wr (x := m + i + 1) (by omega) (by omega), wr (x := (i : Int) + 1) (by omega) (by omega)]
    have := ih k (i + 1) (by omega) (by omega)
    rw [show m + ((i + 1 : Nat) : Int) = m + i + 1 by omega, show ((i + 1 : Nat) : Int) = (i : Int) + 1 by omega] at this
    exact this
theorem mark_ints (l : List Int) (m : Int) (hn : l.length ≤ 4611686018427387904) (hm : 0 ≤ m ∧ m ≤ 4611686018427387903) : ∃ l', l'.length = l.length ∧ (∀ k, l.length + 1 ≤ k → laws_markIntS.f k l m = some (m + l.length, l')) ∧ ∀ k, l.length + 1 ≤ k → laws_heldIntS.f k l' m = some (m + l.length) := by
  obtain ⟨l', e, hl, hM⟩ := mark_loop m l.length hn hm l.length 0 l 0 rfl (by omega) (by omega) (fun j hj => absurd hj (by omega))
  refine ⟨l', hl, fun k hk => ?_, fun k hk => ?_⟩
  · obtain ⟨l2, e2, hl2, hM2⟩ := mark_loop m l.length hn hm l.length (k - 1 - l.length) l 0 rfl (by omega) (by omega) (fun j hj => absurd hj (by omega))
    have same : l2 = l' := by
      apply List.ext_getElem (by omega)
      intro j h1 h2
      have a := hM2 j (by omega)
      have b := hM j (by omega)
      unfold rd at a b
      rw [List.getD_eq_getElem?_getD, Int.toNat_natCast, List.getElem?_eq_getElem (by omega)] at a b
      simp only [Option.getD_some] at a b
      omega
    subst same
    unfold laws_markIntS.f
    rw [show k - 1 - l.length + 1 + l.length = k by omega] at e2
    simpa using e2
  · unfold laws_heldIntS.f
    have := held_loop m l' (by omega) hm (by rw [hl]; exact hM) l'.length (k - 1 - l'.length) 0 (by omega) (by omega)
    rw [show k - 1 - l'.length + 1 + l'.length = k by omega, hl] at this
    simpa using this

end Go.Proofs.Ytmffjnipolicpaa.Pure
