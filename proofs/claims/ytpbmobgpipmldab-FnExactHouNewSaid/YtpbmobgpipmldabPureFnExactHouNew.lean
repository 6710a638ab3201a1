/- HouNew of the program answers as the reference, in memory of its own: the law's pure statement; no conditions. -/
import Derived.Test.YtpbmobgpipmldabAllx0
import Derived.Test.YtpbmobgpipmldabAllx1
import Derived.Test.YtpbmobgpipmldabAllx12
import Derived.Test.YtpbmobgpipmldabAllx13
import Derived.Test.YtpbmobgpipmldabAllx14
import Derived.Test.YtpbmobgpipmldabAllx2
import Derived.Test.YtpbmobgpipmldabAllx3
import Derived.Test.YtpbmobgpipmldabAllx7
import Derived.Test.YtpbmobgpipmldabAllx8
set_option linter.unusedVariables false
set_option linter.unusedSimpArgs false
namespace Go.Proofs.Ytpbmobgpipmldab.Pure
open Go.RowKit Go.Proofs.Ytpbmobgpipmldab.All Go.Proofs.YtpbmobgpipmldabW.PrintWords Go.Proofs.YtpbmobgpipmldabW.PrintLast Go.Proofs.YtpbmobgpipmldabW.PrintMore

theorem wr {x : Int} (h1 : -9223372036854775808 ≤ x) (h2 : x ≤ 9223372036854775807) : wrap64 x = x := by unfold wrap64; omega
theorem in_impl (a b c : Int) : impl_in.f a b c = some (decide (b ≤ a ∧ a ≤ c)) := by
  unfold impl_in.f
  by_cases h : a ≥ b
  · rw [if_pos h]; simp [show b ≤ a from h]
  · rw [if_neg h]; simp [show ¬ b ≤ a from h]
theorem in_spec (a b c : Int) : spec_l1In.f a b c = some (decide (b ≤ a ∧ a ≤ c)) := by
  unfold spec_l1In.f
  by_cases h : a ≥ b
  · rw [if_pos h]; simp [show b ≤ a from h]
  · rw [if_neg h]; simp [show ¬ b ≤ a from h]
theorem toInts_loop (l : List Int) (hl : l.length ≤ 1048576) (d : Nat) : ∀ (k : Nat) (x : List Int) (i : Nat), x.length = l.length → l.length - i = d → i ≤ l.length → (∀ j, j < i → x[j]? = l[j]?) → laws_toIntS.l0 (k + 1 + d) l x i = some l := by
  induction d with
  | zero =>
    intro k x i hx hd hi hM
    simp only [Nat.add_zero, laws_toIntS.l0]
    rw [if_neg (by omega)]
    congr 1
    apply List.ext_getElem? 
    intro j
    by_cases hj : j < l.length
    · exact hM j (by omega)
    · rw [List.getElem?_eq_none (by omega), List.getElem?_eq_none (by omega)]
  | succ d ih =>
    intro k x i hx hd hi hM
    rw [show k + 1 + (d + 1) = (k + 1 + d) + 1 by omega]
    simp only [laws_toIntS.l0]
    rw [if_pos (by omega), if_pos (by omega), if_pos (by omega), wr (x := (i : Int) + 1) (by omega) (by omega)]
    have := ih k (x.set (i : Int).toNat (rd l i)) (i + 1) (by simp [hx]) (by omega) (by omega) (by
      intro j hj
      rw [Int.toNat_natCast, List.getElem?_set]
      by_cases e : i = j
      · subst e
        rw [if_pos rfl, if_pos (by omega)]
        unfold rd
        rw [List.getD_eq_getElem?_getD, Int.toNat_natCast, List.getElem?_eq_getElem (by omega)]
        rfl
      · rw [if_neg e]
        exact hM j (by omega))
    exact this
theorem to_ints (l : List Int) (hl : l.length ≤ 1048576) (k : Nat) (hk : l.length + 1 ≤ k) : laws_toIntS.f k l = some l := by
  unfold laws_toIntS.f
  rw [if_pos (by omega), if_pos (by omega)]
  have := toInts_loop l hl l.length (k - 1 - l.length) (List.replicate ((l.length : Int) : Int).toNat 0) 0 (by simp) (by omega) (by omega) (by omega)
  rwa [show k - 1 - l.length + 1 + l.length = k by omega] at this
theorem eqInts_loop (l : List Int) (hl : l.length ≤ 4611686018427387904) (d : Nat) : ∀ (k : Nat) (i : Int), 0 ≤ i → (l.length : Int) - i = d → laws_eqIntS.l0 (k + 1 + d) l l i = some true := by
  induction d with
  | zero =>
    intro k i h0 hd
    simp only [Nat.add_zero, laws_eqIntS.l0]
    rw [if_neg (by omega)]
  | succ d ih =>
    intro k i h0 hd
    rw [show k + 1 + (d + 1) = (k + 1 + d) + 1 by omega]
    simp only [laws_eqIntS.l0]
    rw [if_pos (show i < (l.length : Int) by omega), if_pos h0, if_pos (show i < (l.length : Int) by omega), if_pos trivial, wr (x := i + 1) (by omega) (by omega)]
    exact ih k (i + 1) (by omega) (by omega)
theorem eqInts_self (l : List Int) (hl : l.length ≤ 4611686018427387904) (k : Nat) (hk : l.length + 1 ≤ k) : laws_eqIntS.f k l l = some true := by
  unfold laws_eqIntS.f
  rw [if_pos rfl]
  have := eqInts_loop l hl l.length (k - 1 - l.length) 0 (by omega) (by omega)
  rwa [show k - 1 - l.length + 1 + l.length = k by omega] at this
def Marked (l : List Int) (m : Int) (i : Nat) : Prop := ∀ j : Nat, j < i → rd l j = m + j
theorem mark_loop (m : Int) (n : Nat) (hn : n ≤ 4611686018427387904) (hm : 0 ≤ m ∧ m ≤ 4611686018427387903) (d : Nat) : ∀ (k : Nat) (l : List Int) (i : Nat), l.length = n → n - i = d → i ≤ n → Marked l m i →
    ∃ l', laws_markIntS.l0 (k + 1 + d) l (m + i) i = some (m + n, l') ∧ l'.length = n ∧ Marked l' m n := by
  induction d with
  | zero =>
    intro k l i hl hd hi hM
    obtain rfl : i = n := by omega
    simp only [Nat.add_zero, laws_markIntS.l0]
    rw [if_neg (by omega)]
    exact ⟨l, rfl, hl, hM⟩
  | succ d ih =>
    intro k l i hl hd hi hM
    rw [show k + 1 + (d + 1) = (k + 1 + d) + 1 by omega]
    simp only [laws_markIntS.l0]
    rw [if_pos (by omega), if_pos (by omega), wr (x := m + i + 1) (by omega) (by omega), wr (x := (i : Int) + 1) (by omega) (by omega)]
    have := ih k (l.set (i : Int).toNat (m + i)) (i + 1) (by simp [hl]) (by omega) (by omega) (by
      intro j hj
      unfold rd
      rw [List.getD_eq_getElem?_getD, Int.toNat_natCast, Int.toNat_natCast, List.getElem?_set]
      by_cases e : i = j
      · subst e
        simp [show i < l.length by omega]
      · rw [if_neg e]
        have h2 := hM j (by omega)
        unfold rd at h2
        rw [List.getD_eq_getElem?_getD, Int.toNat_natCast] at h2
        exact h2)
    rw [show m + ((i + 1 : Nat) : Int) = m + i + 1 by omega, show ((i + 1 : Nat) : Int) = (i : Int) + 1 by omega] at this
    exact this
theorem mark_ints (l : List Int) (m : Int) (hn : l.length ≤ 4611686018427387904) (hm : 0 ≤ m ∧ m ≤ 4611686018427387903) : ∃ l', l'.length = l.length ∧ Marked l' m l.length ∧ ∀ k, l.length + 1 ≤ k → laws_markIntS.f k l m = some (m + l.length, l') := by
  obtain ⟨l', e, hl, hM⟩ := mark_loop m l.length hn hm l.length 0 l 0 rfl (by omega) (by omega) (fun j hj => absurd hj (by omega))
  refine ⟨l', hl, hM, fun k hk => ?_⟩
  obtain ⟨l2, e2, hl2, hM2⟩ := mark_loop m l.length hn hm l.length (k - 1 - l.length) l 0 rfl (by omega) (by omega) (fun j hj => absurd hj (by omega))
  have same : l2 = l' := by
    apply List.ext_getElem (by omega)
    intro j h1 h2
    have a := hM2 j (by omega)
    have b := hM j (by omega)
    unfold rd at a b
    rw [List.getD_eq_getElem?_getD, Int.toNat_natCast, List.getElem?_eq_getElem (by omega)] at a b
    simp only [Option.getD_some] at a b
    omega
  subst same
  unfold laws_markIntS.f
  rw [show k - 1 - l.length + 1 + l.length = k by omega] at e2
  simpa using e2
def rok (l : List Int) : Nat → Int → Bool
  | 0, _ => true
  | n + 1, i => decide (1 ≤ rd l i ∧ rd l i ≤ 4) && rok l n (i + 1)
def hv (l : List Int) : List Int := if (1 ≤ l.length ∧ l.length ≤ 5) ∧ rok l l.length 0 = true then l else []
theorem hv_len (l : List Int) : (hv l).length ≤ l.length := by unfold hv; split <;> simp
theorem shou_loop (l : List Int) (hl : l.length ≤ 5) (d : Nat) : ∀ (k : Nat) (i : Int), 0 ≤ i → (l.length : Int) - i = d → spec_HouNew.l0 (k + 1 + d) l i = some (if rok l d i = true then (l, [], []) else ([], [], [])) := by
  induction d with
  | zero =>
    intro k i h0 hd
    rw [Nat.add_zero, spec_HouNew.l0, if_neg (by omega), Option.bind_some, if_pos (by rw [List.length_nil]; omega), List.nil_append, if_pos (by rfl)]
  | succ d ih =>
    intro k i h0 hd
    have e : rok l (d + 1) i = (decide (1 ≤ rd l i ∧ rd l i ≤ 4) && rok l d (i + 1)) := rfl
    rw [show k + 1 + (d + 1) = (k + 1 + d) + 1 by omega, spec_HouNew.l0, if_pos (by omega), if_pos h0, in_spec, Option.bind_some, e]
    by_cases c : 1 ≤ rd l i ∧ rd l i ≤ 4
    · rw [decide_eq_true c, if_pos rfl, wr (x := i + 1) (by omega) (by omega), ih k (i + 1) (by omega) (by omega), Bool.true_and]
    · rw [decide_eq_false c, if_neg (by simp), if_neg (by simp)]
theorem shou (l : List Int) (k : Nat) (hk : 10 ≤ k) : spec_HouNew.f k l = some (hv l, [], []) := by
  unfold spec_HouNew.f hv
  rw [in_spec, Option.bind_some]
  by_cases h : 1 ≤ l.length ∧ l.length ≤ 5
  · have := shou_loop l h.2 l.length (k - 1 - l.length) 0 (by omega) (by omega)
    rw [show k - 1 - l.length + 1 + l.length = k by omega] at this
    rw [decide_eq_true (show (1 : Int) ≤ l.length ∧ (l.length : Int) ≤ 5 by omega), if_pos rfl, this]
    by_cases c : rok l l.length 0 = true
    · rw [if_pos c, if_pos ⟨h, c⟩]
    · rw [if_neg c, if_neg (fun g => c g.2)]
  · rw [decide_eq_false (show ¬ ((1 : Int) ≤ l.length ∧ (l.length : Int) ≤ 5) by omega), if_neg (by simp), if_neg (fun g => h g.1)]
theorem irol_loop (l : List Int) (hl : l.length ≤ 5) (d : Nat) : ∀ (k : Nat) (i : Int), 0 ≤ i → (l.length : Int) - i = d → ∃ j, impl_rolesOk.l0 (k + 1 + d) l i = some j ∧ decide (j ≥ 0) = !rok l d i := by
  induction d with
  | zero =>
    intro k i h0 hd
    exact ⟨-1, by rw [Nat.add_zero, impl_rolesOk.l0, if_neg (by omega)], rfl⟩
  | succ d ih =>
    intro k i h0 hd
    have e : rok l (d + 1) i = (decide (1 ≤ rd l i ∧ rd l i ≤ 4) && rok l d (i + 1)) := rfl
    rw [show k + 1 + (d + 1) = (k + 1 + d) + 1 by omega, impl_rolesOk.l0, if_pos (by omega), if_pos h0, in_impl, Option.bind_some, e]
    by_cases c : 1 ≤ rd l i ∧ rd l i ≤ 4
    · rw [decide_eq_true c, if_pos rfl, wr (x := i + 1) (by omega) (by omega), Bool.true_and]
      exact ih k (i + 1) (by omega) (by omega)
    · rw [decide_eq_false c, if_neg (by simp)]
      exact ⟨i, rfl, by simpa using h0⟩
theorem ihou (l : List Int) (hl : l.length ≤ 1048576) (k : Nat) (hk : 10 ≤ k) : impl_HouNew.f k l = some (hv l, [], []) := by
  unfold impl_HouNew.f impl_rolesOk.f hv
  rw [in_impl, Option.bind_some]
  by_cases h : 1 ≤ l.length ∧ l.length ≤ 5
  · obtain ⟨j, hj, hd⟩ := irol_loop l h.2 l.length (k - 1 - l.length) 0 (by omega) (by omega)
    rw [show k - 1 - l.length + 1 + l.length = k by omega] at hj
    rw [decide_eq_true (show (1 : Int) ≤ l.length ∧ (l.length : Int) ≤ 5 by omega), if_pos rfl, hj, Option.bind_some, hd, Option.bind_some, Bool.not_not]
    by_cases c : rok l l.length 0 = true
    · unfold slices_Clone_int_int.f
      rw [if_pos c, if_pos (by omega), Option.bind_some, if_pos ⟨h, c⟩]
    · rw [if_neg c, if_neg (fun g => c g.2)]
  · rw [decide_eq_false (show ¬ ((1 : Int) ≤ l.length ∧ (l.length : Int) ≤ 5) by omega), if_neg (by simp), Option.bind_some, if_neg (by simp), if_neg (fun g => h g.1)]
theorem held_loop (m : Int) (l : List Int) (hn : l.length ≤ 4611686018427387904) (hm : 0 ≤ m ∧ m ≤ 4611686018427387903) (hM : Marked l m l.length) (d : Nat) : ∀ (k i : Nat), l.length - i = d → i ≤ l.length → laws_heldIntS.l0 (k + 1 + d) l (m + i) i = some (m + l.length) := by
  induction d with
  | zero =>
    intro k i hd hi
    obtain rfl : i = l.length := by omega
    rw [Nat.add_zero, laws_heldIntS.l0, if_neg (by omega)]
  | succ d ih =>
    intro k i hd hi
    have h2 := hM i (by omega)
    have := ih k (i + 1) (by omega) (by omega)
    rw [show m + ((i + 1 : Nat) : Int) = m + i + 1 by omega, show ((i + 1 : Nat) : Int) = (i : Int) + 1 by omega] at this
    rw [show k + 1 + (d + 1) = (k + 1 + d) + 1 by omega, laws_heldIntS.l0, if_pos (by omega), if_pos (by omega), if_pos h2, wr (x := m + i + 1) (by omega) (by omega), wr (x := (i : Int) + 1) (by omega) (by omega)]
    exact this
theorem held_hou (l : List Int) (hn : l.length ≤ 1048576) (hM : Marked l 1 l.length) (k : Nat) (hk : l.length + 2 ≤ k) : laws_heldHouHouse.f k l [] [] 1 = some ((1 : Int) + (l.length : Int)) := by
  have e := held_loop 1 l (by omega) (by omega) hM l.length (k - 1 - l.length) 0 (by omega) (by omega)
  rw [show k - 1 - l.length + 1 + l.length = k by omega] at e
  have e : laws_heldIntS.f k l 1 = some ((1 : Int) + (l.length : Int)) := e
  obtain ⟨z, rfl⟩ : ∃ z, k = z + 1 := ⟨k - 1, by omega⟩
  unfold laws_heldHouHouse.f laws_heldSpcSpecS.f laws_heldBatBatchS.f
  rw [e, Option.bind_some, if_neg (by omega), laws_heldSpcSpecS.l0, if_neg (by simp), Option.bind_some, if_neg (by omega), laws_heldBatBatchS.l0, if_neg (by simp), Option.bind_some, if_neg (by omega)]
theorem eq_hou (l : List Int) (hn : l.length ≤ 1048576) (k : Nat) (hk : l.length + 2 ≤ k) : laws_eqHouHouse.f k l [] [] l [] [] = some true := by
  have e := eqInts_self l (by omega) k (by omega)
  obtain ⟨z, rfl⟩ : ∃ z, k = z + 1 := ⟨k - 1, by omega⟩
  unfold laws_eqHouHouse.f laws_eqSpcSpecS.f laws_eqBatBatchS.f
  rw [e, Option.bind_some, if_pos rfl, if_pos rfl, laws_eqSpcSpecS.l0, if_neg (by simp), Option.bind_some, if_pos rfl, if_pos rfl, laws_eqBatBatchS.l0, if_neg (by simp), Option.bind_some, if_pos rfl]
theorem FnExactHouNew : laws_FnExactHouNew.Pure := by
  intro l _ _ _
  by_cases hl : (l.length : Int) > 1048576
  · exact ⟨0, by unfold laws_FnExactHouNew.f; rw [if_pos hl]⟩
  have h1 : l.length ≤ 1048576 := by omega
  have hP := hv_len l
  obtain ⟨z, hz⟩ : ∃ z, l.length + 20 ≤ z := ⟨_, Nat.le_refl _⟩
  have s := shou l (z + 1) (by omega)
  have i := fun k hk => ihou l h1 k hk
  generalize hv l = P at *
  have t := fun k hk => to_ints l h1 k hk
  have q := eqInts_self l (by omega) (z + 1) (by omega)
  have eh := fun k hk => eq_hou P (by omega) k hk
  obtain ⟨l', _, _, el⟩ := mark_ints l 1 (by omega) (by omega)
  obtain ⟨P', hP', hM, eP⟩ := mark_ints P 1 (by omega) (by omega)
  have hd := held_hou P' (by omega) (by rw [hP']; exact hM) z (by omega)
  have mk : laws_markHouHouse.f z P [] [] 1 = some ((1 : Int) + (P.length : Int), P') := by
    unfold laws_markHouHouse.f
    rw [if_pos (by rfl), if_pos (by rfl)]
    exact eP z (by omega)
  have fin : laws_FnExactHouNew.j0 (z + 1) l false P [] [] P [] [] = some true := by
    rw [laws_FnExactHouNew.j0, if_neg (by simp), mk, Option.bind_some, hd, Option.bind_some, if_neg (by omega), if_pos (by rw [hP']), t z (by omega), Option.bind_some, i z (by omega), Option.bind_some, eh z (by omega), Option.bind_some, if_pos rfl, Option.bind_some, if_neg (by omega), if_pos (by rw [hP'])]
  refine ⟨z + 1, ?_⟩
  unfold laws_FnExactHouNew.f
  rw [if_neg hl, t (z + 1) (by omega), Option.bind_some, s, Option.bind_some, Option.bind_some, i (z + 1) (by omega), Option.bind_some, eh (z + 1) (by omega), Option.bind_some, if_pos rfl, Option.bind_some, q, Option.bind_some, if_pos rfl, el (z + 1) (by omega), Option.bind_some, if_neg (by omega), Option.bind_some]
  exact fin

end Go.Proofs.Ytpbmobgpipmldab.Pure
